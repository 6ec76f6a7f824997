import JvmDerived
import JvmDerived.Pilot.@@N@@Statement
import JvmDerived.Pilot.@@N@@Code
set_option linter.unusedVariables false
set_option linter.unusedSimpArgs false
namespace Jvm.Own
open Jvm Jvm.ClassFile Sem Op Lib Jvm.Free Jvm.Stand Jvm.LawKit Jvm.RoadKit Bundle

/-! A plain machine: the few instructions that these classes use, over a heap of plain lists. -/
/-- an object (class number, fields in order) | an int array (false) or boolean array (true) | a long array -/
abbrev ACell := (Nat × List Value) ⊕ ((Bool × List Int32) ⊕ List Int64)
abbrev AHeap := List ACell
/-- instruction, length, variables forgotten ahead of it, link number, constant -/
abbrev It := Instr × Nat × List Bool × Nat × Int
/-- a field: name, descriptor, type, final -/
abbrev FD := String × String × FieldType × Bool
/-- a class: name, number of its slots, its fields -/
abbrev CD := String × Nat × List FD
/-- a method: name, bytes, variables, return type; kind (0 static, 1 constructor, 2 private, 3 virtual), parameters, class number, frames, words; code -/
abbrev MD := MethodName × ByteArray × Nat × Option FieldType × Nat × Nat × Nat × Nat × Nat × List (Nat × It)
/-- classes, methods, number of cells that are only read -/
abbrev PD := List CD × List MD × Nat
abbrev PD.cls (P : PD) : List CD := P.1
abbrev PD.mth (P : PD) : List MD := P.2.1
abbrev PD.nr (P : PD) : Nat := P.2.2
abbrev MD.name (d : MD) : MethodName := d.1
abbrev MD.bytes (d : MD) : ByteArray := d.2.1
abbrev MD.maxL (d : MD) : Nat := d.2.2.1
abbrev MD.ret (d : MD) : Option FieldType := d.2.2.2.1
abbrev MD.kind (d : MD) : Nat := d.2.2.2.2.1
abbrev MD.npar (d : MD) : Nat := d.2.2.2.2.2.1
abbrev MD.cid (d : MD) : Nat := d.2.2.2.2.2.2.1
abbrev MD.rf (d : MD) : Nat := d.2.2.2.2.2.2.2.1
abbrev MD.rw (d : MD) : Nat := d.2.2.2.2.2.2.2.2.1
abbrev MD.code (d : MD) : List (Nat × It) := d.2.2.2.2.2.2.2.2.2

def rdA {α : Type} (L : List α) (j : Int32) : Option α := if j < 0 then none else L[j.toNatClampNeg]?
def wrA {α : Type} (L : List α) (j : Int32) (x : α) : Option (List α) := if j < 0 then none else if j.toNatClampNeg < L.length then some (L.set j.toNatClampNeg x) else none
def getL (L : List Slot) (k : Nat) : Option Value := match L[k]? with | some (.val v) => some v | _ => none
def isC2 : Option Slot → Bool | some (.val v) => v.category == 2 | _ => false
def isSec : Option Slot → Bool | some .second => true | _ => false
def free1 : Option Slot → Bool | some .unset => true | some (.val v) => v.category == 1 | _ => false
def st1 (L : List Slot) (k : Nat) (v : Value) : Option (List Slot) :=
  if free1 L[k]? && (k == 0 || !isC2 L[k - 1]?) && !isSec L[k + 1]? then some (L.set k (.val v)) else none
def free2 : Option Slot → Option Slot → Bool | some .unset, some .unset => true | some (.val v), some .second => v.category == 2 | _, _ => false
def st2 (L : List Slot) (k : Nat) (v : Value) : Option (List Slot) :=
  if free2 L[k]? L[k + 1]? && (k == 0 || !isC2 L[k - 1]?) && !isSec L[k + 2]? then some ((L.set k (.val v)).set (k + 1) .second) else none
def forget : List Bool → List Slot → List Slot
  | [], L => L
  | _ :: _, [] => []
  | true :: r, _ :: L => .unset :: forget r L
  | false :: r, s :: L => s :: forget r L
def catSum : List Value → Nat
  | [] => 0
  | v :: r => v.category + catSum r
def entA : List Value → List Slot
  | [] => []
  | v :: r => if v.category = 2 then .val v :: .second :: entA r else .val v :: entA r
def entL (as : List Value) (n : Nat) : List Slot := entA as ++ List.replicate (n - (entA as).length) .unset
def putOk : FieldType → Value → Bool
  | .int, .int _ => true
  | .long, .long _ => true
  | .boolean, .int x => (x == 0) || (x == 1)
  | .array _, .ref _ => true
  | _, _ => false
def dflt : FieldType → Value
  | .long => .long 0
  | .array _ => .null
  | _ => .int 0
def dfOk : FieldType → Bool
  | .int => true
  | .boolean => true
  | .long => true
  | .array _ => true
  | _ => false
def tgt (pc : Nat) (o : Int) : Option Nat := if 0 ≤ (pc : Int) + o then some ((pc : Int) + o).toNat else none
def fetch : List (Nat × It) → Nat → Option It
  | [], _ => none
  | (q, i) :: r, pc => if q = pc then some i else fetch r pc
/-- one instruction that neither branches nor calls nor returns -/
def xI (P : PD) (ini : Bool) (cid : Nat) (i : Instr) (a : Nat) (b : Int) (L : List Slot) (S : List Value) (H : AHeap) : Option (List Slot × List Value × AHeap) :=
  match i with
  | .aload_n k => match getL L k.val with | some (.ref x) => some (L, .ref x :: S, H) | _ => none
  | .aload k => match getL L k with | some (.ref x) => some (L, .ref x :: S, H) | _ => none
  | .iload_n k => match getL L k.val with | some (.int x) => some (L, .int x :: S, H) | _ => none
  | .iload k => match getL L k with | some (.int x) => some (L, .int x :: S, H) | _ => none
  | .lload_n k => match getL L k.val with | some (.long x) => some (L, .long x :: S, H) | _ => none
  | .lload k => match getL L k with | some (.long x) => some (L, .long x :: S, H) | _ => none
  | .istore_n k => match S with | .int x :: S' => (st1 L k.val (.int x)).map fun L' => (L', S', H) | _ => none
  | .istore k => match S with | .int x :: S' => (st1 L k (.int x)).map fun L' => (L', S', H) | _ => none
  | .astore_n k => match S with | .ref x :: S' => (st1 L k.val (.ref x)).map fun L' => (L', S', H) | _ => none
  | .astore k => match S with | .ref x :: S' => (st1 L k (.ref x)).map fun L' => (L', S', H) | _ => none
  | .lstore_n k => match S with | .long x :: S' => (st2 L k.val (.long x)).map fun L' => (L', S', H) | _ => none
  | .lstore k => match S with | .long x :: S' => (st2 L k (.long x)).map fun L' => (L', S', H) | _ => none
  | .iinc k d => match getL L k with | some (.int x) => (st1 L k (.int (x + Int32.ofInt d))).map fun L' => (L', S, H) | _ => none
  | .iconst d => some (L, .int (Int32.ofInt d) :: S, H)
  | .bipush d => some (L, .int (Int8.ofInt d).toInt32 :: S, H)
  | .sipush d => some (L, .int (Int16.ofInt d).toInt32 :: S, H)
  | .lconst k => some (L, .long (Int64.ofNat k) :: S, H)
  | .ldc _ => some (L, .int (Int32.ofInt b) :: S, H)
  | .ldc2_w _ => some (L, .long (Int64.ofInt b) :: S, H)
  | .iadd => match S with | .int y :: .int x :: S' => some (L, .int (x + y) :: S', H) | _ => none
  | .isub => match S with | .int y :: .int x :: S' => some (L, .int (x - y) :: S', H) | _ => none
  | .imul => match S with | .int y :: .int x :: S' => some (L, .int (x * y) :: S', H) | _ => none
  | .iand => match S with | .int y :: .int x :: S' => some (L, .int (x &&& y) :: S', H) | _ => none
  | .ior => match S with | .int y :: .int x :: S' => some (L, .int (x ||| y) :: S', H) | _ => none
  | .ixor => match S with | .int y :: .int x :: S' => some (L, .int (x ^^^ y) :: S', H) | _ => none
  | .ishl => match S with | .int y :: .int x :: S' => some (L, .int (x <<< (y &&& 31)) :: S', H) | _ => none
  | .ishr => match S with | .int y :: .int x :: S' => some (L, .int (x >>> (y &&& 31)) :: S', H) | _ => none
  | .iushr => match S with | .int y :: .int x :: S' => some (L, .int (XT.ushr x y) :: S', H) | _ => none
  | .idiv => match S with | .int y :: .int x :: S' => if y = 0 then none else some (L, .int (x / y) :: S', H) | _ => none
  | .irem => match S with | .int y :: .int x :: S' => if y = 0 then none else some (L, .int (x % y) :: S', H) | _ => none
  | .ladd => match S with | .long y :: .long x :: S' => some (L, .long (x + y) :: S', H) | _ => none
  | .lsub => match S with | .long y :: .long x :: S' => some (L, .long (x - y) :: S', H) | _ => none
  | .lmul => match S with | .long y :: .long x :: S' => some (L, .long (x * y) :: S', H) | _ => none
  | .land => match S with | .long y :: .long x :: S' => some (L, .long (x &&& y) :: S', H) | _ => none
  | .lor => match S with | .long y :: .long x :: S' => some (L, .long (x ||| y) :: S', H) | _ => none
  | .lxor => match S with | .long y :: .long x :: S' => some (L, .long (x ^^^ y) :: S', H) | _ => none
  | .lshl => match S with | .int y :: .long x :: S' => some (L, .long (x <<< (y.toInt64 &&& 63)) :: S', H) | _ => none
  | .lshr => match S with | .int y :: .long x :: S' => some (L, .long (x >>> (y.toInt64 &&& 63)) :: S', H) | _ => none
  | .lushr => match S with | .int y :: .long x :: S' => some (L, .long (XT.ushrL x y) :: S', H) | _ => none
  | .ldiv => match S with | .long y :: .long x :: S' => if y = 0 then none else some (L, .long (x / y) :: S', H) | _ => none
  | .lrem => match S with | .long y :: .long x :: S' => if y = 0 then none else some (L, .long (x % y) :: S', H) | _ => none
  | .lcmp => match S with | .long y :: .long x :: S' => some (L, .int (XT.cmpL x y) :: S', H) | _ => none
  | .i2l => match S with | .int x :: S' => some (L, .long x.toInt64 :: S', H) | _ => none
  | .l2i => match S with | .long x :: S' => some (L, .int x.toInt32 :: S', H) | _ => none
  | .dup => match S with
    | .int x :: S' => some (L, .int x :: .int x :: S', H)
    | .ref x :: S' => some (L, .ref x :: .ref x :: S', H)
    | _ => none
  | .dup2 => match S with
    | .int x :: .ref y :: S' => some (L, .int x :: .ref y :: .int x :: .ref y :: S', H)
    | .long x :: S' => some (L, .long x :: .long x :: S', H)
    | _ => none
  | .pop => match S with | .int _ :: S' => some (L, S', H) | _ => none
  | .getfield _ => match S with
    | .ref o :: S' => match H[o]? with
      | some (.inl (c, fs)) => if c = cid then match fs[a]? with
        | some (.int x) => some (L, .int x :: S', H)
        | some (.long x) => some (L, .long x :: S', H)
        | some (.ref x) => some (L, .ref x :: S', H)
        | _ => none
        else none
      | _ => none
    | _ => none
  | .putfield _ => match S with
    | v :: .ref o :: S' => match H[o]? with
      | some (.inl (c, fs)) => if c = cid ∧ P.nr ≤ o then match (P.cls[c]?).bind fun cd => cd.2.2[a]? with
        | some (_, _, ty, fin) => if putOk ty v && (!fin || ini) then some (L, S', H.set o (.inl (c, fs.set a v))) else none
        | none => none
        else none
      | _ => none
    | _ => none
  | .iaload => match S with
    | .int j :: .ref o :: S' => match H[o]? with
      | some (.inr (.inl (false, A))) => (rdA A j).map fun x => (L, .int x :: S', H)
      | _ => none
    | _ => none
  | .baload => match S with
    | .int j :: .ref o :: S' => match H[o]? with
      | some (.inr (.inl (true, A))) => (rdA A j).map fun x => (L, .int x :: S', H)
      | _ => none
    | _ => none
  | .laload => match S with
    | .int j :: .ref o :: S' => match H[o]? with
      | some (.inr (.inr A)) => (rdA A j).map fun x => (L, .long x :: S', H)
      | _ => none
    | _ => none
  | .iastore => match S with
    | .int x :: .int j :: .ref o :: S' => match H[o]? with
      | some (.inr (.inl (false, A))) => if P.nr ≤ o then (wrA A j x).map fun A' => (L, S', H.set o (.inr (.inl (false, A')))) else none
      | _ => none
    | _ => none
  | .bastore => match S with
    | .int x :: .int j :: .ref o :: S' => match H[o]? with
      | some (.inr (.inl (true, A))) => if P.nr ≤ o then (wrA A j (x &&& 1)).map fun A' => (L, S', H.set o (.inr (.inl (true, A')))) else none
      | _ => none
    | _ => none
  | .lastore => match S with
    | .long x :: .int j :: .ref o :: S' => match H[o]? with
      | some (.inr (.inr A)) => if P.nr ≤ o then (wrA A j x).map fun A' => (L, S', H.set o (.inr (.inr A'))) else none
      | _ => none
    | _ => none
  | .arraylength => match S with
    | .ref o :: S' => match H[o]? with
      | some (.inr (.inl (_, A))) => some (L, .int A.length.toInt32 :: S', H)
      | _ => none
    | _ => none
  | _ => none
/-- one instruction that makes a cell: how many slots it takes stands last -/
def xN (P : PD) (i : Instr) (a : Nat) (S : List Value) (H : AHeap) : Option (List Value × AHeap × Nat) :=
  match i with
  | .new _ => match P.cls[a]? with
    | some cd => some (.ref H.length :: S, H ++ [.inl (a, cd.2.2.map fun f => dflt f.2.2.1)], cd.2.1)
    | none => none
  | .newarray t => match S with
    | .int n :: S' => if n < 0 ∨ 100000 < n.toNatClampNeg then none else match t with
      | .int => some (.ref H.length :: S', H ++ [.inr (.inl (false, List.replicate n.toNatClampNeg 0))], n.toNatClampNeg)
      | .boolean => some (.ref H.length :: S', H ++ [.inr (.inl (true, List.replicate n.toNatClampNeg 0))], n.toNatClampNeg)
      | .long => some (.ref H.length :: S', H ++ [.inr (.inr (List.replicate n.toNatClampNeg 0))], n.toNatClampNeg)
      | _ => none
    | _ => none
  | _ => none
/-- the words that a call from d to y asks -/
def fitsRoom (d y : MD) (rest : List Value) : Bool := decide (y.rf + 1 ≤ d.rf) && decide (catSum rest + (y.maxL + 11) + y.rw ≤ d.rw)
/-- the arguments of a call, first to last, and what lies under them -/
def argsOf (n : Nat) (S : List Value) : Option (List Value × List Value) := if n ≤ S.length then some ((S.take n).reverse, S.drop n) else none
def recvOk (P : PD) (H : AHeap) (y : MD) (as : List Value) : Bool :=
  if y.kind = 0 then true else match as with
    | .ref o :: _ => match H[o]? with
      | some (.inl (c, _)) => decide (c = y.cid)
      | _ => false
    | _ => false
def nargs (y : MD) : Nat := if y.kind = 0 then y.npar else y.npar + 1
def invKind (i : Instr) (k : Nat) : Bool := match i with
  | .invokestatic _ => k == 0
  | .invokespecial _ => k == 1
  | .invokevirtual _ => k == 2 || k == 3
  | _ => false
/-- what a method returns of an int on its stack -/
def retV (r : Option FieldType) (x : Int32) : Option Value := match r with
  | some .int => some (.int x)
  | some .boolean => some (.int (x &&& 1))
  | _ => none
def isInv : Instr → Bool
  | .invokestatic _ => true
  | .invokespecial _ => true
  | .invokevirtual _ => true
  | _ => false
def isNew : Instr → Bool
  | .new _ => true
  | .newarray _ => true
  | _ => false
/-- what a run answers: what it returns, the heap, how many cells and slots it has made -/
abbrev Res := Option Value × AHeap × Nat × Nat
def addR (r : Res) (kc ks : Nat) : Res := (r.1, r.2.1, r.2.2.1 + kc, r.2.2.2 + ks)
/-- n instructions at the most, from pc of method mi to its return -/
def exe (P : PD) : Nat → Nat → Nat → List Slot → List Value → AHeap → Option Res
  | 0, _, _, _, _, _ => none
  | n + 1, mi, pc, L0, S, H => match P.mth[mi]? with
    | none => none
    | some d => match fetch d.code pc with
      | none => none
      | some (i, len, er, a, b) =>
        let L := forget er L0
        match i with
        | .goto o => match tgt pc o with
          | some q => exe P n mi q L S H
          | none => none
        | .if_icmp cd o => match S with
          | .int y :: .int x :: S' => if if_icmp.holds cd x y = true then match tgt pc o with
              | some q => exe P n mi q L S' H
              | none => none
            else exe P n mi (pc + 3) L S' H
          | _ => none
        | .ifCond cd o => match S with
          | .int x :: S' => if ifCond.holds cd x = true then match tgt pc o with
              | some q => exe P n mi q L S' H
              | none => none
            else exe P n mi (pc + 3) L S' H
          | _ => none
        | .ifnonnull o => match S with
          | .ref _ :: S' => match tgt pc o with
            | some q => exe P n mi q L S' H
            | none => none
          | _ => none
        | .ireturn => match S with
          | [.int x] => match retV d.ret x with
            | some v => some (some v, H, 0, 0)
            | none => none
          | _ => none
        | .lreturn => match S with
          | [.long x] => if d.ret = some .long then some (some (.long x), H, 0, 0) else none
          | _ => none
        | .return_ => match S with
          | [] => if d.ret = none then some (none, H, 0, 0) else none
          | _ => none
        | i => if isInv i = true then
            if b = -1 then match i, S with
              | .invokespecial _, .ref _ :: S' => if 1 ≤ d.rf ∧ catSum S' + 12 ≤ d.rw then exe P n mi (pc + 3) L S' H else none
              | _, _ => none
            else match P.mth[a]? with
              | none => none
              | some y => match argsOf (nargs y) S with
                | none => none
                | some (as, rest) =>
                  if decide (0 < a) && invKind i y.kind && recvOk P H y as && fitsRoom d y rest && decide ((entA as).length ≤ y.maxL) then
                    match exe P n a 0 (entL as y.maxL) [] H with
                    | some (v, H1, kc, ks) => (exe P n mi (pc + 3) L (v.toList ++ rest) H1).map fun r => addR r kc ks
                    | none => none
                  else none
          else if isNew i = true then match xN P i a S H with
            | some (S', H', ks) => (exe P n mi (pc + len) L S' H').map fun r => addR r 1 ks
            | none => none
          else match xI P (d.name.name == "<init>") d.cid i a b L S H with
            | some (L', S', H') => exe P n mi (pc + len) L' S' H'
            | none => none
end Jvm.Own
namespace Jvm.Own
open Jvm Jvm.ClassFile Sem Op Lib Jvm.Free Jvm.Stand Jvm.LawKit Jvm.RoadKit Bundle

/-! The words that the machine's program rests on -/
def fWord (C : String) (f : FD) : Jvm.Cond := if f.2.2.2 then .laysFinal C C f.1 f.2.1 else .lays C C f.1 f.2.1
def cWords (cd : CD) : List Jvm.Cond := .instantiable cd.1 cd.2.1 :: .initialized cd.1 :: cd.2.2.map (fWord cd.1)
def mWords (y : MD) : List Jvm.Cond := .code y.name y.bytes y.maxL y.ret :: .initialized y.name.cls ::
  (if y.kind = 0 then [.static y.name] else if y.kind = 1 then [.instanceMethod y.name] else if y.kind = 2 then [.instanceMethod y.name, .privateMethod y.name]
   else [.declares y.name, .selects y.name.cls y.name y.name, .instanceMethod y.name])
def fieldOf (P : PD) (c a : Nat) : Option FD := (P.cls[c]?).bind fun cd => cd.2.2[a]?
def fLink (P : PD) (d : MD) (k a : Nat) : List Jvm.Cond := match fieldOf P d.cid a with | some f => [.fieldLink d.name.cls k d.name.cls f.1 f.2.1] | none => []
def mLink (P : PD) (d : MD) (k a : Nat) (b : Int) : List Jvm.Cond :=
  if b = -1 then [.methodLink d.name.cls k Lib.objectInit, .instanceMethod Lib.objectInit, .code Lib.objectInit ⟨#[0xb1]⟩ 1 none]
  else match P.mth[a]? with | some y => [.methodLink d.name.cls k y.name] | none => []
def iWords (P : PD) (d : MD) (x : Nat × It) : List Jvm.Cond := match x with
  | (_, .getfield k, _, _, a, _) => fLink P d k a
  | (_, .putfield k, _, _, a, _) => fLink P d k a
  | (_, .ldc k, _, _, _, b) => [.constant d.name.cls k (Int32.ofInt b)]
  | (_, .ldc2_w k, _, _, _, b) => [.constantLong d.name.cls k (Int64.ofInt b)]
  | (_, .new k, _, _, a, _) => match P.cls[a]? with | some cd => [.classLink d.name.cls k cd.1] | none => []
  | (_, .newarray t, _, _, _, _) => [.arrayClass (newarray.typeOf t)]
  | (_, .invokestatic k, _, _, a, b) => mLink P d k a b
  | (_, .invokespecial k, _, _, a, b) => mLink P d k a b
  | (_, .invokevirtual k, _, _, a, b) => mLink P d k a b
  | _ => []
def wordsOf (P : PD) : List Jvm.Cond := P.cls.flatMap cWords ++ (P.mth.drop 1).flatMap mWords ++ P.mth.flatMap fun d => d.code.flatMap (iWords P d)
/-! What can be looked up in the program itself -/
def nodup : List String → Bool
  | [] => true
  | x :: r => !r.contains x && nodup r
def fChk (f : FD) : Bool := decide (parseFieldDescriptor f.2.1 = some f.2.2.1) && dfOk f.2.2.1
def cChk (cd : CD) : Bool := nodup (cd.2.2.map fun f => f.1) && cd.2.2.all fChk
def sigChk (y : MD) : Bool := match parseMethodDescriptor y.name.desc with
  | some g => decide (g.parameters.length = y.npar)
  | none => false
def lenOk (i : Instr) (n : Nat) : Bool := match i with
  | .aload _ | .iload _ | .lload _ | .istore _ | .astore _ | .lstore _ | .bipush _ | .ldc _ | .newarray _ => n == 2
  | .iinc _ _ | .sipush _ | .ldc2_w _ | .getfield _ | .putfield _ | .new _ | .goto _ | .if_icmp _ _ | .ifCond _ _ | .ifnonnull _ | .invokestatic _ | .invokespecial _ | .invokevirtual _ => n == 3
  | _ => n == 1
def codeChk (y : MD) : Bool := y.code.all fun x => decide (decode y.bytes x.1 = .ok (x.2.1, x.2.2.1)) && lenOk x.2.1 x.2.2.1
def clsChk (P : PD) (y : MD) : Bool := match P.cls[y.cid]? with | some cd => cd.1 == y.name.cls | none => y.kind == 0
def mChk (P : PD) (y : MD) : Bool := plainName y.name.cls && sigChk y && codeChk y && clsChk P y && decide (y.name.cls ≠ "java/lang/invoke/MethodHandle") && decide (y.name.cls ≠ "java/lang/invoke/VarHandle") && (y.kind != 1 || (y.name.name == "<init>" && decide (y.ret = none)))
def chk (P : PD) : Bool := P.cls.all cChk && P.mth.all (mChk P)

/-! Plain and real values -/
def VR (ρ : List Addr) : Value → Value → Prop
  | .ref k, w => ∃ a, ρ[k]? = some a ∧ w = .ref a
  | v, w => w = v
def SR (ρ : List Addr) : List Value → List Value → Prop
  | [], ws => ws = []
  | v :: vs, ws => ∃ w ws', ws = w :: ws' ∧ VR ρ v w ∧ SR ρ vs ws'
def OV (ρ : List Addr) : Option Value → Option Value → Prop
  | none, w => w = none
  | some v, w => ∃ u, w = some u ∧ VR ρ v u
def WFc (A : Array Slot) : Prop := (∀ (i : Nat) w, A[i]? = some (.val w) → w.category = 2 → A[i + 1]? = some .second) ∧ ∀ (i : Nat), A[i]? = some .second → ∃ j w, i = j + 1 ∧ A[j]? = some (.val w) ∧ w.category = 2
def SlR (ρ : List Addr) : Slot → Option Slot → Prop
  | .unset, _ => True
  | .second, o => o = some .second
  | .val v, o => ∃ w, VR ρ v w ∧ o = some (.val w)
def LR (ρ : List Addr) (L : List Slot) (A : Array Slot) : Prop := A.size = L.length ∧ WFc A ∧ ∀ (i : Nat) s, L[i]? = some s → SlR ρ s A[i]?
theorem VR.mono {ρ t : List Addr} {v w : Value} (h : VR ρ v w) : VR (ρ ++ t) v w := by
  cases v <;> first | exact h | skip
  obtain ⟨a, h1, h2⟩ := h
  exact ⟨a, by rw [List.getElem?_append_left (List.getElem?_eq_some_iff.mp h1).1]; exact h1, h2⟩
theorem SR.mono {ρ t : List Addr} : ∀ {v w : List Value}, SR ρ v w → SR (ρ ++ t) v w
  | [], _, h => h
  | _ :: _, _, ⟨w, ws, h1, h2, h3⟩ => ⟨w, ws, h1, h2.mono, SR.mono h3⟩
theorem SlR.mono {ρ t : List Addr} {s : Slot} {o : Option Slot} (h : SlR ρ s o) : SlR (ρ ++ t) s o := by
  cases s with
  | unset => trivial
  | second => exact h
  | val v => obtain ⟨w, h1, h2⟩ := h; exact ⟨w, h1.mono, h2⟩
theorem LR.mono {ρ t : List Addr} {L : List Slot} {A : Array Slot} (h : LR ρ L A) : LR (ρ ++ t) L A := ⟨h.1, h.2.1, fun i s q => (h.2.2 i s q).mono⟩
theorem VR.cat {ρ : List Addr} {v w : Value} (h : VR ρ v w) : w.category = v.category := by
  cases v <;> first | (obtain ⟨a, -, rfl⟩ := h; rfl) | (cases h; rfl)
theorem SR.cat {ρ : List Addr} : ∀ {v w : List Value}, SR ρ v w → (w.map fun v => v.category).sum = catSum v
  | [], _, h => by cases h; rfl
  | _ :: _, _, ⟨w, ws, h1, h2, h3⟩ => by subst h1; simp [catSum, h2.cat, SR.cat h3]
theorem SR.len {ρ : List Addr} : ∀ {v w : List Value}, SR ρ v w → w.length = v.length
  | [], _, h => by cases h; rfl
  | _ :: _, _, ⟨w, ws, h1, h2, h3⟩ => by subst h1; simp [SR.len h3]
theorem SR.app {ρ : List Addr} : ∀ {v w v' w' : List Value}, SR ρ v w → SR ρ v' w' → SR ρ (v ++ v') (w ++ w')
  | [], _, _, _, h, h' => by cases h; exact h'
  | _ :: _, _, _, _, ⟨w, ws, h1, h2, h3⟩, h' => by subst h1; exact ⟨w, ws ++ _, rfl, h2, SR.app h3 h'⟩
theorem SR.rev {ρ : List Addr} : ∀ {v w : List Value}, SR ρ v w → SR ρ v.reverse w.reverse
  | [], _, h => by cases h; exact rfl
  | _ :: _, _, ⟨w, ws, h1, h2, h3⟩ => by subst h1; simp only [List.reverse_cons]; exact (SR.rev h3).app ⟨w, [], rfl, h2, rfl⟩
theorem SR.take {ρ : List Addr} : ∀ (n : Nat) {v w : List Value}, SR ρ v w → SR ρ (v.take n) (w.take n)
  | 0, _, _, _ => rfl
  | n + 1, [], _, h => by cases h; exact rfl
  | n + 1, _ :: _, _, ⟨w, ws, h1, h2, h3⟩ => by subst h1; exact ⟨w, _, rfl, h2, SR.take n h3⟩
theorem SR.drop {ρ : List Addr} : ∀ (n : Nat) {v w : List Value}, SR ρ v w → SR ρ (v.drop n) (w.drop n)
  | 0, _, _, h => h
  | n + 1, [], _, h => by cases h; exact rfl
  | n + 1, _ :: _, _, ⟨w, ws, h1, h2, h3⟩ => by subst h1; exact SR.drop n h3
theorem OV.list {ρ : List Addr} {v w : Option Value} (h : OV ρ v w) : SR ρ v.toList w.toList := by
  cases v with
  | none => cases h; exact rfl
  | some v => obtain ⟨u, rfl, h⟩ := h; exact ⟨u, [], rfl, h, rfl⟩
theorem LR.get {ρ : List Addr} {L : List Slot} {A : Array Slot} (h : LR ρ L A) {k : Nat} {v : Value} (g : getL L k = some v) : ∃ w, VR ρ v w ∧ A[k]? = some (.val w) := by
  unfold getL at g
  split at g
  · rename_i u q
    cases g
    exact h.2.2 k _ q
  · cases g
theorem forget_get : ∀ (er : List Bool) (L : List Slot) (i : Nat) (s : Slot), (forget er L)[i]? = some s → s = .unset ∨ L[i]? = some s
  | [], L, i, s, h => Or.inr h
  | _ :: _, [], i, s, h => by simp [forget] at h
  | true :: r, t :: L, 0, s, h => by simp [forget] at h; exact Or.inl h.symm
  | false :: r, t :: L, 0, s, h => by simp [forget] at h; exact Or.inr (by simp [h])
  | true :: r, t :: L, i + 1, s, h => by simp [forget] at h; simpa using forget_get r L i s h
  | false :: r, t :: L, i + 1, s, h => by simp [forget] at h; simpa using forget_get r L i s h
theorem forget_len : ∀ (er : List Bool) (L : List Slot), (forget er L).length = L.length
  | [], _ => rfl
  | _ :: _, [] => rfl
  | true :: r, _ :: L => by simp [forget, forget_len r L]
  | false :: r, _ :: L => by simp [forget, forget_len r L]
theorem LR.forget {ρ : List Addr} {A : Array Slot} (er : List Bool) {L : List Slot} (h : LR ρ L A) : LR ρ (forget er L) A :=
  ⟨by rw [forget_len]; exact h.1, h.2.1, fun i s q => by
    rcases forget_get er L i s q with rfl | z
    · trivial
    · exact h.2.2 i s z⟩
/-! Stores -/
theorem setAt_ok {A : Array Slot} {i : Nat} (h : i < A.size) (x : Slot) : setAt A i x = some (A.setIfInBounds i x) := by simp [setAt, h]
theorem get_set (A : Array Slot) (i j : Nat) (x : Slot) : (A.setIfInBounds i x)[j]? = if i = j then (if i < A.size then some x else none) else A[j]? := by
  rw [Array.getElem?_setIfInBounds]
theorem sl_unset {A : Array Slot} {k : Nat} {w : Value} (h : A[k]? = some .unset) : storeLocals A k w = storeSelf A k w := by
  unfold storeLocals; rw [h]; rfl
theorem sl_second {A : Array Slot} {k : Nat} {w : Value} (h : A[k]? = some .second) (hk : k - 1 < A.size) : storeLocals A k w = storeSelf (A.setIfInBounds (k - 1) .unset) k w := by
  unfold storeLocals; rw [h]
  show (setAt A (k - 1) .unset).bind _ = _
  rw [setAt_ok hk]; rfl
theorem sl_val2 {A : Array Slot} {k : Nat} {w u : Value} (h : A[k]? = some (.val u)) (hu : u.category = 2) (hk : k + 1 < A.size) : storeLocals A k w = storeSelf (A.setIfInBounds (k + 1) .unset) k w := by
  unfold storeLocals; rw [h]
  show (if u.category = 2 then (setAt A (k + 1) .unset).bind _ else _) = _
  rw [if_pos hu, setAt_ok hk]; rfl
theorem sl_val1 {A : Array Slot} {k : Nat} {w u : Value} (h : A[k]? = some (.val u)) (hu : ¬ u.category = 2) : storeLocals A k w = storeSelf A k w := by
  unfold storeLocals; rw [h]
  show (if u.category = 2 then (setAt A (k + 1) .unset).bind _ else _) = _
  rw [if_neg hu]
theorem ss_1 {A : Array Slot} {k : Nat} {w : Value} (hk : k < A.size) (hw : ¬ w.category = 2) : storeSelf A k w = some (A.setIfInBounds k (.val w)) := by
  unfold storeSelf; rw [setAt_ok hk]
  show (if w.category = 2 then _ else _) = _
  rw [if_neg hw]
theorem ss_2c {A : Array Slot} {k : Nat} {w u : Value} (hk : k < A.size) (hk1 : k + 1 < A.size) (hk2 : k + 2 < A.size) (hw : w.category = 2) (h : (A.setIfInBounds k (.val w))[k + 1]? = some (.val u)) (hu : u.category = 2) : storeSelf A k w = some (((A.setIfInBounds k (.val w)).setIfInBounds (k + 2) .unset).setIfInBounds (k + 1) .second) := by
  unfold storeSelf; rw [setAt_ok hk]
  show (if w.category = 2 then _ else _) = _
  rw [if_pos hw, h]
  show (if u.category = 2 then (setAt _ (k + 2) .unset).bind _ else _) = _
  rw [if_pos hu, setAt_ok (by simpa using hk2)]
  exact setAt_ok (by simpa using hk1) _
theorem ss_2 {A : Array Slot} {k : Nat} {w : Value} {o : Slot} (hk : k < A.size) (hk1 : k + 1 < A.size) (hw : w.category = 2) (h : (A.setIfInBounds k (.val w))[k + 1]? = some o) (ho : ¬ ∃ u, o = .val u ∧ u.category = 2) : storeSelf A k w = some ((A.setIfInBounds k (.val w)).setIfInBounds (k + 1) .second) := by
  unfold storeSelf; rw [setAt_ok hk]
  show (if w.category = 2 then _ else _) = _
  rw [if_pos hw, h]
  cases o with
  | unset => exact setAt_ok (by simpa using hk1) _
  | second => exact setAt_ok (by simpa using hk1) _
  | val u =>
    show (if u.category = 2 then _ else _) = _
    rw [if_neg fun z => ho ⟨u, rfl, z⟩]
    exact setAt_ok (by simpa using hk1) _
theorem store1_sim {ρ : List Addr} {L : List Slot} {A : Array Slot} (h : LR ρ L A) {k : Nat} {v w : Value} {L' : List Slot} (hs : st1 L k v = some L') (hv : VR ρ v w) (hc : w.category = 1) : ∃ A', storeLocals A k w = some A' ∧ LR ρ L' A' := by
  unfold st1 at hs
  split at hs
  · rename_i q
    cases hs
    simp only [Bool.and_eq_true] at q
    obtain ⟨⟨q1, q2⟩, q3⟩ := q
    obtain ⟨hA, ⟨w1, w2⟩, hl⟩ := h
    have hk : k < L.length := by
      rcases Nat.lt_or_ge k L.length with z | z
      · exact z
      · rw [List.getElem?_eq_none z] at q1; cases q1
    have hkA : k < A.size := hA ▸ hk
    obtain ⟨sl, hsl⟩ : ∃ sl, A[k]? = some sl := ⟨A[k], Array.getElem?_eq_getElem hkA⟩
    have hc2 : ¬ w.category = 2 := by rw [hc]; decide
    classical
    have key : ∃ A', storeLocals A k w = some A' ∧ A'.size = A.size ∧ (∀ j, A'[j]? = if j = k then some (.val w) else if (sl = .second ∧ j + 1 = k) ∨ ((∃ u, sl = .val u ∧ u.category = 2) ∧ j = k + 1) then some .unset else A[j]?) := by
      cases sl with
      | unset =>
        refine ⟨A.setIfInBounds k (.val w), by rw [sl_unset hsl]; exact ss_1 hkA hc2, by simp, fun j => ?_⟩
        rw [get_set]
        by_cases e : k = j
        · subst e; simp [hkA]
        · have e' : ¬ j = k := fun z => e z.symm
          simp [e, e']
      | second =>
        obtain ⟨j0, u, rfl, g1, g2⟩ := w2 k hsl
        refine ⟨(A.setIfInBounds j0 .unset).setIfInBounds (j0 + 1) (.val w), by rw [sl_second hsl (show j0 + 1 - 1 < A.size by omega)]; exact ss_1 (by simpa using hkA) hc2, by simp, fun j => ?_⟩
        rw [get_set, get_set]
        by_cases e : j0 + 1 = j
        · subst e; simp [hkA]
        · by_cases e2 : j0 = j
          · subst e2; simp; omega
          · have e' : ¬ j = j0 + 1 := fun z => e z.symm
            have e2' : ¬ j = j0 := fun z => e2 z.symm
            simp [e, e', e2, e2']
      | val u =>
        by_cases hu : u.category = 2
        · have g := w1 k u hsl hu
          have hk1 : k + 1 < A.size := (Array.getElem?_eq_some_iff.mp g).1
          refine ⟨(A.setIfInBounds (k + 1) .unset).setIfInBounds k (.val w), by rw [sl_val2 hsl hu hk1]; exact ss_1 (by simpa using hkA) hc2, by simp, fun j => ?_⟩
          rw [get_set, get_set]
          by_cases e : k = j
          · subst e; simp [hkA]
          · have e' : ¬ j = k := fun z => e z.symm
            by_cases e2 : k + 1 = j
            · subst e2; simp [hk1, hu]
            · have e2' : ¬ j = k + 1 := fun z => e2 z.symm
              simp [e, e', e2, e2']
        · refine ⟨A.setIfInBounds k (.val w), by rw [sl_val1 hsl hu]; exact ss_1 hkA hc2, by simp, fun j => ?_⟩
          rw [get_set]
          by_cases e : k = j
          · subst e; simp [hkA]
          · have e' : ¬ j = k := fun z => e z.symm
            simp [e, e', hu]
    obtain ⟨A', k1, k2, k3⟩ := key
    refine ⟨A', k1, by rw [k2, hA]; simp, ⟨fun i u g1 g2 => ?_, fun i g1 => ?_⟩, fun i s g => ?_⟩
    · rw [k3] at g1
      split at g1
      · cases g1; exact absurd g2 hc2
      · rename_i e1
        split at g1
        · cases g1
        · rename_i e2
          have g3 := w1 i u g1 g2
          rw [k3]
          split
          · rename_i e3
            have : sl = .second := by rw [← e3] at hsl; exact Option.some.inj (hsl.symm.trans g3)
            exact absurd (Or.inl ⟨this, e3⟩) e2
          · rename_i e3
            split
            · rename_i e4
              rcases e4 with ⟨z1, z2⟩ | ⟨⟨u', z1, z2⟩, z3⟩
              · exfalso
                have : k = i + 1 + 1 := z2.symm
                subst this
                rw [z1] at hsl
                obtain ⟨j0, u0, y1, y2, y3⟩ := w2 _ hsl
                have : j0 = i + 1 := by omega
                subst this
                rw [g3] at y2; cases y2
              · exact absurd (by omega) e1
            · exact g3
    · rw [k3] at g1
      split at g1
      · cases g1
      · rename_i e1
        split at g1
        · cases g1
        · rename_i e2
          obtain ⟨j, u, z1, z2, z3⟩ := w2 i g1
          refine ⟨j, u, z1, ?_, z3⟩
          rw [k3]
          split
          · rename_i e3
            subst e3
            have : sl = .val u := Option.some.inj (hsl.symm.trans z2)
            exact absurd (Or.inr ⟨⟨u, this, z3⟩, z1⟩) e2
          · split
            · rename_i e3 e4
              rcases e4 with ⟨y1, y2⟩ | ⟨⟨u', y1, y2⟩, y3⟩
              · exact absurd (z1.trans y2) e1
              · subst y3
                have g5 := w1 k u' (y1 ▸ hsl) y2
                rw [z2] at g5; cases g5
            · exact z2
    · rw [List.getElem?_set] at g
      split at g
      · rename_i e
        subst e
        cases g
        exact ⟨w, hv, by rw [k3]; simp⟩
      · rename_i e
        have e' : ¬ i = k := fun z => e z.symm
        have g2 := hl i s g
        rw [k3, if_neg e']
        split
        · rename_i e4
          cases s with
          | unset => trivial
          | second =>
            exfalso
            have g2' : A[i]? = some .second := g2
            rcases e4 with ⟨y1, y2⟩ | ⟨⟨u', y1, y2⟩, y3⟩
            · obtain ⟨j0, u0, x1, x2, x3⟩ := w2 k (y1 ▸ hsl)
              have : i = j0 := by omega
              subst this
              rw [x2] at g2'; cases g2'
            · subst y3
              rw [g] at q3
              simp [isSec] at q3
          | val v0 =>
            exfalso
            obtain ⟨w0, x1, x2⟩ := g2
            rcases e4 with ⟨y1, y2⟩ | ⟨⟨u', y1, y2⟩, y3⟩
            · obtain ⟨j0, u0, z1, z2, z3⟩ := w2 k (y1 ▸ hsl)
              have : i = j0 := by omega
              subst this
              have hw0 : w0 = u0 := by rw [x2] at z2; cases z2; rfl
              have hcat : v0.category = 2 := by rw [← x1.cat, hw0]; exact z3
              subst y2
              have : L[i + 1 - 1]? = some (.val v0) := g
              rw [this] at q2
              simp [isC2, hcat] at q2
            · subst y3
              have g5 := w1 k u' (y1 ▸ hsl) y2
              rw [x2] at g5; cases g5
        · exact g2
  · cases hs
end Jvm.Own
namespace Jvm.Own
open Jvm Jvm.ClassFile Sem Op Lib Jvm.Free Jvm.Stand Jvm.LawKit Jvm.RoadKit Bundle
theorem store2_sim {ρ : List Addr} {L : List Slot} {A : Array Slot} (h : LR ρ L A) {k : Nat} {v w : Value} {L' : List Slot} (hs : st2 L k v = some L') (hv : VR ρ v w) (hc : w.category = 2) : ∃ A', storeLocals A k w = some A' ∧ LR ρ L' A' := by
  unfold st2 at hs
  split at hs
  · rename_i q
    cases hs
    simp only [Bool.and_eq_true] at q
    obtain ⟨⟨q1, q2⟩, q3⟩ := q
    obtain ⟨hA, ⟨w1, w2⟩, hl⟩ := h
    have hk1 : k + 1 < L.length := by
      rcases Nat.lt_or_ge (k + 1) L.length with z | z
      · exact z
      · rw [List.getElem?_eq_none z] at q1
        cases h0 : L[k]? with
        | none => rw [h0] at q1; cases q1
        | some s0 => rw [h0] at q1; cases s0 <;> cases q1
    have hk : k < L.length := by omega
    have hkA : k < A.size := hA ▸ hk
    have hkA1 : k + 1 < A.size := hA ▸ hk1
    obtain ⟨sl, hsl⟩ : ∃ sl, A[k]? = some sl := ⟨A[k], Array.getElem?_eq_getElem hkA⟩
    obtain ⟨sm, hsm⟩ : ∃ sm, A[k + 1]? = some sm := ⟨A[k + 1], Array.getElem?_eq_getElem hkA1⟩
    have n1 : ¬ k = k + 1 := by omega
    have n2 : ¬ k + 2 = k + 1 := by omega
    have n3 : ¬ k + 2 = k := by omega
    classical
    have key : ∃ A', storeLocals A k w = some A' ∧ A'.size = A.size ∧ (∀ j, A'[j]? = if j = k then some (.val w) else if j = k + 1 then some .second else if (sl = .second ∧ j + 1 = k) ∨ ((∃ u, sm = .val u ∧ u.category = 2) ∧ j = k + 2) then some .unset else A[j]?) := by
      by_cases hm : ∃ u, sm = .val u ∧ u.category = 2
      · obtain ⟨u, rfl, hu⟩ := hm
        have g := w1 (k + 1) u hsm hu
        have hk2 : k + 2 < A.size := (Array.getElem?_eq_some_iff.mp g).1
        cases sl with
        | unset =>
          refine ⟨((A.setIfInBounds k (.val w)).setIfInBounds (k + 2) .unset).setIfInBounds (k + 1) .second, ?_, by simp, fun j => ?_⟩
          · rw [sl_unset hsl]; exact ss_2c hkA hkA1 hk2 hc (by rw [get_set, if_neg n1]; exact hsm) hu
          · rw [get_set, get_set, get_set]
            by_cases e0 : j = k
            · subst e0; simp [hkA]
            · by_cases e1 : j = k + 1
              · subst e1; simp [hkA1]
              · by_cases e2 : j = k + 2
                · subst e2; simp [hk2, hu]
                · have e0' : ¬ k = j := fun z => e0 z.symm
                  have e1' : ¬ k + 1 = j := fun z => e1 z.symm
                  have e2' : ¬ k + 2 = j := fun z => e2 z.symm
                  simp [e0, e1, e2, e0', e1', e2']
        | second =>
          obtain ⟨j0, u0, rfl, g1, g2⟩ := w2 k hsl
          have hj0 : j0 < A.size := by omega
          refine ⟨(((A.setIfInBounds j0 .unset).setIfInBounds (j0 + 1) (.val w)).setIfInBounds (j0 + 1 + 2) .unset).setIfInBounds (j0 + 1 + 1) .second, ?_, by simp, fun j => ?_⟩
          · have m1 : ¬ j0 + 1 = j0 + 1 + 1 := by omega
            have m2 : ¬ j0 = j0 + 1 + 1 := by omega
            rw [sl_second hsl (show j0 + 1 - 1 < A.size by omega)]
            exact ss_2c (by simpa using hkA) (by simpa using hkA1) (by simpa using hk2) hc (by rw [get_set, if_neg m1, get_set, if_neg (by omega)]; exact hsm) hu
          · rw [get_set, get_set, get_set, get_set]
            by_cases e0 : j = j0 + 1
            · subst e0; simp [hkA]
            · by_cases e1 : j = j0 + 1 + 1
              · subst e1; simp [hkA1]
              · by_cases e2 : j = j0 + 1 + 2
                · subst e2; simp [hk2, hu]
                · by_cases e3 : j = j0
                  · subst e3
                    rw [if_neg (by omega), if_neg (by omega), if_neg (by omega), if_pos rfl, if_pos hj0, if_neg (by omega), if_neg (by omega), if_pos (Or.inl ⟨rfl, rfl⟩)]
                  · have e0' : ¬ j0 + 1 = j := fun z => e0 z.symm
                    have e1' : ¬ j0 + 1 + 1 = j := fun z => e1 z.symm
                    have e2' : ¬ j0 + 1 + 2 = j := fun z => e2 z.symm
                    have e3' : ¬ j0 = j := fun z => e3 z.symm
                    simp [e0, e1, e2, e3, e0', e1', e2', e3']
        | val u1 =>
          have hu1 : ¬ u1.category = 2 := fun z => by have := w1 k u1 hsl z; rw [hsm] at this; cases this
          refine ⟨((A.setIfInBounds k (.val w)).setIfInBounds (k + 2) .unset).setIfInBounds (k + 1) .second, ?_, by simp, fun j => ?_⟩
          · rw [sl_val1 hsl hu1]; exact ss_2c hkA hkA1 hk2 hc (by rw [get_set, if_neg n1]; exact hsm) hu
          · rw [get_set, get_set, get_set]
            by_cases e0 : j = k
            · subst e0; simp [hkA]
            · by_cases e1 : j = k + 1
              · subst e1; simp [hkA1]
              · by_cases e2 : j = k + 2
                · subst e2; simp [hk2, hu]
                · have e0' : ¬ k = j := fun z => e0 z.symm
                  have e1' : ¬ k + 1 = j := fun z => e1 z.symm
                  have e2' : ¬ k + 2 = j := fun z => e2 z.symm
                  simp [e0, e1, e2, e0', e1', e2']
      · cases sl with
        | unset =>
          refine ⟨(A.setIfInBounds k (.val w)).setIfInBounds (k + 1) .second, ?_, by simp, fun j => ?_⟩
          · rw [sl_unset hsl]; exact ss_2 hkA hkA1 hc (by rw [get_set, if_neg n1]; exact hsm) hm
          · rw [get_set, get_set]
            by_cases e0 : j = k
            · subst e0; simp [hkA]
            · by_cases e1 : j = k + 1
              · subst e1; simp [hkA1]
              · have e0' : ¬ k = j := fun z => e0 z.symm
                have e1' : ¬ k + 1 = j := fun z => e1 z.symm
                simp [e0, e1, e0', e1', hm]
        | second =>
          obtain ⟨j0, u0, rfl, g1, g2⟩ := w2 k hsl
          have hj0 : j0 < A.size := by omega
          have m1 : ¬ j0 + 1 = j0 + 1 + 1 := by omega
          have m2 : ¬ j0 = j0 + 1 + 1 := by omega
          refine ⟨((A.setIfInBounds j0 .unset).setIfInBounds (j0 + 1) (.val w)).setIfInBounds (j0 + 1 + 1) .second, ?_, by simp, fun j => ?_⟩
          · rw [sl_second hsl (show j0 + 1 - 1 < A.size by omega)]
            exact ss_2 (by simpa using hkA) (by simpa using hkA1) hc (by rw [get_set, if_neg m1, get_set, if_neg (by omega)]; exact hsm) hm
          · rw [get_set, get_set, get_set]
            by_cases e0 : j = j0 + 1
            · subst e0; simp [hkA]
            · by_cases e1 : j = j0 + 1 + 1
              · subst e1; simp [hkA1]
              · by_cases e3 : j = j0
                · subst e3
                  rw [if_neg (by omega), if_neg (by omega), if_pos rfl, if_pos hj0, if_neg (by omega), if_neg (by omega), if_pos (Or.inl ⟨rfl, rfl⟩)]
                · have e0' : ¬ j0 + 1 = j := fun z => e0 z.symm
                  have e1' : ¬ j0 + 1 + 1 = j := fun z => e1 z.symm
                  have e3' : ¬ j0 = j := fun z => e3 z.symm
                  simp [e0, e1, e3, e0', e1', e3', hm]
        | val u1 =>
          by_cases hu1 : u1.category = 2
          · refine ⟨((A.setIfInBounds (k + 1) .unset).setIfInBounds k (.val w)).setIfInBounds (k + 1) .second, ?_, by simp, fun j => ?_⟩
            · rw [sl_val2 hsl hu1 hkA1]
              exact ss_2 (o := .unset) (by simpa using hkA) (by simpa using hkA1) hc (by rw [get_set, if_neg n1, get_set, if_pos rfl, if_pos hkA1]) (by rintro ⟨u, z, -⟩; cases z)
            · rw [get_set, get_set, get_set]
              by_cases e0 : j = k
              · subst e0; simp [hkA]
              · by_cases e1 : j = k + 1
                · subst e1; simp [hkA1]
                · have e0' : ¬ k = j := fun z => e0 z.symm
                  have e1' : ¬ k + 1 = j := fun z => e1 z.symm
                  simp [e0, e1, e0', e1', hm]
          · refine ⟨(A.setIfInBounds k (.val w)).setIfInBounds (k + 1) .second, ?_, by simp, fun j => ?_⟩
            · rw [sl_val1 hsl hu1]; exact ss_2 hkA hkA1 hc (by rw [get_set, if_neg n1]; exact hsm) hm
            · rw [get_set, get_set]
              by_cases e0 : j = k
              · subst e0; simp [hkA]
              · by_cases e1 : j = k + 1
                · subst e1; simp [hkA1]
                · have e0' : ¬ k = j := fun z => e0 z.symm
                  have e1' : ¬ k + 1 = j := fun z => e1 z.symm
                  simp [e0, e1, e0', e1', hm]
    obtain ⟨A', k1, k2, k3⟩ := key
    refine ⟨A', k1, by rw [k2, hA]; simp, ⟨fun i u g1 g2 => ?_, fun i g1 => ?_⟩, fun i s g => ?_⟩
    · by_cases e1 : i = k
      · subst e1; rw [k3]; simp
      · have g1' := g1
        rw [k3, if_neg e1] at g1'
        split at g1'
        · cases g1'
        · rename_i e2
          split at g1'
          · cases g1'
          · rename_i e4
            have g3 := w1 i u g1' g2
            rw [k3]
            have c1 : ¬ i + 1 = k := fun e3 => by
              have : sl = .second := by rw [← e3] at hsl; exact Option.some.inj (hsl.symm.trans g3)
              exact e4 (Or.inl ⟨this, e3⟩)
            have c2 : ¬ i + 1 = k + 1 := by omega
            have c3 : ¬ ((sl = .second ∧ i + 1 + 1 = k) ∨ ((∃ u, sm = .val u ∧ u.category = 2) ∧ i + 1 = k + 2)) := fun z => by
              rcases z with ⟨z1, z2⟩ | ⟨z1, z2⟩
              · subst z2
                rw [z1] at hsl
                obtain ⟨j0, u0, y1, y2, y3⟩ := w2 _ hsl
                have : j0 = i + 1 := by omega
                subst this
                rw [g3] at y2; cases y2
              · omega
            rw [if_neg c1, if_neg c2, if_neg c3]
            exact g3
    · rw [k3] at g1
      split at g1
      · cases g1
      · rename_i e1
        split at g1
        · rename_i e2
          exact ⟨k, w, e2, by rw [k3]; simp, hc⟩
        · rename_i e2
          split at g1
          · cases g1
          · rename_i e4
            obtain ⟨j, u, z1, z2, z3⟩ := w2 i g1
            refine ⟨j, u, z1, ?_, z3⟩
            rw [k3]
            have c1 : ¬ j = k := by omega
            have c2 : ¬ j = k + 1 := fun e => by
              subst e
              exact e4 (Or.inr ⟨⟨u, Option.some.inj (hsm.symm.trans z2), z3⟩, by omega⟩)
            have c3 : ¬ ((sl = .second ∧ j + 1 = k) ∨ ((∃ u, sm = .val u ∧ u.category = 2) ∧ j = k + 2)) := fun z => by
              rcases z with ⟨y1, y2⟩ | ⟨⟨u', y1, y2⟩, y3⟩
              · exact e1 (z1.trans y2)
              · subst y3
                have g5 := w1 (k + 1) u' (y1 ▸ hsm) y2
                rw [z2] at g5; cases g5
            rw [if_neg c1, if_neg c2, if_neg c3]
            exact z2
    · rw [List.getElem?_set] at g
      split at g
      · rename_i e
        subst e
        have : k + 1 < (L.set k (.val v)).length := by simp [hk1]
        rw [if_pos this] at g
        cases g
        show A'[k + 1]? = some .second
        rw [k3]; simp
      · rename_i e
        have e' : ¬ i = k + 1 := fun z => e z.symm
        rw [List.getElem?_set] at g
        split at g
        · rename_i e0
          subst e0
          cases g
          exact ⟨w, hv, by rw [k3]; simp⟩
        · rename_i e0
          have e0' : ¬ i = k := fun z => e0 z.symm
          have g2 := hl i s g
          rw [k3, if_neg e0', if_neg e']
          split
          · rename_i e4
            cases s with
            | unset => trivial
            | second =>
              exfalso
              have g2' : A[i]? = some .second := g2
              rcases e4 with ⟨y1, y2⟩ | ⟨⟨u', y1, y2⟩, y3⟩
              · obtain ⟨j0, u0, x1, x2, x3⟩ := w2 k (y1 ▸ hsl)
                have : i = j0 := by omega
                subst this
                rw [x2] at g2'; cases g2'
              · subst y3
                rw [g] at q3
                simp [isSec] at q3
            | val v0 =>
              exfalso
              obtain ⟨w0, x1, x2⟩ := g2
              rcases e4 with ⟨y1, y2⟩ | ⟨⟨u', y1, y2⟩, y3⟩
              · obtain ⟨j0, u0, z1, z2, z3⟩ := w2 k (y1 ▸ hsl)
                have : i = j0 := by omega
                subst this
                have hw0 : w0 = u0 := by rw [x2] at z2; cases z2; rfl
                have hcat : v0.category = 2 := by rw [← x1.cat, hw0]; exact z3
                subst y2
                have : L[i + 1 - 1]? = some (.val v0) := g
                rw [this] at q2
                simp [isC2, hcat] at q2
              · subst y3
                have g5 := w1 (k + 1) u' (y1 ▸ hsm) y2
                rw [x2] at g5; cases g5
          · exact g2
  · cases hs
/-! The frame with which a method is entered -/
theorem entA_app (ws : List Value) : ∀ acc : Array Slot, ws.foldl (fun acc v => if v.category = 2 then (acc.push (.val v)).push .second else acc.push (.val v)) acc = acc ++ (entA ws).toArray := by
  induction ws with
  | nil => intro acc; simp [entA]
  | cons v r ih =>
    intro acc
    rw [List.foldl_cons, ih]
    show _ = acc ++ (if v.category = 2 then .val v :: .second :: entA r else .val v :: entA r).toArray
    by_cases h : v.category = 2
    · rw [if_pos h, if_pos h]; simp
    · rw [if_neg h, if_neg h]; simp
theorem argsToLocals_eq (ws : List Value) (n : Nat) : argsToLocals ws.toArray n = (entL ws n).toArray := by
  unfold argsToLocals entL
  have h := entA_app ws #[]
  simp only [List.foldl_toArray', List.size_toArray] at *
  simp [h]
theorem entA_len {ρ : List Addr} : ∀ {v w : List Value}, SR ρ v w → (entA w).length = (entA v).length
  | [], _, h => by cases h; rfl
  | _ :: _, _, ⟨w, ws, h1, h2, h3⟩ => by
    subst h1
    unfold entA
    rw [h2.cat]
    split <;> simp [entA_len h3]
theorem entA_rel {ρ : List Addr} : ∀ {v w : List Value}, SR ρ v w → ∀ (m i : Nat) (s : Slot), (entA v ++ List.replicate m .unset)[i]? = some s → SlR ρ s (entA w ++ List.replicate m .unset)[i]?
  | [], _, h, m, i, s, q => by
    cases h
    simp only [entA, List.nil_append] at q ⊢
    rw [List.getElem?_replicate] at q
    split at q
    · cases q; trivial
    · cases q
  | v :: vs, _, ⟨w, ws, h1, h2, h3⟩, m, i, s, q => by
    subst h1
    unfold entA at q ⊢
    rw [h2.cat]
    split
    · rename_i c
      rw [if_pos c] at q
      match i, q with
      | 0, q => simp at q; subst q; exact ⟨w, h2, by simp⟩
      | 1, q => simp at q; subst q; simp [SlR]
      | i + 2, q => simp at q ⊢; exact entA_rel h3 m i s q
    · rename_i c
      rw [if_neg c] at q
      match i, q with
      | 0, q => simp at q; subst q; exact ⟨w, h2, by simp⟩
      | i + 1, q => simp at q ⊢; exact entA_rel h3 m i s q
theorem entA_wf : ∀ (ws : List Value) (m : Nat), (∀ (i : Nat) w, (entA ws ++ List.replicate m .unset)[i]? = some (.val w) → w.category = 2 → (entA ws ++ List.replicate m .unset)[i + 1]? = some .second) ∧
    ∀ (i : Nat), (entA ws ++ List.replicate m .unset)[i]? = some .second → ∃ j w, i = j + 1 ∧ (entA ws ++ List.replicate m .unset)[j]? = some (.val w) ∧ w.category = 2
  | [], m => by
    constructor
    · intro i w q
      simp only [entA, List.nil_append, List.getElem?_replicate] at q
      split at q <;> cases q
    · intro i q
      simp only [entA, List.nil_append, List.getElem?_replicate] at q
      split at q <;> cases q
  | v :: vs, m => by
    obtain ⟨h1, h2⟩ := entA_wf vs m
    unfold entA
    split
    · rename_i c
      constructor
      · intro i w q
        match i, q with
        | 0, q => intro _; simp
        | 1, q => simp at q
        | i + 2, q => simp at q ⊢; exact h1 i w q
      · intro i q
        match i, q with
        | 0, q => simp at q
        | 1, q => exact ⟨0, v, rfl, by simp, c⟩
        | i + 2, q =>
          simp at q
          obtain ⟨j, w, e, g1, g2⟩ := h2 i q
          exact ⟨j + 2, w, by omega, by simpa using g1, g2⟩
    · rename_i c
      constructor
      · intro i w q
        match i, q with
        | 0, q => intro z; simp at q; subst q; exact absurd z c
        | i + 1, q => simp at q ⊢; exact h1 i w q
      · intro i q
        match i, q with
        | 0, q => simp at q
        | i + 1, q =>
          simp at q
          obtain ⟨j, w, e, g1, g2⟩ := h2 i q
          exact ⟨j + 1, w, by omega, by simpa using g1, g2⟩
theorem LR.enter {ρ : List Addr} {v w : List Value} (h : SR ρ v w) {n : Nat} (hn : (entA v).length ≤ n) : LR ρ (entL v n) (argsToLocals w.toArray n) ∧ (argsToLocals w.toArray n).size = n := by
  rw [argsToLocals_eq]
  have hl := entA_len h
  refine ⟨⟨by simp [entL, hl], ?_, fun i s q => ?_⟩, by simp [entL, hl]; omega⟩
  · obtain ⟨h1, h2⟩ := entA_wf w (n - (entA w).length)
    exact ⟨fun i u q c => by simpa [entL] using h1 i u (by simpa [entL] using q) c, fun i q => by
      obtain ⟨j, u, e, g1, g2⟩ := h2 i (by simpa [entL] using q)
      exact ⟨j, u, e, by simpa [entL] using g1, g2⟩⟩
  · unfold entL at q ⊢
    rw [hl]
    simpa using entA_rel h _ i s q
end Jvm.Own
namespace Jvm.RoadKit
open Sem ClassFile Op Lib Jvm.Stand Jvm.Free Jvm.LawKit
section New
variable {p : Program} {l : Launch} {e : Env} {R : Room} {s : State} {m : MethodId} {args : Array Value} {below : List Frame} {meth : Method} {c : Code} {T : State} {locs : List Loc} {cells slots : Nat}
theorem retI (X : Stand p l e R s m args below meth c T locs cells slots) (hx : p.tables.exec = Jvm.exec) {pc : Nat} {Ls : Array Slot} {z : Int32} {rest : List Value} (hret : meth.sig.returnType = some .int) (hd : decode c.code pc = .ok (.ireturn, 1)) {fs : List Frame}
    (hl : ∀ (f : JFrame) (acts : List Action), f.method = m → f.locked = none → f.entered = [] → (doReturn e (T.setTop f) acts (some (.int z))).1 = T.setFrames fs) : Steps p.tables e below (T.setTop (mkF m pc Ls (.int z :: rest))) (T.setFrames fs) := by
  have hm' : T.vm.method? m = some meth := X.method'
  have hn : narrow .int (.int z) = .int z := rfl
  show Steps p.tables e below (T.setTop { method := m, pc := pc, locals := Ls, stack := _ :: rest, locked := none }) _
  jvm_step X.here [X.here.top, hx, hd, hm', hret, hn]
  first | (intro acts; rw [hl _ acts rfl rfl rfl]) | rw [hl _ _ rfl rfl rfl]
  exact Steps.refl _
end New
end Jvm.RoadKit
namespace Jvm.Own
open Jvm Jvm.ClassFile Sem Op Lib Jvm.Free Jvm.Stand Jvm.LawKit Jvm.RoadKit Bundle
/-! The plain heap and the real one -/
def tyA (b : Bool) : FieldType := if b then .boolean else .int
def CR (P : PD) (Z : State) (h : Heap) (ρ : List Addr) (a : Addr) : ACell → Prop
  | .inl (c, fs) => ∃ cd, P.cls[c]? = some cd ∧ Exa Z h a cd.1 ∧ fs.length = cd.2.2.length ∧ ∀ (i : Nat) v fd, fs[i]? = some v → cd.2.2[i]? = some fd → ∃ w, VR ρ v w ∧ Fld Z h a cd.1 fd.1 fd.2.1 w
  | .inr (.inl (b, L)) => ∃ cl, Arr Z h a cl (tyA b) ∧ cl.slots.size = L.length ∧ L.length < 2 ^ 31 ∧ ∀ (i : Nat) x, L[i]? = some x → cl.slots[i]? = some (.int x)
  | .inr (.inr L) => ∃ cl, Arr Z h a cl .long ∧ cl.slots.size = L.length ∧ L.length < 2 ^ 31 ∧ ∀ (i : Nat) x, L[i]? = some x → cl.slots[i]? = some (.long x)
def HR (P : PD) (Z : State) (n0 : Nat) (h : Heap) (ρ : List Addr) (H : AHeap) : Prop :=
  n0 ≤ h.size ∧ ρ.length = H.length ∧ (∀ (i j : Nat) a, ρ[i]? = some a → ρ[j]? = some a → i = j) ∧ (∀ (k : Nat) a, ρ[k]? = some a → P.nr ≤ k → n0 ≤ a) ∧ ∀ (k : Nat) a c, ρ[k]? = some a → H[k]? = some c → CR P Z h ρ a c
section Heaps
variable {P : PD} {Z : State} {n0 : Nat} {h h' : Heap} {ρ : List Addr} {H : AHeap} {a : Addr} {k : Nat} {a0 : Array Value}
theorem CR.lt {c : ACell} (q : CR P Z h ρ a c) : a < h.size := by
  match c, q with
  | .inl (_, _), q => obtain ⟨cd, -, E, -⟩ := q; exact E.lt
  | .inr (.inl (_, _)), q => obtain ⟨cl, A, -⟩ := q; exact A.lt
  | .inr (.inr _), q => obtain ⟨cl, A, -⟩ := q; exact A.lt
theorem HR.at (q : HR P Z n0 h ρ H) {c : ACell} (hc : H[k]? = some c) : ∃ a, ρ[k]? = some a ∧ CR P Z h ρ a c := by
  obtain ⟨-, q1, -, -, q4⟩ := q
  have hk : k < ρ.length := by rw [q1]; exact (List.getElem?_eq_some_iff.mp hc).1
  exact ⟨ρ[k], List.getElem?_eq_getElem hk, q4 k _ c (List.getElem?_eq_getElem hk) hc⟩
theorem HR.lt (q : HR P Z n0 h ρ H) (hk : ρ[k]? = some a) : a < h.size := by
  obtain ⟨-, q1, -, -, q4⟩ := q
  have hk' : k < H.length := by rw [← q1]; exact (List.getElem?_eq_some_iff.mp hk).1
  exact (q4 k a _ hk (List.getElem?_eq_getElem hk')).lt
theorem CR.grow {t : List Addr} {c : ACell} (E : Ext h h') (q : CR P Z h ρ a c) : CR P Z h' (ρ ++ t) a c := by
  match c, q with
  | .inl (_, _), ⟨cd, q1, q2, q3, q4⟩ => exact ⟨cd, q1, q2.ext E, q3, fun i v fd g1 g2 => by obtain ⟨w, z1, z2⟩ := q4 i v fd g1 g2; exact ⟨w, z1.mono, z2.ext E⟩⟩
  | .inr (.inl (_, _)), ⟨cl, q1, q2⟩ => exact ⟨cl, q1.ext E, q2⟩
  | .inr (.inr _), ⟨cl, q1, q2⟩ => exact ⟨cl, q1.ext E, q2⟩
theorem HR.push {c : ACell} (q : HR P Z n0 h ρ H) (E : Ext h h') (hc : CR P Z h' (ρ ++ [h.size]) h.size c) : HR P Z n0 h' (ρ ++ [h.size]) (H ++ [c]) := by
  have q0 := q
  obtain ⟨q1, q2, q3, q4, q5⟩ := q
  have old : ∀ (i : Nat) b, (ρ ++ [h.size])[i]? = some b → (ρ[i]? = some b ∧ b < h.size) ∨ (i = ρ.length ∧ b = h.size) := fun i b g => by
    rw [List.getElem?_append] at g
    split at g
    · exact Or.inl ⟨g, q0.lt g⟩
    · rename_i z
      right
      have : i - ρ.length = 0 := by
        rcases Nat.eq_zero_or_pos (i - ρ.length) with y | y
        · exact y
        · rw [List.getElem?_eq_none (by simp; omega)] at g; cases g
      rw [this] at g
      simp at g
      exact ⟨by omega, g.symm⟩
  refine ⟨Nat.le_trans q1 E.1, by simp [q2], fun i j b g1 g2 => ?_, fun i b g1 g2 => ?_, fun i b c' g1 g2 => ?_⟩
  · rcases old i b g1 with ⟨y1, y2⟩ | ⟨y1, y2⟩ <;> rcases old j b g2 with ⟨z1, z2⟩ | ⟨z1, z2⟩
    · exact q3 i j b y1 z1
    · exact absurd (z2 ▸ y2) (Nat.lt_irrefl _)
    · exact absurd (y2 ▸ z2) (Nat.lt_irrefl _)
    · rw [y1, z1]
  · rcases old i b g1 with ⟨y1, y2⟩ | ⟨y1, y2⟩
    · exact q4 i b y1 g2
    · rw [y2]; exact q1
  · rcases old i b g1 with ⟨y1, y2⟩ | ⟨y1, y2⟩
    · have hi : i < H.length := by rw [← q2]; exact (List.getElem?_eq_some_iff.mp y1).1
      rw [List.getElem?_append_left hi] at g2
      exact (q5 i b c' y1 g2).grow E
    · subst y1 y2
      rw [q2] at g2
      simp at g2
      subst g2
      exact hc
theorem CR.other {v : Value} {sl : Nat} {b : Addr} {c : ACell} (W : Wr h h' a sl v) (ne : b ≠ a) (q : CR P Z h ρ b c) : CR P Z h' ρ b c := by
  match c, q with
  | .inl (_, _), ⟨cd, q1, q2, q3, q4⟩ => exact ⟨cd, q1, q2.wr W, q3, fun i v fd g1 g2 => by obtain ⟨w, z1, z2⟩ := q4 i v fd g1 g2; exact ⟨w, z1, z2.other W (Or.inl ne)⟩⟩
  | .inr (.inl (_, _)), ⟨cl, q1, q2⟩ => exact ⟨cl, q1.other W ne, q2⟩
  | .inr (.inr _), ⟨cl, q1, q2⟩ => exact ⟨cl, q1.other W ne, q2⟩
theorem HR.set {v : Value} {sl : Nat} {c : ACell} (q : HR P Z n0 h ρ H) (hk : ρ[k]? = some a) (W : Wr h h' a sl v) (hc : CR P Z h' ρ a c) : HR P Z n0 h' ρ (H.set k c) := by
  obtain ⟨q1, q2, q3, q4, q5⟩ := q
  refine ⟨by rw [W.size]; exact q1, by simp [q2], q3, q4, fun i b c' g1 g2 => ?_⟩
  rw [List.getElem?_set] at g2
  split at g2
  · rename_i e
    subst e
    split at g2
    · cases g2
      rw [hk] at g1; cases g1
      exact hc
    · cases g2
  · rename_i e
    exact (q5 i b c' g1 g2).other W fun z => e (q3 k i a hk (z ▸ g1))
theorem nodup_ne : ∀ {l : List String}, nodup l = true → ∀ {i j : Nat} {x y : String}, l[i]? = some x → l[j]? = some y → i ≠ j → x ≠ y
  | [], _, i, j, x, y, h1, _, _ => by simp at h1
  | z :: r, hn, i, j, x, y, h1, h2, ne => by
    simp only [nodup, Bool.and_eq_true, Bool.not_eq_true', List.contains_eq_mem, decide_eq_false_iff_not] at hn
    match i, j, h1, h2, ne with
    | 0, 0, _, _, ne => exact absurd rfl ne
    | 0, j + 1, h1, h2, _ => simp at h1 h2; subst h1; exact fun e => hn.1 (e ▸ List.mem_of_getElem? h2)
    | i + 1, 0, h1, h2, _ => simp at h1 h2; subst h2; exact fun e => hn.1 (e ▸ List.mem_of_getElem? h1)
    | i + 1, j + 1, h1, h2, ne => simp at h1 h2; exact nodup_ne hn.2 h1 h2 (fun e => ne (by rw [e]))
theorem laid_of {C : String} {f : FD} (w : (fWord C f).before a0 Z = true) : Laid Z a0 C C f.1 f.2.1 := by
  unfold fWord at w
  split at w
  · exact Or.inr w
  · exact Or.inl w
theorem HR.putF {c j : Nat} {fs : List Value} {cd : CD} {fd : FD} {v w : Value} (q : HR P Z n0 h ρ H) (hk : ρ[k]? = some a) (hc : H[k]? = some (.inl (c, fs))) (hcd : P.cls[c]? = some cd) (hfd : cd.2.2[j]? = some fd)
    (hck : cChk cd = true) (hl : ∀ f ∈ cd.2.2, (fWord cd.1 f).before a0 Z = true) (W : Wr h h' a (RoadKit.slotOf Z cd.1 fd.1 fd.2.1) w) (hv : VR ρ v w) : HR P Z n0 h' ρ (H.set k (.inl (c, fs.set j v))) := by
  obtain ⟨a', ha, cr⟩ := q.at hc
  rw [hk] at ha; cases ha
  obtain ⟨cd', q1, q2, q3, q4⟩ := cr
  rw [hcd] at q1; cases q1
  refine q.set hk W ⟨cd, hcd, q2.wr W, by simp [q3], fun i v0 fd' g1 g2 => ?_⟩
  simp only [cChk, Bool.and_eq_true, List.all_eq_true] at hck
  obtain ⟨n1, n2⟩ := hck
  by_cases e : j = i
  · subst e
    rw [hfd] at g2; cases g2
    rw [List.getElem?_set] at g1
    split at g1
    · split at g1
      · cases g1
        rename_i z
        obtain ⟨w0, -, F⟩ := q4 j _ fd (List.getElem?_eq_getElem z) hfd
        exact ⟨w, hv, F.same W⟩
      · cases g1
    · rename_i z; exact absurd rfl z
  · rw [List.getElem?_set_ne e] at g1
    obtain ⟨w0, z1, F⟩ := q4 i v0 fd' g1 g2
    refine ⟨w0, z1, F.other W (Or.inr ?_)⟩
    have m1 := List.mem_of_getElem? hfd
    have m2 := List.mem_of_getElem? g2
    have f1 := n2 fd m1
    have f2 := n2 fd' m2
    simp only [fChk, Bool.and_eq_true, decide_eq_true_eq] at f1 f2
    refine slot_ne (laid_of (hl fd' m2)) (laid_of (hl fd m1)) ?_ f2.1 f1.1
    exact nodup_ne n1 (i := i) (j := j) (by simp [g2]) (by simp [hfd]) (fun z => e z.symm)
theorem HR.wrI {b : Bool} {L : List Int32} {i : Nat} {x : Int32} (q : HR P Z n0 h ρ H) (hk : ρ[k]? = some a) (hc : H[k]? = some (.inr (.inl (b, L)))) (W : Wr h h' a i (.int x)) : HR P Z n0 h' ρ (H.set k (.inr (.inl (b, L.set i x)))) := by
  obtain ⟨a', ha, cr⟩ := q.at hc
  rw [hk] at ha; cases ha
  obtain ⟨cl, A, q2, q3, q4⟩ := cr
  have lt : i < cl.slots.size := by
    obtain ⟨cl', z1, -, z3, -⟩ := W
    rw [A.1] at z1; cases z1
    exact z3
  refine q.set hk W ⟨_, A.same W, by simp [sz_set, q2], by simpa using q3, fun j y g => ?_⟩
  rw [List.getElem?_set] at g
  split at g
  · rename_i e
    subst e
    split at g
    · cases g; simp [Cell.setSlot, lt]
    · cases g
  · rename_i e
    have := q4 j y g
    simp [Cell.setSlot, Array.getElem?_setIfInBounds, e, this]
theorem HR.wrJ {L : List Int64} {i : Nat} {x : Int64} (q : HR P Z n0 h ρ H) (hk : ρ[k]? = some a) (hc : H[k]? = some (.inr (.inr L))) (W : Wr h h' a i (.long x)) : HR P Z n0 h' ρ (H.set k (.inr (.inr (L.set i x)))) := by
  obtain ⟨a', ha, cr⟩ := q.at hc
  rw [hk] at ha; cases ha
  obtain ⟨cl, A, q2, q3, q4⟩ := cr
  have lt : i < cl.slots.size := by
    obtain ⟨cl', z1, -, z3, -⟩ := W
    rw [A.1] at z1; cases z1
    exact z3
  refine q.set hk W ⟨_, A.same W, by simp [sz_set, q2], by simpa using q3, fun j y g => ?_⟩
  rw [List.getElem?_set] at g
  split at g
  · rename_i e
    subst e
    split at g
    · cases g; simp [Cell.setSlot, lt]
    · cases g
  · rename_i e
    have := q4 j y g
    simp [Cell.setSlot, Array.getElem?_setIfInBounds, e, this]
end Heaps
theorem SR.int {ρ : List Addr} {x : Int32} {S Sc : List Value} (h : SR ρ (.int x :: S) Sc) : ∃ Sc', Sc = .int x :: Sc' ∧ SR ρ S Sc' := by
  obtain ⟨w, ws, h1, h2, h3⟩ := h
  exact ⟨ws, by rw [h1, show w = .int x from h2], h3⟩
theorem SR.long {ρ : List Addr} {x : Int64} {S Sc : List Value} (h : SR ρ (.long x :: S) Sc) : ∃ Sc', Sc = .long x :: Sc' ∧ SR ρ S Sc' := by
  obtain ⟨w, ws, h1, h2, h3⟩ := h
  exact ⟨ws, by rw [h1, show w = .long x from h2], h3⟩
theorem SR.ref {ρ : List Addr} {x : Nat} {S Sc : List Value} (h : SR ρ (.ref x :: S) Sc) : ∃ a Sc', ρ[x]? = some a ∧ Sc = .ref a :: Sc' ∧ SR ρ S Sc' := by
  obtain ⟨w, ws, h1, ⟨a, h2, h4⟩, h3⟩ := h
  exact ⟨a, ws, h2, by rw [h1, h4], h3⟩
theorem rdA_spec {α : Type} {L : List α} {j : Int32} {x : α} (h : rdA L j = some x) : ¬ j < 0 ∧ L[j.toNatClampNeg]? = some x := by
  unfold rdA at h
  split at h
  · cases h
  · rename_i q; exact ⟨q, h⟩
theorem wrA_spec {α : Type} {L L' : List α} {j : Int32} {x : α} (h : wrA L j x = some L') : ¬ j < 0 ∧ j.toNatClampNeg < L.length ∧ L' = L.set j.toNatClampNeg x := by
  unfold wrA at h
  split at h
  · cases h
  · rename_i q
    split at h
    · rename_i z; cases h; exact ⟨q, z, rfl⟩
    · cases h
end Jvm.Own
namespace Jvm.Own
open Jvm Jvm.ClassFile Sem Op Lib Jvm.Free Jvm.Stand Jvm.LawKit Jvm.RoadKit Bundle
theorem st1_len {L L' : List Slot} {k : Nat} {v : Value} (h : st1 L k v = some L') : L'.length = L.length := by
  unfold st1 at h
  split at h
  · cases h; simp
  · cases h
theorem st2_len {L L' : List Slot} {k : Nat} {v : Value} (h : st2 L k v = some L') : L'.length = L.length := by
  unfold st2 at h
  split at h
  · cases h; simp
  · cases h
theorem lrem_mod (x y : Int64) : x - (x / y) * y = x % y := by
  apply Int64.toInt_inj.mp
  have h1 := Int64.le_toInt (x % y)
  have h2 := Int64.toInt_lt (x % y)
  rw [Int64.toInt_sub, Int64.toInt_mul, Int64.toInt_div, Int.bmod_mul_bmod, Int.sub_bmod_bmod, Int.mul_comm (x.toInt.tdiv y.toInt), ← Int.tmod_def, ← Int64.toInt_mod]
  exact Int.bmod_eq_of_le_mul_two (by omega) (by omega)
theorem putOk_sim {ρ : List Addr} {ty : FieldType} {v w : Value} (h : putOk ty v = true) (hv : VR ρ v w) : narrow ty w = w ∧ fits ty w = true := by
  cases ty <;> cases v <;> first | (simp [putOk] at h; done) | skip
  · cases hv; exact ⟨rfl, rfl⟩
  · cases hv; exact ⟨rfl, rfl⟩
  · rename_i x
    cases hv
    simp only [putOk, Bool.or_eq_true, beq_iff_eq] at h
    rcases h with rfl | rfl
    · exact ⟨rfl, rfl⟩
    · exact ⟨rfl, rfl⟩
  · obtain ⟨a, -, rfl⟩ := hv; exact ⟨rfl, rfl⟩
theorem dflt_sim {ρ : List Addr} {ty : FieldType} (h : dfOk ty = true) : VR ρ (dflt ty) (defaultValue ty) := by
  cases ty <;> first | (simp [dfOk] at h; done) | exact rfl
theorem fieldOf_spec {P : PD} {c a : Nat} {cd : CD} {f : FD} (h1 : P.cls[c]? = some cd) (h2 : cd.2.2[a]? = some f) : fieldOf P c a = some f := by simp [fieldOf, h1, h2]
theorem in_wordsOf {P : PD} {d : MD} {x : Nat × It} {w : Jvm.Cond} (hd : d ∈ P.mth) (hx : x ∈ d.code) (hw : w ∈ iWords P d x) : w ∈ wordsOf P :=
  List.mem_append_right _ (List.mem_flatMap.mpr ⟨d, hd, List.mem_flatMap.mpr ⟨x, hx, hw⟩⟩)
theorem in_wordsC {P : PD} {cd : CD} {w : Jvm.Cond} (hd : cd ∈ P.cls) (hw : w ∈ cWords cd) : w ∈ wordsOf P :=
  List.mem_append_left _ (List.mem_append_left _ (List.mem_flatMap.mpr ⟨cd, hd, hw⟩))
theorem in_wordsM {P : PD} {y : MD} {j : Nat} {w : Jvm.Cond} (hd : P.mth[j]? = some y) (hj : 0 < j) (hw : w ∈ mWords y) : w ∈ wordsOf P := by
  refine List.mem_append_left _ (List.mem_append_right _ (List.mem_flatMap.mpr ⟨y, ?_, hw⟩))
  have : (P.mth.drop 1)[j - 1]? = some y := by rw [List.getElem?_drop]; rw [show 1 + (j - 1) = j by omega]; exact hd
  exact List.mem_of_getElem? this
theorem fWord_in {cd : CD} {f : FD} (h : f ∈ cd.2.2) : fWord cd.1 f ∈ cWords cd := List.mem_cons_of_mem _ (List.mem_cons_of_mem _ (List.mem_map.mpr ⟨f, h, rfl⟩))
theorem cChk_of {P : PD} (hP : chk P = true) {cd : CD} (h : cd ∈ P.cls) : cChk cd = true := by
  simp only [chk, Bool.and_eq_true, List.all_eq_true] at hP
  exact hP.1 cd h
theorem mChk_of {P : PD} (hP : chk P = true) {d : MD} (h : d ∈ P.mth) : mChk P d = true := by
  simp only [chk, Bool.and_eq_true, List.all_eq_true] at hP
  exact hP.2 d h
theorem cid_of {P : PD} (hP : chk P = true) {d : MD} (h : d ∈ P.mth) {cd : CD} (hc : P.cls[d.cid]? = some cd) : cd.1 = d.name.cls := by
  have := mChk_of hP h
  simp only [mChk, Bool.and_eq_true] at this
  have h4 := this.1.1.1.2
  unfold clsChk at h4
  rw [hc] at h4
  simpa using h4
section Step
variable {P : PD} {Z : State} {n0 : Nat} {a0 : Array Value} {l : Launch} {p : Program} {e : Env} {R : Room} {s : State} {m : MethodId} {args : Array Value} {below : List Frame} {meth : Method} {c : Code} {T : State} {locs : List Loc} {cells slots : Nat} {d : MD}
def Nxt (P : PD) (Z : State) (n0 : Nat) (l : Launch) (p : Program) (e : Env) (R : Room) (s : State) (m : MethodId) (args : Array Value) (below : List Frame) (meth : Method) (c : Code) (T : State) (cells slots : Nat) (ρ : List Addr) (g : JFrame) (pc' : Nat) (L L' : List Slot) (S' : List Value) (H1 : AHeap) : Prop :=
  ∃ T' locs' A' Sc', Stand p l e R s m args below meth c T' locs' cells slots ∧ L'.length = L.length ∧ LR ρ L' A' ∧ SR ρ S' Sc' ∧ HR P Z n0 T'.heap ρ H1 ∧ Fr n0 locs' ∧
    ∀ target, Steps p.tables e below (T'.setTop (mkF m pc' A' Sc')) target → Steps p.tables e below (T.setTop g) target
theorem Nxt.pure {ρ : List Addr} {H : AHeap} {g : JFrame} {pc' : Nat} {L L' : List Slot} {S' Sc' : List Value} {A' : Array Slot} (X : Stand p l e R s m args below meth c T locs cells slots) (hl : L'.length = L.length) (hL : LR ρ L' A') (hS : SR ρ S' Sc') (hH : HR P Z n0 T.heap ρ H) (hF : Fr n0 locs)
    (k : ∀ target, Steps p.tables e below (T.setTop (mkF m pc' A' Sc')) target → Steps p.tables e below (T.setTop g) target) : Nxt P Z n0 l p e R s m args below meth c T cells slots ρ g pc' L L' S' H :=
  ⟨T, locs, A', Sc', X, hl, hL, hS, hH, hF, k⟩
theorem Nxt.mem {ρ : List Addr} {H1 : AHeap} {g : JFrame} {pc' : Nat} {L L' : List Slot} {S' Sc' : List Value} {A' : Array Slot} {T' : State} {locs' : List Loc} (X : Stand p l e R s m args below meth c T' locs' cells slots) (hl : L'.length = L.length) (hL : LR ρ L' A') (hS : SR ρ S' Sc') (hH : HR P Z n0 T'.heap ρ H1) (hF : Fr n0 locs')
    (k : ∀ target, Steps p.tables e below (T'.setTop (mkF m pc' A' Sc')) target → Steps p.tables e below (T.setTop g) target) : Nxt P Z n0 l p e R s m args below meth c T cells slots ρ g pc' L L' S' H1 :=
  ⟨T', locs', A', Sc', X, hl, hL, hS, hH, hF, k⟩
set_option maxHeartbeats 4000000 in
theorem stepX (X : Stand p l e R s m args below meth c T locs cells slots) (hx : p.tables.exec = Jvm.exec) (hZ : Z.Warmed39 s.vm) (hown : s.vm.findClass d.name.cls = some m.cls) (hnm : meth.name = d.name.name) (hP : chk P = true) (hW : ∀ w ∈ wordsOf P, w.before a0 Z = true) (hdm : d ∈ P.mth)
    {pc len a : Nat} {er : List Bool} {b : Int} {i : Instr} (hit : (pc, i, len, er, a, b) ∈ d.code) (hd : decode c.code pc = .ok (i, len)) (hlen : lenOk i len = true) {ρ : List Addr} {L L' : List Slot} {S S' Sc : List Value} {H H1 : AHeap} {A : Array Slot}
    (hL : LR ρ L A) (hS : SR ρ S Sc) (hH : HR P Z n0 T.heap ρ H) (hF : Fr n0 locs) (h : xI P (d.name.name == "<init>") d.cid i a b L S H = some (L', S', H1)) :
    Nxt P Z n0 l p e R s m args below meth c T cells slots ρ (mkF m pc A Sc) (pc + len) L L' S' H1 := by
  have hWi : ∀ w ∈ iWords P d (pc, i, len, er, a, b), w.before a0 Z = true := fun w q => hW w (in_wordsOf hdm hit q)
  cases i with
  | aload_n k =>
    obtain rfl : len = 1 := by simpa [lenOk] using hlen
    simp only [xI] at h
    split at h
    · rename_i x q
      cases h
      obtain ⟨w, hv, hg⟩ := hL.get q
      obtain ⟨ad, h1, rfl⟩ := hv
      exact Nxt.pure X rfl hL ⟨_, _, rfl, ⟨ad, h1, rfl⟩, hS⟩ hH hF (fun t z => XS.aloadN (g := mkF m pc A Sc) X.here hx rfl hd hg rfl z)
    · cases h
  | aload k =>
    obtain rfl : len = 2 := by simpa [lenOk] using hlen
    simp only [xI] at h
    split at h
    · rename_i x q
      cases h
      obtain ⟨w, hv, hg⟩ := hL.get q
      obtain ⟨ad, h1, rfl⟩ := hv
      exact Nxt.pure X rfl hL ⟨_, _, rfl, ⟨ad, h1, rfl⟩, hS⟩ hH hF (fun t z => XS.aload (g := mkF m pc A Sc) X.here hx rfl hd hg rfl z)
    · cases h
  | iload_n k =>
    obtain rfl : len = 1 := by simpa [lenOk] using hlen
    simp only [xI] at h
    split at h
    · rename_i x q
      cases h
      obtain ⟨w, hv, hg⟩ := hL.get q
      obtain rfl : w = .int _ := hv
      exact Nxt.pure X rfl hL ⟨_, _, rfl, rfl, hS⟩ hH hF (fun t z => XS.iloadN (g := mkF m pc A Sc) X.here hx rfl hd hg z)
    · cases h
  | iload k =>
    obtain rfl : len = 2 := by simpa [lenOk] using hlen
    simp only [xI] at h
    split at h
    · rename_i x q
      cases h
      obtain ⟨w, hv, hg⟩ := hL.get q
      obtain rfl : w = .int _ := hv
      exact Nxt.pure X rfl hL ⟨_, _, rfl, rfl, hS⟩ hH hF (fun t z => XS.iload (g := mkF m pc A Sc) X.here hx rfl hd hg z)
    · cases h
  | lload_n k =>
    obtain rfl : len = 1 := by simpa [lenOk] using hlen
    simp only [xI] at h
    split at h
    · rename_i x q
      cases h
      obtain ⟨w, hv, hg⟩ := hL.get q
      obtain rfl : w = .long _ := hv
      exact Nxt.pure X rfl hL ⟨_, _, rfl, rfl, hS⟩ hH hF (fun t z => XT.lloadN (g := mkF m pc A Sc) X.here hx rfl hd hg z)
    · cases h
  | lload k =>
    obtain rfl : len = 2 := by simpa [lenOk] using hlen
    simp only [xI] at h
    split at h
    · rename_i x q
      cases h
      obtain ⟨w, hv, hg⟩ := hL.get q
      obtain rfl : w = .long _ := hv
      exact Nxt.pure X rfl hL ⟨_, _, rfl, rfl, hS⟩ hH hF (fun t z => XT.lload (g := mkF m pc A Sc) X.here hx rfl hd hg z)
    · cases h
  | istore_n k =>
    obtain rfl : len = 1 := by simpa [lenOk] using hlen
    simp only [xI] at h
    split at h
    · rename_i x S0
      obtain ⟨L1, q, e1⟩ := Option.map_eq_some_iff.mp h
      cases e1
      obtain ⟨S2, rfl, h2⟩ := hS.int
      obtain ⟨A', z1, z2⟩ := store1_sim hL q (show VR ρ (.int x) (.int x) from rfl) rfl
      exact Nxt.pure X (st1_len q) z2 h2 hH hF (fun t z => XS.istoreN (g := mkF m pc A _) X.here hx rfl hd rfl z1 z)
    · cases h
  | istore k =>
    obtain rfl : len = 2 := by simpa [lenOk] using hlen
    simp only [xI] at h
    split at h
    · rename_i x S0
      obtain ⟨L1, q, e1⟩ := Option.map_eq_some_iff.mp h
      cases e1
      obtain ⟨S2, rfl, h2⟩ := hS.int
      obtain ⟨A', z1, z2⟩ := store1_sim hL q (show VR ρ (.int x) (.int x) from rfl) rfl
      exact Nxt.pure X (st1_len q) z2 h2 hH hF (fun t z => XS.istore (g := mkF m pc A _) X.here hx rfl hd rfl z1 z)
    · cases h
  | astore_n k =>
    obtain rfl : len = 1 := by simpa [lenOk] using hlen
    simp only [xI] at h
    split at h
    · rename_i x S0
      obtain ⟨L1, q, e1⟩ := Option.map_eq_some_iff.mp h
      cases e1
      obtain ⟨ad, S2, h1, rfl, h2⟩ := hS.ref
      obtain ⟨A', z1, z2⟩ := store1_sim hL q (show VR ρ (.ref x) (.ref ad) from ⟨ad, h1, rfl⟩) rfl
      exact Nxt.pure X (st1_len q) z2 h2 hH hF (fun t z => XS.astoreN (g := mkF m pc A _) X.here hx rfl hd rfl rfl z1 z)
    · cases h
  | astore k =>
    obtain rfl : len = 2 := by simpa [lenOk] using hlen
    simp only [xI] at h
    split at h
    · rename_i x S0
      obtain ⟨L1, q, e1⟩ := Option.map_eq_some_iff.mp h
      cases e1
      obtain ⟨ad, S2, h1, rfl, h2⟩ := hS.ref
      obtain ⟨A', z1, z2⟩ := store1_sim hL q (show VR ρ (.ref x) (.ref ad) from ⟨ad, h1, rfl⟩) rfl
      exact Nxt.pure X (st1_len q) z2 h2 hH hF (fun t z => XS.astore (g := mkF m pc A _) X.here hx rfl hd rfl rfl z1 z)
    · cases h
  | lstore_n k =>
    obtain rfl : len = 1 := by simpa [lenOk] using hlen
    simp only [xI] at h
    split at h
    · rename_i x S0
      obtain ⟨L1, q, e1⟩ := Option.map_eq_some_iff.mp h
      cases e1
      obtain ⟨S2, rfl, h2⟩ := hS.long
      obtain ⟨A', z1, z2⟩ := store2_sim hL q (show VR ρ (.long x) (.long x) from rfl) rfl
      exact Nxt.pure X (st2_len q) z2 h2 hH hF (fun t z => XT.lstoreN (g := mkF m pc A _) X.here hx rfl hd rfl z1 z)
    · cases h
  | lstore k =>
    obtain rfl : len = 2 := by simpa [lenOk] using hlen
    simp only [xI] at h
    split at h
    · rename_i x S0
      obtain ⟨L1, q, e1⟩ := Option.map_eq_some_iff.mp h
      cases e1
      obtain ⟨S2, rfl, h2⟩ := hS.long
      obtain ⟨A', z1, z2⟩ := store2_sim hL q (show VR ρ (.long x) (.long x) from rfl) rfl
      exact Nxt.pure X (st2_len q) z2 h2 hH hF (fun t z => XT.lstore (g := mkF m pc A _) X.here hx rfl hd rfl z1 z)
    · cases h
  | iinc k dd =>
    obtain rfl : len = 3 := by simpa [lenOk] using hlen
    simp only [xI] at h
    split at h
    · rename_i x q0
      obtain ⟨L1, q, e1⟩ := Option.map_eq_some_iff.mp h
      cases e1
      obtain ⟨w, hv, hg⟩ := hL.get q0
      obtain rfl : w = .int _ := hv
      obtain ⟨A', z1, z2⟩ := store1_sim hL q (show VR ρ (.int (x + Int32.ofInt dd)) (.int (x + Int32.ofInt dd)) from rfl) rfl
      exact Nxt.pure X (st1_len q) z2 hS hH hF (fun t z => XS.iinc (g := mkF m pc A Sc) X.here hx rfl hd hg z1 z)
    · cases h
  | iconst v =>
    obtain rfl : len = 1 := by simpa [lenOk] using hlen
    simp only [xI] at h
    cases h
    exact Nxt.pure X rfl hL ⟨_, _, rfl, rfl, hS⟩ hH hF (fun t z => XS.iconst (g := mkF m pc A Sc) X.here hx rfl hd z)
  | bipush v =>
    obtain rfl : len = 2 := by simpa [lenOk] using hlen
    simp only [xI] at h
    cases h
    exact Nxt.pure X rfl hL ⟨_, _, rfl, rfl, hS⟩ hH hF (fun t z => XS.bipush (g := mkF m pc A Sc) X.here hx rfl hd z)
  | sipush v =>
    obtain rfl : len = 3 := by simpa [lenOk] using hlen
    simp only [xI] at h
    cases h
    exact Nxt.pure X rfl hL ⟨_, _, rfl, rfl, hS⟩ hH hF (fun t z => XS.sipush (g := mkF m pc A Sc) X.here hx rfl hd z)
  | lconst v =>
    obtain rfl : len = 1 := by simpa [lenOk] using hlen
    simp only [xI] at h
    cases h
    exact Nxt.pure X rfl hL ⟨_, _, rfl, rfl, hS⟩ hH hF (fun t z => XT.lconst (g := mkF m pc A Sc) X.here hx rfl hd z)
  | ldc k =>
    obtain rfl : len = 2 := by simpa [lenOk] using hlen
    simp only [xI] at h
    cases h
    have w1 := hWi (.constant d.name.cls k (Int32.ofInt b)) (List.mem_singleton.mpr rfl)
    exact Nxt.pure X rfl hL ⟨_, _, rfl, rfl, hS⟩ hH hF (fun t z => X.ldcInt hx hown (mvT hZ w1) (g := mkF m pc A Sc) rfl hd t z)
  | ldc2_w k =>
    obtain rfl : len = 3 := by simpa [lenOk] using hlen
    simp only [xI] at h
    cases h
    have w1 := hWi (.constantLong d.name.cls k (Int64.ofInt b)) (List.mem_singleton.mpr rfl)
    exact Nxt.pure X rfl hL ⟨_, _, rfl, rfl, hS⟩ hH hF (fun t z => X.ldc2Long hx hown (mvT hZ w1) (g := mkF m pc A Sc) rfl hd t z)
  | iadd =>
    obtain rfl : len = 1 := by simpa [lenOk] using hlen
    simp only [xI] at h
    split at h
    · rename_i y x S0
      cases h
      obtain ⟨S1, rfl, h1⟩ := hS.int
      obtain ⟨S2, rfl, h2⟩ := h1.int
      exact Nxt.pure X rfl hL ⟨_, _, rfl, rfl, h2⟩ hH hF (fun t z => XS.iadd (g := mkF m pc A _) X.here hx rfl hd rfl z)
    · cases h
  | isub =>
    obtain rfl : len = 1 := by simpa [lenOk] using hlen
    simp only [xI] at h
    split at h
    · rename_i y x S0
      cases h
      obtain ⟨S1, rfl, h1⟩ := hS.int
      obtain ⟨S2, rfl, h2⟩ := h1.int
      exact Nxt.pure X rfl hL ⟨_, _, rfl, rfl, h2⟩ hH hF (fun t z => XS.isub (g := mkF m pc A _) X.here hx rfl hd rfl z)
    · cases h
  | imul =>
    obtain rfl : len = 1 := by simpa [lenOk] using hlen
    simp only [xI] at h
    split at h
    · rename_i y x S0
      cases h
      obtain ⟨S1, rfl, h1⟩ := hS.int
      obtain ⟨S2, rfl, h2⟩ := h1.int
      exact Nxt.pure X rfl hL ⟨_, _, rfl, rfl, h2⟩ hH hF (fun t z => XS.imul (g := mkF m pc A _) X.here hx rfl hd rfl z)
    · cases h
  | iand =>
    obtain rfl : len = 1 := by simpa [lenOk] using hlen
    simp only [xI] at h
    split at h
    · rename_i y x S0
      cases h
      obtain ⟨S1, rfl, h1⟩ := hS.int
      obtain ⟨S2, rfl, h2⟩ := h1.int
      exact Nxt.pure X rfl hL ⟨_, _, rfl, rfl, h2⟩ hH hF (fun t z => XS.iand (g := mkF m pc A _) X.here hx rfl hd rfl z)
    · cases h
  | ior =>
    obtain rfl : len = 1 := by simpa [lenOk] using hlen
    simp only [xI] at h
    split at h
    · rename_i y x S0
      cases h
      obtain ⟨S1, rfl, h1⟩ := hS.int
      obtain ⟨S2, rfl, h2⟩ := h1.int
      exact Nxt.pure X rfl hL ⟨_, _, rfl, rfl, h2⟩ hH hF (fun t z => XT.ior (g := mkF m pc A _) X.here hx rfl hd rfl z)
    · cases h
  | ixor =>
    obtain rfl : len = 1 := by simpa [lenOk] using hlen
    simp only [xI] at h
    split at h
    · rename_i y x S0
      cases h
      obtain ⟨S1, rfl, h1⟩ := hS.int
      obtain ⟨S2, rfl, h2⟩ := h1.int
      exact Nxt.pure X rfl hL ⟨_, _, rfl, rfl, h2⟩ hH hF (fun t z => XT.ixor (g := mkF m pc A _) X.here hx rfl hd rfl z)
    · cases h
  | ishl =>
    obtain rfl : len = 1 := by simpa [lenOk] using hlen
    simp only [xI] at h
    split at h
    · rename_i y x S0
      cases h
      obtain ⟨S1, rfl, h1⟩ := hS.int
      obtain ⟨S2, rfl, h2⟩ := h1.int
      exact Nxt.pure X rfl hL ⟨_, _, rfl, rfl, h2⟩ hH hF (fun t z => XT.ishl (g := mkF m pc A _) X.here hx rfl hd rfl z)
    · cases h
  | ishr =>
    obtain rfl : len = 1 := by simpa [lenOk] using hlen
    simp only [xI] at h
    split at h
    · rename_i y x S0
      cases h
      obtain ⟨S1, rfl, h1⟩ := hS.int
      obtain ⟨S2, rfl, h2⟩ := h1.int
      exact Nxt.pure X rfl hL ⟨_, _, rfl, rfl, h2⟩ hH hF (fun t z => XT.ishr (g := mkF m pc A _) X.here hx rfl hd rfl z)
    · cases h
  | iushr =>
    obtain rfl : len = 1 := by simpa [lenOk] using hlen
    simp only [xI] at h
    split at h
    · rename_i y x S0
      cases h
      obtain ⟨S1, rfl, h1⟩ := hS.int
      obtain ⟨S2, rfl, h2⟩ := h1.int
      exact Nxt.pure X rfl hL ⟨_, _, rfl, rfl, h2⟩ hH hF (fun t z => XT.iushr (g := mkF m pc A _) X.here hx rfl hd rfl z)
    · cases h
  | ladd =>
    obtain rfl : len = 1 := by simpa [lenOk] using hlen
    simp only [xI] at h
    split at h
    · rename_i y x S0
      cases h
      obtain ⟨S1, rfl, h1⟩ := hS.long
      obtain ⟨S2, rfl, h2⟩ := h1.long
      exact Nxt.pure X rfl hL ⟨_, _, rfl, rfl, h2⟩ hH hF (fun t z => XT.ladd (g := mkF m pc A _) X.here hx rfl hd rfl z)
    · cases h
  | lsub =>
    obtain rfl : len = 1 := by simpa [lenOk] using hlen
    simp only [xI] at h
    split at h
    · rename_i y x S0
      cases h
      obtain ⟨S1, rfl, h1⟩ := hS.long
      obtain ⟨S2, rfl, h2⟩ := h1.long
      exact Nxt.pure X rfl hL ⟨_, _, rfl, rfl, h2⟩ hH hF (fun t z => XT.lsub (g := mkF m pc A _) X.here hx rfl hd rfl z)
    · cases h
  | lmul =>
    obtain rfl : len = 1 := by simpa [lenOk] using hlen
    simp only [xI] at h
    split at h
    · rename_i y x S0
      cases h
      obtain ⟨S1, rfl, h1⟩ := hS.long
      obtain ⟨S2, rfl, h2⟩ := h1.long
      exact Nxt.pure X rfl hL ⟨_, _, rfl, rfl, h2⟩ hH hF (fun t z => XT.lmul (g := mkF m pc A _) X.here hx rfl hd rfl z)
    · cases h
  | land =>
    obtain rfl : len = 1 := by simpa [lenOk] using hlen
    simp only [xI] at h
    split at h
    · rename_i y x S0
      cases h
      obtain ⟨S1, rfl, h1⟩ := hS.long
      obtain ⟨S2, rfl, h2⟩ := h1.long
      exact Nxt.pure X rfl hL ⟨_, _, rfl, rfl, h2⟩ hH hF (fun t z => XT.land (g := mkF m pc A _) X.here hx rfl hd rfl z)
    · cases h
  | lor =>
    obtain rfl : len = 1 := by simpa [lenOk] using hlen
    simp only [xI] at h
    split at h
    · rename_i y x S0
      cases h
      obtain ⟨S1, rfl, h1⟩ := hS.long
      obtain ⟨S2, rfl, h2⟩ := h1.long
      exact Nxt.pure X rfl hL ⟨_, _, rfl, rfl, h2⟩ hH hF (fun t z => XT.lor (g := mkF m pc A _) X.here hx rfl hd rfl z)
    · cases h
  | lxor =>
    obtain rfl : len = 1 := by simpa [lenOk] using hlen
    simp only [xI] at h
    split at h
    · rename_i y x S0
      cases h
      obtain ⟨S1, rfl, h1⟩ := hS.long
      obtain ⟨S2, rfl, h2⟩ := h1.long
      exact Nxt.pure X rfl hL ⟨_, _, rfl, rfl, h2⟩ hH hF (fun t z => XT.lxor (g := mkF m pc A _) X.here hx rfl hd rfl z)
    · cases h
  | lcmp =>
    obtain rfl : len = 1 := by simpa [lenOk] using hlen
    simp only [xI] at h
    split at h
    · rename_i y x S0
      cases h
      obtain ⟨S1, rfl, h1⟩ := hS.long
      obtain ⟨S2, rfl, h2⟩ := h1.long
      exact Nxt.pure X rfl hL ⟨_, _, rfl, rfl, h2⟩ hH hF (fun t z => XT.lcmp (g := mkF m pc A _) X.here hx rfl hd rfl z)
    · cases h
  | lshl =>
    obtain rfl : len = 1 := by simpa [lenOk] using hlen
    simp only [xI] at h
    split at h
    · rename_i y x S0
      cases h
      obtain ⟨S1, rfl, h1⟩ := hS.int
      obtain ⟨S2, rfl, h2⟩ := h1.long
      exact Nxt.pure X rfl hL ⟨_, _, rfl, rfl, h2⟩ hH hF (fun t z => XT.lshl (g := mkF m pc A _) X.here hx rfl hd rfl z)
    · cases h
  | lshr =>
    obtain rfl : len = 1 := by simpa [lenOk] using hlen
    simp only [xI] at h
    split at h
    · rename_i y x S0
      cases h
      obtain ⟨S1, rfl, h1⟩ := hS.int
      obtain ⟨S2, rfl, h2⟩ := h1.long
      exact Nxt.pure X rfl hL ⟨_, _, rfl, rfl, h2⟩ hH hF (fun t z => XT.lshr (g := mkF m pc A _) X.here hx rfl hd rfl z)
    · cases h
  | lushr =>
    obtain rfl : len = 1 := by simpa [lenOk] using hlen
    simp only [xI] at h
    split at h
    · rename_i y x S0
      cases h
      obtain ⟨S1, rfl, h1⟩ := hS.int
      obtain ⟨S2, rfl, h2⟩ := h1.long
      exact Nxt.pure X rfl hL ⟨_, _, rfl, rfl, h2⟩ hH hF (fun t z => XT.lushr (g := mkF m pc A _) X.here hx rfl hd rfl z)
    · cases h
  | idiv =>
    obtain rfl : len = 1 := by simpa [lenOk] using hlen
    simp only [xI] at h
    split at h
    · rename_i y x S0
      split at h
      · cases h
      · rename_i hy
        cases h
        obtain ⟨S1, rfl, h1⟩ := hS.int
        obtain ⟨S2, rfl, h2⟩ := h1.int
        exact Nxt.pure X rfl hL ⟨_, _, rfl, rfl, h2⟩ hH hF (fun t z => XS.idiv (g := mkF m pc A _) X.here hx rfl hd rfl hy z)
    · cases h
  | irem =>
    obtain rfl : len = 1 := by simpa [lenOk] using hlen
    simp only [xI] at h
    split at h
    · rename_i y x S0
      split at h
      · cases h
      · rename_i hy
        cases h
        obtain ⟨S1, rfl, h1⟩ := hS.int
        obtain ⟨S2, rfl, h2⟩ := h1.int
        exact Nxt.pure X rfl hL ⟨_, _, rfl, rfl, h2⟩ hH hF (fun t z => iremM (g := mkF m pc A _) X hx rfl hd rfl hy z)
    · cases h
  | ldiv =>
    obtain rfl : len = 1 := by simpa [lenOk] using hlen
    simp only [xI] at h
    split at h
    · rename_i y x S0
      split at h
      · cases h
      · rename_i hy
        cases h
        obtain ⟨S1, rfl, h1⟩ := hS.long
        obtain ⟨S2, rfl, h2⟩ := h1.long
        exact Nxt.pure X rfl hL ⟨_, _, rfl, rfl, h2⟩ hH hF (fun t z => XT.ldiv (g := mkF m pc A _) X.here hx rfl hd rfl hy z)
    · cases h
  | lrem =>
    obtain rfl : len = 1 := by simpa [lenOk] using hlen
    simp only [xI] at h
    split at h
    · rename_i y x S0
      split at h
      · cases h
      · rename_i hy
        cases h
        obtain ⟨S1, rfl, h1⟩ := hS.long
        obtain ⟨S2, rfl, h2⟩ := h1.long
        exact Nxt.pure X rfl hL ⟨_, _, rfl, rfl, h2⟩ hH hF (fun t z => XT.lrem (g := mkF m pc A _) X.here hx rfl hd rfl hy (by rw [lrem_mod]; exact z))
    · cases h
  | i2l =>
    obtain rfl : len = 1 := by simpa [lenOk] using hlen
    simp only [xI] at h
    split at h
    · rename_i x S0
      cases h
      obtain ⟨S1, rfl, h1⟩ := hS.int
      exact Nxt.pure X rfl hL ⟨_, _, rfl, rfl, h1⟩ hH hF (fun t z => XT.i2l (g := mkF m pc A _) X.here hx rfl hd rfl z)
    · cases h
  | l2i =>
    obtain rfl : len = 1 := by simpa [lenOk] using hlen
    simp only [xI] at h
    split at h
    · rename_i x S0
      cases h
      obtain ⟨S1, rfl, h1⟩ := hS.long
      exact Nxt.pure X rfl hL ⟨_, _, rfl, rfl, h1⟩ hH hF (fun t z => XT.l2i (g := mkF m pc A _) X.here hx rfl hd rfl z)
    · cases h
  | dup =>
    obtain rfl : len = 1 := by simpa [lenOk] using hlen
    simp only [xI] at h
    split at h
    · rename_i x S0
      cases h
      obtain ⟨S1, rfl, h1⟩ := hS.int
      exact Nxt.pure X rfl hL ⟨_, _, rfl, rfl, _, _, rfl, rfl, h1⟩ hH hF (fun t z => XS.dup (g := mkF m pc A _) X.here hx rfl hd rfl rfl z)
    · rename_i x S0
      cases h
      obtain ⟨ad, S1, g1, rfl, h1⟩ := hS.ref
      exact Nxt.pure X rfl hL ⟨_, _, rfl, ⟨ad, g1, rfl⟩, _, _, rfl, ⟨ad, g1, rfl⟩, h1⟩ hH hF (fun t z => XS.dup (g := mkF m pc A _) X.here hx rfl hd rfl rfl z)
    · cases h
  | dup2 =>
    obtain rfl : len = 1 := by simpa [lenOk] using hlen
    simp only [xI] at h
    split at h
    · rename_i x y S0
      cases h
      obtain ⟨S1, rfl, h1⟩ := hS.int
      obtain ⟨ad, S2, g1, rfl, h2⟩ := h1.ref
      exact Nxt.pure X rfl hL ⟨_, _, rfl, rfl, _, _, rfl, ⟨ad, g1, rfl⟩, _, _, rfl, rfl, _, _, rfl, ⟨ad, g1, rfl⟩, h2⟩ hH hF (fun t z => XT.dup2 (g := mkF m pc A _) X.here hx rfl hd rfl rfl rfl z)
    · rename_i x S0
      cases h
      obtain ⟨S1, rfl, h1⟩ := hS.long
      exact Nxt.pure X rfl hL ⟨_, _, rfl, rfl, _, _, rfl, rfl, h1⟩ hH hF (fun t z => XT.dup2L (g := mkF m pc A _) X.here hx rfl hd rfl z)
    · cases h
  | pop =>
    obtain rfl : len = 1 := by simpa [lenOk] using hlen
    simp only [xI] at h
    split at h
    · rename_i x S0
      cases h
      obtain ⟨S1, rfl, h1⟩ := hS.int
      exact Nxt.pure X rfl hL h1 hH hF (fun t z => XT.pop (g := mkF m pc A _) X.here hx rfl hd rfl rfl z)
    · cases h
  | getfield k =>
    obtain rfl : len = 3 := by simpa [lenOk] using hlen
    simp only [xI] at h
    split at h
    · rename_i o S0
      obtain ⟨ad, S1, g1, rfl, h1⟩ := hS.ref
      split at h
      · rename_i c0 fs hc0
        split at h
        · rename_i ec
          subst ec
          obtain ⟨ad', g2, cd, q1, q2, q3, q4⟩ := hH.at hc0
          rw [g1] at g2; cases g2
          have hcd := cid_of hP hdm q1
          have core : ∀ v, fs[a]? = some v → ∃ w T2, VR ρ v w ∧ Stand p l e R s m args below meth c T2 locs cells slots ∧ T2.heap = T.heap ∧ ∀ target, Steps p.tables e below (T2.setTop (mkF m (pc + 3) A (w :: S1))) target → Steps p.tables e below (T.setTop (mkF m pc A (.ref ad :: S1))) target := fun v hv => by
            have ha : a < cd.2.2.length := by rw [← q3]; exact (List.getElem?_eq_some_iff.mp hv).1
            obtain ⟨w, hvw, F⟩ := q4 a v _ hv (List.getElem?_eq_getElem ha)
            have w1 := hWi (.fieldLink d.name.cls k d.name.cls cd.2.2[a].1 cd.2.2[a].2.1) (by
              show _ ∈ fLink P d k a
              unfold fLink
              rw [fieldOf_spec q1 (List.getElem?_eq_getElem ha)]
              exact List.mem_singleton.mpr rfl)
            rw [hcd] at F
            obtain ⟨T2, X2, e2, st2⟩ := getF X hx hZ hown (host := "") (Or.inl w1) Via.refl rfl F (g := mkF m pc A (.ref ad :: S1)) rfl rfl hd
            exact ⟨w, T2, hvw, X2, e2, st2⟩
          split at h
          · rename_i x hv
            cases h
            obtain ⟨w, T2, hvw, X2, e2, st2⟩ := core _ hv
            exact Nxt.mem X2 rfl hL ⟨_, _, rfl, hvw, h1⟩ (by rw [e2]; exact hH) hF st2
          · rename_i x hv
            cases h
            obtain ⟨w, T2, hvw, X2, e2, st2⟩ := core _ hv
            exact Nxt.mem X2 rfl hL ⟨_, _, rfl, hvw, h1⟩ (by rw [e2]; exact hH) hF st2
          · rename_i x hv
            cases h
            obtain ⟨w, T2, hvw, X2, e2, st2⟩ := core _ hv
            exact Nxt.mem X2 rfl hL ⟨_, _, rfl, hvw, h1⟩ (by rw [e2]; exact hH) hF st2
          · cases h
        · cases h
      · cases h
    · cases h
  | putfield k =>
    obtain rfl : len = 3 := by simpa [lenOk] using hlen
    simp only [xI] at h
    split at h
    · rename_i v o S0
      obtain ⟨w, Sx, rfl, hvw, hS1⟩ := hS
      obtain ⟨ad, S1, g1, rfl, h1⟩ := hS1.ref
      split at h
      · rename_i c0 fs hc0
        split at h
        · rename_i ec
          obtain ⟨ec, enr⟩ := ec
          subst ec
          split at h
          · rename_i nm ds ty fin hf
            split at h
            · rename_i hok
              cases h
              simp only [Bool.and_eq_true] at hok
              obtain ⟨hok, hfin⟩ := hok
              obtain ⟨ad', g2, cd, q1, q2, q3, q4⟩ := hH.at hc0
              rw [g1] at g2; cases g2
              have hcd := cid_of hP hdm q1
              rw [q1] at hf
              have hf' : cd.2.2[a]? = some (nm, ds, ty, fin) := hf
              have ha : a < fs.length := by rw [q3]; exact (List.getElem?_eq_some_iff.mp hf').1
              obtain ⟨w0, -, F⟩ := q4 a _ _ (List.getElem?_eq_getElem ha) hf'
              have w1 := hWi (.fieldLink d.name.cls k d.name.cls nm ds) (by
                show _ ∈ fLink P d k a
                unfold fLink
                rw [fieldOf_spec q1 hf']
                exact List.mem_singleton.mpr rfl)
              have hcm : cd ∈ P.cls := List.mem_of_getElem? q1
              have w2 := hW _ (in_wordsC hcm (fWord_in (List.mem_of_getElem? hf')))
              have w3 := hW (.instantiable cd.1 cd.2.1) (in_wordsC hcm (List.mem_cons_self ..))
              have hck := cChk_of hP hcm
              have hck' := hck
              simp only [cChk, Bool.and_eq_true, List.all_eq_true] at hck'
              have f1 := hck'.2 _ (List.mem_of_getElem? hf')
              simp only [fChk, Bool.and_eq_true, decide_eq_true_eq] at f1
              obtain ⟨p1, p2⟩ := putOk_sim hok hvw
              have Ly : (Jvm.Cond.lays cd.1 cd.1 nm ds).before a0 Z = true ∨ ((Jvm.Cond.laysFinal cd.1 cd.1 nm ds).before a0 Z = true ∧ d.name.cls = cd.1 ∧ meth.name = "<init>") := by
                unfold fWord at w2
                cases fin with
                | false => exact Or.inl w2
                | true => exact Or.inr ⟨w2, hcd.symm, by rw [hnm]; simpa using hfin⟩
              obtain ⟨T2, h2, X2, e2, W2, st2⟩ := putF X hx hZ hown (host := "") (R0 := d.name.cls) (O := cd.1) (Or.inl w1) (by rw [hcd]; exact Via.refl) rfl F q2 Ly w3 f1.1 p1 p2 (g := mkF m pc A (w :: .ref ad :: S1)) rfl rfl hd
              have hH2 := hH.putF (a0 := a0) g1 hc0 q1 hf' hck (fun f hfm => hW _ (in_wordsC hcm (fWord_in hfm))) W2 hvw
              exact Nxt.mem X2 rfl hL h1 (by rw [e2]; exact hH2) (Fr.snoc X2 hF (hH.2.2.2.1 _ _ g1 enr)) st2
            · cases h
          · cases h
        · cases h
      · cases h
    · cases h
  | iaload =>
    obtain rfl : len = 1 := by simpa [lenOk] using hlen
    simp only [xI] at h
    split at h
    · rename_i j o S0
      obtain ⟨S1, rfl, h1⟩ := hS.int
      obtain ⟨ad, S2, g1, rfl, h2⟩ := h1.ref
      split at h
      · rename_i B hc0
        obtain ⟨x, q, e1⟩ := Option.map_eq_some_iff.mp h
        cases e1
        obtain ⟨hj, hat⟩ := rdA_spec q
        obtain ⟨ad', g2, cl, Ar, z1, z2, z3⟩ := hH.at hc0
        rw [g1] at g2; cases g2
        have hin : ¬ (j < 0 ∨ cl.slots.size ≤ j.toNatClampNeg) := by
          have := (List.getElem?_eq_some_iff.mp hat).1
          rintro (y | y)
          · exact hj y
          · omega
        exact Nxt.pure X rfl hL ⟨_, _, rfl, rfl, h2⟩ hH hF (fun t z => X.iaload hx (j := j) (v := .int x) Ar.1 (State.isArrayOf_alike hZ.alike Ar.2.1) Ar.2.2 hin (z3 _ _ hat) (g := mkF m pc A _) rfl rfl hd t z)
      · cases h
    · cases h
  | baload =>
    obtain rfl : len = 1 := by simpa [lenOk] using hlen
    simp only [xI] at h
    split at h
    · rename_i j o S0
      obtain ⟨S1, rfl, h1⟩ := hS.int
      obtain ⟨ad, S2, g1, rfl, h2⟩ := h1.ref
      split at h
      · rename_i B hc0
        obtain ⟨x, q, e1⟩ := Option.map_eq_some_iff.mp h
        cases e1
        obtain ⟨hj, hat⟩ := rdA_spec q
        obtain ⟨ad', g2, cl, Ar, z1, z2, z3⟩ := hH.at hc0
        rw [g1] at g2; cases g2
        have hin : ¬ (j < 0 ∨ cl.slots.size ≤ j.toNatClampNeg) := by
          have := (List.getElem?_eq_some_iff.mp hat).1
          rintro (y | y)
          · exact hj y
          · omega
        exact Nxt.pure X rfl hL ⟨_, _, rfl, rfl, h2⟩ hH hF (fun t z => X.baloadBooleans hx (j := j) (v := .int x) Ar.1 (State.isArrayOf_alike hZ.alike Ar.2.1) Ar.2.2 hin (z3 _ _ hat) (g := mkF m pc A _) rfl rfl hd t z)
      · cases h
    · cases h
  | laload =>
    obtain rfl : len = 1 := by simpa [lenOk] using hlen
    simp only [xI] at h
    split at h
    · rename_i j o S0
      obtain ⟨S1, rfl, h1⟩ := hS.int
      obtain ⟨ad, S2, g1, rfl, h2⟩ := h1.ref
      split at h
      · rename_i B hc0
        obtain ⟨x, q, e1⟩ := Option.map_eq_some_iff.mp h
        cases e1
        obtain ⟨hj, hat⟩ := rdA_spec q
        obtain ⟨ad', g2, cl, Ar, z1, z2, z3⟩ := hH.at hc0
        rw [g1] at g2; cases g2
        have hin : ¬ (j < 0 ∨ cl.slots.size ≤ j.toNatClampNeg) := by
          have := (List.getElem?_eq_some_iff.mp hat).1
          rintro (y | y)
          · exact hj y
          · omega
        exact Nxt.pure X rfl hL ⟨_, _, rfl, rfl, h2⟩ hH hF (fun t z => X.laload hx (j := j) (v := .long x) Ar.1 (State.isArrayOf_alike hZ.alike Ar.2.1) Ar.2.2 hin (z3 _ _ hat) (g := mkF m pc A _) rfl rfl hd t z)
      · cases h
    · cases h
  | iastore =>
    obtain rfl : len = 1 := by simpa [lenOk] using hlen
    simp only [xI] at h
    split at h
    · rename_i x j o S0
      obtain ⟨S1, rfl, h1⟩ := hS.int
      obtain ⟨S2, rfl, h2⟩ := h1.int
      obtain ⟨ad, S3, g1, rfl, h3⟩ := h2.ref
      split at h
      · rename_i B hc0
        split at h
        · rename_i enr
          obtain ⟨B', q, e1⟩ := Option.map_eq_some_iff.mp h
          cases e1
          obtain ⟨hj, hlt, rfl⟩ := wrA_spec q
          obtain ⟨ad', g2, cl, Ar, z1, z2, z3⟩ := hH.at hc0
          rw [g1] at g2; cases g2
          have hin : ¬ (j < 0 ∨ cl.slots.size ≤ j.toNatClampNeg) := by
            rintro (y | y)
            · exact hj y
            · omega
          obtain ⟨T2, h2', X2, e2, W2, st2⟩ := stI X hx hZ rfl Ar (j := j) (x := x) hin (g := mkF m pc A _) rfl rfl hd
          exact Nxt.mem X2 rfl hL h3 (by rw [e2]; exact hH.wrI g1 hc0 W2) (Fr.snoc X2 hF (hH.2.2.2.1 _ _ g1 enr)) st2
        · cases h
      · cases h
    · cases h
  | bastore =>
    obtain rfl : len = 1 := by simpa [lenOk] using hlen
    simp only [xI] at h
    split at h
    · rename_i x j o S0
      obtain ⟨S1, rfl, h1⟩ := hS.int
      obtain ⟨S2, rfl, h2⟩ := h1.int
      obtain ⟨ad, S3, g1, rfl, h3⟩ := h2.ref
      split at h
      · rename_i B hc0
        split at h
        · rename_i enr
          obtain ⟨B', q, e1⟩ := Option.map_eq_some_iff.mp h
          cases e1
          obtain ⟨hj, hlt, rfl⟩ := wrA_spec q
          obtain ⟨ad', g2, cl, Ar, z1, z2, z3⟩ := hH.at hc0
          rw [g1] at g2; cases g2
          have hin : ¬ (j < 0 ∨ cl.slots.size ≤ j.toNatClampNeg) := by
            rintro (y | y)
            · exact hj y
            · omega
          obtain ⟨T2, h2', X2, e2, W2, st2⟩ := stZ X hx hZ rfl Ar (j := j) (x := x) hin (g := mkF m pc A _) rfl rfl hd
          exact Nxt.mem X2 rfl hL h3 (by rw [e2]; exact hH.wrI g1 hc0 W2) (Fr.snoc X2 hF (hH.2.2.2.1 _ _ g1 enr)) st2
        · cases h
      · cases h
    · cases h
  | lastore =>
    obtain rfl : len = 1 := by simpa [lenOk] using hlen
    simp only [xI] at h
    split at h
    · rename_i x j o S0
      obtain ⟨S1, rfl, h1⟩ := hS.long
      obtain ⟨S2, rfl, h2⟩ := h1.int
      obtain ⟨ad, S3, g1, rfl, h3⟩ := h2.ref
      split at h
      · rename_i B hc0
        split at h
        · rename_i enr
          obtain ⟨B', q, e1⟩ := Option.map_eq_some_iff.mp h
          cases e1
          obtain ⟨hj, hlt, rfl⟩ := wrA_spec q
          obtain ⟨ad', g2, cl, Ar, z1, z2, z3⟩ := hH.at hc0
          rw [g1] at g2; cases g2
          have hin : ¬ (j < 0 ∨ cl.slots.size ≤ j.toNatClampNeg) := by
            rintro (y | y)
            · exact hj y
            · omega
          obtain ⟨T2, h2', X2, e2, W2, st2⟩ := stJ X hx hZ rfl Ar (j := j) (x := x) hin (g := mkF m pc A _) rfl rfl hd
          exact Nxt.mem X2 rfl hL h3 (by rw [e2]; exact hH.wrJ g1 hc0 W2) (Fr.snoc X2 hF (hH.2.2.2.1 _ _ g1 enr)) st2
        · cases h
      · cases h
    · cases h
  | arraylength =>
    obtain rfl : len = 1 := by simpa [lenOk] using hlen
    simp only [xI] at h
    split at h
    · rename_i o S0
      obtain ⟨ad, S1, g1, rfl, h1⟩ := hS.ref
      split at h
      · rename_i bb B hc0
        cases h
        obtain ⟨ad', g2, cl, Ar, z1, z2, z3⟩ := hH.at hc0
        rw [g1] at g2; cases g2
        exact Nxt.pure X rfl hL ⟨_, _, rfl, rfl, h1⟩ hH hF (fun t z => X.arraylength hx (cell := cl) Ar.1 (State.isArrayOf_alike hZ.alike Ar.2.1) (g := mkF m pc A _) rfl rfl hd t (by rw [z1]; exact z))
      · cases h
    · cases h
  | _ => simp [xI] at h
set_option maxHeartbeats 4000000 in
theorem stepN (X : Stand p l e R s m args below meth c T locs cells slots) (hx : p.tables.exec = Jvm.exec) (hZ : Z.Warmed39 s.vm) (hown : s.vm.findClass d.name.cls = some m.cls) (hP : chk P = true) (hW : ∀ w ∈ wordsOf P, w.before a0 Z = true) (hdm : d ∈ P.mth)
    {pc len a ks : Nat} {er : List Bool} {b : Int} {i : Instr} (hit : (pc, i, len, er, a, b) ∈ d.code) (hd : decode c.code pc = .ok (i, len)) (hlen : lenOk i len = true) {ρ : List Addr} {S S' Sc : List Value} {H H1 : AHeap} {A : Array Slot}
    (hS : SR ρ S Sc) (hH : HR P Z n0 T.heap ρ H) (h : xN P i a S H = some (S', H1, ks)) (hc : cells + 1 ≤ R.cells) (hl : slots + ks ≤ R.slots) :
    ∃ T' ad Sc', Stand p l e R s m args below meth c T' locs (cells + 1) (slots + ks) ∧ SR (ρ ++ [ad]) S' Sc' ∧ HR P Z n0 T'.heap (ρ ++ [ad]) H1 ∧
      ∀ target, Steps p.tables e below (T'.setTop (mkF m (pc + len) A Sc')) target → Steps p.tables e below (T.setTop (mkF m pc A Sc)) target := by
  have hWi : ∀ w ∈ iWords P d (pc, i, len, er, a, b), w.before a0 Z = true := fun w q => hW w (in_wordsOf hdm hit q)
  cases i with
  | new k =>
    obtain rfl : len = 3 := by simpa [lenOk] using hlen
    simp only [xN] at h
    split at h
    · rename_i cd q1
      cases h
      have hcm : cd ∈ P.cls := List.mem_of_getElem? q1
      have w1 := hWi (.classLink d.name.cls k cd.1) (by simp only [iWords, q1]; exact List.mem_singleton.mpr rfl)
      have w2 := hW (.instantiable cd.1 cd.2.1) (in_wordsC hcm (List.mem_cons_self ..))
      have w3 := hW (.initialized cd.1) (in_wordsC hcm (List.mem_cons_of_mem _ (List.mem_cons_self ..)))
      obtain ⟨T2, h2, X2, e2, E2, A2, D2, -, st2⟩ := newO X hx hZ hown w1 w2 w3 rfl (g := mkF m pc A Sc) rfl hd hc hl
      have hck := cChk_of hP hcm
      simp only [cChk, Bool.and_eq_true, List.all_eq_true] at hck
      have hcr : CR P Z h2 (ρ ++ [T.heap.size]) T.heap.size (.inl (a, cd.2.2.map fun f => dflt f.2.2.1)) := by
        refine ⟨cd, q1, A2, by simp, fun j v fd y1 y2 => ?_⟩
        rw [List.getElem?_map, y2] at y1
        cases y1
        have f1 := hck.2 _ (List.mem_of_getElem? y2)
        simp only [fChk, Bool.and_eq_true, decide_eq_true_eq] at f1
        exact ⟨_, dflt_sim f1.2, D2 (laid_of (hW _ (in_wordsC hcm (fWord_in (List.mem_of_getElem? y2))))) f1.1⟩
      refine ⟨T2, T.heap.size, _, X2, ⟨_, _, rfl, ⟨T.heap.size, ?_, rfl⟩, hS.mono⟩, (by rw [e2]; exact hH.push E2 hcr), st2⟩
      rw [← hH.2.1]; simp
    · cases h
  | newarray t =>
    obtain rfl : len = 2 := by simpa [lenOk] using hlen
    simp only [xN] at h
    split at h
    · rename_i n S0
      obtain ⟨S1, rfl, h1⟩ := hS.int
      split at h
      · cases h
      · rename_i hn
        have hn1 : ¬ n < 0 := fun z => hn (Or.inl z)
        have hn2 : n.toNatClampNeg ≤ 100000 := Nat.le_of_not_lt fun z => hn (Or.inr z)
        have w1 := hWi (.arrayClass (newarray.typeOf t)) (List.mem_singleton.mpr rfl)
        have top : (ρ ++ [T.heap.size])[H.length]? = some T.heap.size := by rw [← hH.2.1]; simp
        split at h
        · cases h
          obtain ⟨T2, h2, cA, X2, e2, E2, A2, st2⟩ := newP X hx hZ w1 rfl (g := mkF m pc A _) rfl hd rfl hn1 (cap := n.toNatClampNeg) (Nat.le_refl _) (by omega) hc hl
          have hcr : CR P Z h2 (ρ ++ [T.heap.size]) T.heap.size ((.inr (.inl (false, List.replicate n.toNatClampNeg 0)) : ACell)) := by
            refine ⟨_, A2, by simp [sz_new], by simp; omega, fun j x y => ?_⟩
            rw [List.getElem?_replicate] at y
            split at y
            · rename_i lt
              cases y
              simp [newA, lt, newarray.typeOf, defaultValue]
            · cases y
          exact ⟨T2, T.heap.size, _, X2, ⟨_, _, rfl, ⟨T.heap.size, top, rfl⟩, h1.mono⟩, (by rw [e2]; exact hH.push E2 hcr), st2⟩
        · cases h
          obtain ⟨T2, h2, cA, X2, e2, E2, A2, st2⟩ := newP X hx hZ w1 rfl (g := mkF m pc A _) rfl hd rfl hn1 (cap := n.toNatClampNeg) (Nat.le_refl _) (by omega) hc hl
          have hcr : CR P Z h2 (ρ ++ [T.heap.size]) T.heap.size ((.inr (.inl (true, List.replicate n.toNatClampNeg 0)) : ACell)) := by
            refine ⟨_, A2, by simp [sz_new], by simp; omega, fun j x y => ?_⟩
            rw [List.getElem?_replicate] at y
            split at y
            · rename_i lt
              cases y
              simp [newA, lt, newarray.typeOf, defaultValue]
            · cases y
          exact ⟨T2, T.heap.size, _, X2, ⟨_, _, rfl, ⟨T.heap.size, top, rfl⟩, h1.mono⟩, (by rw [e2]; exact hH.push E2 hcr), st2⟩
        · cases h
          obtain ⟨T2, h2, cA, X2, e2, E2, A2, st2⟩ := newP X hx hZ w1 rfl (g := mkF m pc A _) rfl hd rfl hn1 (cap := n.toNatClampNeg) (Nat.le_refl _) (by omega) hc hl
          have hcr : CR P Z h2 (ρ ++ [T.heap.size]) T.heap.size ((.inr (.inr (List.replicate n.toNatClampNeg 0)) : ACell)) := by
            refine ⟨_, A2, by simp [sz_new], by simp; omega, fun j x y => ?_⟩
            rw [List.getElem?_replicate] at y
            split at y
            · rename_i lt
              cases y
              simp [newA, lt, newarray.typeOf, defaultValue]
            · cases y
          exact ⟨T2, T.heap.size, _, X2, ⟨_, _, rfl, ⟨T.heap.size, top, rfl⟩, h1.mono⟩, (by rw [e2]; exact hH.push E2 hcr), st2⟩
        · cases h
    · cases h
  | _ => simp [xN] at h
end Step
end Jvm.Own
namespace Jvm.Own
open Jvm Jvm.ClassFile Sem Op Lib Jvm.Free Jvm.Stand Jvm.LawKit Jvm.RoadKit Bundle
theorem fetch_mem : ∀ {l : List (Nat × It)} {pc : Nat} {i : It}, fetch l pc = some i → (pc, i) ∈ l
  | [], _, _, h => by simp [fetch] at h
  | (q, j) :: r, pc, i, h => by
    unfold fetch at h
    split at h
    · rename_i e; cases h; subst e; exact List.mem_cons_self ..
    · exact List.mem_cons_of_mem _ (fetch_mem h)
theorem tgt_spec {pc q : Nat} {o : Int} (h : tgt pc o = some q) : 0 ≤ (pc : Int) + o ∧ ((pc : Int) + o).toNat = q := by
  unfold tgt at h
  split at h
  · rename_i z; cases h; exact ⟨z, rfl⟩
  · cases h
/-- the end of a method's run -/
def Done (P : PD) (Z : State) (n0 : Nat) (p : Program) (e : Env) (below : List Frame) (s : State) (ρ : List Addr) (v : Option Value) (H' : AHeap) (kc ks : Nat) (t0 : State) : Prop :=
  ∃ s₂ v' L' t, Steps p.tables e below t0 s₂ ∧ s₂.status = .running ∧ Ended s₂ below (.returned v') ∧ OV (ρ ++ t) v v' ∧ HR P Z n0 s₂.heap (ρ ++ t) H' ∧ Fr n0 L' ∧ FrameEnd s (.returned v') s₂ L' kc ks
def Cx (P : PD) (Z : State) (p : Program) (R : Room) (s : State) (m : MethodId) (meth : Method) (c : Code) (d : MD) : Prop :=
  p.tables.exec = Jvm.exec ∧ Z.Warmed39 s.vm ∧ c.code = d.bytes ∧ c.maxLocals = d.maxL ∧ s.vm.findClass d.name.cls = some m.cls ∧ meth.name = d.name.name ∧ meth.sig.returnType = d.ret ∧ meth.locks = false ∧ d.rf ≤ R.frames ∧ d.rw ≤ R.locals
/-- what the machine says of a run that has come to pc is what the model does -/
def Says (P : PD) (Z : State) (n0 : Nat) (l : Launch) (n : Nat) : Prop :=
  ∀ (mi pc : Nat) (L : List Slot) (S : List Value) (H : AHeap) (v : Option Value) (H' : AHeap) (kc ks : Nat), exe P n mi pc L S H = some (v, H', kc, ks) → ∀ d, P.mth[mi]? = some d →
    ∀ (p : Program) (e : Env) (R : Room) (s : State) (m : MethodId) (args : Array Value) (below : List Frame) (meth : Method) (c : Code) (T : State) (locs : List Loc) (cells slots : Nat),
      Stand p l e R s m args below meth c T locs cells slots → Cx P Z p R s m meth c d → cells + kc ≤ R.cells → slots + ks ≤ R.slots →
      ∀ (ρ : List Addr) (A : Array Slot) (Sc : List Value), LR ρ L A → L.length = d.maxL → SR ρ S Sc → HR P Z n0 T.heap ρ H → Fr n0 locs →
        Done P Z n0 p e below s ρ v H' (cells + kc) (slots + ks) (T.setTop (mkF m pc A Sc))
def QQ (P : PD) (Z : State) (n0 : Nat) (ρ : List Addr) (v : Option Value) (H1 : AHeap) (v' : Option Value) (h' : Heap) (L : List Loc) : Prop := Fr n0 L ∧ ∃ t, OV (ρ ++ t) v v' ∧ HR P Z n0 h' (ρ ++ t) H1
theorem met_of {P : PD} {Z : State} {n0 : Nat} {l : Launch} {n : Nat} (ih : Says P Z n0 l n) {j : Nat} {y : MD} (hy : P.mth[j]? = some y) (hpn : plainName y.name.cls = true) {as ws : List Value} {H H1 : AHeap} {v : Option Value} {kc ks : Nat} (he : exe P n j 0 (entL as y.maxL) [] H = some (v, H1, kc, ks)) {ρ : List Addr} (hS : SR ρ as ws) (hlen : (entA as).length ≤ y.maxL) {h : Heap} (hH : HR P Z n0 h ρ H) (w0 : List Jvm.Cond) (rm : Room) (r1 : y.rf ≤ rm.frames) (r2 : y.rw ≤ rm.locals) (r3 : kc ≤ rm.cells) (r4 : ks ≤ rm.slots) :
    MetFree l y.name (head1 (Jvm.Cond.code y.name y.bytes y.maxL y.ret :: w0) rm) (fun a U => a = ws.toArray ∧ Z.Warmed39 U.vm ∧ U.heap = h) (fun _ _ _ _ _ => True)
      (fun _ U o U' => ∃ v' L, o = .returned v' ∧ QQ P Z n0 ρ v H1 v' U'.heap L ∧ FrameEnd U o U' L kc ks) := by
  refine MetFree.of_bodySF (plainFor_of_name hpn) hisR ?_
  intro p e s m args below meth c s₁ Bd hml0 hP hK
  obtain ⟨rfl, hZ, hh⟩ := hP
  have X0 : Stand p l e rm s m ws.toArray below meth c s₁ [] 0 0 := Stand.of_body Bd
  have e0 : s₁.heap = h := by rw [← hh, Bd.state]; rfl
  obtain ⟨hL, hsz⟩ := LR.enter hS hlen
  have hLl : (entL as y.maxL).length = y.maxL := by rw [← hL.1]; exact hsz
  obtain ⟨s₂, v', L', t, h1, h2, h3, h4, h5, h6, h7⟩ := ih j 0 _ [] H v H1 kc ks he y hy p e _ s m ws.toArray below meth c s₁ [] 0 0 X0
    ⟨Bd.exec, hZ, Bd.bytes, hml0, findClass_of_methodNamed Bd.named, (name_of_methodNamed Bd.named Bd.method).1, Bd.returns, BodyLoose.notSynchronized Bd, r1, r2⟩
    (by rw [Nat.zero_add]; exact r3) (by rw [Nat.zero_add]; exact r4) ρ _ [] hL hLl rfl (by rw [e0]; exact hH) (Fr.nil n0)
  refine ⟨s₂, _, h1, h2, h3, v', L', rfl, ⟨h6, t, h4, h5⟩, ?_⟩
  rw [Nat.zero_add, Nat.zero_add] at h7
  exact h7
section Sound
variable {P : PD} {Z : State} {n0 : Nat} {a0 : Array Value} {l : Launch}
theorem Done.step {p : Program} {e : Env} {below : List Frame} {s : State} {ρ t : List Addr} {v : Option Value} {H' : AHeap} {kc ks : Nat} {t0 t1 : State} (h : Done P Z n0 p e below s (ρ ++ t) v H' kc ks t1) (k : ∀ target, Steps p.tables e below t1 target → Steps p.tables e below t0 target) : Done P Z n0 p e below s ρ v H' kc ks t0 := by
  obtain ⟨s₂, v', L', t', h1, h2, h3, h4, h5, h6, h7⟩ := h
  exact ⟨s₂, v', L', t ++ t', k _ h1, h2, h3, by rw [← List.append_assoc]; exact h4, by rw [← List.append_assoc]; exact h5, h6, h7⟩
theorem argsOf_spec {n : Nat} {S as rest : List Value} (h : argsOf n S = some (as, rest)) : n ≤ S.length ∧ as = (S.take n).reverse ∧ rest = S.drop n := by
  unfold argsOf at h
  split at h
  · rename_i z; cases h; exact ⟨z, rfl, rfl⟩
  · cases h
theorem res_ext {α : Type} {o : Option Res} {v : Option Value} {H' : AHeap} {kc ks c1 s1 : Nat} (h : (o.map fun r => addR r c1 s1) = some (v, H', kc, ks)) : ∃ kc' ks', o = some (v, H', kc', ks') ∧ kc = kc' + c1 ∧ ks = ks' + s1 := by
  obtain ⟨⟨v0, H0, c0, s0⟩, h1, h2⟩ := Option.map_eq_some_iff.mp h
  simp only [addR] at h2
  cases h2
  exact ⟨c0, s0, h1, rfl, rfl⟩
set_option maxHeartbeats 4000000 in
theorem sound (hP : chk P = true) (hW : ∀ w ∈ wordsOf P, w.before a0 Z = true) : ∀ n, Says P Z n0 l n
  | 0 => fun mi pc L S H v H' kc ks h => by simp [exe] at h
  | n + 1 => by
    have ih := sound hP hW n
    intro mi pc L S H v H' kc ks h d hmi
    unfold exe at h
    rw [hmi] at h
    simp only at h
    have hdm : d ∈ P.mth := List.mem_of_getElem? hmi
    split at h
    · cases h
    rename_i it i len er a b hft
    have hit := fetch_mem hft
    have hmc := mChk_of hP hdm
    simp only [mChk, Bool.and_eq_true] at hmc
    obtain ⟨⟨⟨⟨⟨⟨mc1, mc2⟩, mc3⟩, mc4⟩, mc5⟩, mc6⟩, mc7⟩ := hmc
    unfold codeChk at mc3
    rw [List.all_eq_true] at mc3
    have hci := mc3 _ hit
    simp only [Bool.and_eq_true, decide_eq_true_eq] at hci
    obtain ⟨hdec, hlenOk⟩ := hci
    -- a jump, or a fall through
    have jump : ∀ (q : Nat) (S1 : List Value) (h1 : exe P n mi q (forget er L) S1 H = some (v, H', kc, ks)),
        (∀ (p : Program) (e : Env) (R : Room) (s : State) (m : MethodId) (args : Array Value) (below : List Frame) (meth : Method) (c : Code) (T : State) (locs : List Loc) (cells slots : Nat),
          Stand p l e R s m args below meth c T locs cells slots → Cx P Z p R s m meth c d → ∀ (ρ : List Addr) (A : Array Slot) (Sc : List Value), LR ρ L A → SR ρ S Sc → ∃ Sc1, SR ρ S1 Sc1 ∧ ∀ target, Steps p.tables e below (T.setTop (mkF m q A Sc1)) target → Steps p.tables e below (T.setTop (mkF m pc A Sc)) target) →
        ∀ (p : Program) (e : Env) (R : Room) (s : State) (m : MethodId) (args : Array Value) (below : List Frame) (meth : Method) (c : Code) (T : State) (locs : List Loc) (cells slots : Nat),
          Stand p l e R s m args below meth c T locs cells slots → Cx P Z p R s m meth c d → cells + kc ≤ R.cells → slots + ks ≤ R.slots →
          ∀ (ρ : List Addr) (A : Array Slot) (Sc : List Value), LR ρ L A → L.length = d.maxL → SR ρ S Sc → HR P Z n0 T.heap ρ H → Fr n0 locs →
            Done P Z n0 p e below s ρ v H' (cells + kc) (slots + ks) (T.setTop (mkF m pc A Sc)) := by
      intro q S1 h1 st p e R s m args below meth c T locs cells slots X cx k1 k2 ρ A Sc hL hLl hS hH hF
      obtain ⟨Sc1, hS1, st1⟩ := st p e R s m args below meth c T locs cells slots X cx ρ A Sc hL hS
      have := ih mi q _ S1 H v H' kc ks h1 d hmi p e R s m args below meth c T locs cells slots X cx k1 k2 ρ A Sc1 (hL.forget er) (by rw [forget_len]; exact hLl) hS1 hH hF
      exact Done.step (t := []) (by rw [List.append_nil]; exact this) st1
    have dec : ∀ {c : Code}, c.code = d.bytes → decode c.code pc = .ok (i, len) := fun hc => by rw [hc]; exact hdec
    split at h
    · -- goto
      rename_i o
      split at h
      · rename_i q hq
        obtain ⟨t1, t2⟩ := tgt_spec hq
        have m3 := jump q S h
        obtain rfl : len = 3 := by simpa [lenOk] using hlenOk
        exact m3 fun p e R s m args below meth c T locs cells slots X cx ρ A Sc hL hS => ⟨Sc, hS, fun t z => XS.goto (g := mkF m pc A Sc) X.here cx.1 rfl (pc0 := pc) (pc' := q) rfl (dec cx.2.2.1) t1 t2 z⟩
      · cases h
    · -- if_icmp
      rename_i cd o
      split at h
      · rename_i y x S1
        obtain rfl : len = 3 := by simpa [lenOk] using hlenOk
        split at h
        · rename_i hc
          split at h
          · rename_i q hq
            obtain ⟨t1, t2⟩ := tgt_spec hq
            have m3 := jump q S1 h
            exact m3 fun p e R s m args below meth c T locs cells slots X cx ρ A Sc hL hS => by
              obtain ⟨Sa, rfl, ha⟩ := hS.int
              obtain ⟨Sb, rfl, hb⟩ := ha.int
              exact ⟨Sb, hb, fun t z => XS.icmpYes (g := mkF m pc A _) X.here cx.1 rfl (pc0 := pc) (pc' := q) rfl (dec cx.2.2.1) rfl hc t1 t2 z⟩
          · cases h
        · rename_i hc
          have m3 := jump (pc + 3) S1 h
          exact m3 fun p e R s m args below meth c T locs cells slots X cx ρ A Sc hL hS => by
            obtain ⟨Sa, rfl, ha⟩ := hS.int
            obtain ⟨Sb, rfl, hb⟩ := ha.int
            exact ⟨Sb, hb, fun t z => XS.icmpNo (g := mkF m pc A _) X.here cx.1 rfl (dec cx.2.2.1) rfl (by simpa using hc) z⟩
      · cases h
    · -- ifCond
      rename_i cd o
      split at h
      · rename_i x S1
        obtain rfl : len = 3 := by simpa [lenOk] using hlenOk
        split at h
        · rename_i hc
          split at h
          · rename_i q hq
            obtain ⟨t1, t2⟩ := tgt_spec hq
            have m3 := jump q S1 h
            exact m3 fun p e R s m args below meth c T locs cells slots X cx ρ A Sc hL hS => by
              obtain ⟨Sa, rfl, ha⟩ := hS.int
              exact ⟨Sa, ha, fun t z => XS.ifYes (g := mkF m pc A _) X.here cx.1 rfl (pc0 := pc) (pc' := q) rfl (dec cx.2.2.1) rfl hc t1 t2 z⟩
          · cases h
        · rename_i hc
          have m3 := jump (pc + 3) S1 h
          exact m3 fun p e R s m args below meth c T locs cells slots X cx ρ A Sc hL hS => by
            obtain ⟨Sa, rfl, ha⟩ := hS.int
            exact ⟨Sa, ha, fun t z => XS.ifNo (g := mkF m pc A _) X.here cx.1 rfl (dec cx.2.2.1) rfl (by simpa using hc) z⟩
      · cases h
    · -- ifnonnull
      rename_i o
      split at h
      · rename_i x S1
        split at h
        · rename_i q hq
          obtain ⟨t1, t2⟩ := tgt_spec hq
          have m3 := jump q S1 h
          obtain rfl : len = 3 := by simpa [lenOk] using hlenOk
          exact m3 fun p e R s m args below meth c T locs cells slots X cx ρ A Sc hL hS => by
            obtain ⟨ad, Sa, -, rfl, ha⟩ := hS.ref
            exact ⟨Sa, ha, fun t z => XT.ifnonnullYes (g := mkF m pc A _) X.here cx.1 rfl (pc0 := pc) (pc' := q) rfl (dec cx.2.2.1) rfl t1 t2 z⟩
        · cases h
      · cases h
    · -- ireturn
      split at h
      · rename_i x
        split at h
        · rename_i v0 hv0
          cases h
          obtain rfl : len = 1 := by simpa [lenOk] using hlenOk
          intro p e R s m args below meth c T locs cells slots X cx k1 k2 ρ A Sc hL hLl hS hH hF
          obtain ⟨hx, hZ, hby, hml, hown, hnm, hret, hlk, -, -⟩ := cx
          obtain ⟨Sa, rfl, ha⟩ := hS.int
          unfold retV at hv0
          split at hv0
          · rename_i hr0
            cases hv0
            obtain ⟨fs, hr, hrun, hended, hWm, hsame⟩ := X.leave (v := some (.int x)) (fun q => by rw [hret, hr0] at q; cases q) hlk
            exact ⟨_, _, locs, [], retI X hx (by rw [hret, hr0]) (dec hby) hr, hrun, hended, ⟨_, rfl, rfl⟩, by rw [List.append_nil]; exact hH, hF, ⟨_, rfl⟩, hWm, hsame⟩
          · rename_i hr0
            cases hv0
            obtain ⟨fs, hr, hrun, hended, hWm, hsame⟩ := X.leave (v := some (.int (x &&& 1))) (fun q => by rw [hret, hr0] at q; cases q) hlk
            exact ⟨_, _, locs, [], retN X hx (t := .boolean) (by rw [hret, hr0]) (by simp) (dec hby) hr, hrun, hended, ⟨_, rfl, rfl⟩, by rw [List.append_nil]; exact hH, hF, ⟨_, rfl⟩, hWm, hsame⟩
          · cases hv0
        · cases h
      · cases h
    · -- lreturn
      split at h
      · rename_i x
        split at h
        · rename_i hr0
          cases h
          obtain rfl : len = 1 := by simpa [lenOk] using hlenOk
          intro p e R s m args below meth c T locs cells slots X cx k1 k2 ρ A Sc hL hLl hS hH hF
          obtain ⟨hx, hZ, hby, hml, hown, hnm, hret, hlk, -, -⟩ := cx
          obtain ⟨Sa, rfl, ha⟩ := hS.long
          obtain rfl : Sa = [] := ha
          obtain ⟨fs, hr, hrun, hended, hWm, hsame⟩ := X.leave (v := some (.long x)) (fun q => by rw [hret, hr0] at q; cases q) hlk
          exact ⟨_, _, locs, [], X.lreturnOut hx (by rw [hret, hr0]) (dec hby) hr, hrun, hended, ⟨_, rfl, rfl⟩, by rw [List.append_nil]; exact hH, hF, ⟨_, rfl⟩, hWm, hsame⟩
        · cases h
      · cases h
    · -- return
      split at h
      · split at h
        · rename_i hr0
          cases h
          obtain rfl : len = 1 := by simpa [lenOk] using hlenOk
          intro p e R s m args below meth c T locs cells slots X cx k1 k2 ρ A Sc hL hLl hS hH hF
          obtain ⟨hx, hZ, hby, hml, hown, hnm, hret, hlk, -, -⟩ := cx
          obtain rfl : Sc = [] := hS
          obtain ⟨fs, hr, hrun, hended, hWm, hsame⟩ := X.leave (v := none) (fun _ => rfl) hlk
          exact ⟨_, _, locs, [], X.returnOut hx (by rw [hret, hr0]) (dec hby) hr, hrun, hended, rfl, by rw [List.append_nil]; exact hH, hF, ⟨_, rfl⟩, hWm, hsame⟩
        · cases h
      · cases h
    · -- a call, or a plain step
      split at h
      · rename_i hinv
        split at h
        · -- Object.<init>
          rename_i hb1
          subst hb1
          have hk : ∃ k x S1, i = .invokespecial k ∧ S = .ref x :: S1 ∧ (if 1 ≤ d.rf ∧ catSum S1 + 12 ≤ d.rw then exe P n mi (pc + 3) (forget er L) S1 H else none) = some (v, H', kc, ks) := by
            split at h
            · exact ⟨_, _, _, rfl, rfl, h⟩
            · cases h
          clear h
          obtain ⟨k, x, S1, rfl, rfl, h⟩ := hk
          · split at h
            · rename_i hroom
              have m3 := ih mi (pc + 3) _ S1 H v H' kc ks h d hmi
              obtain rfl : len = 3 := by simpa [lenOk] using hlenOk
              have hWi : ∀ w ∈ iWords P d (pc, .invokespecial k, 3, er, a, -1), w.before a0 Z = true := fun w q => hW w (in_wordsOf hdm hit q)
              have hWi' : ∀ w ∈ [Jvm.Cond.methodLink d.name.cls k Lib.objectInit, .instanceMethod Lib.objectInit, .code Lib.objectInit ⟨#[0xb1]⟩ 1 none], w.before a0 Z = true := hWi
              intro p e R s m args below meth c T locs cells slots X cx k1 k2 ρ A Sc hL hLl hS hH hF
              have cx0 := cx
              obtain ⟨hx, hZ, hby, hml, hown, hnm, hret, hlk, hrf, hrw⟩ := cx
              obtain ⟨ad, Sa, -, rfl, ha⟩ := hS.ref
              obtain ⟨T2, X2, e2, st2⟩ := initO X hx hZ hown (hWi' _ (by simp)) (hWi' _ (by simp)) (hWi' _ (by simp)) rfl (g := mkF m pc A (.ref ad :: Sa)) rfl (by rw [hml]; exact hL.1.trans hLl) rfl (dec hby) (by omega) (W := catSum S1) (by show 2 * 0 + _ ≤ _; rw [ha.cat]; omega) (by omega)
              have := m3 p e R s m args below meth c T2 locs cells slots X2 cx0 k1 k2 ρ A Sa (hL.forget er) (by rw [forget_len]; exact hLl) ha (by rw [e2]; exact hH) hF
              exact Done.step (t := []) (by rw [List.append_nil]; exact this) st2
            · cases h
        · rename_i hb1
          split at h
          · cases h
          rename_i y hy
          split at h
          · cases h
          rename_i as rest hao
          split at h
          · rename_i hcond
            simp only [Bool.and_eq_true, decide_eq_true_eq] at hcond
            obtain ⟨⟨⟨⟨hj, hik⟩, hrecv⟩, hroom⟩, hent⟩ := hcond
            split at h
            · rename_i v1 H1 c1 s1 hcal
              obtain ⟨c0, s0, hcon, rfl, rfl⟩ := res_ext (α := Unit) h
              have m3 := ih mi (pc + 3) _ _ H1 v H' c0 s0 hcon d hmi
              intro p e R s m args below meth c T locs cells slots X cx k1 k2 ρ A Sc hL hLl hS hH hF
              have cx0 := cx
              obtain ⟨hx, hZ, hby, hml, hown, hnm, hret, hlk, hrf, hrw⟩ := cx
              have hym : y ∈ P.mth := List.mem_of_getElem? hy
              have hyc := mChk_of hP hym
              simp only [mChk, Bool.and_eq_true, decide_eq_true_eq] at hyc
              obtain ⟨⟨⟨⟨⟨⟨yc1, yc2⟩, yc3⟩, yc4⟩, yc5⟩, yc6⟩, yc7⟩ := hyc
              simp only [fitsRoom, Bool.and_eq_true, decide_eq_true_eq] at hroom
              obtain ⟨hn, has, hrest⟩ := argsOf_spec hao
              have hnc : nargs y ≤ Sc.length := by rw [hS.len]; exact hn
              have hSa : SR ρ as (Sc.take (nargs y)).reverse := by rw [has]; exact (hS.take _).rev
              have hSr : SR ρ rest (Sc.drop (nargs y)) := by rw [hrest]; exact hS.drop _
              have hsplit : Sc = (Sc.take (nargs y)).reverse.reverse ++ Sc.drop (nargs y) := by rw [List.reverse_reverse, List.take_append_drop]
              obtain ⟨ws, hws⟩ : ∃ ws, ws = (Sc.take (nargs y)).reverse := ⟨_, rfl⟩
              obtain ⟨rc, hrc⟩ : ∃ rc, rc = Sc.drop (nargs y) := ⟨_, rfl⟩
              have hwl : ws.length = nargs y := by rw [hws]; simp; omega
              rw [← hws] at hSa hsplit
              rw [← hrc] at hSr hsplit
              have wcode := hW (.code y.name y.bytes y.maxL y.ret) (in_wordsM hy hj (List.mem_cons_self ..))
              have winit := hW (.initialized y.name.cls) (in_wordsM hy hj (List.mem_cons_of_mem _ (List.mem_cons_self ..)))
              have wmore : ∀ w ∈ (if y.kind = 0 then [Jvm.Cond.static y.name] else if y.kind = 1 then [.instanceMethod y.name] else if y.kind = 2 then [.instanceMethod y.name, .privateMethod y.name] else [.declares y.name, .selects y.name.cls y.name y.name, .instanceMethod y.name]), w.before a0 Z = true := fun w q => hW w (in_wordsM hy hj (List.mem_cons_of_mem _ (List.mem_cons_of_mem _ q)))
              have hMH : y.name.cls ≠ "java/lang/invoke/MethodHandle" ∧ y.name.cls ≠ "java/lang/invoke/VarHandle" := ⟨yc5, yc6⟩
              have back := backOf (W := catSum rest) (len := 3) (R := R) (p := p) (e := e) (below := below) (s := s) (args := args) (met_of ih hy yc1 hcal hSa hent hH [] ({ frames := y.rf, cells := c1, slots := s1, locals := y.rw } : Room) (Nat.le_refl _) (Nat.le_refl _) (Nat.le_refl _) (Nat.le_refl _)) hZ wcode winit (by show y.rf + 1 ≤ _; omega) (by show _ + y.rw ≤ _; omega)
              have hWW : 2 * (mkF m pc A Sc).monitorRoom + (rc.map fun v => v.category).sum ≤ catSum rest := by show 2 * 0 + _ ≤ _; rw [hSr.cat]; omega
              have hpar : ∀ sig, parseMethodDescriptor y.name.desc = some sig → sig.parameters.length = y.npar := fun sig q => by
                unfold sigChk at yc2
                rw [q] at yc2
                simpa using yc2
              have fin : ∀ (v1' : Option Value) (T2 : State) (Lc : List Loc), Stand p l e R s m args below meth c T2 (locs ++ Lc) (cells + c1) (slots + s1) → QQ P Z n0 ρ v1 H1 v1' T2.heap Lc →
                  (∀ target, Steps p.tables e below (T2.setTop (mkF m (pc + 3) A (v1'.toList ++ rc))) target → Steps p.tables e below (T.setTop (mkF m pc A Sc)) target) →
                  Done P Z n0 p e below s ρ v H' (cells + (c0 + c1)) (slots + (s0 + s1)) (T.setTop (mkF m pc A Sc)) := by
                intro v1' T2 Lc X2 hq st2
                obtain ⟨hF2, t, hov, hH2⟩ := hq
                have := m3 p e R s m args below meth c T2 (locs ++ Lc) _ _ X2 cx0 (by omega) (by omega) (ρ ++ t) A (v1'.toList ++ rc) (hL.forget er).mono (by rw [forget_len]; exact hLl) (hov.list.app hSr.mono) hH2 (hF.app hF2)
                have q1 : cells + c1 + c0 = cells + (c0 + c1) := by omega
                have q2 : slots + s1 + s0 = slots + (s0 + s1) := by omega
                rw [q1, q2] at this
                exact this.step st2
              have hcR : cells + c1 ≤ R.cells := by omega
              have hsR : slots + s1 ≤ R.slots := by omega
              cases i with
              | invokestatic k =>
                obtain rfl : len = 3 := by simpa [lenOk] using hlenOk
                have hk0 : y.kind = 0 := by simpa [invKind] using hik
                have wl := hW (.methodLink d.name.cls k y.name) (in_wordsOf hdm hit (by show _ ∈ mLink P d k a b; unfold mLink; rw [if_neg hb1, hy]; exact List.mem_singleton.mpr rfl))
                have wst := wmore (.static y.name) (by rw [if_pos hk0]; exact List.mem_singleton.mpr rfl)
                have hna : nargs y = y.npar := by simp [nargs, hk0]
                obtain ⟨v1', _, ⟨T2, L2, k2', n2⟩, -, X2, ⟨Lc, hQ, l2, y2, z2⟩, st2⟩ := Jvm.LawKit.callS X hx (y := y.name) hown (mvT hZ wl) (mvT hZ wst) (mvT hZ winit) (mvT hZ wcode) hMH back (g := mkF m pc A Sc) rfl (by rw [hml]; exact hL.1.trans hLl) (argsL := ws) (rest := rc) (fun sig q => by rw [hpar sig q, hwl, hna]) hsplit hWW (dec hby) (fun _ _ => ⟨rfl, rfl, hcR, hsR⟩)
                dsimp only [Pt.U, Pt.locs, Pt.cells, Pt.slots] at X2 l2 y2 z2 st2 hQ
                subst l2 y2 z2
                exact fin v1' T2 Lc X2 hQ st2
              | invokespecial k =>
                obtain rfl : len = 3 := by simpa [lenOk] using hlenOk
                have hk1 : y.kind = 1 := by simpa [invKind] using hik
                have wl := hW (.methodLink d.name.cls k y.name) (in_wordsOf hdm hit (by show _ ∈ mLink P d k a b; unfold mLink; rw [if_neg hb1, hy]; exact List.mem_singleton.mpr rfl))
                have wst := wmore (.instanceMethod y.name) (by rw [if_neg (by omega), if_pos hk1]; exact List.mem_singleton.mpr rfl)
                have hna : nargs y = y.npar + 1 := by simp [nargs, hk1]
                simp [hk1] at yc7
                have wcode' : (Jvm.Cond.code y.name y.bytes y.maxL none).before a0 Z = true := by rw [← yc7.2]; exact wcode
                unfold recvOk at hrecv
                rw [if_neg (by omega)] at hrecv
                split at hrecv
                · rename_i o as'
                  obtain ⟨ad, ws', g1, rfl, ha'⟩ := hSa.ref
                  have hst : Sc = ws'.reverse ++ .ref ad :: rc := by rw [hsplit]; simp
                  obtain ⟨v1', _, ⟨T2, L2, k2', n2⟩, -, X2, ⟨Lc, hQ, l2, y2, z2⟩, st2⟩ := X.specialBack hx (y := y.name) yc7.1 hown (mvT hZ wl) (mvT hZ wst) (mvT hZ wcode') hMH back (g := mkF m pc A Sc) rfl (by rw [hml]; exact hL.1.trans hLl) (Steps.refl _) (a := ad) (argsL := ws') (rest := rc) (fun sig q => by rw [hpar sig q]; simp [hna] at hwl; omega) hst hWW (dec hby) (fun _ _ => ⟨rfl, rfl, hcR, hsR⟩)
                  dsimp only [Pt.U, Pt.locs, Pt.cells, Pt.slots] at X2 l2 y2 z2 st2 hQ
                  subst l2 y2 z2
                  exact fin v1' T2 Lc X2 hQ fun t z => st2.trans z
                · cases hrecv
              | invokevirtual k =>
                obtain rfl : len = 3 := by simpa [lenOk] using hlenOk
                have wl := hW (.methodLink d.name.cls k y.name) (in_wordsOf hdm hit (by show _ ∈ mLink P d k a b; unfold mLink; rw [if_neg hb1, hy]; exact List.mem_singleton.mpr rfl))
                have hk23 : y.kind = 2 ∨ y.kind = 3 := by simpa [invKind] using hik
                have hk0 : ¬ y.kind = 0 := by omega
                have hk1 : ¬ y.kind = 1 := by omega
                have hna : nargs y = y.npar + 1 := by simp [nargs, hk0]
                unfold recvOk at hrecv
                rw [if_neg hk0] at hrecv
                split at hrecv
                · rename_i o as'
                  obtain ⟨ad, ws', g1, rfl, ha'⟩ := hSa.ref
                  have hst : Sc = ws'.reverse ++ .ref ad :: rc := by rw [hsplit]; simp
                  split at hrecv
                  · rename_i c0 fs hc0
                    obtain rfl : c0 = y.cid := by simpa using hrecv
                    obtain ⟨ad', g2, cd, q1, q2, q3, q4⟩ := hH.at hc0
                    rw [g1] at g2; cases g2
                    have hcd := cid_of hP hym q1
                    have hcm : cd ∈ P.cls := List.mem_of_getElem? q1
                    rw [hcd] at q2
                    by_cases hk2 : y.kind = 2
                    · have w1 := wmore (.instanceMethod y.name) (by rw [if_neg hk0, if_neg hk1, if_pos hk2]; simp)
                      have w2 := wmore (.privateMethod y.name) (by rw [if_neg hk0, if_neg hk1, if_pos hk2]; simp)
                      have w3 := hW (.instantiable cd.1 cd.2.1) (in_wordsC hcm (List.mem_cons_self ..))
                      rw [hcd] at w3
                      obtain ⟨cI, kI, i1, i2, i3, i4, -⟩ := Cond.instantiable_spec (mvT hZ w3 (args := args) : (Jvm.Cond.instantiable y.name.cls cd.2.1).before args s = true)
                      have hsel := selects_self_of_private (args := args) i1 i2 (by simp at i4; exact i4.1) (Cond.privateMethod_at (mvP hZ w2 (args := #[]))) (mvT hZ w1) hMH
                      obtain ⟨cq, hq1, hq2⟩ := q2.cell
                      obtain ⟨v1', _, ⟨T2, L2, k2', n2⟩, -, X2, ⟨Lc, hQ, l2, y2, z2⟩, st2⟩ := X.privateBack hx (y := y.name) hown (mvT hZ wl) (mvT hZ w1) hsel (Cond.privateMethod_at (mvP hZ w2 (args := #[]))) (mvT hZ wcode) hMH back (g := mkF m pc A Sc) rfl (by rw [hml]; exact hL.1.trans hLl) (Steps.refl _) (a := ad) hq1 hq2 (argsL := ws') (rest := rc) (fun sig q => by rw [hpar sig q]; simp [hna] at hwl; omega) hst hWW (dec hby) (fun _ _ => ⟨rfl, rfl, hcR, hsR⟩)
                      dsimp only [Pt.U, Pt.locs, Pt.cells, Pt.slots] at X2 l2 y2 z2 st2 hQ
                      subst l2 y2 z2
                      exact fin v1' T2 Lc X2 hQ fun t z => st2.trans z
                    · have w1 := wmore (.declares y.name) (by rw [if_neg hk0, if_neg hk1, if_neg hk2]; simp)
                      have w2 := wmore (.selects y.name.cls y.name y.name) (by rw [if_neg hk0, if_neg hk1, if_neg hk2]; simp)
                      have w3 := wmore (.instanceMethod y.name) (by rw [if_neg hk0, if_neg hk1, if_neg hk2]; simp)
                      obtain ⟨cq, kq, qa, qb, qc⟩ := isOf hZ rfl q2
                      obtain ⟨v1', _, ⟨T2, L2, k2', n2⟩, -, X2, ⟨Lc, hQ, l2, y2, z2⟩, st2⟩ := X.virtualBack hx (y := y.name) (z := y.name) hown (mvT hZ wl) (mvT hZ w1) (notFace_of_selects (args := #[]) (mvT hZ w2)) (mvT hZ w2) (mvT hZ w3) hMH back qa qc (g := mkF m pc A Sc) rfl (by rw [hml]; exact hL.1.trans hLl) (Steps.refl _) (argsL := ws') (rest := rc) (fun sig q => by rw [hpar sig q]; simp [hna] at hwl; omega) hst hWW (dec hby) (fun _ _ => ⟨rfl, rfl, hcR, hsR⟩)
                      dsimp only [Pt.U, Pt.locs, Pt.cells, Pt.slots] at X2 l2 y2 z2 st2 hQ
                      subst l2 y2 z2
                      exact fin v1' T2 Lc X2 hQ fun t z => st2.trans z
                  · cases hrecv
                · cases hrecv
              | _ => simp [isInv] at hinv
            · cases h
          · cases h
      · split at h
        · split at h
          · rename_i S1 H1 k1' hxN
            obtain ⟨c0, s0, hcon, rfl, rfl⟩ := res_ext (α := Unit) h
            have m3 := ih mi (pc + len) _ S1 H1 v H' c0 s0 hcon d hmi
            intro p e R s m args below meth c T locs cells slots X cx k1 k2 ρ A Sc hL hLl hS hH hF
            have cx0 := cx
            obtain ⟨hx, hZ, hby, hml, hown, hnm, hret, hlk, hrf, hrw⟩ := cx
            obtain ⟨T2, ad, Sc2, X2, hS2, hH2, st2⟩ := stepN (A := A) X hx hZ hown hP hW hdm hit (dec hby) hlenOk hS hH hxN (by omega) (by omega)
            have := m3 p e R s m args below meth c T2 locs _ _ X2 cx0 (by omega) (by omega) (ρ ++ [ad]) A Sc2 (hL.forget er).mono (by rw [forget_len]; exact hLl) hS2 hH2 hF
            have q1 : cells + 1 + c0 = cells + (c0 + 1) := by omega
            have q2 : slots + k1' + s0 = slots + (s0 + k1') := by omega
            rw [q1, q2] at this
            exact this.step st2
          · cases h
        · split at h
          · rename_i L1 S1 H1 hxI
            have m3 := ih mi (pc + len) L1 S1 H1 v H' kc ks h d hmi
            intro p e R s m args below meth c T locs cells slots X cx k1 k2 ρ A Sc hL hLl hS hH hF
            have cx0 := cx
            obtain ⟨hx, hZ, hby, hml, hown, hnm, hret, hlk, hrf, hrw⟩ := cx
            obtain ⟨T2, locs2, A2, Sc2, X2, x3, hL2, hS2, hH2, hF2, st2⟩ := stepX X hx hZ hown hnm hP hW hdm hit (dec hby) hlenOk (hL.forget er) hS hH hF hxI
            have := m3 p e R s m args below meth c T2 locs2 cells slots X2 cx0 k1 k2 ρ A2 Sc2 hL2 (by rw [x3, forget_len]; exact hLl) hS2 hH2 hF2
            exact Done.step (t := []) (by rw [List.append_nil]; exact this) st2
          · cases h
end Sound
end Jvm.Own
namespace Jvm.Own
open Jvm Jvm.ClassFile Sem Op Lib Jvm.Free Jvm.Stand Jvm.LawKit Jvm.RoadKit Bundle
/-! Runs of the plain machine, rule by rule -/
def OEnds (P : PD) (mi pc : Nat) (L : List Slot) (S : List Value) (H : AHeap) (r : Res) : Prop := ∃ n0, ∀ n, n0 ≤ n → exe P n mi pc L S H = some r
def plainI : Instr → Bool
  | .goto _ => false
  | .if_icmp _ _ => false
  | .ifCond _ _ => false
  | .ifnonnull _ => false
  | .ireturn => false
  | .lreturn => false
  | .return_ => false
  | .invokestatic _ => false
  | .invokespecial _ => false
  | .invokevirtual _ => false
  | .new _ => false
  | .newarray _ => false
  | _ => true
section Rules
variable {P : PD} {mi pc len a q : Nat} {er : List Bool} {b : Int} {i : Instr} {d y : MD} {L L' : List Slot} {S S' as rest : List Value} {H H' H1 : AHeap} {r : Res} {kc ks : Nat} {v : Option Value}
theorem OEnds.up (h : ∀ n, exe P n mi q L' S' H' = some r → exe P (n + 1) mi pc L S H = some r) (E : OEnds P mi q L' S' H' r) : OEnds P mi pc L S H r := by
  obtain ⟨n0, E⟩ := E
  refine ⟨n0 + 1, fun n hn => ?_⟩
  obtain ⟨k, rfl⟩ : ∃ k, n = k + 1 := ⟨n - 1, by omega⟩
  exact h k (E k (by omega))
theorem OEnds.plain (hm : P.mth[mi]? = some d) (hf : fetch d.code pc = some (i, len, er, a, b)) (hp : plainI i = true) (hx : xI P (d.name.name == "<init>") d.cid i a b (forget er L) S H = some (L', S', H')) (E : OEnds P mi (pc + len) L' S' H' r) : OEnds P mi pc L S H r := by
  refine E.up fun n h => ?_
  unfold exe
  rw [hm]
  simp only
  rw [hf]
  simp only
  split
  all_goals first | (simp [plainI] at hp; done) | skip
  have h1 : ¬ isInv i = true := by
    cases i <;> first | (simp [plainI] at hp; done) | simp [isInv]
  have h2 : ¬ isNew i = true := by
    cases i <;> first | (simp [plainI] at hp; done) | simp [isNew]
  rw [if_neg h1, if_neg h2, hx]
  exact h
theorem OEnds.goto {o : Int} (hm : P.mth[mi]? = some d) (hf : fetch d.code pc = some (.goto o, len, er, a, b)) (ht : tgt pc o = some q) (E : OEnds P mi q (forget er L) S H r) : OEnds P mi pc L S H r := by
  refine E.up fun n h => ?_
  unfold exe
  rw [hm]
  simp only
  rw [hf]
  simp only
  rw [ht]
  exact h
theorem OEnds.icmpT {o : Int} {cd : ClassFile.Cond} {x z : Int32} (hm : P.mth[mi]? = some d) (hf : fetch d.code pc = some (.if_icmp cd o, len, er, a, b)) (ht : tgt pc o = some q) (hc : if_icmp.holds cd x z = true) (E : OEnds P mi q (forget er L) S H r) : OEnds P mi pc L (.int z :: .int x :: S) H r := by
  refine E.up fun n h => ?_
  unfold exe
  rw [hm]
  simp only
  rw [hf]
  simp only
  rw [if_pos hc, ht]
  exact h
theorem OEnds.icmpF {o : Int} {cd : ClassFile.Cond} {x z : Int32} (hm : P.mth[mi]? = some d) (hf : fetch d.code pc = some (.if_icmp cd o, len, er, a, b)) (hc : if_icmp.holds cd x z = false) (E : OEnds P mi (pc + 3) (forget er L) S H r) : OEnds P mi pc L (.int z :: .int x :: S) H r := by
  refine E.up fun n h => ?_
  unfold exe
  rw [hm]
  simp only
  rw [hf]
  simp only
  rw [if_neg (by rw [hc]; exact Bool.false_ne_true)]
  exact h
theorem OEnds.ifT {o : Int} {cd : ClassFile.Cond} {x : Int32} (hm : P.mth[mi]? = some d) (hf : fetch d.code pc = some (.ifCond cd o, len, er, a, b)) (ht : tgt pc o = some q) (hc : if_icmp.holds cd x 0 = true) (E : OEnds P mi q (forget er L) S H r) : OEnds P mi pc L (.int x :: S) H r := by
  refine E.up fun n h => ?_
  unfold exe
  rw [hm]
  simp only
  rw [hf]
  simp only
  rw [if_pos ((if0 cd x).trans hc), ht]
  exact h
theorem OEnds.ifF {o : Int} {cd : ClassFile.Cond} {x : Int32} (hm : P.mth[mi]? = some d) (hf : fetch d.code pc = some (.ifCond cd o, len, er, a, b)) (hc : if_icmp.holds cd x 0 = false) (E : OEnds P mi (pc + 3) (forget er L) S H r) : OEnds P mi pc L (.int x :: S) H r := by
  refine E.up fun n h => ?_
  unfold exe
  rw [hm]
  simp only
  rw [hf]
  simp only
  rw [if_neg (by rw [if0 cd x, hc]; exact Bool.false_ne_true)]
  exact h
theorem OEnds.nonnull {o : Int} {x : Nat} (hm : P.mth[mi]? = some d) (hf : fetch d.code pc = some (.ifnonnull o, len, er, a, b)) (ht : tgt pc o = some q) (E : OEnds P mi q (forget er L) S H r) : OEnds P mi pc L (.ref x :: S) H r := by
  refine E.up fun n h => ?_
  unfold exe
  rw [hm]
  simp only
  rw [hf]
  simp only
  rw [ht]
  exact h
theorem OEnds.iret {x : Int32} {u : Value} (hm : P.mth[mi]? = some d) (hf : fetch d.code pc = some (.ireturn, len, er, a, b)) (hv : retV d.ret x = some u) : OEnds P mi pc L [.int x] H (some u, H, 0, 0) := by
  refine ⟨1, fun n hn => ?_⟩
  obtain ⟨k, rfl⟩ : ∃ k, n = k + 1 := ⟨n - 1, by omega⟩
  unfold exe
  rw [hm]
  simp only
  rw [hf]
  simp only
  rw [hv]
theorem OEnds.lret {x : Int64} (hm : P.mth[mi]? = some d) (hf : fetch d.code pc = some (.lreturn, len, er, a, b)) (hv : d.ret = some .long) : OEnds P mi pc L [.long x] H (some (.long x), H, 0, 0) := by
  refine ⟨1, fun n hn => ?_⟩
  obtain ⟨k, rfl⟩ : ∃ k, n = k + 1 := ⟨n - 1, by omega⟩
  unfold exe
  rw [hm]
  simp only
  rw [hf]
  simp only
  rw [if_pos hv]
theorem OEnds.vret (hm : P.mth[mi]? = some d) (hf : fetch d.code pc = some (.return_, len, er, a, b)) (hv : d.ret = none) : OEnds P mi pc L [] H (none, H, 0, 0) := by
  refine ⟨1, fun n hn => ?_⟩
  obtain ⟨k, rfl⟩ : ∃ k, n = k + 1 := ⟨n - 1, by omega⟩
  unfold exe
  rw [hm]
  simp only
  rw [hf]
  simp only
  rw [if_pos hv]
theorem OEnds.oinit {k x : Nat} (hm : P.mth[mi]? = some d) (hf : fetch d.code pc = some (.invokespecial k, len, er, a, -1)) (hr : 1 ≤ d.rf ∧ catSum S + 12 ≤ d.rw) (E : OEnds P mi (pc + 3) (forget er L) S H r) : OEnds P mi pc L (.ref x :: S) H r := by
  refine E.up fun n h => ?_
  unfold exe
  rw [hm]
  simp only
  rw [hf]
  simp only [isInv, if_true]
  rw [if_pos hr]
  exact h
theorem OEnds.call (hm : P.mth[mi]? = some d) (hf : fetch d.code pc = some (i, len, er, a, b)) (hi : isInv i = true) (hb : ¬ b = -1) (hy : P.mth[a]? = some y) (hao : argsOf (nargs y) S = some (as, rest))
    (hc : (decide (0 < a) && invKind i y.kind && recvOk P H y as && fitsRoom d y rest && decide ((entA as).length ≤ y.maxL)) = true) (E1 : OEnds P a 0 (entL as y.maxL) [] H (v, H1, kc, ks)) (E2 : OEnds P mi (pc + 3) (forget er L) (v.toList ++ rest) H1 r) : OEnds P mi pc L S H (addR r kc ks) := by
  obtain ⟨n1, E1⟩ := E1
  obtain ⟨n2, E2⟩ := E2
  refine ⟨n1 + n2 + 1, fun n hn => ?_⟩
  obtain ⟨k, rfl⟩ : ∃ k, n = k + 1 := ⟨n - 1, by omega⟩
  have e1 := E1 k (by omega)
  have e2 := E2 k (by omega)
  unfold exe
  rw [hm]
  simp only
  rw [hf]
  simp only
  split
  all_goals first | (simp [isInv] at hi; done) | skip
  rw [if_pos hi, if_neg hb, hy]
  simp only
  rw [hao]
  simp only
  rw [if_pos hc, e1]
  simp only
  rw [e2]
  rfl
theorem OEnds.call0 (hm : P.mth[mi]? = some d) (hf : fetch d.code pc = some (i, len, er, a, b)) (hi : isInv i = true) (hb : ¬ b = -1) (hy : P.mth[a]? = some y) (hao : argsOf (nargs y) S = some (as, rest))
    (hc : (decide (0 < a) && invKind i y.kind && recvOk P H y as && fitsRoom d y rest && decide ((entA as).length ≤ y.maxL)) = true) (E1 : OEnds P a 0 (entL as y.maxL) [] H (v, H1, 0, 0)) (E2 : OEnds P mi (pc + 3) (forget er L) (v.toList ++ rest) H1 r) : OEnds P mi pc L S H r :=
  OEnds.call (r := r) hm hf hi hb hy hao hc E1 E2
theorem OEnds.made (hm : P.mth[mi]? = some d) (hf : fetch d.code pc = some (i, len, er, a, b)) (hi : isNew i = true) (hx : xN P i a S H = some (S', H', ks)) (E : OEnds P mi (pc + len) (forget er L) S' H' r) : OEnds P mi pc L S H (addR r 1 ks) := by
  obtain ⟨n0, E⟩ := E
  refine ⟨n0 + 1, fun n hn => ?_⟩
  obtain ⟨k, rfl⟩ : ∃ k, n = k + 1 := ⟨n - 1, by omega⟩
  have e1 := E k (by omega)
  unfold exe
  rw [hm]
  simp only
  rw [hf]
  simp only
  split
  all_goals first | (simp [isNew] at hi; done) | skip
  have h1 : ¬ isInv i = true := by
    cases i <;> first | (simp [isNew] at hi; done) | simp [isInv]
  rw [if_neg h1, if_pos hi, hx]
  simp only
  rw [e1]
  rfl
end Rules
/-- k plain instructions and jumps in one go -/
def adv (P : PD) (d : MD) : Nat → Nat → List Slot → List Value → AHeap → Option (Nat × List Slot × List Value × AHeap)
  | 0, pc, L, S, H => some (pc, L, S, H)
  | k + 1, pc, L, S, H => match fetch d.code pc with
    | some (i, len, er, a, b) => match i with
      | .goto o => match tgt pc o with
        | some q => adv P d k q (forget er L) S H
        | none => none
      | i => if plainI i = true then match xI P (d.name.name == "<init>") d.cid i a b (forget er L) S H with
          | some (L', S', H') => adv P d k (pc + len) L' S' H'
          | none => none
        else none
    | none => none
theorem OEnds.adv {P : PD} {mi : Nat} {d : MD} (hm : P.mth[mi]? = some d) {r : Res} : ∀ (k : Nat) {pc pc' : Nat} {L L' : List Slot} {S S' : List Value} {H H' : AHeap}, adv P d k pc L S H = some (pc', L', S', H') → OEnds P mi pc' L' S' H' r → OEnds P mi pc L S H r
  | 0, _, _, _, _, _, _, _, _, h, E => by
    unfold Own.adv at h
    cases h
    exact E
  | k + 1, pc, pc', L, L', S, S', H, H', h, E => by
    unfold Own.adv at h
    split at h
    · rename_i it i len er a b hf
      split at h
      · rename_i o
        split at h
        · rename_i q hq
          exact OEnds.goto hm hf hq (OEnds.adv hm k h E)
        · cases h
      · split at h
        · rename_i hp
          split at h
          · rename_i L1 S1 H1 hx
            exact OEnds.plain hm hf hp hx (OEnds.adv hm k h E)
          · cases h
        · cases h
    · cases h
theorem x_iaload {P : PD} {ini : Bool} {cid a o : Nat} {b : Int} {L : List Slot} {S : List Value} {H : AHeap} {A : List Int32} {j x : Int32} (h : H[o]? = some (.inr (.inl (false, A)))) (hx : rdA A j = some x) : xI P ini cid .iaload a b L (.int j :: .ref o :: S) H = some (L, .int x :: S, H) := by simp [xI, h, hx]
theorem x_baload {P : PD} {ini : Bool} {cid a o : Nat} {b : Int} {L : List Slot} {S : List Value} {H : AHeap} {A : List Int32} {j x : Int32} (h : H[o]? = some (.inr (.inl (true, A)))) (hx : rdA A j = some x) : xI P ini cid .baload a b L (.int j :: .ref o :: S) H = some (L, .int x :: S, H) := by simp [xI, h, hx]
theorem x_laload {P : PD} {ini : Bool} {cid a o : Nat} {b : Int} {L : List Slot} {S : List Value} {H : AHeap} {A : List Int64} {j : Int32} {x : Int64} (h : H[o]? = some (.inr (.inr A))) (hx : rdA A j = some x) : xI P ini cid .laload a b L (.int j :: .ref o :: S) H = some (L, .long x :: S, H) := by simp [xI, h, hx]
theorem x_iastore {P : PD} {ini : Bool} {cid a o : Nat} {b : Int} {L : List Slot} {S : List Value} {H : AHeap} {A A' : List Int32} {j x : Int32} (h : H[o]? = some (.inr (.inl (false, A)))) (hn : P.nr ≤ o) (hx : wrA A j x = some A') : xI P ini cid .iastore a b L (.int x :: .int j :: .ref o :: S) H = some (L, S, H.set o (.inr (.inl (false, A')))) := by simp [xI, h, hx, hn]
theorem x_bastore {P : PD} {ini : Bool} {cid a o : Nat} {b : Int} {L : List Slot} {S : List Value} {H : AHeap} {A A' : List Int32} {j x : Int32} (h : H[o]? = some (.inr (.inl (true, A)))) (hn : P.nr ≤ o) (hx : wrA A j (x &&& 1) = some A') : xI P ini cid .bastore a b L (.int x :: .int j :: .ref o :: S) H = some (L, S, H.set o (.inr (.inl (true, A')))) := by simp [xI, h, hx, hn]
theorem x_lastore {P : PD} {ini : Bool} {cid a o : Nat} {b : Int} {L : List Slot} {S : List Value} {H : AHeap} {A A' : List Int64} {j : Int32} {x : Int64} (h : H[o]? = some (.inr (.inr A))) (hn : P.nr ≤ o) (hx : wrA A j x = some A') : xI P ini cid .lastore a b L (.long x :: .int j :: .ref o :: S) H = some (L, S, H.set o (.inr (.inr A'))) := by simp [xI, h, hx, hn]
theorem x_irem {P : PD} {ini : Bool} {cid a : Nat} {b : Int} {L : List Slot} {S : List Value} {H : AHeap} {x y : Int32} (h : ¬ y = 0) : xI P ini cid .irem a b L (.int y :: .int x :: S) H = some (L, .int (x % y) :: S, H) := by simp [xI, h]
theorem x_idiv {P : PD} {ini : Bool} {cid a : Nat} {b : Int} {L : List Slot} {S : List Value} {H : AHeap} {x y : Int32} (h : ¬ y = 0) : xI P ini cid .idiv a b L (.int y :: .int x :: S) H = some (L, .int (x / y) :: S, H) := by simp [xI, h]
theorem x_lrem {P : PD} {ini : Bool} {cid a : Nat} {b : Int} {L : List Slot} {S : List Value} {H : AHeap} {x y : Int64} (h : ¬ y = 0) : xI P ini cid .lrem a b L (.long y :: .long x :: S) H = some (L, .long (x % y) :: S, H) := by simp [xI, h]
theorem x_ldiv {P : PD} {ini : Bool} {cid a : Nat} {b : Int} {L : List Slot} {S : List Value} {H : AHeap} {x y : Int64} (h : ¬ y = 0) : xI P ini cid .ldiv a b L (.long y :: .long x :: S) H = some (L, .long (x / y) :: S, H) := by simp [xI, h]
theorem c_lt {x y : Int64} : XT.cmpL x y < 0 ↔ x < y := by
  unfold XT.cmpL; split <;> (try split) <;> simp_all [Int64.lt_iff_toInt_lt, ← Int64.toInt_inj] <;> omega
theorem c_gt {x y : Int64} : 0 < XT.cmpL x y ↔ y < x := by
  unfold XT.cmpL; split <;> (try split) <;> simp_all [Int64.lt_iff_toInt_lt, ← Int64.toInt_inj] <;> omega
theorem c_eq {x y : Int64} : XT.cmpL x y = 0 ↔ x = y := by
  unfold XT.cmpL; split <;> (try split) <;> simp_all [Int64.lt_iff_toInt_lt, ← Int64.toInt_inj] <;> omega
end Jvm.Own
namespace Jvm.Own
open Jvm Jvm.ClassFile Sem Op Lib Jvm.Free Jvm.Stand Jvm.LawKit Jvm.RoadKit Bundle
theorem bnd {α β : Type} {o : Option α} {f : α → Option β} {b : β} (h : o.bind f = some b) : ∃ a, o = some a ∧ f a = some b := Option.bind_eq_some_iff.mp h
theorem x_putZ {P : PD} {ini : Bool} {k cid a o : Nat} {b : Int} {L : List Slot} {S : List Value} {H : AHeap} {fs : List Value} {nm ds : String} {x : Int32} (h : H[o]? = some (.inl (cid, fs))) (hn : P.nr ≤ o) (hf : ((P.cls[cid]?).bind fun cd => cd.2.2[a]?) = some (nm, ds, .boolean, false)) (hx : x = 0 ∨ x = 1) :
    xI P ini cid (.putfield k) a b L (.int x :: .ref o :: S) H = some (L, S, H.set o (.inl (cid, fs.set a (.int x)))) := by
  rcases hx with rfl | rfl <;> simp [xI, h, hn, hf, putOk]
section Rules
variable {P : PD} {mi pc len a q : Nat} {er : List Bool} {b : Int} {i : Instr} {d y : MD} {L L' : List Slot} {S S' as rest : List Value} {H H' H1 : AHeap} {r : Res} {kc ks : Nat} {v : Option Value}
theorem OEnds.made1 {w : Option Value} {Hf : AHeap} (hm : P.mth[mi]? = some d) (hf : fetch d.code pc = some (i, len, er, a, b)) (hi : isNew i = true) (hx : xN P i a S H = some (S', H', ks)) {c0 s0 c1 s1 : Nat} (hr : (c1, s1) = (c0 + 1, s0 + ks)) (E : OEnds P mi (pc + len) (forget er L) S' H' (w, Hf, c0, s0)) : OEnds P mi pc L S H (w, Hf, c1, s1) := by
  cases hr
  exact OEnds.made (r := (w, Hf, c0, s0)) hm hf hi hx E
/-! The same, of a run whose end is told by a property -/
def OEndsQ (P : PD) (mi pc : Nat) (L : List Slot) (S : List Value) (H : AHeap) (Q : Res → Prop) : Prop := ∃ r, OEnds P mi pc L S H r ∧ Q r
variable {Q : Res → Prop}
theorem OEndsQ.plain (hm : P.mth[mi]? = some d) (hf : fetch d.code pc = some (i, len, er, a, b)) (hp : plainI i = true) (hx : xI P (d.name.name == "<init>") d.cid i a b (forget er L) S H = some (L', S', H')) (E : OEndsQ P mi (pc + len) L' S' H' Q) : OEndsQ P mi pc L S H Q := by
  obtain ⟨r, E, hq⟩ := E; exact ⟨r, OEnds.plain hm hf hp hx E, hq⟩
theorem OEndsQ.icmpT {o : Int} {cd : ClassFile.Cond} {x z : Int32} (hm : P.mth[mi]? = some d) (hf : fetch d.code pc = some (.if_icmp cd o, len, er, a, b)) (ht : tgt pc o = some q) (hc : if_icmp.holds cd x z = true) (E : OEndsQ P mi q (forget er L) S H Q) : OEndsQ P mi pc L (.int z :: .int x :: S) H Q := by
  obtain ⟨r, E, hq⟩ := E; exact ⟨r, OEnds.icmpT hm hf ht hc E, hq⟩
theorem OEndsQ.icmpF {o : Int} {cd : ClassFile.Cond} {x z : Int32} (hm : P.mth[mi]? = some d) (hf : fetch d.code pc = some (.if_icmp cd o, len, er, a, b)) (hc : if_icmp.holds cd x z = false) (E : OEndsQ P mi (pc + 3) (forget er L) S H Q) : OEndsQ P mi pc L (.int z :: .int x :: S) H Q := by
  obtain ⟨r, E, hq⟩ := E; exact ⟨r, OEnds.icmpF hm hf hc E, hq⟩
theorem OEndsQ.ifT {o : Int} {cd : ClassFile.Cond} {x : Int32} (hm : P.mth[mi]? = some d) (hf : fetch d.code pc = some (.ifCond cd o, len, er, a, b)) (ht : tgt pc o = some q) (hc : if_icmp.holds cd x 0 = true) (E : OEndsQ P mi q (forget er L) S H Q) : OEndsQ P mi pc L (.int x :: S) H Q := by
  obtain ⟨r, E, hq⟩ := E; exact ⟨r, OEnds.ifT hm hf ht hc E, hq⟩
theorem OEndsQ.ifF {o : Int} {cd : ClassFile.Cond} {x : Int32} (hm : P.mth[mi]? = some d) (hf : fetch d.code pc = some (.ifCond cd o, len, er, a, b)) (hc : if_icmp.holds cd x 0 = false) (E : OEndsQ P mi (pc + 3) (forget er L) S H Q) : OEndsQ P mi pc L (.int x :: S) H Q := by
  obtain ⟨r, E, hq⟩ := E; exact ⟨r, OEnds.ifF hm hf hc E, hq⟩
theorem OEndsQ.nonnull {o : Int} {x : Nat} (hm : P.mth[mi]? = some d) (hf : fetch d.code pc = some (.ifnonnull o, len, er, a, b)) (ht : tgt pc o = some q) (E : OEndsQ P mi q (forget er L) S H Q) : OEndsQ P mi pc L (.ref x :: S) H Q := by
  obtain ⟨r, E, hq⟩ := E; exact ⟨r, OEnds.nonnull hm hf ht E, hq⟩
theorem OEndsQ.call0 (hm : P.mth[mi]? = some d) (hf : fetch d.code pc = some (i, len, er, a, b)) (hi : isInv i = true) (hb : ¬ b = -1) (hy : P.mth[a]? = some y) (hao : argsOf (nargs y) S = some (as, rest))
    (hc : (decide (0 < a) && invKind i y.kind && recvOk P H y as && fitsRoom d y rest && decide ((entA as).length ≤ y.maxL)) = true) (E1 : OEnds P a 0 (entL as y.maxL) [] H (v, H1, 0, 0)) (E2 : OEndsQ P mi (pc + 3) (forget er L) (v.toList ++ rest) H1 Q) : OEndsQ P mi pc L S H Q := by
  obtain ⟨r, E, hq⟩ := E2; exact ⟨r, OEnds.call0 hm hf hi hb hy hao hc E1 E, hq⟩
theorem OEndsQ.adv (hm : P.mth[mi]? = some d) (k : Nat) {pc' : Nat} (h : adv P d k pc L S H = some (pc', L', S', H')) (E : OEndsQ P mi pc' L' S' H' Q) : OEndsQ P mi pc L S H Q := by
  obtain ⟨r, E, hq⟩ := E; exact ⟨r, OEnds.adv hm k h E, hq⟩
/-- what a law's run ends with: its answer, and at the most so many cells and slots made -/
def LawQ (x : Int32) (kc ks : Nat) (r : Res) : Prop := r.1 = some (.int x) ∧ r.2.2.1 ≤ kc ∧ r.2.2.2 ≤ ks
theorem OEndsQ.iret {x u : Int32} (hm : P.mth[mi]? = some d) (hf : fetch d.code pc = some (.ireturn, len, er, a, b)) (hv : retV d.ret x = some (.int u)) : OEndsQ P mi pc L [.int x] H (LawQ u kc ks) :=
  ⟨_, OEnds.iret hm hf hv, rfl, Nat.zero_le _, Nat.zero_le _⟩
theorem OEndsQ.weak {x : Int32} {c0 s0 : Nat} (h1 : c0 ≤ kc) (h2 : s0 ≤ ks) (E : OEndsQ P mi pc L S H (LawQ x c0 s0)) : OEndsQ P mi pc L S H (LawQ x kc ks) := by
  obtain ⟨r, E, q1, q2, q3⟩ := E; exact ⟨r, E, q1, Nat.le_trans q2 h1, Nat.le_trans q3 h2⟩
theorem OEndsQ.made {x : Int32} {c0 s0 c1 s1 : Nat} (hm : P.mth[mi]? = some d) (hf : fetch d.code pc = some (i, len, er, a, b)) (hi : isNew i = true) (hx : xN P i a S H = some (S', H', ks)) (h1 : c0 + 1 ≤ c1) (h2 : s0 + ks ≤ s1) (E : OEndsQ P mi (pc + len) (forget er L) S' H' (LawQ x c0 s0)) : OEndsQ P mi pc L S H (LawQ x c1 s1) := by
  obtain ⟨⟨v, Hf, k, n⟩, E, q1, q2, q3⟩ := E
  dsimp only at q1 q2 q3
  exact ⟨_, OEnds.made hm hf hi hx E, q1, by show k + 1 ≤ c1; omega, by show n + ks ≤ s1; omega⟩
theorem OEndsQ.callN {x : Int32} {c0 s0 c1 s1 : Nat} (hm : P.mth[mi]? = some d) (hf : fetch d.code pc = some (i, len, er, a, b)) (hi : isInv i = true) (hb : ¬ b = -1) (hy : P.mth[a]? = some y) (hao : argsOf (nargs y) S = some (as, rest))
    (hc : (decide (0 < a) && invKind i y.kind && recvOk P H y as && fitsRoom d y rest && decide ((entA as).length ≤ y.maxL)) = true) (E1 : OEnds P a 0 (entL as y.maxL) [] H (v, H1, kc, ks)) (h1 : c0 + kc ≤ c1) (h2 : s0 + ks ≤ s1) (E2 : OEndsQ P mi (pc + 3) (forget er L) (v.toList ++ rest) H1 (LawQ x c0 s0)) : OEndsQ P mi pc L S H (LawQ x c1 s1) := by
  obtain ⟨⟨v, Hf, k, n⟩, E, q1, q2, q3⟩ := E2
  dsimp only at q1 q2 q3
  exact ⟨_, OEnds.call hm hf hi hb hy hao hc E1 E, q1, by show k + kc ≤ c1; omega, by show n + ks ≤ s1; omega⟩
end Rules
/-! From the machine to the claim -/
theorem law_met {P : PD} {Z : State} {a0 : Array Value} {l : Launch} {y : MD} {as ws : List Value} {H : AHeap} {ρ : List Addr} {n0 kc ks : Nat} {h : Heap} (hP : chk P = true) (hW : ∀ w ∈ wordsOf P, w.before a0 Z = true) (hy : P.mth[0]? = some y)
    (E : OEndsQ P 0 0 (entL as y.maxL) [] H (LawQ 1 kc ks)) (hS : SR ρ as ws) (hlen : (entA as).length ≤ y.maxL) (hH : HR P Z n0 h ρ H) (w0 : List Jvm.Cond) (rm : Room) (r1 : y.rf ≤ rm.frames) (r2 : y.rw ≤ rm.locals) (r3 : kc ≤ rm.cells) (r4 : ks ≤ rm.slots) :
    MetFree l y.name (head1 (Jvm.Cond.code y.name y.bytes y.maxL y.ret :: w0) rm) (fun a U => a = ws.toArray ∧ Z.Warmed39 U.vm ∧ U.heap = h) (fun _ _ _ _ _ => True)
      (fun _ U o U' => ∃ L, o = .returned (some (.int 1)) ∧ Fr n0 L ∧ FrameEnd U o U' L kc ks) := by
  obtain ⟨⟨v, H1, c1, s1⟩, ⟨n, E⟩, q1, q2, q3⟩ := E
  dsimp only at q1 q2 q3
  subst q1
  have hpn : plainName y.name.cls = true := by
    have := mChk_of hP (List.mem_of_getElem? hy)
    simp only [mChk, Bool.and_eq_true] at this
    exact this.1.1.1.1.1.1
  have M := met_of (l := l) (n := n) (sound hP hW n) hy hpn (E n (Nat.le_refl _)) hS hlen hH w0 rm r1 r2 (Nat.le_trans q2 r3) (Nat.le_trans q3 r4)
  intro p e ha hc hk s m args below hf happ hp hK
  obtain ⟨n', o, h1, h2, h3, v', L, rfl, ⟨hF, t, ⟨u, rfl, hu⟩, -⟩, hq⟩ := M p e ha hc hk s m args below hf happ hp hK
  obtain rfl : u = .int 1 := hu
  exact ⟨n', _, h1, h2, h3, L, rfl, hF, hq.1, hq.2.1, hq.2.2.mono q2 q3⟩
end Jvm.Own
namespace Jvm.Own
open Jvm Jvm.ClassFile Sem Op Lib Jvm.Free Jvm.Stand Jvm.LawKit Jvm.RoadKit Bundle
/-- the law's script: an int array of at most 260 -/
theorem script_of {s : State} {ad : Addr} {cl : Cell} (hf : Fit s) (A : Arr s s.heap ad cl .int) (e0 : (Term.arg 0).eval #[.ref ad] s none [] s = some (.ref ad)) (hn : (Jvm.Cond.le (.length (.arg 0)) (.int 260)).value #[.ref ad] s none s [] = some true) :
    ∃ scr : List Int32, cl.slots.size = scr.length ∧ scr.length ≤ 260 ∧ ∀ (i : Nat) x, scr[i]? = some x → cl.slots[i]? = some (.int x) := by
  obtain ⟨u, v, g1, g2, -, -⟩ := cmp_v (Or.inr (Or.inr hn))
  obtain ⟨a', cl', z1, z2, z3⟩ := Term.length_spec g1
  have hat := A.fin (Vm.Alike.refl _)
  rw [e0] at z1
  cases z1
  rw [hat] at z2
  cases z2
  have hsz : cl.slots.size < 2 ^ 31 := by
    rcases Nat.lt_or_ge cl.slots.size (2 ^ 31) with q | q
    · exact q
    · exfalso
      simp [Term.eval, hat] at g1
      omega
  subst z3
  have hv : v = .int 260 := by simpa [Term.eval] using g2.symm
  subst hv
  have hle : cl.slots.size.toInt32 ≤ 260 := by
    simpa [Cond.value, g1, g2] using hn
  have hle' : cl.slots.size ≤ 260 := by
    rw [Int32.le_iff_toInt_le, len_toInt hsz] at hle
    have : (260 : Int32).toInt = 260 := rfl
    rw [this] at hle
    omega
  have key : ∀ i, i < cl.slots.size → ∃ x, cl.slots[i]? = some (.int x) := fun i hi => by
    have hj := idx_in hi hsz
    obtain ⟨v, e1, e2⟩ := elem_fit hf A hj
    have : i.toInt32.toNatClampNeg = i := by
      have h1 : i.toInt32.toInt = i := len_toInt (by omega)
      simp [Int32.toNatClampNeg, h1]
    rw [this] at e1
    obtain ⟨x, rfl⟩ := fit_I e2 (Or.inl rfl)
    exact ⟨x, e1⟩
  refine ⟨cl.slots.toList.map fun v => match v with | .int x => x | _ => 0, by simp, by simpa using hle', fun i x hx => ?_⟩
  rw [List.getElem?_map] at hx
  obtain ⟨v, h1, h2⟩ := Option.map_eq_some_iff.mp hx
  have h1' : cl.slots[i]? = some v := by simpa using h1
  obtain ⟨y, hy⟩ := key i (Array.getElem?_eq_some_iff.mp h1').1
  rw [h1'] at hy
  cases hy
  rw [h1']
  simp at h2
  rw [h2]
theorem hr_script {P : PD} {s : State} {ad : Addr} {cl : Cell} {scr : List Int32} (hnr : P.nr = 1) (A : Arr s s.heap ad cl .int) (h1 : cl.slots.size = scr.length) (h2 : scr.length ≤ 260) (h3 : ∀ (i : Nat) x, scr[i]? = some x → cl.slots[i]? = some (.int x)) : HR P s s.heap.size s.heap [ad] [.inr (.inl (false, scr))] := by
  refine ⟨Nat.le_refl _, rfl, fun i j a g1 g2 => ?_, fun k a g1 g2 => ?_, fun k a c g1 g2 => ?_⟩
  · match i, j, g1, g2 with
    | 0, 0, _, _ => rfl
    | i + 1, _, g1, _ => simp at g1
    | 0, j + 1, _, g2 => simp at g2
  · match k, g1, g2 with
    | 0, _, g2 => rw [hnr] at g2; omega
    | k + 1, g1, _ => simp at g1
  · match k, g1, g2 with
    | 0, g1, g2 =>
      simp at g1 g2
      subst g1 g2
      exact ⟨cl, A, h1, by omega, h3⟩
    | k + 1, g1, _ => simp at g1
end Jvm.Own
namespace Jvm.Own
open Jvm
/-! Ints in range, arrays -/
theorem ilt {a b : Int32} : a < b ↔ a.toInt < b.toInt := Int32.lt_iff_toInt_lt
theorem ile {a b : Int32} : a ≤ b ↔ a.toInt ≤ b.toInt := Int32.le_iff_toInt_le
theorem ieq {a b : Int32} : a = b ↔ a.toInt = b.toInt := Int32.toInt_inj.symm
theorem irng (a : Int32) : -2147483648 ≤ a.toInt ∧ a.toInt < 2147483648 := ⟨Int32.le_toInt a, Int32.toInt_lt a⟩
theorem iadd_i {a b : Int32} (h1 : -2147483648 ≤ a.toInt + b.toInt) (h2 : a.toInt + b.toInt < 2147483648) : (a + b).toInt = a.toInt + b.toInt := by
  rw [Int32.toInt_add]; exact Int.bmod_eq_of_le (by omega) (by omega)
theorem isub_i {a b : Int32} (h1 : -2147483648 ≤ a.toInt - b.toInt) (h2 : a.toInt - b.toInt < 2147483648) : (a - b).toInt = a.toInt - b.toInt := by
  rw [Int32.toInt_sub]; exact Int.bmod_eq_of_le (by omega) (by omega)
theorem imul_i {a b : Int32} (h1 : -2147483648 ≤ a.toInt * b.toInt) (h2 : a.toInt * b.toInt < 2147483648) : (a * b).toInt = a.toInt * b.toInt := by
  rw [Int32.toInt_mul]; exact Int.bmod_eq_of_le (by omega) (by omega)
theorem rdA_nn {α : Type} {L : List α} {j : Int32} (h0 : 0 ≤ j.toInt) : rdA L j = L[j.toInt.toNat]? := by
  unfold rdA
  rw [if_neg (by rw [ilt]; exact Int.not_lt.mpr h0)]
  rfl
theorem rdA_in {α : Type} {L : List α} {j : Int32} (h0 : 0 ≤ j.toInt) (h1 : j.toInt.toNat < L.length) : rdA L j = some L[j.toInt.toNat] := by
  rw [rdA_nn h0, List.getElem?_eq_getElem h1]
theorem wrA_in {α : Type} {L : List α} {j : Int32} {x : α} (h0 : 0 ≤ j.toInt) (h1 : j.toInt.toNat < L.length) : wrA L j x = some (L.set j.toInt.toNat x) := by
  unfold wrA
  rw [if_neg (by rw [ilt]; exact Int.not_lt.mpr h0)]
  exact if_pos h1
theorem rdA_rep {α : Type} {n : Nat} {x : α} {j : Int32} (h0 : 0 ≤ j.toInt) (h1 : j.toInt < n) : rdA (List.replicate n x) j = some x := by
  rw [rdA_nn h0, List.getElem?_replicate, if_pos (by omega)]
end Jvm.Own
namespace Jvm.Own
open Jvm
/-! Sums of ints with their wrap, for omega; runs that answer, and what they answer -/
theorem bmod32 (x : Int) : x.bmod (2 ^ 32) = (x + 2147483648) % 4294967296 - 2147483648 := by
  rw [Int.bmod_def]
  split <;> omega
theorem iadd_e (a b : Int32) : (a + b).toInt = (a.toInt + b.toInt + 2147483648) % 4294967296 - 2147483648 := by
  rw [Int32.toInt_add, bmod32]
theorem isub_e (a b : Int32) : (a - b).toInt = (a.toInt - b.toInt + 2147483648) % 4294967296 - 2147483648 := by
  rw [Int32.toInt_sub, bmod32]
theorem imul_e (a b : Int32) : (a * b).toInt = (a.toInt * b.toInt + 2147483648) % 4294967296 - 2147483648 := by
  rw [Int32.toInt_mul, bmod32]
theorem iscr {n : Nat} (h : n ≤ 260) : (n.toInt32).toInt = n := Int32.toInt_ofNat_of_lt (by omega)
def Tot {α : Type} (x : Option α) (P : α → Prop) : Prop := ∃ r, x = some r ∧ P r
theorem Tot.mk {α : Type} {P : α → Prop} {a : α} (h : P a) : Tot (some a) P := ⟨a, rfl, h⟩
theorem Tot.bind {α β : Type} {x : Option α} {f : α → Option β} {P : α → Prop} {Q : β → Prop} (h : Tot x P) (g : ∀ a, P a → Tot (f a) Q) : Tot (x.bind f) Q := by
  obtain ⟨r, e, p⟩ := h
  rw [e]
  exact g r p
theorem Tot.mono {α : Type} {x : Option α} {P Q : α → Prop} (h : Tot x P) (g : ∀ a, P a → Q a) : Tot x Q := by
  obtain ⟨r, e, p⟩ := h
  exact ⟨r, e, g r p⟩
theorem Tot.ite {α : Type} {c : Prop} [Decidable c] {a b : Option α} {Q : α → Prop} (h1 : c → Tot a Q) (h2 : ¬ c → Tot b Q) : Tot (if c then a else b) Q := by
  by_cases h : c
  · rw [if_pos h]; exact h1 h
  · rw [if_neg h]; exact h2 h
theorem Tot.rd {α β : Type} {L : List α} {j : Int32} {f : α → Option β} {Q : β → Prop} (h0 : 0 ≤ j.toInt) (h1 : j.toInt < L.length) (g : ∀ a, L[j.toInt.toNat]? = some a → Tot (f a) Q) : Tot ((rdA L j).bind f) Q := by
  have h2 : j.toInt.toNat < L.length := by omega
  rw [rdA_in h0 h2]
  exact g _ (List.getElem?_eq_getElem h2)
theorem Tot.wr {α β : Type} {L : List α} {j : Int32} {x : α} {f : List α → Option β} {Q : β → Prop} (h0 : 0 ≤ j.toInt) (h1 : j.toInt < L.length) (g : ∀ L' : List α, L' = L.set j.toInt.toNat x → L'.length = L.length → Tot (f L') Q) : Tot ((wrA L j x).bind f) Q := by
  rw [wrA_in h0 (by omega)]
  exact g _ rfl (by simp)
theorem Tot.eq {α : Type} {x : Option α} {a : α} (h : Tot x (fun r => r = a)) : x = some a := by
  obtain ⟨r, e, p⟩ := h
  rw [e, p]
theorem Tot.of {α : Type} {x : Option α} {a : α} {P : α → Prop} (e : x = some a) (p : P a) : Tot x P := ⟨a, e, p⟩
/-- a bit mask at 15, 31 .. -/
theorem iand_rng (x : Int32) (m : Int32) (h : 0 ≤ m.toInt) : 0 ≤ (x &&& m).toInt ∧ (x &&& m).toInt ≤ m.toInt := by
  have hm : m.toBitVec.msb = false := by
    rw [BitVec.msb_eq_toInt]; simpa using h
  have hx : (x &&& m).toBitVec.msb = false := by
    rw [Int32.toBitVec_and, BitVec.msb_and, hm, Bool.and_false]
  have e1 : m.toInt = (m.toBitVec.toNat : Int) := BitVec.toInt_eq_toNat_of_msb hm
  have e2 : (x &&& m).toInt = (((x &&& m).toBitVec).toNat : Int) := BitVec.toInt_eq_toNat_of_msb hx
  have e3 : ((x &&& m).toBitVec).toNat ≤ m.toBitVec.toNat := by
    rw [Int32.toBitVec_and, BitVec.toNat_and]; exact Nat.and_le_right
  omega
def gI (L : List Int32) (j : Int32) : Int32 := (rdA L j).getD 0
theorem rdg {L : List Int32} {j : Int32} (h0 : 0 ≤ j.toInt) (h1 : j.toInt < L.length) : rdA L j = some (gI L j) := by
  have h2 : j.toInt.toNat < L.length := by omega
  unfold gI
  rw [rdA_in h0 h2]
  (first | done | rfl | simp)
theorem gset {L : List Int32} {i j : Int32} {x : Int32} (hi : 0 ≤ i.toInt) (hl : i.toInt < L.length) (hj : 0 ≤ j.toInt) : gI (L.set i.toInt.toNat x) j = if i = j then x else gI L j := by
  unfold gI
  rw [rdA_nn hj, rdA_nn hj]
  by_cases h : i = j
  · subst h
    rw [if_pos rfl, List.getElem?_set_self (by omega)]
    (first | done | rfl | simp)
  · rw [if_neg h, List.getElem?_set_ne (by rw [ieq] at h; omega)]
theorem gext {A B : List Int32} (hl : A.length < 100000) (ha : A.length = B.length) (h : ∀ i : Int32, 0 ≤ i.toInt → i.toInt < A.length → gI A i = gI B i) : A = B := by
  apply List.ext_getElem ha
  intro k h1 h2
  have e : (Int32.ofNat k).toInt = k := Int32.toInt_ofNat_of_lt (by omega)
  have q := h (Int32.ofNat k) (by omega) (by omega)
  unfold gI at q
  rw [rdA_nn (by omega), rdA_nn (by omega), e] at q
  simpa [h1, h2] using q
theorem Tot.rdI {β : Type} {L : List Int32} {j : Int32} {f : Int32 → Option β} {Q : β → Prop} (h0 : 0 ≤ j.toInt) (h1 : j.toInt < L.length) (g : Tot (f (gI L j)) Q) : Tot ((rdA L j).bind f) Q := by
  rw [rdg h0 h1]
  exact g
theorem gI_rep {n : Nat} {x : Int32} {j : Int32} (h0 : 0 ≤ j.toInt) (h1 : j.toInt < n) : gI (List.replicate n x) j = x := by
  unfold gI
  rw [rdA_rep h0 h1]
  (first | done | rfl | simp)
/-! Longs -/
theorem lltI {a b : Int64} : a < b ↔ a.toInt < b.toInt := Int64.lt_iff_toInt_lt
theorem leqI {a b : Int64} : a = b ↔ a.toInt = b.toInt := Int64.toInt_inj.symm
theorem lrng (a : Int64) : -9223372036854775808 ≤ a.toInt ∧ a.toInt < 9223372036854775808 := ⟨Int64.le_toInt a, Int64.toInt_lt a⟩
theorem ladd_i {a b : Int64} (h1 : -9223372036854775808 ≤ a.toInt + b.toInt) (h2 : a.toInt + b.toInt < 9223372036854775808) : (a + b).toInt = a.toInt + b.toInt := by
  rw [Int64.toInt_add]; exact Int.bmod_eq_of_le (by omega) (by omega)
theorem lsub_i {a b : Int64} (h1 : -9223372036854775808 ≤ a.toInt - b.toInt) (h2 : a.toInt - b.toInt < 9223372036854775808) : (a - b).toInt = a.toInt - b.toInt := by
  rw [Int64.toInt_sub]; exact Int.bmod_eq_of_le (by omega) (by omega)
theorem lmul_i {a b : Int64} (h1 : -9223372036854775808 ≤ a.toInt * b.toInt) (h2 : a.toInt * b.toInt < 9223372036854775808) : (a * b).toInt = a.toInt * b.toInt := by
  rw [Int64.toInt_mul]; exact Int.bmod_eq_of_le (by omega) (by omega)
theorem lmod_i {a b : Int64} (h : 0 ≤ a.toInt) : (a % b).toInt = a.toInt % b.toInt := by
  rw [Int64.toInt_mod, Int.tmod_eq_emod_of_nonneg h]
theorem lback {a : Int64} (h1 : -2147483648 ≤ a.toInt) (h2 : a.toInt < 2147483648) : a.toInt32.toInt64 = a := by
  rw [leqI, Int32.toInt_toInt64, Int64.toInt_toInt32, bmod32]
  omega
theorem mulb {a b M : Int} (h0 : 0 ≤ a) (h1 : a ≤ M) (h2 : 0 ≤ b) (h3 : b ≤ M) : 0 ≤ a * b ∧ a * b ≤ M * M :=
  ⟨Int.mul_nonneg h0 h2, Int.mul_le_mul h1 h3 h2 (by omega)⟩
end Jvm.Own
namespace Jvm.Pilot.@@N@@
open Jvm Jvm.ClassFile Sem Op Lib Jvm.Free Jvm.Stand Jvm.LawKit Jvm.RoadKit Bundle Jvm.Own Jvm.Pilot.@@N@@.Jvm.D
def d_0 : MD := (x, code, maxLocals, ret, 0, 1, 999, 6, 111, [(0, .new 7, 3, [], 0, 0), (3, .dup, 1, [], 0, 0), (4, .iconst 3, 1, [], 0, 0), (5, .bipush 20, 2, [], 0, 0), (7, .invokespecial 9, 3, [], 1, 0), (10, .astore_n 1, 1, [], 0, 0), (11, .new 7, 3, [], 0, 0), (14, .dup, 1, [], 0, 0), (15, .iconst 3, 1, [], 0, 0), (16, .bipush 20, 2, [], 0, 0), (18, .invokespecial 9, 3, [], 1, 0), (21, .astore_n 2, 1, [], 0, 0), (22, .aload_n 0, 1, [], 0, 0), (23, .arraylength, 1, [], 0, 0), (24, .istore_n 3, 1, [], 0, 0), (25, .iload_n 3, 1, [], 0, 0), (26, .iconst 3, 1, [], 0, 0), (27, .if_icmp .lt 11, 3, [], 0, 0), (30, .iload_n 3, 1, [], 0, 0), (31, .iconst 3, 1, [], 0, 0), (32, .isub, 1, [], 0, 0), (33, .iconst 5, 1, [], 0, 0), (34, .idiv, 1, [], 0, 0), (35, .goto 4, 3, [], 0, 0), (38, .iconst 0, 1, [], 0, 0), (39, .istore 4, 2, [], 0, 0), (41, .iconst 0, 1, [], 0, 0), (42, .istore 5, 2, [], 0, 0), (44, .iload 5, 2, [false, false, false, false, false, false, true, true, true, true, true], 0, 0), (46, .iload 4, 2, [], 0, 0), (48, .if_icmp .ge 87, 3, [], 0, 0), (51, .aload_n 0, 1, [], 0, 0), (52, .iconst 5, 1, [], 0, 0), (53, .iload 5, 2, [], 0, 0), (55, .imul, 1, [], 0, 0), (56, .iaload, 1, [], 0, 0), (57, .iconst 3, 1, [], 0, 0), (58, .iand, 1, [], 0, 0), (59, .istore 6, 2, [], 0, 0), (61, .aload_n 0, 1, [], 0, 0), (62, .iconst 5, 1, [], 0, 0), (63, .iload 5, 2, [], 0, 0), (65, .imul, 1, [], 0, 0), (66, .iconst 1, 1, [], 0, 0), (67, .iadd, 1, [], 0, 0), (68, .iaload, 1, [], 0, 0), (69, .istore 7, 2, [], 0, 0), (71, .aload_n 0, 1, [], 0, 0), (72, .iconst 5, 1, [], 0, 0), (73, .iload 5, 2, [], 0, 0), (75, .imul, 1, [], 0, 0), (76, .iconst 2, 1, [], 0, 0), (77, .iadd, 1, [], 0, 0), (78, .iaload, 1, [], 0, 0), (79, .istore 8, 2, [], 0, 0), (81, .aload_n 0, 1, [], 0, 0), (82, .iconst 5, 1, [], 0, 0), (83, .iload 5, 2, [], 0, 0), (85, .imul, 1, [], 0, 0), (86, .iconst 3, 1, [], 0, 0), (87, .iadd, 1, [], 0, 0), (88, .iaload, 1, [], 0, 0), (89, .istore 9, 2, [], 0, 0), (91, .aload_n 0, 1, [], 0, 0), (92, .iconst 5, 1, [], 0, 0), (93, .iload 5, 2, [], 0, 0), (95, .imul, 1, [], 0, 0), (96, .iconst 4, 1, [], 0, 0), (97, .iadd, 1, [], 0, 0), (98, .iaload, 1, [], 0, 0), (99, .istore 10, 2, [], 0, 0), (101, .aload_n 1, 1, [], 0, 0), (102, .iload 6, 2, [], 0, 0), (104, .iload 7, 2, [], 0, 0), (106, .iload 8, 2, [], 0, 0), (108, .iload 9, 2, [], 0, 0), (110, .iload 10, 2, [], 0, 0), (112, .invokestatic 12, 3, [], 2, 0), (115, .aload_n 2, 1, [], 0, 0), (116, .iload 6, 2, [], 0, 0), (118, .iload 7, 2, [], 0, 0), (120, .iload 8, 2, [], 0, 0), (122, .iload 9, 2, [], 0, 0), (124, .iload 10, 2, [], 0, 0), (126, .invokestatic 12, 3, [], 2, 0), (129, .iinc 5 1, 3, [], 0, 0), (132, .goto (-88), 3, [], 0, 0), (135, .iload_n 3, 1, [false, false, false, false, true, true, true, true, true, true, true], 0, 0), (136, .iconst 3, 1, [], 0, 0), (137, .if_icmp .lt 11, 3, [], 0, 0), (140, .aload_n 0, 1, [], 0, 0), (141, .iload_n 3, 1, [], 0, 0), (142, .iconst 3, 1, [], 0, 0), (143, .isub, 1, [], 0, 0), (144, .iaload, 1, [], 0, 0), (145, .goto 4, 3, [], 0, 0), (148, .iconst 1, 1, [], 0, 0), (149, .istore 5, 2, [false, false, false, false, true, true, true, true, true, true, true], 0, 0), (151, .iload_n 3, 1, [], 0, 0), (152, .iconst 3, 1, [], 0, 0), (153, .if_icmp .lt 11, 3, [], 0, 0), (156, .aload_n 0, 1, [], 0, 0), (157, .iload_n 3, 1, [], 0, 0), (158, .iconst 2, 1, [], 0, 0), (159, .isub, 1, [], 0, 0), (160, .iaload, 1, [], 0, 0), (161, .goto 4, 3, [], 0, 0), (164, .iconst 2, 1, [], 0, 0), (165, .istore 6, 2, [false, false, false, false, true, false, true, true, true, true, true], 0, 0), (167, .iload_n 3, 1, [], 0, 0), (168, .iconst 3, 1, [], 0, 0), (169, .if_icmp .lt 11, 3, [], 0, 0), (172, .aload_n 0, 1, [], 0, 0), (173, .iload_n 3, 1, [], 0, 0), (174, .iconst 1, 1, [], 0, 0), (175, .isub, 1, [], 0, 0), (176, .iaload, 1, [], 0, 0), (177, .goto 4, 3, [], 0, 0), (180, .iconst 1, 1, [], 0, 0), (181, .istore 7, 2, [true, false, false, true, true, false, false, true, true, true, true], 0, 0), (183, .aload_n 1, 1, [], 0, 0), (184, .iload 5, 2, [], 0, 0), (186, .invokevirtual 18, 3, [], 6, 0), (189, .pop, 1, [], 0, 0), (190, .aload_n 1, 1, [], 0, 0), (191, .iload 6, 2, [], 0, 0), (193, .iload 7, 2, [], 0, 0), (195, .invokevirtual 22, 3, [], 4, 0), (198, .pop, 1, [], 0, 0), (199, .aload_n 2, 1, [], 0, 0), (200, .iload 6, 2, [], 0, 0), (202, .iload 7, 2, [], 0, 0), (204, .invokevirtual 22, 3, [], 4, 0), (207, .pop, 1, [], 0, 0), (208, .aload_n 2, 1, [], 0, 0), (209, .iload 5, 2, [], 0, 0), (211, .invokevirtual 18, 3, [], 6, 0), (214, .pop, 1, [], 0, 0), (215, .aload_n 1, 1, [], 0, 0), (216, .aload_n 2, 1, [], 0, 0), (217, .invokestatic 26, 3, [], 10, 0), (220, .ireturn, 1, [], 0, 0)])
def d_1 : MD := (⟨"ProRataBook", "<init>", "(II)V"⟩, prog_1_method_1_code, 5, none, 1, 2, 0, 1, 12, [(0, .aload_n 0, 1, [], 0, 0), (1, .invokespecial 1, 3, [], 0, -1), (4, .aload_n 0, 1, [], 0, 0), (5, .sipush 256, 3, [], 0, 0), (8, .newarray .int, 2, [], 0, 0), (10, .putfield 7, 3, [], 0, 0), (13, .aload_n 0, 1, [], 0, 0), (14, .sipush 256, 3, [], 0, 0), (17, .newarray .int, 2, [], 0, 0), (19, .putfield 13, 3, [], 1, 0), (22, .aload_n 0, 1, [], 0, 0), (23, .sipush 256, 3, [], 0, 0), (26, .newarray .int, 2, [], 0, 0), (28, .putfield 16, 3, [], 2, 0), (31, .aload_n 0, 1, [], 0, 0), (32, .sipush 256, 3, [], 0, 0), (35, .newarray .int, 2, [], 0, 0), (37, .putfield 19, 3, [], 3, 0), (40, .aload_n 0, 1, [], 0, 0), (41, .sipush 256, 3, [], 0, 0), (44, .newarray .int, 2, [], 0, 0), (46, .putfield 22, 3, [], 4, 0), (49, .aload_n 0, 1, [], 0, 0), (50, .sipush 256, 3, [], 0, 0), (53, .newarray .long, 2, [], 0, 0), (55, .putfield 25, 3, [], 5, 0), (58, .aload_n 0, 1, [], 0, 0), (59, .sipush 256, 3, [], 0, 0), (62, .newarray .boolean, 2, [], 0, 0), (64, .putfield 29, 3, [], 6, 0), (67, .aload_n 0, 1, [], 0, 0), (68, .bipush 64, 2, [], 0, 0), (70, .newarray .int, 2, [], 0, 0), (72, .putfield 33, 3, [], 7, 0), (75, .aload_n 0, 1, [], 0, 0), (76, .bipush 64, 2, [], 0, 0), (78, .newarray .int, 2, [], 0, 0), (80, .putfield 36, 3, [], 8, 0), (83, .aload_n 0, 1, [], 0, 0), (84, .bipush 64, 2, [], 0, 0), (86, .newarray .int, 2, [], 0, 0), (88, .putfield 39, 3, [], 9, 0), (91, .aload_n 0, 1, [], 0, 0), (92, .bipush 64, 2, [], 0, 0), (94, .newarray .int, 2, [], 0, 0), (96, .putfield 42, 3, [], 10, 0), (99, .aload_n 0, 1, [], 0, 0), (100, .bipush 64, 2, [], 0, 0), (102, .newarray .int, 2, [], 0, 0), (104, .putfield 45, 3, [], 11, 0), (107, .aload_n 0, 1, [], 0, 0), (108, .bipush 64, 2, [], 0, 0), (110, .newarray .int, 2, [], 0, 0), (112, .putfield 48, 3, [], 12, 0), (115, .aload_n 0, 1, [], 0, 0), (116, .bipush 64, 2, [], 0, 0), (118, .newarray .int, 2, [], 0, 0), (120, .putfield 51, 3, [], 13, 0), (123, .iload_n 1, 1, [], 0, 0), (124, .istore_n 3, 1, [], 0, 0), (125, .iload_n 3, 1, [], 0, 0), (126, .iconst 1, 1, [], 0, 0), (127, .if_icmp .ge 5, 3, [], 0, 0), (130, .iconst 1, 1, [], 0, 0), (131, .istore_n 3, 1, [], 0, 0), (132, .iload_n 3, 1, [false, true, false, false, true], 0, 0), (133, .bipush 100, 2, [], 0, 0), (135, .if_icmp .le 6, 3, [], 0, 0), (138, .bipush 100, 2, [], 0, 0), (140, .istore_n 3, 1, [], 0, 0), (141, .iload_n 2, 1, [false, true, false, false, true], 0, 0), (142, .istore 4, 2, [], 0, 0), (144, .iload 4, 2, [], 0, 0), (146, .ifCond .ge 6, 3, [], 0, 0), (149, .iconst 0, 1, [], 0, 0), (150, .istore 4, 2, [], 0, 0), (152, .iload 4, 2, [false, true, true], 0, 0), (154, .sipush 10000, 3, [], 0, 0), (157, .if_icmp .le 8, 3, [], 0, 0), (160, .sipush 10000, 3, [], 0, 0), (163, .istore 4, 2, [], 0, 0), (165, .aload_n 0, 1, [false, true, true], 0, 0), (166, .iload_n 3, 1, [], 0, 0), (167, .putfield 54, 3, [], 14, 0), (170, .aload_n 0, 1, [], 0, 0), (171, .iload 4, 2, [], 0, 0), (173, .putfield 58, 3, [], 15, 0), (176, .aload_n 0, 1, [], 0, 0), (177, .iconst 0, 1, [], 0, 0), (178, .putfield 61, 3, [], 16, 0), (181, .aload_n 0, 1, [], 0, 0), (182, .lconst 0, 1, [], 0, 0), (183, .putfield 64, 3, [], 17, 0), (186, .aload_n 0, 1, [], 0, 0), (187, .iconst 0, 1, [], 0, 0), (188, .putfield 68, 3, [], 18, 0), (191, .aload_n 0, 1, [], 0, 0), (192, .iconst 0, 1, [], 0, 0), (193, .putfield 71, 3, [], 19, 0), (196, .aload_n 0, 1, [], 0, 0), (197, .iconst 0, 1, [], 0, 0), (198, .putfield 74, 3, [], 20, 0), (201, .return_, 1, [], 0, 0)])
def d_2 : MD := (⟨"ProRataBookL5", "step", "(LProRataBook;IIIII)V"⟩, method_3_code, 6, none, 0, 6, 999, 5, 94, [(0, .iload_n 1, 1, [], 0, 0), (1, .iconst 1, 1, [], 0, 0), (2, .if_icmp .ne 12, 3, [], 0, 0), (5, .aload_n 0, 1, [], 0, 0), (6, .iload_n 2, 1, [], 0, 0), (7, .invokevirtual 18, 3, [], 6, 0), (10, .pop, 1, [], 0, 0), (11, .goto 29, 3, [], 0, 0), (14, .iload_n 1, 1, [], 0, 0), (15, .iconst 2, 1, [], 0, 0), (16, .if_icmp .ne 13, 3, [], 0, 0), (19, .aload_n 0, 1, [], 0, 0), (20, .iload_n 2, 1, [], 0, 0), (21, .iload_n 3, 1, [], 0, 0), (22, .invokevirtual 22, 3, [], 4, 0), (25, .pop, 1, [], 0, 0), (26, .goto 14, 3, [], 0, 0), (29, .aload_n 0, 1, [], 0, 0), (30, .iload_n 2, 1, [], 0, 0), (31, .iload_n 3, 1, [], 0, 0), (32, .iload 4, 2, [], 0, 0), (34, .iload 5, 2, [], 0, 0), (36, .invokevirtual 30, 3, [], 3, 0), (39, .pop, 1, [], 0, 0), (40, .return_, 1, [], 0, 0)])
def d_3 : MD := (⟨"ProRataBook", "submit", "(IIII)I"⟩, prog_1_method_2_code, 7, some .int, 3, 4, 0, 4, 76, [(0, .iload_n 1, 1, [], 0, 0), (1, .ifCond .eq 10, 3, [], 0, 0), (4, .iload_n 1, 1, [], 0, 0), (5, .iconst 1, 1, [], 0, 0), (6, .if_icmp .eq 5, 3, [], 0, 0), (9, .iconst (-1), 1, [], 0, 0), (10, .ireturn, 1, [], 0, 0), (11, .iload_n 2, 1, [false, false, false, false, false, true, true], 0, 0), (12, .iconst 1, 1, [], 0, 0), (13, .if_icmp .lt 10, 3, [], 0, 0), (16, .iload_n 2, 1, [], 0, 0), (17, .sipush 1000, 3, [], 0, 0), (20, .if_icmp .le 6, 3, [], 0, 0), (23, .bipush (-2), 2, [], 0, 0), (25, .ireturn, 1, [], 0, 0), (26, .iload_n 3, 1, [], 0, 0), (27, .iconst 1, 1, [], 0, 0), (28, .if_icmp .lt 10, 3, [], 0, 0), (31, .iload_n 3, 1, [], 0, 0), (32, .sipush 10000, 3, [], 0, 0), (35, .if_icmp .le 6, 3, [], 0, 0), (38, .bipush (-3), 2, [], 0, 0), (40, .ireturn, 1, [], 0, 0), (41, .iload 4, 2, [], 0, 0), (43, .ifCond .eq 12, 3, [], 0, 0), (46, .iload 4, 2, [], 0, 0), (48, .iconst 1, 1, [], 0, 0), (49, .if_icmp .eq 6, 3, [], 0, 0), (52, .bipush (-4), 2, [], 0, 0), (54, .ireturn, 1, [], 0, 0), (55, .aload_n 0, 1, [false, false, false, false, false, true, true], 0, 0), (56, .getfield 61, 3, [], 16, 0), (59, .sipush 255, 3, [], 0, 0), (62, .if_icmp .lt 6, 3, [], 0, 0), (65, .bipush (-5), 2, [], 0, 0), (67, .ireturn, 1, [], 0, 0), (68, .aload_n 0, 1, [], 0, 0), (69, .dup, 1, [], 0, 0), (70, .getfield 61, 3, [], 16, 0), (73, .iconst 1, 1, [], 0, 0), (74, .iadd, 1, [], 0, 0), (75, .putfield 61, 3, [], 16, 0), (78, .aload_n 0, 1, [], 0, 0), (79, .getfield 61, 3, [], 16, 0), (82, .istore 5, 2, [], 0, 0), (84, .aload_n 0, 1, [], 0, 0), (85, .iconst 0, 1, [], 0, 0), (86, .putfield 71, 3, [], 19, 0), (89, .aload_n 0, 1, [], 0, 0), (90, .getfield 7, 3, [], 0, 0), (93, .iload 5, 2, [], 0, 0), (95, .iload_n 1, 1, [], 0, 0), (96, .iastore, 1, [], 0, 0), (97, .aload_n 0, 1, [], 0, 0), (98, .getfield 13, 3, [], 1, 0), (101, .iload 5, 2, [], 0, 0), (103, .iload_n 2, 1, [], 0, 0), (104, .iastore, 1, [], 0, 0), (105, .aload_n 0, 1, [], 0, 0), (106, .getfield 16, 3, [], 2, 0), (109, .iload 5, 2, [], 0, 0), (111, .iconst 0, 1, [], 0, 0), (112, .iastore, 1, [], 0, 0), (113, .aload_n 0, 1, [], 0, 0), (114, .getfield 19, 3, [], 3, 0), (117, .iload 5, 2, [], 0, 0), (119, .iconst 0, 1, [], 0, 0), (120, .iastore, 1, [], 0, 0), (121, .aload_n 0, 1, [], 0, 0), (122, .getfield 29, 3, [], 6, 0), (125, .iload 5, 2, [], 0, 0), (127, .iconst 0, 1, [], 0, 0), (128, .bastore, 1, [], 0, 0), (129, .aload_n 0, 1, [], 0, 0), (130, .getfield 25, 3, [], 5, 0), (133, .iload 5, 2, [], 0, 0), (135, .lconst 0, 1, [], 0, 0), (136, .lastore, 1, [], 0, 0), (137, .aload_n 0, 1, [], 0, 0), (138, .iload 5, 2, [], 0, 0), (140, .iload_n 1, 1, [], 0, 0), (141, .iload_n 2, 1, [], 0, 0), (142, .iload_n 3, 1, [], 0, 0), (143, .invokevirtual 77, 3, [], 7, 0), (146, .istore 6, 2, [], 0, 0), (148, .aload_n 0, 1, [], 0, 0), (149, .iload 5, 2, [], 0, 0), (151, .iload_n 1, 1, [], 0, 0), (152, .iload_n 2, 1, [], 0, 0), (153, .iload 6, 2, [], 0, 0), (155, .iload 4, 2, [], 0, 0), (157, .invokevirtual 81, 3, [], 9, 0), (160, .iload 5, 2, [], 0, 0), (162, .ireturn, 1, [], 0, 0)])
def d_4 : MD := (⟨"ProRataBook", "amend", "(II)I"⟩, prog_1_method_20_code, 3, some .int, 3, 2, 0, 1, 13, [(0, .aload_n 0, 1, [], 0, 0), (1, .iload_n 1, 1, [], 0, 0), (2, .invokevirtual 129, 3, [], 5, 0), (5, .ifCond .ne 6, 3, [], 0, 0), (8, .bipush (-6), 2, [], 0, 0), (10, .ireturn, 1, [], 0, 0), (11, .iload_n 2, 1, [], 0, 0), (12, .iconst 1, 1, [], 0, 0), (13, .if_icmp .lt 10, 3, [], 0, 0), (16, .iload_n 2, 1, [], 0, 0), (17, .sipush 10000, 3, [], 0, 0), (20, .if_icmp .le 6, 3, [], 0, 0), (23, .bipush (-3), 2, [], 0, 0), (25, .ireturn, 1, [], 0, 0), (26, .iload_n 2, 1, [], 0, 0), (27, .aload_n 0, 1, [], 0, 0), (28, .getfield 16, 3, [], 2, 0), (31, .iload_n 1, 1, [], 0, 0), (32, .iaload, 1, [], 0, 0), (33, .if_icmp .ge 13, 3, [], 0, 0), (36, .aload_n 0, 1, [], 0, 0), (37, .getfield 16, 3, [], 2, 0), (40, .iload_n 1, 1, [], 0, 0), (41, .iload_n 2, 1, [], 0, 0), (42, .iastore, 1, [], 0, 0), (43, .goto 47, 3, [], 0, 0), (46, .iload_n 2, 1, [], 0, 0), (47, .aload_n 0, 1, [], 0, 0), (48, .getfield 16, 3, [], 2, 0), (51, .iload_n 1, 1, [], 0, 0), (52, .iaload, 1, [], 0, 0), (53, .if_icmp .le 37, 3, [], 0, 0), (56, .aload_n 0, 1, [], 0, 0), (57, .getfield 16, 3, [], 2, 0), (60, .iload_n 1, 1, [], 0, 0), (61, .iload_n 2, 1, [], 0, 0), (62, .iastore, 1, [], 0, 0), (63, .aload_n 0, 1, [], 0, 0), (64, .dup, 1, [], 0, 0), (65, .getfield 64, 3, [], 17, 0), (68, .lconst 1, 1, [], 0, 0), (69, .ladd, 1, [], 0, 0), (70, .putfield 64, 3, [], 17, 0), (73, .aload_n 0, 1, [], 0, 0), (74, .getfield 25, 3, [], 5, 0), (77, .iload_n 1, 1, [], 0, 0), (78, .aload_n 0, 1, [], 0, 0), (79, .getfield 64, 3, [], 17, 0), (82, .lastore, 1, [], 0, 0), (83, .aload_n 0, 1, [], 0, 0), (84, .getfield 29, 3, [], 6, 0), (87, .iload_n 1, 1, [], 0, 0), (88, .iconst 0, 1, [], 0, 0), (89, .bastore, 1, [], 0, 0), (90, .iconst 0, 1, [], 0, 0), (91, .ireturn, 1, [], 0, 0)])
def d_5 : MD := (⟨"ProRataBook", "isResting", "(I)Z"⟩, prog_1_method_17_code, 2, some .boolean, 2, 1, 0, 0, 0, [(0, .iload_n 1, 1, [], 0, 0), (1, .iconst 1, 1, [], 0, 0), (2, .if_icmp .lt 25, 3, [], 0, 0), (5, .iload_n 1, 1, [], 0, 0), (6, .aload_n 0, 1, [], 0, 0), (7, .getfield 61, 3, [], 16, 0), (10, .if_icmp .gt 17, 3, [], 0, 0), (13, .aload_n 0, 1, [], 0, 0), (14, .getfield 22, 3, [], 4, 0), (17, .iload_n 1, 1, [], 0, 0), (18, .iaload, 1, [], 0, 0), (19, .iconst 1, 1, [], 0, 0), (20, .if_icmp .ne 7, 3, [], 0, 0), (23, .iconst 1, 1, [], 0, 0), (24, .goto 4, 3, [], 0, 0), (27, .iconst 0, 1, [], 0, 0), (28, .ireturn, 1, [], 0, 0)])
def d_6 : MD := (⟨"ProRataBook", "cancel", "(I)I"⟩, prog_1_method_19_code, 2, some .int, 3, 1, 0, 1, 14, [(0, .aload_n 0, 1, [], 0, 0), (1, .iload_n 1, 1, [], 0, 0), (2, .invokevirtual 129, 3, [], 5, 0), (5, .ifCond .ne 6, 3, [], 0, 0), (8, .bipush (-6), 2, [], 0, 0), (10, .ireturn, 1, [], 0, 0), (11, .aload_n 0, 1, [], 0, 0), (12, .getfield 22, 3, [], 4, 0), (15, .iload_n 1, 1, [], 0, 0), (16, .iconst 3, 1, [], 0, 0), (17, .iastore, 1, [], 0, 0), (18, .aload_n 0, 1, [], 0, 0), (19, .getfield 16, 3, [], 2, 0), (22, .iload_n 1, 1, [], 0, 0), (23, .iconst 0, 1, [], 0, 0), (24, .iastore, 1, [], 0, 0), (25, .aload_n 0, 1, [], 0, 0), (26, .getfield 29, 3, [], 6, 0), (29, .iload_n 1, 1, [], 0, 0), (30, .iconst 0, 1, [], 0, 0), (31, .bastore, 1, [], 0, 0), (32, .aload_n 0, 1, [], 0, 0), (33, .iload_n 1, 1, [], 0, 0), (34, .invokevirtual 126, 3, [], 25, 0), (37, .iconst 0, 1, [], 0, 0), (38, .ireturn, 1, [], 0, 0)])
def d_7 : MD := (⟨"ProRataBook", "matchIncoming", "(IIII)I"⟩, prog_1_method_3_code, 10, some .int, 2, 4, 0, 3, 55, [(0, .iload 4, 2, [], 0, 0), (2, .istore 5, 2, [], 0, 0), (4, .iconst 1, 1, [], 0, 0), (5, .iload_n 2, 1, [], 0, 0), (6, .isub, 1, [], 0, 0), (7, .istore 6, 2, [], 0, 0), (9, .iconst 0, 1, [], 0, 0), (10, .istore 7, 2, [], 0, 0), (12, .iload 7, 2, [false, false, false, false, true, false, false, false, true, true], 0, 0), (14, .bipush 64, 2, [], 0, 0), (16, .if_icmp .gt 82, 3, [], 0, 0), (19, .iload 5, 2, [], 0, 0), (21, .ifCond .le 77, 3, [], 0, 0), (24, .aload_n 0, 1, [], 0, 0), (25, .iload 6, 2, [], 0, 0), (27, .invokevirtual 85, 3, [], 8, 0), (30, .istore 8, 2, [], 0, 0), (32, .iload 8, 2, [], 0, 0), (34, .ifCond .ne 6, 3, [], 0, 0), (37, .goto 61, 3, [], 0, 0), (40, .aload_n 0, 1, [], 0, 0), (41, .iload_n 2, 1, [], 0, 0), (42, .iload_n 3, 1, [], 0, 0), (43, .iload 8, 2, [], 0, 0), (45, .invokevirtual 89, 3, [], 26, 0), (48, .ifCond .ne 6, 3, [], 0, 0), (51, .goto 47, 3, [], 0, 0), (54, .aload_n 0, 1, [], 0, 0), (55, .iload 6, 2, [], 0, 0), (57, .iload 8, 2, [], 0, 0), (59, .iload 5, 2, [], 0, 0), (61, .invokevirtual 93, 3, [], 28, 0), (64, .istore 9, 2, [], 0, 0), (66, .iload 9, 2, [], 0, 0), (68, .ifCond .gt 6, 3, [], 0, 0), (71, .goto 27, 3, [], 0, 0), (74, .iload 5, 2, [], 0, 0), (76, .iload 9, 2, [], 0, 0), (78, .isub, 1, [], 0, 0), (79, .istore 5, 2, [], 0, 0), (81, .aload_n 0, 1, [], 0, 0), (82, .getfield 19, 3, [], 3, 0), (85, .iload_n 1, 1, [], 0, 0), (86, .dup2, 1, [], 0, 0), (87, .iaload, 1, [], 0, 0), (88, .iload 9, 2, [], 0, 0), (90, .iadd, 1, [], 0, 0), (91, .iastore, 1, [], 0, 0), (92, .iinc 7 1, 3, [], 0, 0), (95, .goto (-83), 3, [], 0, 0), (98, .iload 5, 2, [], 0, 0), (100, .ireturn, 1, [], 0, 0)])
def d_8 : MD := (⟨"ProRataBook", "bestOf", "(I)I"⟩, prog_1_method_18_code, 6, some .int, 2, 1, 0, 1, 15, [(0, .iconst 0, 1, [], 0, 0), (1, .istore_n 2, 1, [], 0, 0), (2, .iconst 0, 1, [], 0, 0), (3, .istore_n 3, 1, [], 0, 0), (4, .iload_n 3, 1, [false, false, false, false, true, true], 0, 0), (5, .aload_n 0, 1, [], 0, 0), (6, .getfield 68, 3, [], 18, 0), (9, .if_icmp .ge 58, 3, [], 0, 0), (12, .aload_n 0, 1, [], 0, 0), (13, .getfield 33, 3, [], 7, 0), (16, .iload_n 3, 1, [], 0, 0), (17, .iaload, 1, [], 0, 0), (18, .istore 4, 2, [], 0, 0), (20, .aload_n 0, 1, [], 0, 0), (21, .getfield 7, 3, [], 0, 0), (24, .iload 4, 2, [], 0, 0), (26, .iaload, 1, [], 0, 0), (27, .iload_n 1, 1, [], 0, 0), (28, .if_icmp .eq 6, 3, [], 0, 0), (31, .goto 30, 3, [], 0, 0), (34, .aload_n 0, 1, [], 0, 0), (35, .getfield 13, 3, [], 1, 0), (38, .iload 4, 2, [], 0, 0), (40, .iaload, 1, [], 0, 0), (41, .istore 5, 2, [], 0, 0), (43, .iload_n 2, 1, [], 0, 0), (44, .ifCond .eq 14, 3, [], 0, 0), (47, .aload_n 0, 1, [], 0, 0), (48, .iload_n 1, 1, [], 0, 0), (49, .iload 5, 2, [], 0, 0), (51, .iload_n 2, 1, [], 0, 0), (52, .invokevirtual 97, 3, [], 27, 0), (55, .ifCond .eq 6, 3, [], 0, 0), (58, .iload 5, 2, [], 0, 0), (60, .istore_n 2, 1, [], 0, 0), (61, .iinc 3 1, 3, [], 0, 0), (64, .goto (-60), 3, [], 0, 0), (67, .iload_n 2, 1, [], 0, 0), (68, .ireturn, 1, [], 0, 0)])
def d_9 : MD := (⟨"ProRataBook", "finishIncoming", "(IIIII)V"⟩, prog_1_method_4_code, 8, none, 2, 5, 0, 2, 32, [(0, .iload 4, 2, [], 0, 0), (2, .ifCond .ne 18, 3, [], 0, 0), (5, .aload_n 0, 1, [], 0, 0), (6, .getfield 22, 3, [], 4, 0), (9, .iload_n 1, 1, [], 0, 0), (10, .iconst 2, 1, [], 0, 0), (11, .iastore, 1, [], 0, 0), (12, .aload_n 0, 1, [], 0, 0), (13, .getfield 16, 3, [], 2, 0), (16, .iload_n 1, 1, [], 0, 0), (17, .iconst 0, 1, [], 0, 0), (18, .iastore, 1, [], 0, 0), (19, .return_, 1, [], 0, 0), (20, .iload 5, 2, [], 0, 0), (22, .iconst 1, 1, [], 0, 0), (23, .if_icmp .eq 12, 3, [], 0, 0), (26, .aload_n 0, 1, [], 0, 0), (27, .getfield 68, 3, [], 18, 0), (30, .bipush 64, 2, [], 0, 0), (32, .if_icmp .lt 18, 3, [], 0, 0), (35, .aload_n 0, 1, [false, false, true, true, true, true, true, true], 0, 0), (36, .getfield 22, 3, [], 4, 0), (39, .iload_n 1, 1, [], 0, 0), (40, .iconst 4, 1, [], 0, 0), (41, .iastore, 1, [], 0, 0), (42, .aload_n 0, 1, [], 0, 0), (43, .getfield 16, 3, [], 2, 0), (46, .iload_n 1, 1, [], 0, 0), (47, .iconst 0, 1, [], 0, 0), (48, .iastore, 1, [], 0, 0), (49, .return_, 1, [], 0, 0), (50, .aload_n 0, 1, [], 0, 0), (51, .iload_n 2, 1, [], 0, 0), (52, .invokevirtual 85, 3, [], 8, 0), (55, .istore 6, 2, [], 0, 0), (57, .iload 6, 2, [], 0, 0), (59, .ifCond .eq 14, 3, [], 0, 0), (62, .aload_n 0, 1, [], 0, 0), (63, .iload_n 2, 1, [], 0, 0), (64, .iload_n 3, 1, [], 0, 0), (65, .iload 6, 2, [], 0, 0), (67, .invokevirtual 97, 3, [], 27, 0), (70, .ifCond .eq 7, 3, [], 0, 0), (73, .iconst 1, 1, [], 0, 0), (74, .goto 4, 3, [], 0, 0), (77, .iconst 0, 1, [], 0, 0), (78, .istore 7, 2, [false, false, false, true, false, true, true, true], 0, 0), (80, .iload 7, 2, [], 0, 0), (82, .ifCond .eq 8, 3, [], 0, 0), (85, .aload_n 0, 1, [], 0, 0), (86, .iload_n 2, 1, [], 0, 0), (87, .invokevirtual 100, 3, [], 24, 0), (90, .aload_n 0, 1, [false, false, true, true, false, true, true], 0, 0), (91, .dup, 1, [], 0, 0), (92, .getfield 64, 3, [], 17, 0), (95, .lconst 1, 1, [], 0, 0), (96, .ladd, 1, [], 0, 0), (97, .putfield 64, 3, [], 17, 0), (100, .aload_n 0, 1, [], 0, 0), (101, .getfield 25, 3, [], 5, 0), (104, .iload_n 1, 1, [], 0, 0), (105, .aload_n 0, 1, [], 0, 0), (106, .getfield 64, 3, [], 17, 0), (109, .lastore, 1, [], 0, 0), (110, .aload_n 0, 1, [], 0, 0), (111, .getfield 16, 3, [], 2, 0), (114, .iload_n 1, 1, [], 0, 0), (115, .iload 4, 2, [], 0, 0), (117, .iastore, 1, [], 0, 0), (118, .aload_n 0, 1, [], 0, 0), (119, .getfield 22, 3, [], 4, 0), (122, .iload_n 1, 1, [], 0, 0), (123, .iconst 1, 1, [], 0, 0), (124, .iastore, 1, [], 0, 0), (125, .aload_n 0, 1, [], 0, 0), (126, .getfield 29, 3, [], 6, 0), (129, .iload_n 1, 1, [], 0, 0), (130, .iload 7, 2, [], 0, 0), (132, .bastore, 1, [], 0, 0), (133, .aload_n 0, 1, [], 0, 0), (134, .getfield 33, 3, [], 7, 0), (137, .aload_n 0, 1, [], 0, 0), (138, .getfield 68, 3, [], 18, 0), (141, .iload_n 1, 1, [], 0, 0), (142, .iastore, 1, [], 0, 0), (143, .aload_n 0, 1, [], 0, 0), (144, .dup, 1, [], 0, 0), (145, .getfield 68, 3, [], 18, 0), (148, .iconst 1, 1, [], 0, 0), (149, .iadd, 1, [], 0, 0), (150, .putfield 68, 3, [], 18, 0), (153, .return_, 1, [], 0, 0)])
def d_10 : MD := (⟨"ProRataBookL5", "same", "(LProRataBook;LProRataBook;)Z"⟩, method_4_code, 4, some .boolean, 0, 2, 999, 3, 46, [(0, .iconst 1, 1, [], 0, 0), (1, .istore_n 2, 1, [], 0, 0), (2, .iload_n 2, 1, [false, false, false, true], 0, 0), (3, .sipush 255, 3, [], 0, 0), (6, .if_icmp .gt 80, 3, [], 0, 0), (9, .aload_n 0, 1, [], 0, 0), (10, .iload_n 2, 1, [], 0, 0), (11, .invokevirtual 34, 3, [], 11, 0), (14, .aload_n 1, 1, [], 0, 0), (15, .iload_n 2, 1, [], 0, 0), (16, .invokevirtual 34, 3, [], 11, 0), (19, .if_icmp .ne 16, 3, [], 0, 0), (22, .aload_n 0, 1, [], 0, 0), (23, .iload_n 2, 1, [], 0, 0), (24, .invokevirtual 37, 3, [], 12, 0), (27, .aload_n 1, 1, [], 0, 0), (28, .iload_n 2, 1, [], 0, 0), (29, .invokevirtual 37, 3, [], 12, 0), (32, .if_icmp .eq 5, 3, [], 0, 0), (35, .iconst 0, 1, [], 0, 0), (36, .ireturn, 1, [], 0, 0), (37, .aload_n 0, 1, [], 0, 0), (38, .iload_n 2, 1, [], 0, 0), (39, .invokevirtual 40, 3, [], 13, 0), (42, .aload_n 1, 1, [], 0, 0), (43, .iload_n 2, 1, [], 0, 0), (44, .invokevirtual 40, 3, [], 13, 0), (47, .if_icmp .ne 16, 3, [], 0, 0), (50, .aload_n 0, 1, [], 0, 0), (51, .iload_n 2, 1, [], 0, 0), (52, .invokevirtual 43, 3, [], 14, 0), (55, .aload_n 1, 1, [], 0, 0), (56, .iload_n 2, 1, [], 0, 0), (57, .invokevirtual 43, 3, [], 14, 0), (60, .if_icmp .eq 5, 3, [], 0, 0), (63, .iconst 0, 1, [], 0, 0), (64, .ireturn, 1, [], 0, 0), (65, .aload_n 0, 1, [], 0, 0), (66, .iload_n 2, 1, [], 0, 0), (67, .invokevirtual 47, 3, [], 15, 0), (70, .aload_n 1, 1, [], 0, 0), (71, .iload_n 2, 1, [], 0, 0), (72, .invokevirtual 47, 3, [], 15, 0), (75, .if_icmp .eq 5, 3, [], 0, 0), (78, .iconst 0, 1, [], 0, 0), (79, .ireturn, 1, [], 0, 0), (80, .iinc 2 1, 3, [], 0, 0), (83, .goto (-81), 3, [], 0, 0), (86, .iconst 0, 1, [], 0, 0), (87, .istore_n 2, 1, [], 0, 0), (88, .iload_n 2, 1, [false, false, false, true], 0, 0), (89, .iconst 1, 1, [], 0, 0), (90, .if_icmp .gt 73, 3, [], 0, 0), (93, .aload_n 0, 1, [], 0, 0), (94, .iload_n 2, 1, [], 0, 0), (95, .invokevirtual 50, 3, [], 16, 0), (98, .aload_n 1, 1, [], 0, 0), (99, .iload_n 2, 1, [], 0, 0), (100, .invokevirtual 50, 3, [], 16, 0), (103, .if_icmp .eq 5, 3, [], 0, 0), (106, .iconst 0, 1, [], 0, 0), (107, .ireturn, 1, [], 0, 0), (108, .iconst 1, 1, [], 0, 0), (109, .istore_n 3, 1, [], 0, 0), (110, .iload_n 3, 1, [], 0, 0), (111, .sipush 1000, 3, [], 0, 0), (114, .if_icmp .gt 43, 3, [], 0, 0), (117, .aload_n 0, 1, [], 0, 0), (118, .iload_n 2, 1, [], 0, 0), (119, .iload_n 3, 1, [], 0, 0), (120, .invokevirtual 53, 3, [], 17, 0), (123, .aload_n 1, 1, [], 0, 0), (124, .iload_n 2, 1, [], 0, 0), (125, .iload_n 3, 1, [], 0, 0), (126, .invokevirtual 53, 3, [], 17, 0), (129, .if_icmp .eq 5, 3, [], 0, 0), (132, .iconst 0, 1, [], 0, 0), (133, .ireturn, 1, [], 0, 0), (134, .aload_n 0, 1, [], 0, 0), (135, .iload_n 2, 1, [], 0, 0), (136, .iload_n 3, 1, [], 0, 0), (137, .invokevirtual 56, 3, [], 18, 0), (140, .aload_n 1, 1, [], 0, 0), (141, .iload_n 2, 1, [], 0, 0), (142, .iload_n 3, 1, [], 0, 0), (143, .invokevirtual 56, 3, [], 18, 0), (146, .if_icmp .eq 5, 3, [], 0, 0), (149, .iconst 0, 1, [], 0, 0), (150, .ireturn, 1, [], 0, 0), (151, .iinc 3 1, 3, [], 0, 0), (154, .goto (-44), 3, [], 0, 0), (157, .iinc 2 1, 3, [], 0, 0), (160, .goto (-72), 3, [], 0, 0), (163, .aload_n 0, 1, [false, false, true, true], 0, 0), (164, .invokevirtual 59, 3, [], 19, 0), (167, .aload_n 1, 1, [], 0, 0), (168, .invokevirtual 59, 3, [], 19, 0), (171, .if_icmp .ne 14, 3, [], 0, 0), (174, .aload_n 0, 1, [], 0, 0), (175, .invokevirtual 63, 3, [], 20, 0), (178, .aload_n 1, 1, [], 0, 0), (179, .invokevirtual 63, 3, [], 20, 0), (182, .if_icmp .eq 5, 3, [], 0, 0), (185, .iconst 0, 1, [], 0, 0), (186, .ireturn, 1, [], 0, 0), (187, .iconst 0, 1, [], 0, 0), (188, .istore_n 2, 1, [], 0, 0), (189, .iload_n 2, 1, [false, false, false, true], 0, 0), (190, .bipush 64, 2, [], 0, 0), (192, .if_icmp .ge 52, 3, [], 0, 0), (195, .aload_n 0, 1, [], 0, 0), (196, .iload_n 2, 1, [], 0, 0), (197, .invokevirtual 66, 3, [], 21, 0), (200, .aload_n 1, 1, [], 0, 0), (201, .iload_n 2, 1, [], 0, 0), (202, .invokevirtual 66, 3, [], 21, 0), (205, .if_icmp .ne 16, 3, [], 0, 0), (208, .aload_n 0, 1, [], 0, 0), (209, .iload_n 2, 1, [], 0, 0), (210, .invokevirtual 69, 3, [], 22, 0), (213, .aload_n 1, 1, [], 0, 0), (214, .iload_n 2, 1, [], 0, 0), (215, .invokevirtual 69, 3, [], 22, 0), (218, .if_icmp .eq 5, 3, [], 0, 0), (221, .iconst 0, 1, [], 0, 0), (222, .ireturn, 1, [], 0, 0), (223, .aload_n 0, 1, [], 0, 0), (224, .iload_n 2, 1, [], 0, 0), (225, .invokevirtual 72, 3, [], 23, 0), (228, .aload_n 1, 1, [], 0, 0), (229, .iload_n 2, 1, [], 0, 0), (230, .invokevirtual 72, 3, [], 23, 0), (233, .if_icmp .eq 5, 3, [], 0, 0), (236, .iconst 0, 1, [], 0, 0), (237, .ireturn, 1, [], 0, 0), (238, .iinc 2 1, 3, [], 0, 0), (241, .goto (-52), 3, [], 0, 0), (244, .iconst 1, 1, [], 0, 0), (245, .ireturn, 1, [], 0, 0)])
def d_11 : MD := (⟨"ProRataBook", "status", "(I)I"⟩, prog_1_method_21_code, 2, some .int, 3, 1, 0, 0, 0, [(0, .iload_n 1, 1, [], 0, 0), (1, .iconst 1, 1, [], 0, 0), (2, .if_icmp .lt 11, 3, [], 0, 0), (5, .iload_n 1, 1, [], 0, 0), (6, .aload_n 0, 1, [], 0, 0), (7, .getfield 61, 3, [], 16, 0), (10, .if_icmp .le 5, 3, [], 0, 0), (13, .iconst 0, 1, [], 0, 0), (14, .ireturn, 1, [], 0, 0), (15, .aload_n 0, 1, [], 0, 0), (16, .getfield 22, 3, [], 4, 0), (19, .iload_n 1, 1, [], 0, 0), (20, .iaload, 1, [], 0, 0), (21, .ireturn, 1, [], 0, 0)])
def d_12 : MD := (⟨"ProRataBook", "remaining", "(I)I"⟩, prog_1_method_22_code, 2, some .int, 3, 1, 0, 1, 13, [(0, .aload_n 0, 1, [], 0, 0), (1, .iload_n 1, 1, [], 0, 0), (2, .invokevirtual 129, 3, [], 5, 0), (5, .ifCond .ne 5, 3, [], 0, 0), (8, .iconst 0, 1, [], 0, 0), (9, .ireturn, 1, [], 0, 0), (10, .aload_n 0, 1, [], 0, 0), (11, .getfield 16, 3, [], 2, 0), (14, .iload_n 1, 1, [], 0, 0), (15, .iaload, 1, [], 0, 0), (16, .ireturn, 1, [], 0, 0)])
def d_13 : MD := (⟨"ProRataBook", "filled", "(I)I"⟩, prog_1_method_23_code, 2, some .int, 3, 1, 0, 0, 0, [(0, .iload_n 1, 1, [], 0, 0), (1, .iconst 1, 1, [], 0, 0), (2, .if_icmp .lt 11, 3, [], 0, 0), (5, .iload_n 1, 1, [], 0, 0), (6, .aload_n 0, 1, [], 0, 0), (7, .getfield 61, 3, [], 16, 0), (10, .if_icmp .le 5, 3, [], 0, 0), (13, .iconst 0, 1, [], 0, 0), (14, .ireturn, 1, [], 0, 0), (15, .aload_n 0, 1, [], 0, 0), (16, .getfield 19, 3, [], 3, 0), (19, .iload_n 1, 1, [], 0, 0), (20, .iaload, 1, [], 0, 0), (21, .ireturn, 1, [], 0, 0)])
def d_14 : MD := (⟨"ProRataBook", "isTop", "(I)Z"⟩, prog_1_method_24_code, 2, some .boolean, 3, 1, 0, 1, 13, [(0, .aload_n 0, 1, [], 0, 0), (1, .iload_n 1, 1, [], 0, 0), (2, .invokevirtual 129, 3, [], 5, 0), (5, .ifCond .eq 16, 3, [], 0, 0), (8, .aload_n 0, 1, [], 0, 0), (9, .getfield 29, 3, [], 6, 0), (12, .iload_n 1, 1, [], 0, 0), (13, .baload, 1, [], 0, 0), (14, .ifCond .eq 7, 3, [], 0, 0), (17, .iconst 1, 1, [], 0, 0), (18, .goto 4, 3, [], 0, 0), (21, .iconst 0, 1, [], 0, 0), (22, .ireturn, 1, [], 0, 0)])
def d_15 : MD := (⟨"ProRataBook", "priorityRank", "(I)I"⟩, prog_1_method_25_code, 5, some .int, 3, 1, 0, 1, 13, [(0, .aload_n 0, 1, [], 0, 0), (1, .iload_n 1, 1, [], 0, 0), (2, .invokevirtual 129, 3, [], 5, 0), (5, .ifCond .ne 5, 3, [], 0, 0), (8, .iconst (-1), 1, [], 0, 0), (9, .ireturn, 1, [], 0, 0), (10, .iconst 0, 1, [], 0, 0), (11, .istore_n 2, 1, [], 0, 0), (12, .iconst 0, 1, [], 0, 0), (13, .istore_n 3, 1, [], 0, 0), (14, .iload_n 3, 1, [false, false, false, false, true], 0, 0), (15, .aload_n 0, 1, [], 0, 0), (16, .getfield 68, 3, [], 18, 0), (19, .if_icmp .ge 69, 3, [], 0, 0), (22, .aload_n 0, 1, [], 0, 0), (23, .getfield 33, 3, [], 7, 0), (26, .iload_n 3, 1, [], 0, 0), (27, .iaload, 1, [], 0, 0), (28, .istore 4, 2, [], 0, 0), (30, .aload_n 0, 1, [], 0, 0), (31, .getfield 7, 3, [], 0, 0), (34, .iload 4, 2, [], 0, 0), (36, .iaload, 1, [], 0, 0), (37, .aload_n 0, 1, [], 0, 0), (38, .getfield 7, 3, [], 0, 0), (41, .iload_n 1, 1, [], 0, 0), (42, .iaload, 1, [], 0, 0), (43, .if_icmp .ne 39, 3, [], 0, 0), (46, .aload_n 0, 1, [], 0, 0), (47, .getfield 13, 3, [], 1, 0), (50, .iload 4, 2, [], 0, 0), (52, .iaload, 1, [], 0, 0), (53, .aload_n 0, 1, [], 0, 0), (54, .getfield 13, 3, [], 1, 0), (57, .iload_n 1, 1, [], 0, 0), (58, .iaload, 1, [], 0, 0), (59, .if_icmp .ne 23, 3, [], 0, 0), (62, .aload_n 0, 1, [], 0, 0), (63, .getfield 25, 3, [], 5, 0), (66, .iload 4, 2, [], 0, 0), (68, .laload, 1, [], 0, 0), (69, .aload_n 0, 1, [], 0, 0), (70, .getfield 25, 3, [], 5, 0), (73, .iload_n 1, 1, [], 0, 0), (74, .laload, 1, [], 0, 0), (75, .lcmp, 1, [], 0, 0), (76, .ifCond .ge 6, 3, [], 0, 0), (79, .iinc 2 1, 3, [], 0, 0), (82, .iinc 3 1, 3, [], 0, 0), (85, .goto (-71), 3, [], 0, 0), (88, .iload_n 2, 1, [], 0, 0), (89, .ireturn, 1, [], 0, 0)])
def d_16 : MD := (⟨"ProRataBook", "bestPrice", "(I)I"⟩, prog_1_method_26_code, 2, some .int, 3, 1, 0, 2, 32, [(0, .iload_n 1, 1, [], 0, 0), (1, .ifCond .eq 10, 3, [], 0, 0), (4, .iload_n 1, 1, [], 0, 0), (5, .iconst 1, 1, [], 0, 0), (6, .if_icmp .eq 5, 3, [], 0, 0), (9, .iconst 0, 1, [], 0, 0), (10, .ireturn, 1, [], 0, 0), (11, .aload_n 0, 1, [], 0, 0), (12, .iload_n 1, 1, [], 0, 0), (13, .invokevirtual 85, 3, [], 8, 0), (16, .ireturn, 1, [], 0, 0)])
def d_17 : MD := (⟨"ProRataBook", "depthAt", "(II)I"⟩, prog_1_method_27_code, 6, some .int, 3, 2, 0, 0, 0, [(0, .iload_n 1, 1, [], 0, 0), (1, .ifCond .eq 10, 3, [], 0, 0), (4, .iload_n 1, 1, [], 0, 0), (5, .iconst 1, 1, [], 0, 0), (6, .if_icmp .eq 5, 3, [], 0, 0), (9, .iconst 0, 1, [], 0, 0), (10, .ireturn, 1, [], 0, 0), (11, .iload_n 2, 1, [false, false, false, true, true, true], 0, 0), (12, .iconst 1, 1, [], 0, 0), (13, .if_icmp .lt 10, 3, [], 0, 0), (16, .iload_n 2, 1, [], 0, 0), (17, .sipush 1000, 3, [], 0, 0), (20, .if_icmp .le 5, 3, [], 0, 0), (23, .iconst 0, 1, [], 0, 0), (24, .ireturn, 1, [], 0, 0), (25, .iconst 0, 1, [], 0, 0), (26, .istore_n 3, 1, [], 0, 0), (27, .iconst 0, 1, [], 0, 0), (28, .istore 4, 2, [], 0, 0), (30, .iload 4, 2, [false, false, false, false, false, true], 0, 0), (32, .aload_n 0, 1, [], 0, 0), (33, .getfield 68, 3, [], 18, 0), (36, .if_icmp .ge 50, 3, [], 0, 0), (39, .aload_n 0, 1, [], 0, 0), (40, .getfield 33, 3, [], 7, 0), (43, .iload 4, 2, [], 0, 0), (45, .iaload, 1, [], 0, 0), (46, .istore 5, 2, [], 0, 0), (48, .aload_n 0, 1, [], 0, 0), (49, .getfield 7, 3, [], 0, 0), (52, .iload 5, 2, [], 0, 0), (54, .iaload, 1, [], 0, 0), (55, .iload_n 1, 1, [], 0, 0), (56, .if_icmp .ne 24, 3, [], 0, 0), (59, .aload_n 0, 1, [], 0, 0), (60, .getfield 13, 3, [], 1, 0), (63, .iload 5, 2, [], 0, 0), (65, .iaload, 1, [], 0, 0), (66, .iload_n 2, 1, [], 0, 0), (67, .if_icmp .ne 13, 3, [], 0, 0), (70, .iload_n 3, 1, [], 0, 0), (71, .aload_n 0, 1, [], 0, 0), (72, .getfield 16, 3, [], 2, 0), (75, .iload 5, 2, [], 0, 0), (77, .iaload, 1, [], 0, 0), (78, .iadd, 1, [], 0, 0), (79, .istore_n 3, 1, [], 0, 0), (80, .iinc 4 1, 3, [], 0, 0), (83, .goto (-53), 3, [], 0, 0), (86, .iload_n 3, 1, [], 0, 0), (87, .ireturn, 1, [], 0, 0)])
def d_18 : MD := (⟨"ProRataBook", "ordersAt", "(II)I"⟩, prog_1_method_28_code, 6, some .int, 3, 2, 0, 0, 0, [(0, .iload_n 1, 1, [], 0, 0), (1, .ifCond .eq 10, 3, [], 0, 0), (4, .iload_n 1, 1, [], 0, 0), (5, .iconst 1, 1, [], 0, 0), (6, .if_icmp .eq 5, 3, [], 0, 0), (9, .iconst 0, 1, [], 0, 0), (10, .ireturn, 1, [], 0, 0), (11, .iload_n 2, 1, [false, false, false, true, true, true], 0, 0), (12, .iconst 1, 1, [], 0, 0), (13, .if_icmp .lt 10, 3, [], 0, 0), (16, .iload_n 2, 1, [], 0, 0), (17, .sipush 1000, 3, [], 0, 0), (20, .if_icmp .le 5, 3, [], 0, 0), (23, .iconst 0, 1, [], 0, 0), (24, .ireturn, 1, [], 0, 0), (25, .iconst 0, 1, [], 0, 0), (26, .istore_n 3, 1, [], 0, 0), (27, .iconst 0, 1, [], 0, 0), (28, .istore 4, 2, [], 0, 0), (30, .iload 4, 2, [false, false, false, false, false, true], 0, 0), (32, .aload_n 0, 1, [], 0, 0), (33, .getfield 68, 3, [], 18, 0), (36, .if_icmp .ge 43, 3, [], 0, 0), (39, .aload_n 0, 1, [], 0, 0), (40, .getfield 33, 3, [], 7, 0), (43, .iload 4, 2, [], 0, 0), (45, .iaload, 1, [], 0, 0), (46, .istore 5, 2, [], 0, 0), (48, .aload_n 0, 1, [], 0, 0), (49, .getfield 7, 3, [], 0, 0), (52, .iload 5, 2, [], 0, 0), (54, .iaload, 1, [], 0, 0), (55, .iload_n 1, 1, [], 0, 0), (56, .if_icmp .ne 17, 3, [], 0, 0), (59, .aload_n 0, 1, [], 0, 0), (60, .getfield 13, 3, [], 1, 0), (63, .iload 5, 2, [], 0, 0), (65, .iaload, 1, [], 0, 0), (66, .iload_n 2, 1, [], 0, 0), (67, .if_icmp .ne 6, 3, [], 0, 0), (70, .iinc 3 1, 3, [], 0, 0), (73, .iinc 4 1, 3, [], 0, 0), (76, .goto (-46), 3, [], 0, 0), (79, .iload_n 3, 1, [], 0, 0), (80, .ireturn, 1, [], 0, 0)])
def d_19 : MD := (⟨"ProRataBook", "restingCount", "()I"⟩, prog_1_method_29_code, 1, some .int, 3, 0, 0, 0, 0, [(0, .aload_n 0, 1, [], 0, 0), (1, .getfield 68, 3, [], 18, 0), (4, .ireturn, 1, [], 0, 0)])
def d_20 : MD := (⟨"ProRataBook", "fillCount", "()I"⟩, prog_1_method_30_code, 1, some .int, 3, 0, 0, 0, 0, [(0, .aload_n 0, 1, [], 0, 0), (1, .getfield 71, 3, [], 19, 0), (4, .ireturn, 1, [], 0, 0)])
def d_21 : MD := (⟨"ProRataBook", "fillId", "(I)I"⟩, prog_1_method_31_code, 2, some .int, 3, 1, 0, 0, 0, [(0, .iload_n 1, 1, [], 0, 0), (1, .ifCond .lt 11, 3, [], 0, 0), (4, .iload_n 1, 1, [], 0, 0), (5, .aload_n 0, 1, [], 0, 0), (6, .getfield 71, 3, [], 19, 0), (9, .if_icmp .lt 5, 3, [], 0, 0), (12, .iconst 0, 1, [], 0, 0), (13, .ireturn, 1, [], 0, 0), (14, .aload_n 0, 1, [], 0, 0), (15, .getfield 36, 3, [], 8, 0), (18, .iload_n 1, 1, [], 0, 0), (19, .iaload, 1, [], 0, 0), (20, .ireturn, 1, [], 0, 0)])
def d_22 : MD := (⟨"ProRataBook", "fillQty", "(I)I"⟩, prog_1_method_32_code, 2, some .int, 3, 1, 0, 0, 0, [(0, .iload_n 1, 1, [], 0, 0), (1, .ifCond .lt 11, 3, [], 0, 0), (4, .iload_n 1, 1, [], 0, 0), (5, .aload_n 0, 1, [], 0, 0), (6, .getfield 71, 3, [], 19, 0), (9, .if_icmp .lt 5, 3, [], 0, 0), (12, .iconst 0, 1, [], 0, 0), (13, .ireturn, 1, [], 0, 0), (14, .aload_n 0, 1, [], 0, 0), (15, .getfield 39, 3, [], 9, 0), (18, .iload_n 1, 1, [], 0, 0), (19, .iaload, 1, [], 0, 0), (20, .ireturn, 1, [], 0, 0)])
def d_23 : MD := (⟨"ProRataBook", "fillPrice", "(I)I"⟩, prog_1_method_33_code, 2, some .int, 3, 1, 0, 0, 0, [(0, .iload_n 1, 1, [], 0, 0), (1, .ifCond .lt 11, 3, [], 0, 0), (4, .iload_n 1, 1, [], 0, 0), (5, .aload_n 0, 1, [], 0, 0), (6, .getfield 71, 3, [], 19, 0), (9, .if_icmp .lt 5, 3, [], 0, 0), (12, .iconst 0, 1, [], 0, 0), (13, .ireturn, 1, [], 0, 0), (14, .aload_n 0, 1, [], 0, 0), (15, .getfield 42, 3, [], 10, 0), (18, .iload_n 1, 1, [], 0, 0), (19, .iaload, 1, [], 0, 0), (20, .ireturn, 1, [], 0, 0)])
def d_24 : MD := (⟨"ProRataBook", "clearFlags", "(I)V"⟩, prog_1_method_5_code, 4, none, 2, 1, 0, 0, 0, [(0, .iconst 0, 1, [], 0, 0), (1, .istore_n 2, 1, [], 0, 0), (2, .iload_n 2, 1, [false, false, false, true], 0, 0), (3, .aload_n 0, 1, [], 0, 0), (4, .getfield 68, 3, [], 18, 0), (7, .if_icmp .ge 33, 3, [], 0, 0), (10, .aload_n 0, 1, [], 0, 0), (11, .getfield 33, 3, [], 7, 0), (14, .iload_n 2, 1, [], 0, 0), (15, .iaload, 1, [], 0, 0), (16, .istore_n 3, 1, [], 0, 0), (17, .aload_n 0, 1, [], 0, 0), (18, .getfield 7, 3, [], 0, 0), (21, .iload_n 3, 1, [], 0, 0), (22, .iaload, 1, [], 0, 0), (23, .iload_n 1, 1, [], 0, 0), (24, .if_icmp .ne 10, 3, [], 0, 0), (27, .aload_n 0, 1, [], 0, 0), (28, .getfield 29, 3, [], 6, 0), (31, .iload_n 3, 1, [], 0, 0), (32, .iconst 0, 1, [], 0, 0), (33, .bastore, 1, [], 0, 0), (34, .iinc 2 1, 3, [], 0, 0), (37, .goto (-35), 3, [], 0, 0), (40, .return_, 1, [], 0, 0)])
def d_25 : MD := (⟨"ProRataBook", "removeResting", "(I)V"⟩, prog_1_method_16_code, 3, none, 2, 1, 0, 0, 0, [(0, .iconst 0, 1, [], 0, 0), (1, .istore_n 2, 1, [], 0, 0), (2, .iload_n 2, 1, [], 0, 0), (3, .aload_n 0, 1, [], 0, 0), (4, .getfield 68, 3, [], 18, 0), (7, .if_icmp .ge 47, 3, [], 0, 0), (10, .aload_n 0, 1, [], 0, 0), (11, .getfield 33, 3, [], 7, 0), (14, .iload_n 2, 1, [], 0, 0), (15, .iaload, 1, [], 0, 0), (16, .iload_n 1, 1, [], 0, 0), (17, .if_icmp .ne 31, 3, [], 0, 0), (20, .aload_n 0, 1, [false, true], 0, 0), (21, .getfield 33, 3, [], 7, 0), (24, .iload_n 2, 1, [], 0, 0), (25, .aload_n 0, 1, [], 0, 0), (26, .getfield 33, 3, [], 7, 0), (29, .aload_n 0, 1, [], 0, 0), (30, .getfield 68, 3, [], 18, 0), (33, .iconst 1, 1, [], 0, 0), (34, .isub, 1, [], 0, 0), (35, .iaload, 1, [], 0, 0), (36, .iastore, 1, [], 0, 0), (37, .aload_n 0, 1, [], 0, 0), (38, .dup, 1, [], 0, 0), (39, .getfield 68, 3, [], 18, 0), (42, .iconst 1, 1, [], 0, 0), (43, .isub, 1, [], 0, 0), (44, .putfield 68, 3, [], 18, 0), (47, .return_, 1, [], 0, 0), (48, .iinc 2 1, 3, [], 0, 0), (51, .goto (-49), 3, [], 0, 0), (54, .return_, 1, [], 0, 0)])
def d_26 : MD := (⟨"ProRataBook", "crosses", "(III)Z"⟩, prog_1_method_6_code, 4, some .boolean, 2, 3, 0, 0, 0, [(0, .iload_n 1, 1, [], 0, 0), (1, .ifCond .ne 14, 3, [], 0, 0), (4, .iload_n 3, 1, [], 0, 0), (5, .iload_n 2, 1, [], 0, 0), (6, .if_icmp .gt 7, 3, [], 0, 0), (9, .iconst 1, 1, [], 0, 0), (10, .goto 4, 3, [], 0, 0), (13, .iconst 0, 1, [], 0, 0), (14, .ireturn, 1, [], 0, 0), (15, .iload_n 3, 1, [], 0, 0), (16, .iload_n 2, 1, [], 0, 0), (17, .if_icmp .lt 7, 3, [], 0, 0), (20, .iconst 1, 1, [], 0, 0), (21, .goto 4, 3, [], 0, 0), (24, .iconst 0, 1, [], 0, 0), (25, .ireturn, 1, [], 0, 0)])
def d_27 : MD := (⟨"ProRataBook", "better", "(III)Z"⟩, prog_1_method_7_code, 4, some .boolean, 2, 3, 0, 0, 0, [(0, .iload_n 1, 1, [], 0, 0), (1, .ifCond .ne 14, 3, [], 0, 0), (4, .iload_n 2, 1, [], 0, 0), (5, .iload_n 3, 1, [], 0, 0), (6, .if_icmp .le 7, 3, [], 0, 0), (9, .iconst 1, 1, [], 0, 0), (10, .goto 4, 3, [], 0, 0), (13, .iconst 0, 1, [], 0, 0), (14, .ireturn, 1, [], 0, 0), (15, .iload_n 2, 1, [], 0, 0), (16, .iload_n 3, 1, [], 0, 0), (17, .if_icmp .ge 7, 3, [], 0, 0), (20, .iconst 1, 1, [], 0, 0), (21, .goto 4, 3, [], 0, 0), (24, .iconst 0, 1, [], 0, 0), (25, .ireturn, 1, [], 0, 0)])
def d_28 : MD := (⟨"ProRataBook", "matchLevel", "(III)I"⟩, prog_1_method_8_code, 6, some .int, 2, 3, 0, 2, 38, [(0, .aload_n 0, 1, [], 0, 0), (1, .iload_n 1, 1, [], 0, 0), (2, .iload_n 2, 1, [], 0, 0), (3, .invokevirtual 104, 3, [], 29, 0), (6, .aload_n 0, 1, [], 0, 0), (7, .invokevirtual 108, 3, [], 30, 0), (10, .iconst 0, 1, [], 0, 0), (11, .istore 4, 2, [], 0, 0), (13, .iload 4, 2, [false, true, false, false, false, true], 0, 0), (15, .aload_n 0, 1, [], 0, 0), (16, .getfield 74, 3, [], 20, 0), (19, .if_icmp .ge 40, 3, [], 0, 0), (22, .aload_n 0, 1, [], 0, 0), (23, .getfield 45, 3, [], 11, 0), (26, .iload 4, 2, [], 0, 0), (28, .iaload, 1, [], 0, 0), (29, .istore 5, 2, [], 0, 0), (31, .aload_n 0, 1, [], 0, 0), (32, .getfield 48, 3, [], 12, 0), (35, .iload 4, 2, [], 0, 0), (37, .aload_n 0, 1, [], 0, 0), (38, .getfield 16, 3, [], 2, 0), (41, .iload 5, 2, [], 0, 0), (43, .iaload, 1, [], 0, 0), (44, .iastore, 1, [], 0, 0), (45, .aload_n 0, 1, [], 0, 0), (46, .getfield 51, 3, [], 13, 0), (49, .iload 4, 2, [], 0, 0), (51, .iconst 0, 1, [], 0, 0), (52, .iastore, 1, [], 0, 0), (53, .iinc 4 1, 3, [], 0, 0), (56, .goto (-43), 3, [], 0, 0), (59, .aload_n 0, 1, [false, true, false, false, true, true], 0, 0), (60, .iload_n 3, 1, [], 0, 0), (61, .invokevirtual 111, 3, [], 31, 0), (64, .istore 4, 2, [], 0, 0), (66, .aload_n 0, 1, [], 0, 0), (67, .iload_n 2, 1, [], 0, 0), (68, .invokevirtual 114, 3, [], 34, 0), (71, .iload 4, 2, [], 0, 0), (73, .ireturn, 1, [], 0, 0)])
def d_29 : MD := (⟨"ProRataBook", "gatherLevel", "(II)V"⟩, prog_1_method_9_code, 5, none, 2, 2, 0, 0, 0, [(0, .aload_n 0, 1, [], 0, 0), (1, .iconst 0, 1, [], 0, 0), (2, .putfield 74, 3, [], 20, 0), (5, .iconst 0, 1, [], 0, 0), (6, .istore_n 3, 1, [], 0, 0), (7, .iload_n 3, 1, [false, false, false, false, true], 0, 0), (8, .aload_n 0, 1, [], 0, 0), (9, .getfield 68, 3, [], 18, 0), (12, .if_icmp .ge 69, 3, [], 0, 0), (15, .aload_n 0, 1, [], 0, 0), (16, .getfield 33, 3, [], 7, 0), (19, .iload_n 3, 1, [], 0, 0), (20, .iaload, 1, [], 0, 0), (21, .istore 4, 2, [], 0, 0), (23, .aload_n 0, 1, [], 0, 0), (24, .getfield 7, 3, [], 0, 0), (27, .iload 4, 2, [], 0, 0), (29, .iaload, 1, [], 0, 0), (30, .iload_n 1, 1, [], 0, 0), (31, .if_icmp .ne 44, 3, [], 0, 0), (34, .aload_n 0, 1, [], 0, 0), (35, .getfield 13, 3, [], 1, 0), (38, .iload 4, 2, [], 0, 0), (40, .iaload, 1, [], 0, 0), (41, .iload_n 2, 1, [], 0, 0), (42, .if_icmp .ne 33, 3, [], 0, 0), (45, .aload_n 0, 1, [], 0, 0), (46, .getfield 74, 3, [], 20, 0), (49, .bipush 64, 2, [], 0, 0), (51, .if_icmp .ge 24, 3, [], 0, 0), (54, .aload_n 0, 1, [], 0, 0), (55, .getfield 45, 3, [], 11, 0), (58, .aload_n 0, 1, [], 0, 0), (59, .getfield 74, 3, [], 20, 0), (62, .iload 4, 2, [], 0, 0), (64, .iastore, 1, [], 0, 0), (65, .aload_n 0, 1, [], 0, 0), (66, .dup, 1, [], 0, 0), (67, .getfield 74, 3, [], 20, 0), (70, .iconst 1, 1, [], 0, 0), (71, .iadd, 1, [], 0, 0), (72, .putfield 74, 3, [], 20, 0), (75, .iinc 3 1, 3, [], 0, 0), (78, .goto (-71), 3, [], 0, 0), (81, .return_, 1, [], 0, 0)])
def d_30 : MD := (⟨"ProRataBook", "sortLevel", "()V"⟩, prog_1_method_10_code, 6, none, 2, 0, 0, 0, 0, [(0, .iconst 1, 1, [], 0, 0), (1, .istore_n 1, 1, [], 0, 0), (2, .iload_n 1, 1, [false, false, true, true, true, true], 0, 0), (3, .aload_n 0, 1, [], 0, 0), (4, .getfield 74, 3, [], 20, 0), (7, .if_icmp .ge 80, 3, [], 0, 0), (10, .aload_n 0, 1, [], 0, 0), (11, .getfield 45, 3, [], 11, 0), (14, .iload_n 1, 1, [], 0, 0), (15, .iaload, 1, [], 0, 0), (16, .istore_n 2, 1, [], 0, 0), (17, .aload_n 0, 1, [], 0, 0), (18, .getfield 25, 3, [], 5, 0), (21, .iload_n 2, 1, [], 0, 0), (22, .laload, 1, [], 0, 0), (23, .lstore_n 3, 1, [], 0, 0), (24, .iload_n 1, 1, [], 0, 0), (25, .istore 5, 2, [], 0, 0), (27, .iload 5, 2, [], 0, 0), (29, .ifCond .le 44, 3, [], 0, 0), (32, .aload_n 0, 1, [], 0, 0), (33, .getfield 25, 3, [], 5, 0), (36, .aload_n 0, 1, [], 0, 0), (37, .getfield 45, 3, [], 11, 0), (40, .iload 5, 2, [], 0, 0), (42, .iconst 1, 1, [], 0, 0), (43, .isub, 1, [], 0, 0), (44, .iaload, 1, [], 0, 0), (45, .laload, 1, [], 0, 0), (46, .lload_n 3, 1, [], 0, 0), (47, .lcmp, 1, [], 0, 0), (48, .ifCond .le 25, 3, [], 0, 0), (51, .aload_n 0, 1, [], 0, 0), (52, .getfield 45, 3, [], 11, 0), (55, .iload 5, 2, [], 0, 0), (57, .aload_n 0, 1, [], 0, 0), (58, .getfield 45, 3, [], 11, 0), (61, .iload 5, 2, [], 0, 0), (63, .iconst 1, 1, [], 0, 0), (64, .isub, 1, [], 0, 0), (65, .iaload, 1, [], 0, 0), (66, .iastore, 1, [], 0, 0), (67, .iinc 5 (-1), 3, [], 0, 0), (70, .goto (-43), 3, [], 0, 0), (73, .aload_n 0, 1, [false, false, false, true, true], 0, 0), (74, .getfield 45, 3, [], 11, 0), (77, .iload 5, 2, [], 0, 0), (79, .iload_n 2, 1, [], 0, 0), (80, .iastore, 1, [], 0, 0), (81, .iinc 1 1, 3, [], 0, 0), (84, .goto (-82), 3, [], 0, 0), (87, .return_, 1, [], 0, 0)])
def d_31 : MD := (⟨"ProRataBook", "allocate", "(I)I"⟩, prog_1_method_11_code, 7, some .int, 2, 1, 0, 1, 20, [(0, .iconst 0, 1, [], 0, 0), (1, .istore_n 2, 1, [], 0, 0), (2, .iconst 0, 1, [], 0, 0), (3, .istore_n 3, 1, [], 0, 0), (4, .iload_n 3, 1, [false, false, false, false, true, true, true], 0, 0), (5, .aload_n 0, 1, [], 0, 0), (6, .getfield 74, 3, [], 20, 0), (9, .if_icmp .ge 18, 3, [], 0, 0), (12, .iload_n 2, 1, [], 0, 0), (13, .aload_n 0, 1, [], 0, 0), (14, .getfield 48, 3, [], 12, 0), (17, .iload_n 3, 1, [], 0, 0), (18, .iaload, 1, [], 0, 0), (19, .iadd, 1, [], 0, 0), (20, .istore_n 2, 1, [], 0, 0), (21, .iinc 3 1, 3, [], 0, 0), (24, .goto (-20), 3, [], 0, 0), (27, .iload_n 1, 1, [false, false, false, true, true, true, true], 0, 0), (28, .iload_n 2, 1, [], 0, 0), (29, .if_icmp .ge 7, 3, [], 0, 0), (32, .iload_n 1, 1, [], 0, 0), (33, .goto 4, 3, [], 0, 0), (36, .iload_n 2, 1, [], 0, 0), (37, .istore_n 3, 1, [false, true, true, true, true, true, true], 0, 0), (38, .aload_n 0, 1, [], 0, 0), (39, .iload_n 3, 1, [], 0, 0), (40, .invokevirtual 117, 3, [], 32, 0), (43, .istore 4, 2, [], 0, 0), (45, .iload_n 3, 1, [], 0, 0), (46, .iload 4, 2, [], 0, 0), (48, .isub, 1, [], 0, 0), (49, .istore 5, 2, [], 0, 0), (51, .iconst 0, 1, [], 0, 0), (52, .istore 6, 2, [], 0, 0), (54, .iload 5, 2, [], 0, 0), (56, .ifCond .le 11, 3, [], 0, 0), (59, .aload_n 0, 1, [], 0, 0), (60, .iload 5, 2, [], 0, 0), (62, .invokevirtual 120, 3, [], 35, 0), (65, .istore 6, 2, [], 0, 0), (67, .aload_n 0, 1, [false, true, true, false, true], 0, 0), (68, .iload 5, 2, [], 0, 0), (70, .iload 6, 2, [], 0, 0), (72, .isub, 1, [], 0, 0), (73, .invokevirtual 123, 3, [], 33, 0), (76, .iload_n 3, 1, [], 0, 0), (77, .ireturn, 1, [], 0, 0)])
def d_32 : MD := (⟨"ProRataBook", "topStep", "(I)I"⟩, prog_1_method_12_code, 5, some .int, 2, 1, 0, 0, 0, [(0, .aload_n 0, 1, [], 0, 0), (1, .getfield 58, 3, [], 15, 0), (4, .ifCond .gt 5, 3, [], 0, 0), (7, .iconst 0, 1, [], 0, 0), (8, .ireturn, 1, [], 0, 0), (9, .iconst 0, 1, [], 0, 0), (10, .istore_n 2, 1, [], 0, 0), (11, .iload_n 2, 1, [false, false, false, true, true], 0, 0), (12, .aload_n 0, 1, [], 0, 0), (13, .getfield 74, 3, [], 20, 0), (16, .if_icmp .ge 84, 3, [], 0, 0), (19, .aload_n 0, 1, [], 0, 0), (20, .getfield 45, 3, [], 11, 0), (23, .iload_n 2, 1, [], 0, 0), (24, .iaload, 1, [], 0, 0), (25, .istore_n 3, 1, [], 0, 0), (26, .aload_n 0, 1, [], 0, 0), (27, .getfield 29, 3, [], 6, 0), (30, .iload_n 3, 1, [], 0, 0), (31, .baload, 1, [], 0, 0), (32, .ifCond .eq 62, 3, [], 0, 0), (35, .iload_n 1, 1, [false, false, false, true, true], 0, 0), (36, .istore 4, 2, [], 0, 0), (38, .aload_n 0, 1, [], 0, 0), (39, .getfield 48, 3, [], 12, 0), (42, .iload_n 2, 1, [], 0, 0), (43, .iaload, 1, [], 0, 0), (44, .iload 4, 2, [], 0, 0), (46, .if_icmp .ge 11, 3, [], 0, 0), (49, .aload_n 0, 1, [], 0, 0), (50, .getfield 48, 3, [], 12, 0), (53, .iload_n 2, 1, [], 0, 0), (54, .iaload, 1, [], 0, 0), (55, .istore 4, 2, [], 0, 0), (57, .aload_n 0, 1, [false, true, false, true], 0, 0), (58, .getfield 58, 3, [], 15, 0), (61, .iload 4, 2, [], 0, 0), (63, .if_icmp .ge 9, 3, [], 0, 0), (66, .aload_n 0, 1, [], 0, 0), (67, .getfield 58, 3, [], 15, 0), (70, .istore 4, 2, [], 0, 0), (72, .iload 4, 2, [false, true, false, true], 0, 0), (74, .ifCond .ge 6, 3, [], 0, 0), (77, .iconst 0, 1, [], 0, 0), (78, .istore 4, 2, [], 0, 0), (80, .aload_n 0, 1, [false, true, false, true], 0, 0), (81, .getfield 51, 3, [], 13, 0), (84, .iload_n 2, 1, [], 0, 0), (85, .dup2, 1, [], 0, 0), (86, .iaload, 1, [], 0, 0), (87, .iload 4, 2, [], 0, 0), (89, .iadd, 1, [], 0, 0), (90, .iastore, 1, [], 0, 0), (91, .iload 4, 2, [], 0, 0), (93, .ireturn, 1, [], 0, 0), (94, .iinc 2 1, 3, [], 0, 0), (97, .goto (-86), 3, [], 0, 0), (100, .iconst 0, 1, [], 0, 0), (101, .ireturn, 1, [], 0, 0)])
def d_33 : MD := (⟨"ProRataBook", "timeStep", "(I)V"⟩, prog_1_method_14_code, 6, none, 2, 1, 0, 0, 0, [(0, .iload_n 1, 1, [], 0, 0), (1, .istore_n 2, 1, [], 0, 0), (2, .iconst 0, 1, [], 0, 0), (3, .istore_n 3, 1, [], 0, 0), (4, .iload_n 3, 1, [false, true, false, false, true, true], 0, 0), (5, .aload_n 0, 1, [], 0, 0), (6, .getfield 74, 3, [], 20, 0), (9, .if_icmp .ge 63, 3, [], 0, 0), (12, .iload_n 2, 1, [], 0, 0), (13, .ifCond .le 59, 3, [], 0, 0), (16, .aload_n 0, 1, [], 0, 0), (17, .getfield 48, 3, [], 12, 0), (20, .iload_n 3, 1, [], 0, 0), (21, .iaload, 1, [], 0, 0), (22, .aload_n 0, 1, [], 0, 0), (23, .getfield 51, 3, [], 13, 0), (26, .iload_n 3, 1, [], 0, 0), (27, .iaload, 1, [], 0, 0), (28, .isub, 1, [], 0, 0), (29, .istore 4, 2, [], 0, 0), (31, .iload_n 2, 1, [], 0, 0), (32, .iload 4, 2, [], 0, 0), (34, .if_icmp .ge 7, 3, [], 0, 0), (37, .iload_n 2, 1, [], 0, 0), (38, .goto 5, 3, [], 0, 0), (41, .iload 4, 2, [], 0, 0), (43, .istore 5, 2, [false, true, false, false, true, true], 0, 0), (45, .iload 5, 2, [], 0, 0), (47, .ifCond .le 19, 3, [], 0, 0), (50, .aload_n 0, 1, [], 0, 0), (51, .getfield 51, 3, [], 13, 0), (54, .iload_n 3, 1, [], 0, 0), (55, .dup2, 1, [], 0, 0), (56, .iaload, 1, [], 0, 0), (57, .iload 5, 2, [], 0, 0), (59, .iadd, 1, [], 0, 0), (60, .iastore, 1, [], 0, 0), (61, .iload_n 2, 1, [], 0, 0), (62, .iload 5, 2, [], 0, 0), (64, .isub, 1, [], 0, 0), (65, .istore_n 2, 1, [], 0, 0), (66, .iinc 3 1, 3, [], 0, 0), (69, .goto (-65), 3, [], 0, 0), (72, .return_, 1, [], 0, 0)])
def d_34 : MD := (⟨"ProRataBook", "applyLevel", "(I)V"⟩, prog_1_method_15_code, 5, none, 2, 1, 0, 1, 14, [(0, .iconst 0, 1, [], 0, 0), (1, .istore_n 2, 1, [], 0, 0), (2, .iload_n 2, 1, [false, false, false, true, true], 0, 0), (3, .aload_n 0, 1, [], 0, 0), (4, .getfield 74, 3, [], 20, 0), (7, .if_icmp .ge 143, 3, [], 0, 0), (10, .aload_n 0, 1, [], 0, 0), (11, .getfield 51, 3, [], 13, 0), (14, .iload_n 2, 1, [], 0, 0), (15, .iaload, 1, [], 0, 0), (16, .istore_n 3, 1, [], 0, 0), (17, .iload_n 3, 1, [], 0, 0), (18, .ifCond .gt 6, 3, [], 0, 0), (21, .goto 123, 3, [], 0, 0), (24, .aload_n 0, 1, [], 0, 0), (25, .getfield 45, 3, [], 11, 0), (28, .iload_n 2, 1, [], 0, 0), (29, .iaload, 1, [], 0, 0), (30, .istore 4, 2, [], 0, 0), (32, .aload_n 0, 1, [], 0, 0), (33, .getfield 71, 3, [], 19, 0), (36, .bipush 64, 2, [], 0, 0), (38, .if_icmp .ge 44, 3, [], 0, 0), (41, .aload_n 0, 1, [], 0, 0), (42, .getfield 36, 3, [], 8, 0), (45, .aload_n 0, 1, [], 0, 0), (46, .getfield 71, 3, [], 19, 0), (49, .iload 4, 2, [], 0, 0), (51, .iastore, 1, [], 0, 0), (52, .aload_n 0, 1, [], 0, 0), (53, .getfield 42, 3, [], 10, 0), (56, .aload_n 0, 1, [], 0, 0), (57, .getfield 71, 3, [], 19, 0), (60, .iload_n 1, 1, [], 0, 0), (61, .iastore, 1, [], 0, 0), (62, .aload_n 0, 1, [], 0, 0), (63, .getfield 39, 3, [], 9, 0), (66, .aload_n 0, 1, [], 0, 0), (67, .getfield 71, 3, [], 19, 0), (70, .iload_n 3, 1, [], 0, 0), (71, .iastore, 1, [], 0, 0), (72, .aload_n 0, 1, [], 0, 0), (73, .dup, 1, [], 0, 0), (74, .getfield 71, 3, [], 19, 0), (77, .iconst 1, 1, [], 0, 0), (78, .iadd, 1, [], 0, 0), (79, .putfield 71, 3, [], 19, 0), (82, .aload_n 0, 1, [], 0, 0), (83, .getfield 16, 3, [], 2, 0), (86, .iload 4, 2, [], 0, 0), (88, .dup2, 1, [], 0, 0), (89, .iaload, 1, [], 0, 0), (90, .iload_n 3, 1, [], 0, 0), (91, .isub, 1, [], 0, 0), (92, .iastore, 1, [], 0, 0), (93, .aload_n 0, 1, [], 0, 0), (94, .getfield 19, 3, [], 3, 0), (97, .iload 4, 2, [], 0, 0), (99, .dup2, 1, [], 0, 0), (100, .iaload, 1, [], 0, 0), (101, .iload_n 3, 1, [], 0, 0), (102, .iadd, 1, [], 0, 0), (103, .iastore, 1, [], 0, 0), (104, .aload_n 0, 1, [], 0, 0), (105, .getfield 16, 3, [], 2, 0), (108, .iload 4, 2, [], 0, 0), (110, .iaload, 1, [], 0, 0), (111, .ifCond .gt 33, 3, [], 0, 0), (114, .aload_n 0, 1, [], 0, 0), (115, .getfield 16, 3, [], 2, 0), (118, .iload 4, 2, [], 0, 0), (120, .iconst 0, 1, [], 0, 0), (121, .iastore, 1, [], 0, 0), (122, .aload_n 0, 1, [], 0, 0), (123, .getfield 22, 3, [], 4, 0), (126, .iload 4, 2, [], 0, 0), (128, .iconst 2, 1, [], 0, 0), (129, .iastore, 1, [], 0, 0), (130, .aload_n 0, 1, [], 0, 0), (131, .getfield 29, 3, [], 6, 0), (134, .iload 4, 2, [], 0, 0), (136, .iconst 0, 1, [], 0, 0), (137, .bastore, 1, [], 0, 0), (138, .aload_n 0, 1, [], 0, 0), (139, .iload 4, 2, [], 0, 0), (141, .invokevirtual 126, 3, [], 25, 0), (144, .iinc 2 1, 3, [], 0, 0), (147, .goto (-145), 3, [], 0, 0), (150, .return_, 1, [], 0, 0)])
def d_35 : MD := (⟨"ProRataBook", "proRataStep", "(I)I"⟩, prog_1_method_13_code, 9, some .int, 2, 1, 0, 0, 0, [(0, .lconst 0, 1, [], 0, 0), (1, .lstore_n 2, 1, [], 0, 0), (2, .iconst 0, 1, [], 0, 0), (3, .istore 4, 2, [], 0, 0), (5, .iload 4, 2, [false, false, false, false, false, true, true, true, true], 0, 0), (7, .aload_n 0, 1, [], 0, 0), (8, .getfield 74, 3, [], 20, 0), (11, .if_icmp .ge 28, 3, [], 0, 0), (14, .lload_n 2, 1, [], 0, 0), (15, .aload_n 0, 1, [], 0, 0), (16, .getfield 48, 3, [], 12, 0), (19, .iload 4, 2, [], 0, 0), (21, .iaload, 1, [], 0, 0), (22, .aload_n 0, 1, [], 0, 0), (23, .getfield 51, 3, [], 13, 0), (26, .iload 4, 2, [], 0, 0), (28, .iaload, 1, [], 0, 0), (29, .isub, 1, [], 0, 0), (30, .i2l, 1, [], 0, 0), (31, .ladd, 1, [], 0, 0), (32, .lstore_n 2, 1, [], 0, 0), (33, .iinc 4 1, 3, [], 0, 0), (36, .goto (-31), 3, [], 0, 0), (39, .lload_n 2, 1, [false, false, false, false, true, true, true, true, true], 0, 0), (40, .lconst 0, 1, [], 0, 0), (41, .lcmp, 1, [], 0, 0), (42, .ifCond .gt 5, 3, [], 0, 0), (45, .iconst 0, 1, [], 0, 0), (46, .ireturn, 1, [], 0, 0), (47, .iconst 0, 1, [], 0, 0), (48, .istore 4, 2, [], 0, 0), (50, .iconst 0, 1, [], 0, 0), (51, .istore 5, 2, [], 0, 0), (53, .iload 5, 2, [false, false, false, false, false, false, true, true, true], 0, 0), (55, .aload_n 0, 1, [], 0, 0), (56, .getfield 74, 3, [], 20, 0), (59, .if_icmp .ge 68, 3, [], 0, 0), (62, .aload_n 0, 1, [], 0, 0), (63, .getfield 48, 3, [], 12, 0), (66, .iload 5, 2, [], 0, 0), (68, .iaload, 1, [], 0, 0), (69, .aload_n 0, 1, [], 0, 0), (70, .getfield 51, 3, [], 13, 0), (73, .iload 5, 2, [], 0, 0), (75, .iaload, 1, [], 0, 0), (76, .isub, 1, [], 0, 0), (77, .i2l, 1, [], 0, 0), (78, .lstore 6, 2, [], 0, 0), (80, .iload_n 1, 1, [], 0, 0), (81, .i2l, 1, [], 0, 0), (82, .lload 6, 2, [], 0, 0), (84, .lmul, 1, [], 0, 0), (85, .lload_n 2, 1, [], 0, 0), (86, .ldiv, 1, [], 0, 0), (87, .l2i, 1, [], 0, 0), (88, .istore 8, 2, [], 0, 0), (90, .iload 8, 2, [], 0, 0), (92, .aload_n 0, 1, [], 0, 0), (93, .getfield 54, 3, [], 14, 0), (96, .if_icmp .ge 6, 3, [], 0, 0), (99, .iconst 0, 1, [], 0, 0), (100, .istore 8, 2, [], 0, 0), (102, .aload_n 0, 1, [false, false, false, false, false, false, true, true], 0, 0), (103, .getfield 51, 3, [], 13, 0), (106, .iload 5, 2, [], 0, 0), (108, .dup2, 1, [], 0, 0), (109, .iaload, 1, [], 0, 0), (110, .iload 8, 2, [], 0, 0), (112, .iadd, 1, [], 0, 0), (113, .iastore, 1, [], 0, 0), (114, .iload 4, 2, [], 0, 0), (116, .iload 8, 2, [], 0, 0), (118, .iadd, 1, [], 0, 0), (119, .istore 4, 2, [], 0, 0), (121, .iinc 5 1, 3, [], 0, 0), (124, .goto (-71), 3, [], 0, 0), (127, .iload 4, 2, [], 0, 0), (129, .ireturn, 1, [], 0, 0)])
def own_P : PD := ([("ProRataBook", 21, [("oSide", "[I", (.array .int), false), ("oPrice", "[I", (.array .int), false), ("oRem", "[I", (.array .int), false), ("oFilled", "[I", (.array .int), false), ("oStatus", "[I", (.array .int), false), ("oStamp", "[J", (.array .long), false), ("oTop", "[Z", (.array .boolean), false), ("restIds", "[I", (.array .int), false), ("fIds", "[I", (.array .int), false), ("fQty", "[I", (.array .int), false), ("fPrice", "[I", (.array .int), false), ("lvlIds", "[I", (.array .int), false), ("lvlR", "[I", (.array .int), false), ("lvlA", "[I", (.array .int), false), ("minAlloc", "I", .int, false), ("topCap", "I", .int, false), ("accepted", "I", .int, false), ("stampCounter", "J", .long, false), ("restN", "I", .int, false), ("fN", "I", .int, false), ("lvlN", "I", .int, false)])], [d_0, d_1, d_2, d_3, d_4, d_5, d_6, d_7, d_8, d_9, d_10, d_11, d_12, d_13, d_14, d_15, d_16, d_17, d_18, d_19, d_20, d_21, d_22, d_23, d_24, d_25, d_26, d_27, d_28, d_29, d_30, d_31, d_32, d_33, d_34, d_35], 1)
theorem hm_0 : own_P.mth[0]? = some d_0 := rfl
theorem hm_1 : own_P.mth[1]? = some d_1 := rfl
theorem hm_2 : own_P.mth[2]? = some d_2 := rfl
theorem hm_3 : own_P.mth[3]? = some d_3 := rfl
theorem hm_4 : own_P.mth[4]? = some d_4 := rfl
theorem hm_5 : own_P.mth[5]? = some d_5 := rfl
theorem hm_6 : own_P.mth[6]? = some d_6 := rfl
theorem hm_7 : own_P.mth[7]? = some d_7 := rfl
theorem hm_8 : own_P.mth[8]? = some d_8 := rfl
theorem hm_9 : own_P.mth[9]? = some d_9 := rfl
theorem hm_10 : own_P.mth[10]? = some d_10 := rfl
theorem hm_11 : own_P.mth[11]? = some d_11 := rfl
theorem hm_12 : own_P.mth[12]? = some d_12 := rfl
theorem hm_13 : own_P.mth[13]? = some d_13 := rfl
theorem hm_14 : own_P.mth[14]? = some d_14 := rfl
theorem hm_15 : own_P.mth[15]? = some d_15 := rfl
theorem hm_16 : own_P.mth[16]? = some d_16 := rfl
theorem hm_17 : own_P.mth[17]? = some d_17 := rfl
theorem hm_18 : own_P.mth[18]? = some d_18 := rfl
theorem hm_19 : own_P.mth[19]? = some d_19 := rfl
theorem hm_20 : own_P.mth[20]? = some d_20 := rfl
theorem hm_21 : own_P.mth[21]? = some d_21 := rfl
theorem hm_22 : own_P.mth[22]? = some d_22 := rfl
theorem hm_23 : own_P.mth[23]? = some d_23 := rfl
theorem hm_24 : own_P.mth[24]? = some d_24 := rfl
theorem hm_25 : own_P.mth[25]? = some d_25 := rfl
theorem hm_26 : own_P.mth[26]? = some d_26 := rfl
theorem hm_27 : own_P.mth[27]? = some d_27 := rfl
theorem hm_28 : own_P.mth[28]? = some d_28 := rfl
theorem hm_29 : own_P.mth[29]? = some d_29 := rfl
theorem hm_30 : own_P.mth[30]? = some d_30 := rfl
theorem hm_31 : own_P.mth[31]? = some d_31 := rfl
theorem hm_32 : own_P.mth[32]? = some d_32 := rfl
theorem hm_33 : own_P.mth[33]? = some d_33 := rfl
theorem hm_34 : own_P.mth[34]? = some d_34 := rfl
theorem hm_35 : own_P.mth[35]? = some d_35 := rfl
set_option maxRecDepth 100000 in
theorem own_chk : chk own_P = true := by decide +kernel
def own_ix : List Nat := [1, 2, 11, 13, 15, 17, 19, 22, 25, 27, 29, 31, 33, 35, 37, 39, 41, 43, 45, 47, 49, 51, 53, 5, 2, 4, 57, 56, 55, 62, 2, 59, 61, 60, 67, 2, 64, 66, 65, 71, 2, 69, 70, 76, 2, 73, 75, 74, 80, 2, 78, 79, 84, 2, 82, 83, 88, 2, 86, 87, 91, 56, 90, 96, 2, 93, 95, 94, 101, 2, 98, 100, 99, 106, 2, 103, 105, 104, 111, 2, 108, 110, 109, 116, 2, 113, 115, 114, 121, 2, 118, 120, 119, 126, 2, 123, 125, 124, 131, 2, 128, 130, 129, 136, 2, 133, 135, 134, 141, 2, 138, 140, 139, 146, 2, 143, 145, 144, 151, 2, 148, 150, 149, 156, 2, 153, 155, 154, 160, 2, 158, 159, 164, 2, 162, 163, 168, 2, 166, 167, 172, 2, 170, 171, 176, 2, 174, 175, 180, 2, 178, 179, 184, 2, 182, 183, 188, 2, 186, 187, 192, 2, 190, 191, 196, 2, 194, 195, 200, 2, 198, 199, 204, 2, 202, 203, 0, 3, 0, 3, 54, 54, 72, 63, 63, 72, 89, 6, 7, 8, 9, 10, 9, 12, 9, 14, 9, 16, 9, 18, 20, 21, 23, 24, 9, 26, 9, 28, 9, 30, 9, 32, 9, 34, 9, 36, 9, 38, 40, 42, 44, 46, 48, 50, 52, 72, 63, 58, 44, 44, 44, 44, 50, 10, 12, 14, 16, 24, 21, 77, 85, 68, 14, 14, 14, 14, 46, 46, 21, 46, 24, 44, 18, 68, 18, 14, 24, 161, 81, 165, 173, 16, 48, 26, 10, 12, 169, 18, 14, 48, 18, 14, 81, 169, 157, 46, 46, 21, 46, 14, 18, 24, 26, 48, 48, 48, 92, 92, 97, 97, 102, 102, 107, 107, 112, 112, 117, 117, 122, 122, 127, 127, 132, 132, 137, 137, 142, 142, 147, 147, 152, 152, 44, 18, 68, 14, 44, 16, 68, 24, 68, 48, 26, 10, 10, 12, 12, 21, 21, 81, 48, 26, 10, 12, 14, 48, 26, 10, 12, 48, 50, 50, 28, 50, 30, 50, 32, 48, 26, 10, 24, 48, 26, 26, 26, 48, 48, 48, 177, 181, 52, 34, 36, 14, 38, 185, 197, 52, 48, 26, 10, 12, 52, 34, 52, 52, 52, 52, 34, 21, 21, 34, 34, 34, 34, 52, 36, 189, 201, 193, 42, 52, 34, 24, 36, 36, 42, 42, 38, 52, 36, 38, 38, 52, 38, 34, 50, 28, 50, 32, 50, 30, 50, 50, 50, 14, 16, 14, 14, 18, 24, 161, 52, 36, 38, 52, 36, 38, 40, 38]
set_option maxRecDepth 100000 in
theorem own_words : (wordsOf own_P).map some = own_ix.map fun k => tables_1[k]? := rfl
theorem own_in : ∀ d ∈ wordsOf own_P, d ∈ tables_1 := fun d hd => by
  have h1 : some d ∈ (wordsOf own_P).map some := List.mem_map.mpr ⟨d, hd, rfl⟩
  rw [own_words] at h1
  obtain ⟨k, -, hk⟩ := List.mem_map.mp h1
  exact List.mem_of_getElem? hk
abbrev bk0 (s_oSide : List Int32) (s_oPrice : List Int32) (s_oRem : List Int32) (s_oFilled : List Int32) (s_oStatus : List Int32) (s_oStamp : List Int64) (s_oTop : List Int32) (s_restIds : List Int32) (s_fIds : List Int32) (s_fQty : List Int32) (s_fPrice : List Int32) (s_lvlIds : List Int32) (s_lvlR : List Int32) (s_lvlA : List Int32) (s_minAlloc : Int32) (s_topCap : Int32) (s_accepted : Int32) (s_stampCounter : Int64) (s_restN : Int32) (s_fN : Int32) (s_lvlN : Int32) (po : List ACell) : List ACell := .inl (0, [.ref 2, .ref 3, .ref 4, .ref 5, .ref 6, .ref 7, .ref 8, .ref 9, .ref 10, .ref 11, .ref 12, .ref 13, .ref 14, .ref 15, .int s_minAlloc, .int s_topCap, .int s_accepted, .long s_stampCounter, .int s_restN, .int s_fN, .int s_lvlN]) :: .inr (.inl (false, s_oSide)) :: .inr (.inl (false, s_oPrice)) :: .inr (.inl (false, s_oRem)) :: .inr (.inl (false, s_oFilled)) :: .inr (.inl (false, s_oStatus)) :: .inr (.inr s_oStamp) :: .inr (.inl (true, s_oTop)) :: .inr (.inl (false, s_restIds)) :: .inr (.inl (false, s_fIds)) :: .inr (.inl (false, s_fQty)) :: .inr (.inl (false, s_fPrice)) :: .inr (.inl (false, s_lvlIds)) :: .inr (.inl (false, s_lvlR)) :: .inr (.inl (false, s_lvlA)) :: po
abbrev bk1 (s_oSide : List Int32) (s_oPrice : List Int32) (s_oRem : List Int32) (s_oFilled : List Int32) (s_oStatus : List Int32) (s_oStamp : List Int64) (s_oTop : List Int32) (s_restIds : List Int32) (s_fIds : List Int32) (s_fQty : List Int32) (s_fPrice : List Int32) (s_lvlIds : List Int32) (s_lvlR : List Int32) (s_lvlA : List Int32) (s_minAlloc : Int32) (s_topCap : Int32) (s_accepted : Int32) (s_stampCounter : Int64) (s_restN : Int32) (s_fN : Int32) (s_lvlN : Int32) (po : List ACell) : List ACell := .inl (0, [.ref 17, .ref 18, .ref 19, .ref 20, .ref 21, .ref 22, .ref 23, .ref 24, .ref 25, .ref 26, .ref 27, .ref 28, .ref 29, .ref 30, .int s_minAlloc, .int s_topCap, .int s_accepted, .long s_stampCounter, .int s_restN, .int s_fN, .int s_lvlN]) :: .inr (.inl (false, s_oSide)) :: .inr (.inl (false, s_oPrice)) :: .inr (.inl (false, s_oRem)) :: .inr (.inl (false, s_oFilled)) :: .inr (.inl (false, s_oStatus)) :: .inr (.inr s_oStamp) :: .inr (.inl (true, s_oTop)) :: .inr (.inl (false, s_restIds)) :: .inr (.inl (false, s_fIds)) :: .inr (.inl (false, s_fQty)) :: .inr (.inl (false, s_fPrice)) :: .inr (.inl (false, s_lvlIds)) :: .inr (.inl (false, s_lvlR)) :: .inr (.inl (false, s_lvlA)) :: po
def f_init_165 (zd zg zr zu zn : List Int32) (zm : List Int64) (zi zc zs zp zq ze zh zf : List Int32) (zl zk zj : Int32) (zt : Int64) (za zo zb v3 v4 : Int32) : Option (List Int32 × List Int32 × List Int32 × List Int32 × List Int32 × List Int64 × List Int32 × List Int32 × List Int32 × List Int32 × List Int32 × List Int32 × List Int32 × List Int32 × Int32 × Int32 × Int32 × Int64 × Int32 × Int32 × Int32) :=
  some (zd, zg, zr, zu, zn, zm, zi, zc, zs, zp, zq, ze, zh, zf, v3, v4, (0 : Int32), (0 : Int64), (0 : Int32), (0 : Int32), (0 : Int32))
def f_init_152 (zd zg zr zu zn : List Int32) (zm : List Int64) (zi zc zs zp zq ze zh zf : List Int32) (zl zk zj : Int32) (zt : Int64) (za zo zb v3 v4 : Int32) : Option (List Int32 × List Int32 × List Int32 × List Int32 × List Int32 × List Int64 × List Int32 × List Int32 × List Int32 × List Int32 × List Int32 × List Int32 × List Int32 × List Int32 × Int32 × Int32 × Int32 × Int64 × Int32 × Int32 × Int32) :=
  f_init_165 zd zg zr zu zn zm zi zc zs zp zq ze zh zf zl zk zj zt za zo zb v3 (if (10000 : Int32) < v4 then (10000 : Int32) else v4)
def f_init_141 (zd zg zr zu zn : List Int32) (zm : List Int64) (zi zc zs zp zq ze zh zf : List Int32) (zl zk zj : Int32) (zt : Int64) (za zo zb v2 v3 : Int32) : Option (List Int32 × List Int32 × List Int32 × List Int32 × List Int32 × List Int64 × List Int32 × List Int32 × List Int32 × List Int32 × List Int32 × List Int32 × List Int32 × List Int32 × Int32 × Int32 × Int32 × Int64 × Int32 × Int32 × Int32) :=
  f_init_152 zd zg zr zu zn zm zi zc zs zp zq ze zh zf zl zk zj zt za zo zb v3 (if v2 < (0 : Int32) then (0 : Int32) else v2)
def f_init_132 (zd zg zr zu zn : List Int32) (zm : List Int64) (zi zc zs zp zq ze zh zf : List Int32) (zl zk zj : Int32) (zt : Int64) (za zo zb v2 v3 : Int32) : Option (List Int32 × List Int32 × List Int32 × List Int32 × List Int32 × List Int64 × List Int32 × List Int32 × List Int32 × List Int32 × List Int32 × List Int32 × List Int32 × List Int32 × Int32 × Int32 × Int32 × Int64 × Int32 × Int32 × Int32) :=
  f_init_141 zd zg zr zu zn zm zi zc zs zp zq ze zh zf zl zk zj zt za zo zb v2 (if (100 : Int32) < v3 then (100 : Int32) else v3)
def f_init (v1 v2 : Int32) : Option (List Int32 × List Int32 × List Int32 × List Int32 × List Int32 × List Int64 × List Int32 × List Int32 × List Int32 × List Int32 × List Int32 × List Int32 × List Int32 × List Int32 × Int32 × Int32 × Int32 × Int64 × Int32 × Int32 × Int32) :=
  f_init_132 (List.replicate 256 0) (List.replicate 256 0) (List.replicate 256 0) (List.replicate 256 0) (List.replicate 256 0) (List.replicate 256 0) (List.replicate 256 0) (List.replicate 64 0) (List.replicate 64 0) (List.replicate 64 0) (List.replicate 64 0) (List.replicate 64 0) (List.replicate 64 0) (List.replicate 64 0) (0 : Int32) (0 : Int32) (0 : Int32) (0 : Int64) (0 : Int32) (0 : Int32) (0 : Int32) v2 (if v1 < (1 : Int32) then (1 : Int32) else v1)
def f_isResting (zn : List Int32) (zj v1 : Int32) : Option (Int32) :=
  if v1 < (1 : Int32) then
    some (0 : Int32)
  else
    if zj < v1 then
      some (0 : Int32)
    else
      (rdA zn v1).bind fun x1 =>
      some (if x1 = (1 : Int32) then (1 : Int32) else (0 : Int32))
def f_removeResting_20 (zc : List Int32) (za v2 : Int32) : Option (List Int32 × Int32) :=
  (rdA zc (za - (1 : Int32))).bind fun x3 =>
  (wrA zc v2 x3).bind fun A4 =>
  some (A4, (za - (1 : Int32)))
def f_removeResting_2 (k20 : List Int32 → Int32 → Int32 → Option (List Int32 × Int32)) : Nat → List Int32 → Int32 → Int32 → Int32 → Option (List Int32 × Int32)
  | 0, _, _, _, _ => none
  | n + 1, zc, za, v1, v2 =>
    if v2 < za then
      (rdA zc v2).bind fun x2 =>
      if x2 = v1 then
        k20 zc za v2
      else
        f_removeResting_2 k20 n zc za v1 (v2 + (1 : Int32))
    else
      some (zc, za)
def f_removeResting (zc : List Int32) (za v1 : Int32) : Option (List Int32 × Int32) :=
  f_removeResting_2 f_removeResting_20 100000 zc za v1 (0 : Int32)
def f_cancel (zj : Int32) (zr zn zi zc : List Int32) (za v1 : Int32) : Option (Int32 × List Int32 × List Int32 × List Int32 × List Int32 × Int32) :=
  (f_isResting zn zj v1).bind fun r5 =>
  if r5 = (0 : Int32) then
    some ((-6 : Int32), zr, zn, zi, zc, za)
  else
    (wrA zn v1 (3 : Int32)).bind fun A6 =>
    (wrA zr v1 (0 : Int32)).bind fun A7 =>
    (wrA zi v1 (0 : Int32)).bind fun A8 =>
    (f_removeResting zc za v1).bind fun (s9, s10) =>
    some ((0 : Int32), A7, A6, A8, s9, s10)
def f_amend (zn : List Int32) (zj : Int32) (zr : List Int32) (zm : List Int64) (zi : List Int32) (zt : Int64) (v1 v2 : Int32) : Option (Int32 × List Int32 × List Int64 × List Int32 × Int64) :=
  (f_isResting zn zj v1).bind fun r11 =>
  if r11 = (0 : Int32) then
    some ((-6 : Int32), zr, zm, zi, zt)
  else
    if v2 < (1 : Int32) then
      some ((-3 : Int32), zr, zm, zi, zt)
    else
      if (10000 : Int32) < v2 then
        some ((-3 : Int32), zr, zm, zi, zt)
      else
        (rdA zr v1).bind fun x12 =>
        if v2 < x12 then
          (wrA zr v1 v2).bind fun A17 =>
          some ((0 : Int32), A17, zm, zi, zt)
        else
          (rdA zr v1).bind fun x13 =>
          if x13 < v2 then
            (wrA zr v1 v2).bind fun A14 =>
            (wrA zm v1 (zt + (1 : Int64))).bind fun A15 =>
            (wrA zi v1 (0 : Int32)).bind fun A16 =>
            some ((0 : Int32), A14, A15, A16, (zt + (1 : Int64)))
          else
            some ((0 : Int32), zr, zm, zi, zt)
def f_better (v1 v2 v3 : Int32) : Option (Int32) :=
  some (if v1 = (0 : Int32) then (if v3 < v2 then (1 : Int32) else (0 : Int32)) else (if v2 < v3 then (1 : Int32) else (0 : Int32)))
def f_bestOf_4 (zd zg zc : List Int32) (za : Int32) : Nat → Int32 → Int32 → Int32 → Option (Int32)
  | 0, _, _, _ => none
  | n + 1, v1, v2, v3 =>
    if v3 < za then
      (rdA zc v3).bind fun x18 =>
      (rdA zd x18).bind fun x19 =>
      if x19 = v1 then
        (rdA zg x18).bind fun x20 =>
        if v2 = (0 : Int32) then
          f_bestOf_4 zd zg zc za n v1 x20 (v3 + (1 : Int32))
        else
          (f_better v1 x20 v2).bind fun r21 =>
          f_bestOf_4 zd zg zc za n v1 (if r21 = (0 : Int32) then v2 else x20) (v3 + (1 : Int32))
      else
        f_bestOf_4 zd zg zc za n v1 v2 (v3 + (1 : Int32))
    else
      some v2
def f_bestOf (zd zg zc : List Int32) (za v1 : Int32) : Option (Int32) :=
  f_bestOf_4 zd zg zc za 100000 v1 (0 : Int32) (0 : Int32)
def f_crosses (v1 v2 v3 : Int32) : Option (Int32) :=
  some (if v1 = (0 : Int32) then (if v2 < v3 then (0 : Int32) else (1 : Int32)) else (if v3 < v2 then (0 : Int32) else (1 : Int32)))
def f_gatherLevel_7 (zd zg zc : List Int32) (za : Int32) : Nat → List Int32 → Int32 → Int32 → Int32 → Int32 → Option (List Int32 × Int32)
  | 0, _, _, _, _, _ => none
  | n + 1, ze, zb, v1, v2, v3 =>
    if v3 < za then
      (rdA zc v3).bind fun x22 =>
      (rdA zd x22).bind fun x23 =>
      if x23 = v1 then
        (rdA zg x22).bind fun x24 =>
        if x24 = v2 then
          if zb < (64 : Int32) then
            (wrA ze zb x22).bind fun A25 =>
            f_gatherLevel_7 zd zg zc za n A25 (zb + (1 : Int32)) v1 v2 (v3 + (1 : Int32))
          else
            f_gatherLevel_7 zd zg zc za n ze zb v1 v2 (v3 + (1 : Int32))
        else
          f_gatherLevel_7 zd zg zc za n ze zb v1 v2 (v3 + (1 : Int32))
      else
        f_gatherLevel_7 zd zg zc za n ze zb v1 v2 (v3 + (1 : Int32))
    else
      some (ze, zb)
def f_gatherLevel (zd zg zc : List Int32) (za : Int32) (ze : List Int32) (zb v1 v2 : Int32) : Option (List Int32 × Int32) :=
  f_gatherLevel_7 zd zg zc za 100000 ze (0 : Int32) v1 v2 (0 : Int32)
def f_sortLevel_73 (kb : List Int32 → Int32 → Option (List Int32)) (zm : List Int64) (zb : Int32) (ze : List Int32) (v1 v2 v5 : Int32) : Option (List Int32) :=
  (wrA ze v5 v2).bind fun A32 =>
  kb A32 (v1 + (1 : Int32))
def f_sortLevel_27 (k73 : List Int32 → Int32 → Int32 → Int32 → Option (List Int32)) (zm : List Int64) (zb : Int32) : Nat → List Int32 → Int32 → Int32 → Int64 → Int32 → Option (List Int32)
  | 0, _, _, _, _, _ => none
  | n + 1, ze, v1, v2, v3, v5 =>
    if (0 : Int32) < v5 then
      (rdA ze (v5 - (1 : Int32))).bind fun x28 =>
      (rdA zm x28).bind fun x29 =>
      if v3 < x29 then
        (rdA ze (v5 - (1 : Int32))).bind fun x30 =>
        (wrA ze v5 x30).bind fun A31 =>
        f_sortLevel_27 k73 zm zb n A31 v1 v2 v3 (v5 + (-1 : Int32))
      else
        k73 ze v1 v2 v5
    else
      k73 ze v1 v2 v5
def f_sortLevel_2 (zm : List Int64) (zb : Int32) : Nat → List Int32 → Int32 → Option (List Int32)
  | 0, _, _ => none
  | n + 1, ze, v1 =>
    if v1 < zb then
      (rdA ze v1).bind fun x26 =>
      (rdA zm x26).bind fun x27 =>
      f_sortLevel_27 (f_sortLevel_73 (f_sortLevel_2 zm zb n) zm zb) zm zb 100000 ze v1 x26 x27 v1
    else
      some ze
def f_sortLevel (zm : List Int64) (zb : Int32) (ze : List Int32) : Option (List Int32) :=
  f_sortLevel_2 zm zb 100000 ze (1 : Int32)
def f_topStep_80 (zi ze zh : List Int32) (zk zb : Int32) (zf : List Int32) (v2 v4 : Int32) : Option (Int32 × List Int32) :=
  (rdA zf v2).bind fun x37 =>
  (wrA zf v2 (x37 + v4)).bind fun A38 =>
  some (v4, A38)
def f_topStep_72 (zi ze zh : List Int32) (zk zb : Int32) (zf : List Int32) (v2 v4 : Int32) : Option (Int32 × List Int32) :=
  f_topStep_80 zi ze zh zk zb zf v2 (if v4 < (0 : Int32) then (0 : Int32) else v4)
def f_topStep_57 (zi ze zh : List Int32) (zk zb : Int32) (zf : List Int32) (v2 v4 : Int32) : Option (Int32 × List Int32) :=
  f_topStep_72 zi ze zh zk zb zf v2 (if zk < v4 then zk else v4)
def f_topStep_35 (zi ze zh : List Int32) (zk zb : Int32) (zf : List Int32) (v1 v2 : Int32) : Option (Int32 × List Int32) :=
  (rdA zh v2).bind fun x35 =>
  if x35 < v1 then
    (rdA zh v2).bind fun x36 =>
    f_topStep_57 zi ze zh zk zb zf v2 x36
  else
    f_topStep_57 zi ze zh zk zb zf v2 v1
def f_topStep_11 (k35 : List Int32 → Int32 → Int32 → Option (Int32 × List Int32)) (zi ze zh : List Int32) (zk zb : Int32) : Nat → List Int32 → Int32 → Int32 → Option (Int32 × List Int32)
  | 0, _, _, _ => none
  | n + 1, zf, v1, v2 =>
    if v2 < zb then
      (rdA ze v2).bind fun x33 =>
      (rdA zi x33).bind fun x34 =>
      if x34 = (0 : Int32) then
        f_topStep_11 k35 zi ze zh zk zb n zf v1 (v2 + (1 : Int32))
      else
        k35 zf v1 v2
    else
      some ((0 : Int32), zf)
def f_topStep (zi ze zh : List Int32) (zk zb : Int32) (zf : List Int32) (v1 : Int32) : Option (Int32 × List Int32) :=
  if (0 : Int32) < zk then
    f_topStep_11 (f_topStep_35 zi ze zh zk zb) zi ze zh zk zb 100000 zf v1 (0 : Int32)
  else
    some ((0 : Int32), zf)
def f_proRataStep_102 (kb : List Int32 → Int32 → Int64 → Int32 → Int32 → Option (Int32 × List Int32)) (zh : List Int32) (zl zb : Int32) (zf : List Int32) (v1 : Int32) (v2 : Int64) (v4 v5 v8 : Int32) : Option (Int32 × List Int32) :=
  (rdA zf v5).bind fun x43 =>
  (wrA zf v5 (x43 + v8)).bind fun A44 =>
  kb A44 v1 v2 (v4 + v8) (v5 + (1 : Int32))
def f_proRataStep_53 (zh : List Int32) (zl zb : Int32) : Nat → List Int32 → Int32 → Int64 → Int32 → Int32 → Option (Int32 × List Int32)
  | 0, _, _, _, _, _ => none
  | n + 1, zf, v1, v2, v4, v5 =>
    if v5 < zb then
      (rdA zh v5).bind fun x41 =>
      (rdA zf v5).bind fun x42 =>
      if v2 = 0 then none else
      f_proRataStep_102 (f_proRataStep_53 zh zl zb n) zh zl zb zf v1 v2 v4 v5 (if ((v1.toInt64 * (x41 - x42).toInt64) / v2).toInt32 < zl then (0 : Int32) else ((v1.toInt64 * (x41 - x42).toInt64) / v2).toInt32)
    else
      some (v4, zf)
def f_proRataStep_39 (zh : List Int32) (zl zb : Int32) (zf : List Int32) (v1 : Int32) (v2 : Int64) : Option (Int32 × List Int32) :=
  if (0 : Int64) < v2 then
    f_proRataStep_53 zh zl zb 100000 zf v1 v2 (0 : Int32) (0 : Int32)
  else
    some ((0 : Int32), zf)
def f_proRataStep_5 (k39 : List Int32 → Int32 → Int64 → Option (Int32 × List Int32)) (zh : List Int32) (zl zb : Int32) : Nat → List Int32 → Int32 → Int64 → Int32 → Option (Int32 × List Int32)
  | 0, _, _, _, _ => none
  | n + 1, zf, v1, v2, v4 =>
    if v4 < zb then
      (rdA zh v4).bind fun x39 =>
      (rdA zf v4).bind fun x40 =>
      f_proRataStep_5 k39 zh zl zb n zf v1 (v2 + (x39 - x40).toInt64) (v4 + (1 : Int32))
    else
      k39 zf v1 v2
def f_proRataStep (zh : List Int32) (zl zb : Int32) (zf : List Int32) (v1 : Int32) : Option (Int32 × List Int32) :=
  f_proRataStep_5 (f_proRataStep_39 zh zl zb) zh zl zb 100000 zf v1 (0 : Int64) (0 : Int32)
def f_timeStep_43 (kb : List Int32 → Int32 → Int32 → Option (List Int32)) (zh : List Int32) (zb : Int32) (zf : List Int32) (v2 v3 t0 : Int32) : Option (List Int32) :=
  if (0 : Int32) < t0 then
    (rdA zf v3).bind fun x47 =>
    (wrA zf v3 (x47 + t0)).bind fun A48 =>
    kb A48 (v2 - t0) (v3 + (1 : Int32))
  else
    kb zf v2 (v3 + (1 : Int32))
def f_timeStep_4 (zh : List Int32) (zb : Int32) : Nat → List Int32 → Int32 → Int32 → Option (List Int32)
  | 0, _, _, _ => none
  | n + 1, zf, v2, v3 =>
    if v3 < zb then
      if (0 : Int32) < v2 then
        (rdA zh v3).bind fun x45 =>
        (rdA zf v3).bind fun x46 =>
        f_timeStep_43 (f_timeStep_4 zh zb n) zh zb zf v2 v3 (if v2 < (x45 - x46) then v2 else (x45 - x46))
      else
        some zf
    else
      some zf
def f_timeStep (zh : List Int32) (zb : Int32) (zf : List Int32) (v1 : Int32) : Option (List Int32) :=
  f_timeStep_4 zh zb 100000 zf v1 (0 : Int32)
def f_allocate_67 (zi ze zh : List Int32) (zl zk zb : Int32) (zf : List Int32) (v3 v5 v6 : Int32) : Option (Int32 × List Int32) :=
  (f_timeStep zh zb zf (v5 - v6)).bind fun s54 =>
  some (v3, s54)
def f_allocate_37 (zi ze zh : List Int32) (zl zk zb : Int32) (zf : List Int32) (t0 : Int32) : Option (Int32 × List Int32) :=
  (f_topStep zi ze zh zk zb zf t0).bind fun (r50, s51) =>
  if (0 : Int32) < (t0 - r50) then
    (f_proRataStep zh zl zb s51 (t0 - r50)).bind fun (r52, s53) =>
    f_allocate_67 zi ze zh zl zk zb s53 t0 (t0 - r50) r52
  else
    f_allocate_67 zi ze zh zl zk zb s51 t0 (t0 - r50) (0 : Int32)
def f_allocate_27 (zi ze zh : List Int32) (zl zk zb : Int32) (zf : List Int32) (v1 v2 : Int32) : Option (Int32 × List Int32) :=
  f_allocate_37 zi ze zh zl zk zb zf (if v1 < v2 then v1 else v2)
def f_allocate_4 (k27 : List Int32 → Int32 → Int32 → Option (Int32 × List Int32)) (zi ze zh : List Int32) (zl zk zb : Int32) : Nat → List Int32 → Int32 → Int32 → Int32 → Option (Int32 × List Int32)
  | 0, _, _, _, _ => none
  | n + 1, zf, v1, v2, v3 =>
    if v3 < zb then
      (rdA zh v3).bind fun x49 =>
      f_allocate_4 k27 zi ze zh zl zk zb n zf v1 (v2 + x49) (v3 + (1 : Int32))
    else
      k27 zf v1 v2
def f_allocate (zi ze zh : List Int32) (zl zk zb : Int32) (zf : List Int32) (v1 : Int32) : Option (Int32 × List Int32) :=
  f_allocate_4 (f_allocate_27 zi ze zh zl zk zb) zi ze zh zl zk zb 100000 zf v1 (0 : Int32) (0 : Int32)
def f_applyLevel_82 (kb : List Int32 → List Int32 → List Int32 → List Int32 → List Int32 → List Int32 → List Int32 → List Int32 → Int32 → Int32 → Int32 → Int32 → Option (List Int32 × List Int32 × List Int32 × List Int32 × List Int32 × List Int32 × List Int32 × List Int32 × Int32 × Int32)) (ze zf : List Int32) (zb : Int32) (zr zu zn zi zc zs zp zq : List Int32) (za zo v1 v2 v3 v4 : Int32) : Option (List Int32 × List Int32 × List Int32 × List Int32 × List Int32 × List Int32 × List Int32 × List Int32 × Int32 × Int32) :=
  (rdA zr v4).bind fun x60 =>
  (wrA zr v4 (x60 - v3)).bind fun A61 =>
  (rdA zu v4).bind fun x62 =>
  (wrA zu v4 (x62 + v3)).bind fun A63 =>
  (rdA A61 v4).bind fun x64 =>
  if (0 : Int32) < x64 then
    kb A61 A63 zn zi zc zs zp zq za zo v1 (v2 + (1 : Int32))
  else
    (wrA A61 v4 (0 : Int32)).bind fun A65 =>
    (wrA zn v4 (2 : Int32)).bind fun A66 =>
    (wrA zi v4 (0 : Int32)).bind fun A67 =>
    (f_removeResting zc za v4).bind fun (s68, s69) =>
    kb A65 A63 A66 A67 s68 zs zp zq s69 zo v1 (v2 + (1 : Int32))
def f_applyLevel_2 (ze zf : List Int32) (zb : Int32) : Nat → List Int32 → List Int32 → List Int32 → List Int32 → List Int32 → List Int32 → List Int32 → List Int32 → Int32 → Int32 → Int32 → Int32 → Option (List Int32 × List Int32 × List Int32 × List Int32 × List Int32 × List Int32 × List Int32 × List Int32 × Int32 × Int32)
  | 0, _, _, _, _, _, _, _, _, _, _, _, _ => none
  | n + 1, zr, zu, zn, zi, zc, zs, zp, zq, za, zo, v1, v2 =>
    if v2 < zb then
      (rdA zf v2).bind fun x55 =>
      if (0 : Int32) < x55 then
        (rdA ze v2).bind fun x56 =>
        if zo < (64 : Int32) then
          (wrA zs zo x56).bind fun A57 =>
          (wrA zq zo v1).bind fun A58 =>
          (wrA zp zo x55).bind fun A59 =>
          f_applyLevel_82 (f_applyLevel_2 ze zf zb n) ze zf zb zr zu zn zi zc A57 A59 A58 za (zo + (1 : Int32)) v1 v2 x55 x56
        else
          f_applyLevel_82 (f_applyLevel_2 ze zf zb n) ze zf zb zr zu zn zi zc zs zp zq za zo v1 v2 x55 x56
      else
        f_applyLevel_2 ze zf zb n zr zu zn zi zc zs zp zq za zo v1 (v2 + (1 : Int32))
    else
      some (zr, zu, zn, zi, zc, zs, zp, zq, za, zo)
def f_applyLevel (ze zf : List Int32) (zb : Int32) (zr zu zn zi zc zs zp zq : List Int32) (za zo v1 : Int32) : Option (List Int32 × List Int32 × List Int32 × List Int32 × List Int32 × List Int32 × List Int32 × List Int32 × Int32 × Int32) :=
  f_applyLevel_2 ze zf zb 100000 zr zu zn zi zc zs zp zq za zo v1 (0 : Int32)
def f_matchLevel_59 (zd zg : List Int32) (zm : List Int64) (zl zk : Int32) (zr zu zn zi zc zs zp zq ze zh zf : List Int32) (za zo zb v2 v3 : Int32) : Option (Int32 × List Int32 × List Int32 × List Int32 × List Int32 × List Int32 × List Int32 × List Int32 × List Int32 × List Int32 × List Int32 × List Int32 × Int32 × Int32 × Int32) :=
  (f_allocate zi ze zh zl zk zb zf v3).bind fun (r77, s78) =>
  (f_applyLevel ze s78 zb zr zu zn zi zc zs zp zq za zo v2).bind fun (s79, s80, s81, s82, s83, s84, s85, s86, s87, s88) =>
  some (r77, s79, s80, s81, s82, s83, s84, s85, s86, ze, zh, s78, s87, s88, zb)
def f_matchLevel_13 (k59 : List Int32 → List Int32 → List Int32 → List Int32 → List Int32 → List Int32 → List Int32 → List Int32 → List Int32 → List Int32 → List Int32 → Int32 → Int32 → Int32 → Int32 → Int32 → Option (Int32 × List Int32 × List Int32 × List Int32 × List Int32 × List Int32 × List Int32 × List Int32 × List Int32 × List Int32 × List Int32 × List Int32 × Int32 × Int32 × Int32)) (zd zg : List Int32) (zm : List Int64) (zl zk : Int32) : Nat → List Int32 → List Int32 → List Int32 → List Int32 → List Int32 → List Int32 → List Int32 → List Int32 → List Int32 → List Int32 → List Int32 → Int32 → Int32 → Int32 → Int32 → Int32 → Int32 → Option (Int32 × List Int32 × List Int32 × List Int32 × List Int32 × List Int32 × List Int32 × List Int32 × List Int32 × List Int32 × List Int32 × List Int32 × Int32 × Int32 × Int32)
  | 0, _, _, _, _, _, _, _, _, _, _, _, _, _, _, _, _, _ => none
  | n + 1, zr, zu, zn, zi, zc, zs, zp, zq, ze, zh, zf, za, zo, zb, v2, v3, v4 =>
    if v4 < zb then
      (rdA ze v4).bind fun x73 =>
      (rdA zr x73).bind fun x74 =>
      (wrA zh v4 x74).bind fun A75 =>
      (wrA zf v4 (0 : Int32)).bind fun A76 =>
      f_matchLevel_13 k59 zd zg zm zl zk n zr zu zn zi zc zs zp zq ze A75 A76 za zo zb v2 v3 (v4 + (1 : Int32))
    else
      k59 zr zu zn zi zc zs zp zq ze zh zf za zo zb v2 v3
def f_matchLevel (zd zg : List Int32) (zm : List Int64) (zl zk : Int32) (zr zu zn zi zc zs zp zq ze zh zf : List Int32) (za zo zb v1 v2 v3 : Int32) : Option (Int32 × List Int32 × List Int32 × List Int32 × List Int32 × List Int32 × List Int32 × List Int32 × List Int32 × List Int32 × List Int32 × List Int32 × Int32 × Int32 × Int32) :=
  (f_gatherLevel zd zg zc za ze zb v1 v2).bind fun (s70, s71) =>
  (f_sortLevel zm s71 s70).bind fun s72 =>
  f_matchLevel_13 (f_matchLevel_59 zd zg zm zl zk) zd zg zm zl zk 100000 zr zu zn zi zc zs zp zq s72 zh zf za zo s71 v2 v3 (0 : Int32)
def f_matchIncoming_12 (zd zg : List Int32) (zm : List Int64) (zl zk : Int32) : Nat → List Int32 → List Int32 → List Int32 → List Int32 → List Int32 → List Int32 → List Int32 → List Int32 → List Int32 → List Int32 → List Int32 → Int32 → Int32 → Int32 → Int32 → Int32 → Int32 → Int32 → Int32 → Int32 → Option (Int32 × List Int32 × List Int32 × List Int32 × List Int32 × List Int32 × List Int32 × List Int32 × List Int32 × List Int32 × List Int32 × List Int32 × Int32 × Int32 × Int32)
  | 0, _, _, _, _, _, _, _, _, _, _, _, _, _, _, _, _, _, _, _, _ => none
  | n + 1, zr, zu, zn, zi, zc, zs, zp, zq, ze, zh, zf, za, zo, zb, v1, v2, v3, v5, v6, v7 =>
    if (64 : Int32) < v7 then
      some (v5, zr, zu, zn, zi, zc, zs, zp, zq, ze, zh, zf, za, zo, zb)
    else
      if (0 : Int32) < v5 then
        (f_bestOf zd zg zc za v6).bind fun r89 =>
        if r89 = (0 : Int32) then
          some (v5, zr, zu, zn, zi, zc, zs, zp, zq, ze, zh, zf, za, zo, zb)
        else
          (f_crosses v2 v3 r89).bind fun r90 =>
          if r90 = (0 : Int32) then
            some (v5, zr, zu, zn, zi, zc, zs, zp, zq, ze, zh, zf, za, zo, zb)
          else
            (f_matchLevel zd zg zm zl zk zr zu zn zi zc zs zp zq ze zh zf za zo zb v6 r89 v5).bind fun (r91, s92, s93, s94, s95, s96, s97, s98, s99, s100, s101, s102, s103, s104, s105) =>
            if (0 : Int32) < r91 then
              (rdA s93 v1).bind fun x106 =>
              (wrA s93 v1 (x106 + r91)).bind fun A107 =>
              f_matchIncoming_12 zd zg zm zl zk n s92 A107 s94 s95 s96 s97 s98 s99 s100 s101 s102 s103 s104 s105 v1 v2 v3 (v5 - r91) v6 (v7 + (1 : Int32))
            else
              some (v5, s92, s93, s94, s95, s96, s97, s98, s99, s100, s101, s102, s103, s104, s105)
      else
        some (v5, zr, zu, zn, zi, zc, zs, zp, zq, ze, zh, zf, za, zo, zb)
def f_matchIncoming (zd zg : List Int32) (zm : List Int64) (zl zk : Int32) (zr zu zn zi zc zs zp zq ze zh zf : List Int32) (za zo zb v1 v2 v3 v4 : Int32) : Option (Int32 × List Int32 × List Int32 × List Int32 × List Int32 × List Int32 × List Int32 × List Int32 × List Int32 × List Int32 × List Int32 × List Int32 × Int32 × Int32 × Int32) :=
  f_matchIncoming_12 zd zg zm zl zk 100000 zr zu zn zi zc zs zp zq ze zh zf za zo zb v1 v2 v3 v4 ((1 : Int32) - v2) (0 : Int32)
def f_clearFlags_2 (zd zc : List Int32) (za : Int32) : Nat → List Int32 → Int32 → Int32 → Option (List Int32)
  | 0, _, _, _ => none
  | n + 1, zi, v1, v2 =>
    if v2 < za then
      (rdA zc v2).bind fun x108 =>
      (rdA zd x108).bind fun x109 =>
      if x109 = v1 then
        (wrA zi x108 (0 : Int32)).bind fun A110 =>
        f_clearFlags_2 zd zc za n A110 v1 (v2 + (1 : Int32))
      else
        f_clearFlags_2 zd zc za n zi v1 (v2 + (1 : Int32))
    else
      some zi
def f_clearFlags (zd zc : List Int32) (za : Int32) (zi : List Int32) (v1 : Int32) : Option (List Int32) :=
  f_clearFlags_2 zd zc za 100000 zi v1 (0 : Int32)
def f_finishIncoming_90 (zd zg zr zn : List Int32) (zm : List Int64) (zi zc : List Int32) (zt : Int64) (za v1 v4 v7 : Int32) : Option (List Int32 × List Int32 × List Int64 × List Int32 × List Int32 × Int64 × Int32) :=
  (wrA zm v1 (zt + (1 : Int64))).bind fun A116 =>
  (wrA zr v1 v4).bind fun A117 =>
  (wrA zn v1 (1 : Int32)).bind fun A118 =>
  (wrA zi v1 (v7 &&& 1)).bind fun A119 =>
  (wrA zc za v1).bind fun A120 =>
  some (A117, A118, A116, A119, A120, (zt + (1 : Int64)), (za + (1 : Int32)))
def f_finishIncoming_78 (zd zg zr zn : List Int32) (zm : List Int64) (zi zc : List Int32) (zt : Int64) (za v1 v2 v4 t0 : Int32) : Option (List Int32 × List Int32 × List Int64 × List Int32 × List Int32 × Int64 × Int32) :=
  if t0 = (0 : Int32) then
    f_finishIncoming_90 zd zg zr zn zm zi zc zt za v1 v4 t0
  else
    (f_clearFlags zd zc za zi v2).bind fun s115 =>
    f_finishIncoming_90 zd zg zr zn zm s115 zc zt za v1 v4 t0
def f_finishIncoming_35 (zd zg zr zn : List Int32) (zm : List Int64) (zi zc : List Int32) (zt : Int64) (za v1 : Int32) : Option (List Int32 × List Int32 × List Int64 × List Int32 × List Int32 × Int64 × Int32) :=
  (wrA zn v1 (4 : Int32)).bind fun A121 =>
  (wrA zr v1 (0 : Int32)).bind fun A122 =>
  some (A122, A121, zm, zi, zc, zt, za)
def f_finishIncoming (zd zg zr zn : List Int32) (zm : List Int64) (zi zc : List Int32) (zt : Int64) (za v1 v2 v3 v4 v5 : Int32) : Option (List Int32 × List Int32 × List Int64 × List Int32 × List Int32 × Int64 × Int32) :=
  if v4 = (0 : Int32) then
    (wrA zn v1 (2 : Int32)).bind fun A113 =>
    (wrA zr v1 (0 : Int32)).bind fun A114 =>
    some (A114, A113, zm, zi, zc, zt, za)
  else
    if v5 = (1 : Int32) then
      f_finishIncoming_35 zd zg zr zn zm zi zc zt za v1
    else
      if za < (64 : Int32) then
        (f_bestOf zd zg zc za v2).bind fun r111 =>
        if r111 = (0 : Int32) then
          f_finishIncoming_78 zd zg zr zn zm zi zc zt za v1 v2 v4 (1 : Int32)
        else
          (f_better v2 v3 r111).bind fun r112 =>
          f_finishIncoming_78 zd zg zr zn zm zi zc zt za v1 v2 v4 (if r112 = (0 : Int32) then (0 : Int32) else (1 : Int32))
      else
        f_finishIncoming_35 zd zg zr zn zm zi zc zt za v1
def f_submit_55 (zl zk : Int32) (zd zg zr zu zn : List Int32) (zm : List Int64) (zi zc zs zp zq ze zh zf : List Int32) (zj : Int32) (zt : Int64) (za zo zb v1 v2 v3 v4 : Int32) : Option (Int32 × List Int32 × List Int32 × List Int32 × List Int32 × List Int32 × List Int64 × List Int32 × List Int32 × List Int32 × List Int32 × List Int32 × List Int32 × List Int32 × List Int32 × Int32 × Int64 × Int32 × Int32 × Int32) :=
  if zj < (255 : Int32) then
    (wrA zd (zj + (1 : Int32)) v1).bind fun A123 =>
    (wrA zg (zj + (1 : Int32)) v2).bind fun A124 =>
    (wrA zr (zj + (1 : Int32)) (0 : Int32)).bind fun A125 =>
    (wrA zu (zj + (1 : Int32)) (0 : Int32)).bind fun A126 =>
    (wrA zi (zj + (1 : Int32)) (0 : Int32)).bind fun A127 =>
    (wrA zm (zj + (1 : Int32)) (0 : Int64)).bind fun A128 =>
    (f_matchIncoming A123 A124 A128 zl zk A125 A126 zn A127 zc zs zp zq ze zh zf za (0 : Int32) zb (zj + (1 : Int32)) v1 v2 v3).bind fun (r129, s130, s131, s132, s133, s134, s135, s136, s137, s138, s139, s140, s141, s142, s143) =>
    (f_finishIncoming A123 A124 s130 s132 A128 s133 s134 zt s141 (zj + (1 : Int32)) v1 v2 r129 v4).bind fun (s144, s145, s146, s147, s148, s149, s150) =>
    some ((zj + (1 : Int32)), A123, A124, s144, s131, s145, s146, s147, s148, s135, s136, s137, s138, s139, s140, (zj + (1 : Int32)), s149, s150, s142, s143)
  else
    some ((-5 : Int32), zd, zg, zr, zu, zn, zm, zi, zc, zs, zp, zq, ze, zh, zf, zj, zt, za, zo, zb)
def f_submit_11 (zl zk : Int32) (zd zg zr zu zn : List Int32) (zm : List Int64) (zi zc zs zp zq ze zh zf : List Int32) (zj : Int32) (zt : Int64) (za zo zb v1 v2 v3 v4 : Int32) : Option (Int32 × List Int32 × List Int32 × List Int32 × List Int32 × List Int32 × List Int64 × List Int32 × List Int32 × List Int32 × List Int32 × List Int32 × List Int32 × List Int32 × List Int32 × Int32 × Int64 × Int32 × Int32 × Int32) :=
  if v2 < (1 : Int32) then
    some ((-2 : Int32), zd, zg, zr, zu, zn, zm, zi, zc, zs, zp, zq, ze, zh, zf, zj, zt, za, zo, zb)
  else
    if (1000 : Int32) < v2 then
      some ((-2 : Int32), zd, zg, zr, zu, zn, zm, zi, zc, zs, zp, zq, ze, zh, zf, zj, zt, za, zo, zb)
    else
      if v3 < (1 : Int32) then
        some ((-3 : Int32), zd, zg, zr, zu, zn, zm, zi, zc, zs, zp, zq, ze, zh, zf, zj, zt, za, zo, zb)
      else
        if (10000 : Int32) < v3 then
          some ((-3 : Int32), zd, zg, zr, zu, zn, zm, zi, zc, zs, zp, zq, ze, zh, zf, zj, zt, za, zo, zb)
        else
          if v4 = (0 : Int32) then
            f_submit_55 zl zk zd zg zr zu zn zm zi zc zs zp zq ze zh zf zj zt za zo zb v1 v2 v3 v4
          else
            if v4 = (1 : Int32) then
              f_submit_55 zl zk zd zg zr zu zn zm zi zc zs zp zq ze zh zf zj zt za zo zb v1 v2 v3 v4
            else
              some ((-4 : Int32), zd, zg, zr, zu, zn, zm, zi, zc, zs, zp, zq, ze, zh, zf, zj, zt, za, zo, zb)
def f_submit (zl zk : Int32) (zd zg zr zu zn : List Int32) (zm : List Int64) (zi zc zs zp zq ze zh zf : List Int32) (zj : Int32) (zt : Int64) (za zo zb v1 v2 v3 v4 : Int32) : Option (Int32 × List Int32 × List Int32 × List Int32 × List Int32 × List Int32 × List Int64 × List Int32 × List Int32 × List Int32 × List Int32 × List Int32 × List Int32 × List Int32 × List Int32 × Int32 × Int64 × Int32 × Int32 × Int32) :=
  if v1 = (0 : Int32) then
    f_submit_11 zl zk zd zg zr zu zn zm zi zc zs zp zq ze zh zf zj zt za zo zb v1 v2 v3 v4
  else
    if v1 = (1 : Int32) then
      f_submit_11 zl zk zd zg zr zu zn zm zi zc zs zp zq ze zh zf zj zt za zo zb v1 v2 v3 v4
    else
      some ((-1 : Int32), zd, zg, zr, zu, zn, zm, zi, zc, zs, zp, zq, ze, zh, zf, zj, zt, za, zo, zb)
def f_L_step (zar zas : Int32) (zw zx zah zac zz : List Int32) (zag : List Int64) (zai zab zad zae zaf zaz zba zbb : List Int32) (zv : Int32) (zbd : Int64) (zaa zy zbc v1 v2 v3 v4 v5 : Int32) : Option (List Int32 × List Int32 × List Int32 × List Int32 × List Int32 × List Int64 × List Int32 × List Int32 × List Int32 × List Int32 × List Int32 × List Int32 × List Int32 × List Int32 × Int32 × Int64 × Int32 × Int32 × Int32) :=
  if v1 = (1 : Int32) then
    (f_cancel zv zah zz zai zab zaa v2).bind fun (r176, s177, s178, s179, s180, s181) =>
    some (zw, zx, s177, zac, s178, zag, s179, s180, zad, zae, zaf, zaz, zba, zbb, zv, zbd, s181, zy, zbc)
  else
    if v1 = (2 : Int32) then
      (f_amend zz zv zah zag zai zbd v2 v3).bind fun (r171, s172, s173, s174, s175) =>
      some (zw, zx, s172, zac, zz, s173, s174, zab, zad, zae, zaf, zaz, zba, zbb, zv, s175, zaa, zy, zbc)
    else
      (f_submit zar zas zw zx zah zac zz zag zai zab zad zae zaf zaz zba zbb zv zbd zaa zy zbc v2 v3 v4 v5).bind fun (r151, s152, s153, s154, s155, s156, s157, s158, s159, s160, s161, s162, s163, s164, s165, s166, s167, s168, s169, s170) =>
      some (s152, s153, s154, s155, s156, s157, s158, s159, s160, s161, s162, s163, s164, s165, s166, s167, s168, s169, s170)
def f_status (zn : List Int32) (zj v1 : Int32) : Option (Int32) :=
  if v1 < (1 : Int32) then
    some (0 : Int32)
  else
    if zj < v1 then
      some (0 : Int32)
    else
      (rdA zn v1).bind fun x182 =>
      some x182
def f_remaining (zr zn : List Int32) (zj v1 : Int32) : Option (Int32) :=
  (f_isResting zn zj v1).bind fun r183 =>
  if r183 = (0 : Int32) then
    some (0 : Int32)
  else
    (rdA zr v1).bind fun x184 =>
    some x184
def f_filled (zu : List Int32) (zj v1 : Int32) : Option (Int32) :=
  if v1 < (1 : Int32) then
    some (0 : Int32)
  else
    if zj < v1 then
      some (0 : Int32)
    else
      (rdA zu v1).bind fun x185 =>
      some x185
def f_isTop (zn zi : List Int32) (zj v1 : Int32) : Option (Int32) :=
  (f_isResting zn zj v1).bind fun r186 =>
  if r186 = (0 : Int32) then
    some (0 : Int32)
  else
    (rdA zi v1).bind fun x187 =>
    some (if x187 = (0 : Int32) then (0 : Int32) else (1 : Int32))
def f_priorityRank_14 (zd zg zn : List Int32) (zm : List Int64) (zc : List Int32) (zj za : Int32) : Nat → Int32 → Int32 → Int32 → Option (Int32)
  | 0, _, _, _ => none
  | n + 1, v1, v2, v3 =>
    if v3 < za then
      (rdA zc v3).bind fun x189 =>
      (rdA zd x189).bind fun x190 =>
      (rdA zd v1).bind fun x191 =>
      if x190 = x191 then
        (rdA zg x189).bind fun x192 =>
        (rdA zg v1).bind fun x193 =>
        if x192 = x193 then
          (rdA zm x189).bind fun x194 =>
          (rdA zm v1).bind fun x195 =>
          f_priorityRank_14 zd zg zn zm zc zj za n v1 (if x194 < x195 then (v2 + (1 : Int32)) else v2) (v3 + (1 : Int32))
        else
          f_priorityRank_14 zd zg zn zm zc zj za n v1 v2 (v3 + (1 : Int32))
      else
        f_priorityRank_14 zd zg zn zm zc zj za n v1 v2 (v3 + (1 : Int32))
    else
      some v2
def f_priorityRank (zd zg zn : List Int32) (zm : List Int64) (zc : List Int32) (zj za v1 : Int32) : Option (Int32) :=
  (f_isResting zn zj v1).bind fun r188 =>
  if r188 = (0 : Int32) then
    some (-1 : Int32)
  else
    f_priorityRank_14 zd zg zn zm zc zj za 100000 v1 (0 : Int32) (0 : Int32)
def f_bestPrice_11 (zd zg zc : List Int32) (za v1 : Int32) : Option (Int32) :=
  (f_bestOf zd zg zc za v1).bind fun r196 =>
  some r196
def f_bestPrice (zd zg zc : List Int32) (za v1 : Int32) : Option (Int32) :=
  if v1 = (0 : Int32) then
    f_bestPrice_11 zd zg zc za v1
  else
    if v1 = (1 : Int32) then
      f_bestPrice_11 zd zg zc za v1
    else
      some (0 : Int32)
def f_depthAt_30 (zd zg zr zc : List Int32) (za : Int32) : Nat → Int32 → Int32 → Int32 → Int32 → Option (Int32)
  | 0, _, _, _, _ => none
  | n + 1, v1, v2, v3, v4 =>
    if v4 < za then
      (rdA zc v4).bind fun x197 =>
      (rdA zd x197).bind fun x198 =>
      if x198 = v1 then
        (rdA zg x197).bind fun x199 =>
        if x199 = v2 then
          (rdA zr x197).bind fun x200 =>
          f_depthAt_30 zd zg zr zc za n v1 v2 (v3 + x200) (v4 + (1 : Int32))
        else
          f_depthAt_30 zd zg zr zc za n v1 v2 v3 (v4 + (1 : Int32))
      else
        f_depthAt_30 zd zg zr zc za n v1 v2 v3 (v4 + (1 : Int32))
    else
      some v3
def f_depthAt_11 (zd zg zr zc : List Int32) (za v1 v2 : Int32) : Option (Int32) :=
  if v2 < (1 : Int32) then
    some (0 : Int32)
  else
    if (1000 : Int32) < v2 then
      some (0 : Int32)
    else
      f_depthAt_30 zd zg zr zc za 100000 v1 v2 (0 : Int32) (0 : Int32)
def f_depthAt (zd zg zr zc : List Int32) (za v1 v2 : Int32) : Option (Int32) :=
  if v1 = (0 : Int32) then
    f_depthAt_11 zd zg zr zc za v1 v2
  else
    if v1 = (1 : Int32) then
      f_depthAt_11 zd zg zr zc za v1 v2
    else
      some (0 : Int32)
def f_ordersAt_30 (zd zg zc : List Int32) (za : Int32) : Nat → Int32 → Int32 → Int32 → Int32 → Option (Int32)
  | 0, _, _, _, _ => none
  | n + 1, v1, v2, v3, v4 =>
    if v4 < za then
      (rdA zc v4).bind fun x201 =>
      (rdA zd x201).bind fun x202 =>
      if x202 = v1 then
        (rdA zg x201).bind fun x203 =>
        f_ordersAt_30 zd zg zc za n v1 v2 (if x203 = v2 then (v3 + (1 : Int32)) else v3) (v4 + (1 : Int32))
      else
        f_ordersAt_30 zd zg zc za n v1 v2 v3 (v4 + (1 : Int32))
    else
      some v3
def f_ordersAt_11 (zd zg zc : List Int32) (za v1 v2 : Int32) : Option (Int32) :=
  if v2 < (1 : Int32) then
    some (0 : Int32)
  else
    if (1000 : Int32) < v2 then
      some (0 : Int32)
    else
      f_ordersAt_30 zd zg zc za 100000 v1 v2 (0 : Int32) (0 : Int32)
def f_ordersAt (zd zg zc : List Int32) (za v1 v2 : Int32) : Option (Int32) :=
  if v1 = (0 : Int32) then
    f_ordersAt_11 zd zg zc za v1 v2
  else
    if v1 = (1 : Int32) then
      f_ordersAt_11 zd zg zc za v1 v2
    else
      some (0 : Int32)
def f_restingCount (za : Int32) : Option (Int32) :=
  some za
def f_fillCount (zo : Int32) : Option (Int32) :=
  some zo
def f_fillId (zs : List Int32) (zo v1 : Int32) : Option (Int32) :=
  if v1 < (0 : Int32) then
    some (0 : Int32)
  else
    if v1 < zo then
      (rdA zs v1).bind fun x204 =>
      some x204
    else
      some (0 : Int32)
def f_fillQty (zp : List Int32) (zo v1 : Int32) : Option (Int32) :=
  if v1 < (0 : Int32) then
    some (0 : Int32)
  else
    if v1 < zo then
      (rdA zp v1).bind fun x205 =>
      some x205
    else
      some (0 : Int32)
def f_fillPrice (zq : List Int32) (zo v1 : Int32) : Option (Int32) :=
  if v1 < (0 : Int32) then
    some (0 : Int32)
  else
    if v1 < zo then
      (rdA zq v1).bind fun x206 =>
      some x206
    else
      some (0 : Int32)
def f_L_same_189 (zw zx zah zac zz : List Int32) (zag : List Int64) (zai zab zad zae zaf : List Int32) (zv zaa zy : Int32) (zal zam zaq zat zan : List Int32) (zau : List Int64) (zav zao zaw zax zay : List Int32) (zaj zak zap : Int32) : Nat → Int32 → Option (Int32)
  | 0, _ => none
  | n + 1, v2 =>
    if v2 < (64 : Int32) then
      (f_fillId zad zy v2).bind fun r227 =>
      (f_fillId zaw zap v2).bind fun r228 =>
      if r227 = r228 then
        (f_fillQty zae zy v2).bind fun r229 =>
        (f_fillQty zax zap v2).bind fun r230 =>
        if r229 = r230 then
          (f_fillPrice zaf zy v2).bind fun r231 =>
          (f_fillPrice zay zap v2).bind fun r232 =>
          if r231 = r232 then
            f_L_same_189 zw zx zah zac zz zag zai zab zad zae zaf zv zaa zy zal zam zaq zat zan zau zav zao zaw zax zay zaj zak zap n (v2 + (1 : Int32))
          else
            some (0 : Int32)
        else
          some (0 : Int32)
      else
        some (0 : Int32)
    else
      some (1 : Int32)
def f_L_same_163 (zw zx zah zac zz : List Int32) (zag : List Int64) (zai zab zad zae zaf : List Int32) (zv zaa zy : Int32) (zal zam zaq zat zan : List Int32) (zau : List Int64) (zav zao zaw zax zay : List Int32) (zaj zak zap : Int32) : Option (Int32) :=
  (f_restingCount zaa).bind fun r223 =>
  (f_restingCount zak).bind fun r224 =>
  if r223 = r224 then
    (f_fillCount zy).bind fun r225 =>
    (f_fillCount zap).bind fun r226 =>
    if r225 = r226 then
      f_L_same_189 zw zx zah zac zz zag zai zab zad zae zaf zv zaa zy zal zam zaq zat zan zau zav zao zaw zax zay zaj zak zap 100000 (0 : Int32)
    else
      some (0 : Int32)
  else
    some (0 : Int32)
def f_L_same_110 (k88 : Int32 → Option (Int32)) (zw zx zah zac zz : List Int32) (zag : List Int64) (zai zab zad zae zaf : List Int32) (zv zaa zy : Int32) (zal zam zaq zat zan : List Int32) (zau : List Int64) (zav zao zaw zax zay : List Int32) (zaj zak zap : Int32) : Nat → Int32 → Int32 → Option (Int32)
  | 0, _, _ => none
  | n + 1, v2, v3 =>
    if (1000 : Int32) < v3 then
      k88 (v2 + (1 : Int32))
    else
      (f_depthAt zw zx zah zab zaa v2 v3).bind fun r219 =>
      (f_depthAt zal zam zaq zao zak v2 v3).bind fun r220 =>
      if r219 = r220 then
        (f_ordersAt zw zx zab zaa v2 v3).bind fun r221 =>
        (f_ordersAt zal zam zao zak v2 v3).bind fun r222 =>
        if r221 = r222 then
          f_L_same_110 k88 zw zx zah zac zz zag zai zab zad zae zaf zv zaa zy zal zam zaq zat zan zau zav zao zaw zax zay zaj zak zap n v2 (v3 + (1 : Int32))
        else
          some (0 : Int32)
      else
        some (0 : Int32)
def f_L_same_88 (k163 : Option (Int32)) (zw zx zah zac zz : List Int32) (zag : List Int64) (zai zab zad zae zaf : List Int32) (zv zaa zy : Int32) (zal zam zaq zat zan : List Int32) (zau : List Int64) (zav zao zaw zax zay : List Int32) (zaj zak zap : Int32) : Nat → Int32 → Option (Int32)
  | 0, _ => none
  | n + 1, v2 =>
    if (1 : Int32) < v2 then
      k163
    else
      (f_bestPrice zw zx zab zaa v2).bind fun r217 =>
      (f_bestPrice zal zam zao zak v2).bind fun r218 =>
      if r217 = r218 then
        f_L_same_110 (f_L_same_88 k163 zw zx zah zac zz zag zai zab zad zae zaf zv zaa zy zal zam zaq zat zan zau zav zao zaw zax zay zaj zak zap n) zw zx zah zac zz zag zai zab zad zae zaf zv zaa zy zal zam zaq zat zan zau zav zao zaw zax zay zaj zak zap 100000 v2 (1 : Int32)
      else
        some (0 : Int32)
def f_L_same_2 (k88 : Int32 → Option (Int32)) (zw zx zah zac zz : List Int32) (zag : List Int64) (zai zab zad zae zaf : List Int32) (zv zaa zy : Int32) (zal zam zaq zat zan : List Int32) (zau : List Int64) (zav zao zaw zax zay : List Int32) (zaj zak zap : Int32) : Nat → Int32 → Option (Int32)
  | 0, _ => none
  | n + 1, v2 =>
    if (255 : Int32) < v2 then
      k88 (0 : Int32)
    else
      (f_status zz zv v2).bind fun r207 =>
      (f_status zan zaj v2).bind fun r208 =>
      if r207 = r208 then
        (f_remaining zah zz zv v2).bind fun r209 =>
        (f_remaining zaq zan zaj v2).bind fun r210 =>
        if r209 = r210 then
          (f_filled zac zv v2).bind fun r211 =>
          (f_filled zat zaj v2).bind fun r212 =>
          if r211 = r212 then
            (f_isTop zz zai zv v2).bind fun r213 =>
            (f_isTop zan zav zaj v2).bind fun r214 =>
            if r213 = r214 then
              (f_priorityRank zw zx zz zag zab zv zaa v2).bind fun r215 =>
              (f_priorityRank zal zam zan zau zao zaj zak v2).bind fun r216 =>
              if r215 = r216 then
                f_L_same_2 k88 zw zx zah zac zz zag zai zab zad zae zaf zv zaa zy zal zam zaq zat zan zau zav zao zaw zax zay zaj zak zap n (v2 + (1 : Int32))
              else
                some (0 : Int32)
            else
              some (0 : Int32)
          else
            some (0 : Int32)
        else
          some (0 : Int32)
      else
        some (0 : Int32)
def f_L_same (zw zx zah zac zz : List Int32) (zag : List Int64) (zai zab zad zae zaf : List Int32) (zv zaa zy : Int32) (zal zam zaq zat zan : List Int32) (zau : List Int64) (zav zao zaw zax zay : List Int32) (zaj zak zap : Int32) : Option (Int32) :=
  f_L_same_2 (f_L_same_88 (f_L_same_163 zw zx zah zac zz zag zai zab zad zae zaf zv zaa zy zal zam zaq zat zan zau zav zao zaw zax zay zaj zak zap) zw zx zah zac zz zag zai zab zad zae zaf zv zaa zy zal zam zaq zat zan zau zav zao zaw zax zay zaj zak zap 100000) zw zx zah zac zz zag zai zab zad zae zaf zv zaa zy zal zam zaq zat zan zau zav zao zaw zax zay zaj zak zap 100000 (1 : Int32)
def f_L_law_181 (scr zbu zbv zck zbw zcl : List Int32) (zci : List Int64) (zcm zcn zbx zby zbz : List Int32) (zbm : Int32) (zcj : Int64) (zco zca : Int32) (zbn zbo zce zbp zcb : List Int32) (zcf : List Int64) (zcg zcc zbq zbr zbs : List Int32) (zbl : Int32) (zch : Int64) (zcd zbt v5 v6 t0 : Int32) : Option (Int32) :=
  (f_cancel zbm zck zcl zcm zcn zco v5).bind fun (r321, s322, s323, s324, s325, s326) =>
  (f_amend s323 zbm s322 zci s324 zcj v6 t0).bind fun (r327, s328, s329, s330, s331) =>
  (f_amend zcb zbl zce zcf zcg zch v6 t0).bind fun (r332, s333, s334, s335, s336) =>
  (f_cancel zbl s333 zcb s335 zcc zcd v5).bind fun (r337, s338, s339, s340, s341, s342) =>
  (f_L_same zbu zbv s328 zbw s323 s329 s330 s325 zbx zby zbz zbm s326 zca zbn zbo s338 zbp s339 s334 s340 s341 zbq zbr zbs zbl s342 zbt).bind fun r343 =>
  some (r343 &&& 1)
def f_L_law_165 (scr zbu zbv zck zbw zcl : List Int32) (zci : List Int64) (zcm zcn zbx zby zbz : List Int32) (zbm : Int32) (zcj : Int64) (zco zca : Int32) (zbn zbo zce zbp zcb : List Int32) (zcf : List Int64) (zcg zcc zbq zbr zbs : List Int32) (zbl : Int32) (zch : Int64) (zcd zbt v3 v5 t0 : Int32) : Option (Int32) :=
  if v3 < (3 : Int32) then
    f_L_law_181 scr zbu zbv zck zbw zcl zci zcm zcn zbx zby zbz zbm zcj zco zca zbn zbo zce zbp zcb zcf zcg zcc zbq zbr zbs zbl zch zcd zbt v5 t0 (1 : Int32)
  else
    (rdA scr (v3 - (1 : Int32))).bind fun x320 =>
    f_L_law_181 scr zbu zbv zck zbw zcl zci zcm zcn zbx zby zbz zbm zcj zco zca zbn zbo zce zbp zcb zcf zcg zcc zbq zbr zbs zbl zch zcd zbt v5 t0 x320
def f_L_law_149 (scr zbu zbv zck zbw zcl : List Int32) (zci : List Int64) (zcm zcn zbx zby zbz : List Int32) (zbm : Int32) (zcj : Int64) (zco zca : Int32) (zbn zbo zce zbp zcb : List Int32) (zcf : List Int64) (zcg zcc zbq zbr zbs : List Int32) (zbl : Int32) (zch : Int64) (zcd zbt v3 t0 : Int32) : Option (Int32) :=
  if v3 < (3 : Int32) then
    f_L_law_165 scr zbu zbv zck zbw zcl zci zcm zcn zbx zby zbz zbm zcj zco zca zbn zbo zce zbp zcb zcf zcg zcc zbq zbr zbs zbl zch zcd zbt v3 t0 (2 : Int32)
  else
    (rdA scr (v3 - (2 : Int32))).bind fun x319 =>
    f_L_law_165 scr zbu zbv zck zbw zcl zci zcm zcn zbx zby zbz zbm zcj zco zca zbn zbo zce zbp zcb zcf zcg zcc zbq zbr zbs zbl zch zcd zbt v3 t0 x319
def f_L_law_135 (scr zbu zbv zck zbw zcl : List Int32) (zci : List Int64) (zcm zcn zbx zby zbz : List Int32) (zbm : Int32) (zcj : Int64) (zco zca : Int32) (zbn zbo zce zbp zcb : List Int32) (zcf : List Int64) (zcg zcc zbq zbr zbs : List Int32) (zbl : Int32) (zch : Int64) (zcd zbt v3 : Int32) : Option (Int32) :=
  if v3 < (3 : Int32) then
    f_L_law_149 scr zbu zbv zck zbw zcl zci zcm zcn zbx zby zbz zbm zcj zco zca zbn zbo zce zbp zcb zcf zcg zcc zbq zbr zbs zbl zch zcd zbt v3 (1 : Int32)
  else
    (rdA scr (v3 - (3 : Int32))).bind fun x318 =>
    f_L_law_149 scr zbu zbv zck zbw zcl zci zcm zcn zbx zby zbz zbm zcj zco zca zbn zbo zce zbp zcb zcf zcg zcc zbq zbr zbs zbl zch zcd zbt v3 x318
def f_L_law_44 (k135 : List Int32 → List Int32 → List Int32 → List Int32 → List Int32 → List Int64 → List Int32 → List Int32 → List Int32 → List Int32 → List Int32 → Int32 → Int64 → Int32 → Int32 → List Int32 → List Int32 → List Int32 → List Int32 → List Int32 → List Int64 → List Int32 → List Int32 → List Int32 → List Int32 → List Int32 → Int32 → Int64 → Int32 → Int32 → Int32 → Option (Int32)) (scr : List Int32) : Nat → List Int32 → List Int32 → List Int32 → List Int32 → List Int32 → List Int64 → List Int32 → List Int32 → List Int32 → List Int32 → List Int32 → List Int32 → List Int32 → List Int32 → Int32 → Int32 → Int32 → Int64 → Int32 → Int32 → Int32 → List Int32 → List Int32 → List Int32 → List Int32 → List Int32 → List Int64 → List Int32 → List Int32 → List Int32 → List Int32 → List Int32 → List Int32 → List Int32 → List Int32 → Int32 → Int32 → Int32 → Int64 → Int32 → Int32 → Int32 → Int32 → Int32 → Int32 → Option (Int32)
  | 0, _, _, _, _, _, _, _, _, _, _, _, _, _, _, _, _, _, _, _, _, _, _, _, _, _, _, _, _, _, _, _, _, _, _, _, _, _, _, _, _, _, _, _, _, _ => none
  | n + 1, zbu, zbv, zck, zbw, zcl, zci, zcm, zcn, zbx, zby, zbz, zcx, zcy, zcz, zcp, zcq, zbm, zcj, zco, zca, zda, zbn, zbo, zce, zbp, zcb, zcf, zcg, zcc, zbq, zbr, zbs, zct, zcu, zcv, zcr, zcs, zbl, zch, zcd, zbt, zcw, v3, v4, v5 =>
    if v5 < v4 then
      (rdA scr ((5 : Int32) * v5)).bind fun x275 =>
      (rdA scr (((5 : Int32) * v5) + (1 : Int32))).bind fun x276 =>
      (rdA scr (((5 : Int32) * v5) + (2 : Int32))).bind fun x277 =>
      (rdA scr (((5 : Int32) * v5) + (3 : Int32))).bind fun x278 =>
      (rdA scr (((5 : Int32) * v5) + (4 : Int32))).bind fun x279 =>
      (f_L_step zcp zcq zbu zbv zck zbw zcl zci zcm zcn zbx zby zbz zcx zcy zcz zbm zcj zco zca zda (x275 &&& (3 : Int32)) x276 x277 x278 x279).bind fun (s280, s281, s282, s283, s284, s285, s286, s287, s288, s289, s290, s291, s292, s293, s294, s295, s296, s297, s298) =>
      (f_L_step zcr zcs zbn zbo zce zbp zcb zcf zcg zcc zbq zbr zbs zct zcu zcv zbl zch zcd zbt zcw (x275 &&& (3 : Int32)) x276 x277 x278 x279).bind fun (s299, s300, s301, s302, s303, s304, s305, s306, s307, s308, s309, s310, s311, s312, s313, s314, s315, s316, s317) =>
      f_L_law_44 k135 scr n s280 s281 s282 s283 s284 s285 s286 s287 s288 s289 s290 s291 s292 s293 zcp zcq s294 s295 s296 s297 s298 s299 s300 s301 s302 s303 s304 s305 s306 s307 s308 s309 s310 s311 s312 zcr zcs s313 s314 s315 s316 s317 v3 v4 (v5 + (1 : Int32))
    else
      k135 zbu zbv zck zbw zcl zci zcm zcn zbx zby zbz zbm zcj zco zca zbn zbo zce zbp zcb zcf zcg zcc zbq zbr zbs zbl zch zcd zbt v3
def f_L_law (scr : List Int32) : Option (Int32) :=
  (f_init (3 : Int32) (20 : Int32)).bind fun (s233, s234, s235, s236, s237, s238, s239, s240, s241, s242, s243, s244, s245, s246, s247, s248, s249, s250, s251, s252, s253) =>
  (f_init (3 : Int32) (20 : Int32)).bind fun (s254, s255, s256, s257, s258, s259, s260, s261, s262, s263, s264, s265, s266, s267, s268, s269, s270, s271, s272, s273, s274) =>
  f_L_law_44 (f_L_law_135 scr) scr 100000 s233 s234 s235 s236 s237 s238 s239 s240 s241 s242 s243 s244 s245 s246 s247 s248 s249 s250 s251 s252 s253 s254 s255 s256 s257 s258 s259 s260 s261 s262 s263 s264 s265 s266 s267 s268 s269 s270 s271 s272 s273 s274 scr.length.toInt32 (if scr.length.toInt32 < (3 : Int32) then (0 : Int32) else ((scr.length.toInt32 - (3 : Int32)) / (5 : Int32))) (0 : Int32)
set_option maxHeartbeats 4000000
set_option maxRecDepth 10000
abbrev qi (x : Int32) : Slot := .val (.int x)
abbrev ql (x : Int64) : Slot := .val (.long x)
abbrev qr (x : Nat) : Slot := .val (.ref x)
abbrev qu : Slot := .unset
abbrev qw : Slot := .second
abbrev qa (l : List Int32) : ACell := .inr (.inl (false, l))
theorem ok_init_165_0 {c0 : ACell} : ∀ {zd zg zr zu zn : List Int32} {zm : List Int64} {zi zc zs zp zq ze zh zf : List Int32} {zl zk zj : Int32} {zt : Int64} {za zo zb v3 v4 : Int32} {d1 d2 : Slot} {w_o_oSide w_o_oPrice w_o_oRem w_o_oFilled w_o_oStatus : List Int32} {w_o_oStamp : List Int64} {w_o_oTop w_o_restIds w_o_fIds w_o_fQty w_o_fPrice w_o_lvlIds w_o_lvlR w_o_lvlA : List Int32} {w_o_minAlloc w_o_topCap w_o_accepted : Int32} {w_o_stampCounter : Int64} {w_o_restN w_o_fN : Int32} {w_o_lvlN : Int32}, f_init_165 zd zg zr zu zn zm zi zc zs zp zq ze zh zf zl zk zj zt za zo zb v3 v4 = some (w_o_oSide, w_o_oPrice, w_o_oRem, w_o_oFilled, w_o_oStatus, w_o_oStamp, w_o_oTop, w_o_restIds, w_o_fIds, w_o_fQty, w_o_fPrice, w_o_lvlIds, w_o_lvlR, w_o_lvlA, w_o_minAlloc, w_o_topCap, w_o_accepted, w_o_stampCounter, w_o_restN, w_o_fN, w_o_lvlN) → OEnds own_P 1 165 [qr 1, d1, d2, qi v3, qi v4] [] (c0 :: bk0 zd zg zr zu zn zm zi zc zs zp zq ze zh zf zl zk zj zt za zo zb []) (none, (c0 :: bk0 w_o_oSide w_o_oPrice w_o_oRem w_o_oFilled w_o_oStatus w_o_oStamp w_o_oTop w_o_restIds w_o_fIds w_o_fQty w_o_fPrice w_o_lvlIds w_o_lvlR w_o_lvlA w_o_minAlloc w_o_topCap w_o_accepted w_o_stampCounter w_o_restN w_o_fN w_o_lvlN []), 0, 0) := by
  intro zd zg zr zu zn zm zi zc zs zp zq ze zh zf zl zk zj zt za zo zb v3 v4 d1 d2 w_o_oSide w_o_oPrice w_o_oRem w_o_oFilled w_o_oStatus w_o_oStamp w_o_oTop w_o_restIds w_o_fIds w_o_fQty w_o_fPrice w_o_lvlIds w_o_lvlR w_o_lvlA w_o_minAlloc w_o_topCap w_o_accepted w_o_stampCounter w_o_restN w_o_fN w_o_lvlN h
  unfold f_init_165 at h
  refine OEnds.adv hm_1 21 (pc' := 201) (L' := [qr 1, qu, qu, qi v3, qi v4]) (S' := []) (H' := (c0 :: bk0 zd zg zr zu zn zm zi zc zs zp zq ze zh zf v3 v4 0 0 0 0 0 [])) rfl ?_
  cases h
  exact OEnds.vret hm_1 rfl rfl
theorem ok_init_152_0 {c0 : ACell} : ∀ {zd zg zr zu zn : List Int32} {zm : List Int64} {zi zc zs zp zq ze zh zf : List Int32} {zl zk zj : Int32} {zt : Int64} {za zo zb v3 v4 : Int32} {d1 d2 : Slot} {w_o_oSide w_o_oPrice w_o_oRem w_o_oFilled w_o_oStatus : List Int32} {w_o_oStamp : List Int64} {w_o_oTop w_o_restIds w_o_fIds w_o_fQty w_o_fPrice w_o_lvlIds w_o_lvlR w_o_lvlA : List Int32} {w_o_minAlloc w_o_topCap w_o_accepted : Int32} {w_o_stampCounter : Int64} {w_o_restN w_o_fN : Int32} {w_o_lvlN : Int32}, f_init_152 zd zg zr zu zn zm zi zc zs zp zq ze zh zf zl zk zj zt za zo zb v3 v4 = some (w_o_oSide, w_o_oPrice, w_o_oRem, w_o_oFilled, w_o_oStatus, w_o_oStamp, w_o_oTop, w_o_restIds, w_o_fIds, w_o_fQty, w_o_fPrice, w_o_lvlIds, w_o_lvlR, w_o_lvlA, w_o_minAlloc, w_o_topCap, w_o_accepted, w_o_stampCounter, w_o_restN, w_o_fN, w_o_lvlN) → OEnds own_P 1 152 [qr 1, d1, d2, qi v3, qi v4] [] (c0 :: bk0 zd zg zr zu zn zm zi zc zs zp zq ze zh zf zl zk zj zt za zo zb []) (none, (c0 :: bk0 w_o_oSide w_o_oPrice w_o_oRem w_o_oFilled w_o_oStatus w_o_oStamp w_o_oTop w_o_restIds w_o_fIds w_o_fQty w_o_fPrice w_o_lvlIds w_o_lvlR w_o_lvlA w_o_minAlloc w_o_topCap w_o_accepted w_o_stampCounter w_o_restN w_o_fN w_o_lvlN []), 0, 0) := by
  intro zd zg zr zu zn zm zi zc zs zp zq ze zh zf zl zk zj zt za zo zb v3 v4 d1 d2 w_o_oSide w_o_oPrice w_o_oRem w_o_oFilled w_o_oStatus w_o_oStamp w_o_oTop w_o_restIds w_o_fIds w_o_fQty w_o_fPrice w_o_lvlIds w_o_lvlR w_o_lvlA w_o_minAlloc w_o_topCap w_o_accepted w_o_stampCounter w_o_restN w_o_fN w_o_lvlN h
  unfold f_init_152 at h
  refine OEnds.adv hm_1 2 (pc' := 157) (L' := [qr 1, qu, qu, qi v3, qi v4]) (S' := [.int 10000, .int v4]) (H' := (c0 :: bk0 zd zg zr zu zn zm zi zc zs zp zq ze zh zf zl zk zj zt za zo zb [])) rfl ?_
  by_cases hc1 : (10000 : Int32) < v4
  · simp only [if_pos hc1] at h
    refine OEnds.icmpF hm_1 rfl ((tlt hc1).2.2.2) ?_
    refine OEnds.adv hm_1 2 (pc' := 165) (L' := [qr 1, qu, qu, qi v3, qi 10000]) (S' := []) (H' := (c0 :: bk0 zd zg zr zu zn zm zi zc zs zp zq ze zh zf zl zk zj zt za zo zb [])) rfl ?_
    exact ok_init_165_0 h
  · simp only [if_neg hc1] at h
    refine OEnds.icmpT hm_1 rfl (q := 165) rfl ((flt hc1).2.2.2) ?_
    show OEnds own_P 1 165 [qr 1, qu, qu, qi v3, qi v4] [] (c0 :: bk0 zd zg zr zu zn zm zi zc zs zp zq ze zh zf zl zk zj zt za zo zb []) _
    exact ok_init_165_0 h
theorem ok_init_141_0 {c0 : ACell} : ∀ {zd zg zr zu zn : List Int32} {zm : List Int64} {zi zc zs zp zq ze zh zf : List Int32} {zl zk zj : Int32} {zt : Int64} {za zo zb v2 v3 : Int32} {d1 d4 : Slot} {w_o_oSide w_o_oPrice w_o_oRem w_o_oFilled w_o_oStatus : List Int32} {w_o_oStamp : List Int64} {w_o_oTop w_o_restIds w_o_fIds w_o_fQty w_o_fPrice w_o_lvlIds w_o_lvlR w_o_lvlA : List Int32} {w_o_minAlloc w_o_topCap w_o_accepted : Int32} {w_o_stampCounter : Int64} {w_o_restN w_o_fN : Int32} {w_o_lvlN : Int32}, f_init_141 zd zg zr zu zn zm zi zc zs zp zq ze zh zf zl zk zj zt za zo zb v2 v3 = some (w_o_oSide, w_o_oPrice, w_o_oRem, w_o_oFilled, w_o_oStatus, w_o_oStamp, w_o_oTop, w_o_restIds, w_o_fIds, w_o_fQty, w_o_fPrice, w_o_lvlIds, w_o_lvlR, w_o_lvlA, w_o_minAlloc, w_o_topCap, w_o_accepted, w_o_stampCounter, w_o_restN, w_o_fN, w_o_lvlN) → OEnds own_P 1 141 [qr 1, d1, qi v2, qi v3, d4] [] (c0 :: bk0 zd zg zr zu zn zm zi zc zs zp zq ze zh zf zl zk zj zt za zo zb []) (none, (c0 :: bk0 w_o_oSide w_o_oPrice w_o_oRem w_o_oFilled w_o_oStatus w_o_oStamp w_o_oTop w_o_restIds w_o_fIds w_o_fQty w_o_fPrice w_o_lvlIds w_o_lvlR w_o_lvlA w_o_minAlloc w_o_topCap w_o_accepted w_o_stampCounter w_o_restN w_o_fN w_o_lvlN []), 0, 0) := by
  intro zd zg zr zu zn zm zi zc zs zp zq ze zh zf zl zk zj zt za zo zb v2 v3 d1 d4 w_o_oSide w_o_oPrice w_o_oRem w_o_oFilled w_o_oStatus w_o_oStamp w_o_oTop w_o_restIds w_o_fIds w_o_fQty w_o_fPrice w_o_lvlIds w_o_lvlR w_o_lvlA w_o_minAlloc w_o_topCap w_o_accepted w_o_stampCounter w_o_restN w_o_fN w_o_lvlN h
  unfold f_init_141 at h
  refine OEnds.adv hm_1 3 (pc' := 146) (L' := [qr 1, qu, qi v2, qi v3, qi v2]) (S' := [.int v2]) (H' := (c0 :: bk0 zd zg zr zu zn zm zi zc zs zp zq ze zh zf zl zk zj zt za zo zb [])) rfl ?_
  by_cases hc2 : v2 < (0 : Int32)
  · simp only [if_pos hc2] at h
    refine OEnds.ifF hm_1 rfl ((tlt hc2).2.1) ?_
    refine OEnds.adv hm_1 2 (pc' := 152) (L' := [qr 1, qu, qi v2, qi v3, qi 0]) (S' := []) (H' := (c0 :: bk0 zd zg zr zu zn zm zi zc zs zp zq ze zh zf zl zk zj zt za zo zb [])) rfl ?_
    exact ok_init_152_0 h
  · simp only [if_neg hc2] at h
    refine OEnds.ifT hm_1 rfl (q := 152) rfl ((flt hc2).2.1) ?_
    show OEnds own_P 1 152 [qr 1, qu, qi v2, qi v3, qi v2] [] (c0 :: bk0 zd zg zr zu zn zm zi zc zs zp zq ze zh zf zl zk zj zt za zo zb []) _
    exact ok_init_152_0 h
theorem ok_init_132_0 {c0 : ACell} : ∀ {zd zg zr zu zn : List Int32} {zm : List Int64} {zi zc zs zp zq ze zh zf : List Int32} {zl zk zj : Int32} {zt : Int64} {za zo zb v2 v3 : Int32} {d1 d4 : Slot} {w_o_oSide w_o_oPrice w_o_oRem w_o_oFilled w_o_oStatus : List Int32} {w_o_oStamp : List Int64} {w_o_oTop w_o_restIds w_o_fIds w_o_fQty w_o_fPrice w_o_lvlIds w_o_lvlR w_o_lvlA : List Int32} {w_o_minAlloc w_o_topCap w_o_accepted : Int32} {w_o_stampCounter : Int64} {w_o_restN w_o_fN : Int32} {w_o_lvlN : Int32}, f_init_132 zd zg zr zu zn zm zi zc zs zp zq ze zh zf zl zk zj zt za zo zb v2 v3 = some (w_o_oSide, w_o_oPrice, w_o_oRem, w_o_oFilled, w_o_oStatus, w_o_oStamp, w_o_oTop, w_o_restIds, w_o_fIds, w_o_fQty, w_o_fPrice, w_o_lvlIds, w_o_lvlR, w_o_lvlA, w_o_minAlloc, w_o_topCap, w_o_accepted, w_o_stampCounter, w_o_restN, w_o_fN, w_o_lvlN) → OEnds own_P 1 132 [qr 1, d1, qi v2, qi v3, d4] [] (c0 :: bk0 zd zg zr zu zn zm zi zc zs zp zq ze zh zf zl zk zj zt za zo zb []) (none, (c0 :: bk0 w_o_oSide w_o_oPrice w_o_oRem w_o_oFilled w_o_oStatus w_o_oStamp w_o_oTop w_o_restIds w_o_fIds w_o_fQty w_o_fPrice w_o_lvlIds w_o_lvlR w_o_lvlA w_o_minAlloc w_o_topCap w_o_accepted w_o_stampCounter w_o_restN w_o_fN w_o_lvlN []), 0, 0) := by
  intro zd zg zr zu zn zm zi zc zs zp zq ze zh zf zl zk zj zt za zo zb v2 v3 d1 d4 w_o_oSide w_o_oPrice w_o_oRem w_o_oFilled w_o_oStatus w_o_oStamp w_o_oTop w_o_restIds w_o_fIds w_o_fQty w_o_fPrice w_o_lvlIds w_o_lvlR w_o_lvlA w_o_minAlloc w_o_topCap w_o_accepted w_o_stampCounter w_o_restN w_o_fN w_o_lvlN h
  unfold f_init_132 at h
  refine OEnds.adv hm_1 2 (pc' := 135) (L' := [qr 1, qu, qi v2, qi v3, qu]) (S' := [.int 100, .int v3]) (H' := (c0 :: bk0 zd zg zr zu zn zm zi zc zs zp zq ze zh zf zl zk zj zt za zo zb [])) rfl ?_
  by_cases hc3 : (100 : Int32) < v3
  · simp only [if_pos hc3] at h
    refine OEnds.icmpF hm_1 rfl ((tlt hc3).2.2.2) ?_
    refine OEnds.adv hm_1 2 (pc' := 141) (L' := [qr 1, qu, qi v2, qi 100, qu]) (S' := []) (H' := (c0 :: bk0 zd zg zr zu zn zm zi zc zs zp zq ze zh zf zl zk zj zt za zo zb [])) rfl ?_
    exact ok_init_141_0 h
  · simp only [if_neg hc3] at h
    refine OEnds.icmpT hm_1 rfl (q := 141) rfl ((flt hc3).2.2.2) ?_
    show OEnds own_P 1 141 [qr 1, qu, qi v2, qi v3, qu] [] (c0 :: bk0 zd zg zr zu zn zm zi zc zs zp zq ze zh zf zl zk zj zt za zo zb []) _
    exact ok_init_141_0 h
theorem ok_init_0 {c0 : ACell} {v1 v2 : Int32} {w_o_oSide w_o_oPrice w_o_oRem w_o_oFilled w_o_oStatus : List Int32} {w_o_oStamp : List Int64} {w_o_oTop w_o_restIds w_o_fIds w_o_fQty w_o_fPrice w_o_lvlIds w_o_lvlR w_o_lvlA : List Int32} {w_o_minAlloc w_o_topCap w_o_accepted : Int32} {w_o_stampCounter : Int64} {w_o_restN w_o_fN w_o_lvlN : Int32} (h : f_init v1 v2 = some (w_o_oSide, w_o_oPrice, w_o_oRem, w_o_oFilled, w_o_oStatus, w_o_oStamp, w_o_oTop, w_o_restIds, w_o_fIds, w_o_fQty, w_o_fPrice, w_o_lvlIds, w_o_lvlR, w_o_lvlA, w_o_minAlloc, w_o_topCap, w_o_accepted, w_o_stampCounter, w_o_restN, w_o_fN, w_o_lvlN)) : OEnds own_P 1 0 [qr 1, qi v1, qi v2, qu, qu] [] (c0 :: (.inl (0, [.null, .null, .null, .null, .null, .null, .null, .null, .null, .null, .null, .null, .null, .null, .int 0, .int 0, .int 0, .long 0, .int 0, .int 0, .int 0]) : ACell) :: []) (none, (c0 :: bk0 w_o_oSide w_o_oPrice w_o_oRem w_o_oFilled w_o_oStatus w_o_oStamp w_o_oTop w_o_restIds w_o_fIds w_o_fQty w_o_fPrice w_o_lvlIds w_o_lvlR w_o_lvlA w_o_minAlloc w_o_topCap w_o_accepted w_o_stampCounter w_o_restN w_o_fN w_o_lvlN []), 14, 2240) := by
  unfold f_init at h
  refine OEnds.adv hm_1 1 (pc' := 1) (L' := [qr 1, qi v1, qi v2, qu, qu]) (S' := [.ref 1]) (H' := (c0 :: (.inl (0, [.null, .null, .null, .null, .null, .null, .null, .null, .null, .null, .null, .null, .null, .null, .int 0, .int 0, .int 0, .long 0, .int 0, .int 0, .int 0]) : ACell) :: [])) rfl ?_
  refine OEnds.oinit hm_1 rfl ⟨Nat.le_of_ble_eq_true rfl, Nat.le_of_ble_eq_true rfl⟩ ?_
  refine OEnds.adv hm_1 2 (pc' := 8) (L' := [qr 1, qi v1, qi v2, qu, qu]) (S' := [.int 256, .ref 1]) (H' := (c0 :: (.inl (0, [.null, .null, .null, .null, .null, .null, .null, .null, .null, .null, .null, .null, .null, .null, .int 0, .int 0, .int 0, .long 0, .int 0, .int 0, .int 0]) : ACell) :: [])) rfl ?_
  refine OEnds.made1 hm_1 rfl rfl (ks := 256) rfl rfl ?_
  refine OEnds.adv hm_1 3 (pc' := 17) (L' := [qr 1, qi v1, qi v2, qu, qu]) (S' := [.int 256, .ref 1]) (H' := (c0 :: (.inl (0, [.ref 2, .null, .null, .null, .null, .null, .null, .null, .null, .null, .null, .null, .null, .null, .int 0, .int 0, .int 0, .long 0, .int 0, .int 0, .int 0]) : ACell) :: .inr (.inl (false, (List.replicate 256 0))) :: [])) rfl ?_
  refine OEnds.made1 hm_1 rfl rfl (ks := 256) rfl rfl ?_
  refine OEnds.adv hm_1 3 (pc' := 26) (L' := [qr 1, qi v1, qi v2, qu, qu]) (S' := [.int 256, .ref 1]) (H' := (c0 :: (.inl (0, [.ref 2, .ref 3, .null, .null, .null, .null, .null, .null, .null, .null, .null, .null, .null, .null, .int 0, .int 0, .int 0, .long 0, .int 0, .int 0, .int 0]) : ACell) :: .inr (.inl (false, (List.replicate 256 0))) :: .inr (.inl (false, (List.replicate 256 0))) :: [])) rfl ?_
  refine OEnds.made1 hm_1 rfl rfl (ks := 256) rfl rfl ?_
  refine OEnds.adv hm_1 3 (pc' := 35) (L' := [qr 1, qi v1, qi v2, qu, qu]) (S' := [.int 256, .ref 1]) (H' := (c0 :: (.inl (0, [.ref 2, .ref 3, .ref 4, .null, .null, .null, .null, .null, .null, .null, .null, .null, .null, .null, .int 0, .int 0, .int 0, .long 0, .int 0, .int 0, .int 0]) : ACell) :: .inr (.inl (false, (List.replicate 256 0))) :: .inr (.inl (false, (List.replicate 256 0))) :: .inr (.inl (false, (List.replicate 256 0))) :: [])) rfl ?_
  refine OEnds.made1 hm_1 rfl rfl (ks := 256) rfl rfl ?_
  refine OEnds.adv hm_1 3 (pc' := 44) (L' := [qr 1, qi v1, qi v2, qu, qu]) (S' := [.int 256, .ref 1]) (H' := (c0 :: (.inl (0, [.ref 2, .ref 3, .ref 4, .ref 5, .null, .null, .null, .null, .null, .null, .null, .null, .null, .null, .int 0, .int 0, .int 0, .long 0, .int 0, .int 0, .int 0]) : ACell) :: .inr (.inl (false, (List.replicate 256 0))) :: .inr (.inl (false, (List.replicate 256 0))) :: .inr (.inl (false, (List.replicate 256 0))) :: .inr (.inl (false, (List.replicate 256 0))) :: [])) rfl ?_
  refine OEnds.made1 hm_1 rfl rfl (ks := 256) rfl rfl ?_
  refine OEnds.adv hm_1 3 (pc' := 53) (L' := [qr 1, qi v1, qi v2, qu, qu]) (S' := [.int 256, .ref 1]) (H' := (c0 :: (.inl (0, [.ref 2, .ref 3, .ref 4, .ref 5, .ref 6, .null, .null, .null, .null, .null, .null, .null, .null, .null, .int 0, .int 0, .int 0, .long 0, .int 0, .int 0, .int 0]) : ACell) :: .inr (.inl (false, (List.replicate 256 0))) :: .inr (.inl (false, (List.replicate 256 0))) :: .inr (.inl (false, (List.replicate 256 0))) :: .inr (.inl (false, (List.replicate 256 0))) :: .inr (.inl (false, (List.replicate 256 0))) :: [])) rfl ?_
  refine OEnds.made1 hm_1 rfl rfl (ks := 256) rfl rfl ?_
  refine OEnds.adv hm_1 3 (pc' := 62) (L' := [qr 1, qi v1, qi v2, qu, qu]) (S' := [.int 256, .ref 1]) (H' := (c0 :: (.inl (0, [.ref 2, .ref 3, .ref 4, .ref 5, .ref 6, .ref 7, .null, .null, .null, .null, .null, .null, .null, .null, .int 0, .int 0, .int 0, .long 0, .int 0, .int 0, .int 0]) : ACell) :: .inr (.inl (false, (List.replicate 256 0))) :: .inr (.inl (false, (List.replicate 256 0))) :: .inr (.inl (false, (List.replicate 256 0))) :: .inr (.inl (false, (List.replicate 256 0))) :: .inr (.inl (false, (List.replicate 256 0))) :: .inr (.inr (List.replicate 256 0)) :: [])) rfl ?_
  refine OEnds.made1 hm_1 rfl rfl (ks := 256) rfl rfl ?_
  refine OEnds.adv hm_1 3 (pc' := 70) (L' := [qr 1, qi v1, qi v2, qu, qu]) (S' := [.int 64, .ref 1]) (H' := (c0 :: (.inl (0, [.ref 2, .ref 3, .ref 4, .ref 5, .ref 6, .ref 7, .ref 8, .null, .null, .null, .null, .null, .null, .null, .int 0, .int 0, .int 0, .long 0, .int 0, .int 0, .int 0]) : ACell) :: .inr (.inl (false, (List.replicate 256 0))) :: .inr (.inl (false, (List.replicate 256 0))) :: .inr (.inl (false, (List.replicate 256 0))) :: .inr (.inl (false, (List.replicate 256 0))) :: .inr (.inl (false, (List.replicate 256 0))) :: .inr (.inr (List.replicate 256 0)) :: .inr (.inl (true, (List.replicate 256 0))) :: [])) rfl ?_
  refine OEnds.made1 hm_1 rfl rfl (ks := 64) rfl rfl ?_
  refine OEnds.adv hm_1 3 (pc' := 78) (L' := [qr 1, qi v1, qi v2, qu, qu]) (S' := [.int 64, .ref 1]) (H' := (c0 :: (.inl (0, [.ref 2, .ref 3, .ref 4, .ref 5, .ref 6, .ref 7, .ref 8, .ref 9, .null, .null, .null, .null, .null, .null, .int 0, .int 0, .int 0, .long 0, .int 0, .int 0, .int 0]) : ACell) :: .inr (.inl (false, (List.replicate 256 0))) :: .inr (.inl (false, (List.replicate 256 0))) :: .inr (.inl (false, (List.replicate 256 0))) :: .inr (.inl (false, (List.replicate 256 0))) :: .inr (.inl (false, (List.replicate 256 0))) :: .inr (.inr (List.replicate 256 0)) :: .inr (.inl (true, (List.replicate 256 0))) :: .inr (.inl (false, (List.replicate 64 0))) :: [])) rfl ?_
  refine OEnds.made1 hm_1 rfl rfl (ks := 64) rfl rfl ?_
  refine OEnds.adv hm_1 3 (pc' := 86) (L' := [qr 1, qi v1, qi v2, qu, qu]) (S' := [.int 64, .ref 1]) (H' := (c0 :: (.inl (0, [.ref 2, .ref 3, .ref 4, .ref 5, .ref 6, .ref 7, .ref 8, .ref 9, .ref 10, .null, .null, .null, .null, .null, .int 0, .int 0, .int 0, .long 0, .int 0, .int 0, .int 0]) : ACell) :: .inr (.inl (false, (List.replicate 256 0))) :: .inr (.inl (false, (List.replicate 256 0))) :: .inr (.inl (false, (List.replicate 256 0))) :: .inr (.inl (false, (List.replicate 256 0))) :: .inr (.inl (false, (List.replicate 256 0))) :: .inr (.inr (List.replicate 256 0)) :: .inr (.inl (true, (List.replicate 256 0))) :: .inr (.inl (false, (List.replicate 64 0))) :: .inr (.inl (false, (List.replicate 64 0))) :: [])) rfl ?_
  refine OEnds.made1 hm_1 rfl rfl (ks := 64) rfl rfl ?_
  refine OEnds.adv hm_1 3 (pc' := 94) (L' := [qr 1, qi v1, qi v2, qu, qu]) (S' := [.int 64, .ref 1]) (H' := (c0 :: (.inl (0, [.ref 2, .ref 3, .ref 4, .ref 5, .ref 6, .ref 7, .ref 8, .ref 9, .ref 10, .ref 11, .null, .null, .null, .null, .int 0, .int 0, .int 0, .long 0, .int 0, .int 0, .int 0]) : ACell) :: .inr (.inl (false, (List.replicate 256 0))) :: .inr (.inl (false, (List.replicate 256 0))) :: .inr (.inl (false, (List.replicate 256 0))) :: .inr (.inl (false, (List.replicate 256 0))) :: .inr (.inl (false, (List.replicate 256 0))) :: .inr (.inr (List.replicate 256 0)) :: .inr (.inl (true, (List.replicate 256 0))) :: .inr (.inl (false, (List.replicate 64 0))) :: .inr (.inl (false, (List.replicate 64 0))) :: .inr (.inl (false, (List.replicate 64 0))) :: [])) rfl ?_
  refine OEnds.made1 hm_1 rfl rfl (ks := 64) rfl rfl ?_
  refine OEnds.adv hm_1 3 (pc' := 102) (L' := [qr 1, qi v1, qi v2, qu, qu]) (S' := [.int 64, .ref 1]) (H' := (c0 :: (.inl (0, [.ref 2, .ref 3, .ref 4, .ref 5, .ref 6, .ref 7, .ref 8, .ref 9, .ref 10, .ref 11, .ref 12, .null, .null, .null, .int 0, .int 0, .int 0, .long 0, .int 0, .int 0, .int 0]) : ACell) :: .inr (.inl (false, (List.replicate 256 0))) :: .inr (.inl (false, (List.replicate 256 0))) :: .inr (.inl (false, (List.replicate 256 0))) :: .inr (.inl (false, (List.replicate 256 0))) :: .inr (.inl (false, (List.replicate 256 0))) :: .inr (.inr (List.replicate 256 0)) :: .inr (.inl (true, (List.replicate 256 0))) :: .inr (.inl (false, (List.replicate 64 0))) :: .inr (.inl (false, (List.replicate 64 0))) :: .inr (.inl (false, (List.replicate 64 0))) :: .inr (.inl (false, (List.replicate 64 0))) :: [])) rfl ?_
  refine OEnds.made1 hm_1 rfl rfl (ks := 64) rfl rfl ?_
  refine OEnds.adv hm_1 3 (pc' := 110) (L' := [qr 1, qi v1, qi v2, qu, qu]) (S' := [.int 64, .ref 1]) (H' := (c0 :: (.inl (0, [.ref 2, .ref 3, .ref 4, .ref 5, .ref 6, .ref 7, .ref 8, .ref 9, .ref 10, .ref 11, .ref 12, .ref 13, .null, .null, .int 0, .int 0, .int 0, .long 0, .int 0, .int 0, .int 0]) : ACell) :: .inr (.inl (false, (List.replicate 256 0))) :: .inr (.inl (false, (List.replicate 256 0))) :: .inr (.inl (false, (List.replicate 256 0))) :: .inr (.inl (false, (List.replicate 256 0))) :: .inr (.inl (false, (List.replicate 256 0))) :: .inr (.inr (List.replicate 256 0)) :: .inr (.inl (true, (List.replicate 256 0))) :: .inr (.inl (false, (List.replicate 64 0))) :: .inr (.inl (false, (List.replicate 64 0))) :: .inr (.inl (false, (List.replicate 64 0))) :: .inr (.inl (false, (List.replicate 64 0))) :: .inr (.inl (false, (List.replicate 64 0))) :: [])) rfl ?_
  refine OEnds.made1 hm_1 rfl rfl (ks := 64) rfl rfl ?_
  refine OEnds.adv hm_1 3 (pc' := 118) (L' := [qr 1, qi v1, qi v2, qu, qu]) (S' := [.int 64, .ref 1]) (H' := (c0 :: (.inl (0, [.ref 2, .ref 3, .ref 4, .ref 5, .ref 6, .ref 7, .ref 8, .ref 9, .ref 10, .ref 11, .ref 12, .ref 13, .ref 14, .null, .int 0, .int 0, .int 0, .long 0, .int 0, .int 0, .int 0]) : ACell) :: .inr (.inl (false, (List.replicate 256 0))) :: .inr (.inl (false, (List.replicate 256 0))) :: .inr (.inl (false, (List.replicate 256 0))) :: .inr (.inl (false, (List.replicate 256 0))) :: .inr (.inl (false, (List.replicate 256 0))) :: .inr (.inr (List.replicate 256 0)) :: .inr (.inl (true, (List.replicate 256 0))) :: .inr (.inl (false, (List.replicate 64 0))) :: .inr (.inl (false, (List.replicate 64 0))) :: .inr (.inl (false, (List.replicate 64 0))) :: .inr (.inl (false, (List.replicate 64 0))) :: .inr (.inl (false, (List.replicate 64 0))) :: .inr (.inl (false, (List.replicate 64 0))) :: [])) rfl ?_
  refine OEnds.made1 hm_1 rfl rfl (ks := 64) rfl rfl ?_
  refine OEnds.adv hm_1 5 (pc' := 127) (L' := [qr 1, qi v1, qi v2, qi v1, qu]) (S' := [.int 1, .int v1]) (H' := (c0 :: bk0 (List.replicate 256 0) (List.replicate 256 0) (List.replicate 256 0) (List.replicate 256 0) (List.replicate 256 0) (List.replicate 256 0) (List.replicate 256 0) (List.replicate 64 0) (List.replicate 64 0) (List.replicate 64 0) (List.replicate 64 0) (List.replicate 64 0) (List.replicate 64 0) (List.replicate 64 0) 0 0 0 0 0 0 0 [])) rfl ?_
  by_cases hc4 : v1 < (1 : Int32)
  · simp only [if_pos hc4] at h
    refine OEnds.icmpF hm_1 rfl ((tlt hc4).2.1) ?_
    refine OEnds.adv hm_1 2 (pc' := 132) (L' := [qr 1, qi v1, qi v2, qi 1, qu]) (S' := []) (H' := (c0 :: bk0 (List.replicate 256 0) (List.replicate 256 0) (List.replicate 256 0) (List.replicate 256 0) (List.replicate 256 0) (List.replicate 256 0) (List.replicate 256 0) (List.replicate 64 0) (List.replicate 64 0) (List.replicate 64 0) (List.replicate 64 0) (List.replicate 64 0) (List.replicate 64 0) (List.replicate 64 0) 0 0 0 0 0 0 0 [])) rfl ?_
    exact ok_init_132_0 h
  · simp only [if_neg hc4] at h
    refine OEnds.icmpT hm_1 rfl (q := 132) rfl ((flt hc4).2.1) ?_
    show OEnds own_P 1 132 [qr 1, qi v1, qi v2, qi v1, qu] [] (c0 :: bk0 (List.replicate 256 0) (List.replicate 256 0) (List.replicate 256 0) (List.replicate 256 0) (List.replicate 256 0) (List.replicate 256 0) (List.replicate 256 0) (List.replicate 64 0) (List.replicate 64 0) (List.replicate 64 0) (List.replicate 64 0) (List.replicate 64 0) (List.replicate 64 0) (List.replicate 64 0) 0 0 0 0 0 0 0 []) _
    exact ok_init_132_0 h
theorem ok_init_165_1 {c0 c1 c2 c3 c4 c5 c6 c7 c8 c9 c10 c11 c12 c13 c14 c15 : ACell} : ∀ {zd zg zr zu zn : List Int32} {zm : List Int64} {zi zc zs zp zq ze zh zf : List Int32} {zl zk zj : Int32} {zt : Int64} {za zo zb v3 v4 : Int32} {d1 d2 : Slot} {w_o_oSide w_o_oPrice w_o_oRem w_o_oFilled w_o_oStatus : List Int32} {w_o_oStamp : List Int64} {w_o_oTop w_o_restIds w_o_fIds w_o_fQty w_o_fPrice w_o_lvlIds w_o_lvlR w_o_lvlA : List Int32} {w_o_minAlloc w_o_topCap w_o_accepted : Int32} {w_o_stampCounter : Int64} {w_o_restN w_o_fN : Int32} {w_o_lvlN : Int32}, f_init_165 zd zg zr zu zn zm zi zc zs zp zq ze zh zf zl zk zj zt za zo zb v3 v4 = some (w_o_oSide, w_o_oPrice, w_o_oRem, w_o_oFilled, w_o_oStatus, w_o_oStamp, w_o_oTop, w_o_restIds, w_o_fIds, w_o_fQty, w_o_fPrice, w_o_lvlIds, w_o_lvlR, w_o_lvlA, w_o_minAlloc, w_o_topCap, w_o_accepted, w_o_stampCounter, w_o_restN, w_o_fN, w_o_lvlN) → OEnds own_P 1 165 [qr 16, d1, d2, qi v3, qi v4] [] (c0 :: c1 :: c2 :: c3 :: c4 :: c5 :: c6 :: c7 :: c8 :: c9 :: c10 :: c11 :: c12 :: c13 :: c14 :: c15 :: bk1 zd zg zr zu zn zm zi zc zs zp zq ze zh zf zl zk zj zt za zo zb []) (none, (c0 :: c1 :: c2 :: c3 :: c4 :: c5 :: c6 :: c7 :: c8 :: c9 :: c10 :: c11 :: c12 :: c13 :: c14 :: c15 :: bk1 w_o_oSide w_o_oPrice w_o_oRem w_o_oFilled w_o_oStatus w_o_oStamp w_o_oTop w_o_restIds w_o_fIds w_o_fQty w_o_fPrice w_o_lvlIds w_o_lvlR w_o_lvlA w_o_minAlloc w_o_topCap w_o_accepted w_o_stampCounter w_o_restN w_o_fN w_o_lvlN []), 0, 0) := by
  intro zd zg zr zu zn zm zi zc zs zp zq ze zh zf zl zk zj zt za zo zb v3 v4 d1 d2 w_o_oSide w_o_oPrice w_o_oRem w_o_oFilled w_o_oStatus w_o_oStamp w_o_oTop w_o_restIds w_o_fIds w_o_fQty w_o_fPrice w_o_lvlIds w_o_lvlR w_o_lvlA w_o_minAlloc w_o_topCap w_o_accepted w_o_stampCounter w_o_restN w_o_fN w_o_lvlN h
  unfold f_init_165 at h
  refine OEnds.adv hm_1 21 (pc' := 201) (L' := [qr 16, qu, qu, qi v3, qi v4]) (S' := []) (H' := (c0 :: c1 :: c2 :: c3 :: c4 :: c5 :: c6 :: c7 :: c8 :: c9 :: c10 :: c11 :: c12 :: c13 :: c14 :: c15 :: bk1 zd zg zr zu zn zm zi zc zs zp zq ze zh zf v3 v4 0 0 0 0 0 [])) rfl ?_
  cases h
  exact OEnds.vret hm_1 rfl rfl
theorem ok_init_152_1 {c0 c1 c2 c3 c4 c5 c6 c7 c8 c9 c10 c11 c12 c13 c14 c15 : ACell} : ∀ {zd zg zr zu zn : List Int32} {zm : List Int64} {zi zc zs zp zq ze zh zf : List Int32} {zl zk zj : Int32} {zt : Int64} {za zo zb v3 v4 : Int32} {d1 d2 : Slot} {w_o_oSide w_o_oPrice w_o_oRem w_o_oFilled w_o_oStatus : List Int32} {w_o_oStamp : List Int64} {w_o_oTop w_o_restIds w_o_fIds w_o_fQty w_o_fPrice w_o_lvlIds w_o_lvlR w_o_lvlA : List Int32} {w_o_minAlloc w_o_topCap w_o_accepted : Int32} {w_o_stampCounter : Int64} {w_o_restN w_o_fN : Int32} {w_o_lvlN : Int32}, f_init_152 zd zg zr zu zn zm zi zc zs zp zq ze zh zf zl zk zj zt za zo zb v3 v4 = some (w_o_oSide, w_o_oPrice, w_o_oRem, w_o_oFilled, w_o_oStatus, w_o_oStamp, w_o_oTop, w_o_restIds, w_o_fIds, w_o_fQty, w_o_fPrice, w_o_lvlIds, w_o_lvlR, w_o_lvlA, w_o_minAlloc, w_o_topCap, w_o_accepted, w_o_stampCounter, w_o_restN, w_o_fN, w_o_lvlN) → OEnds own_P 1 152 [qr 16, d1, d2, qi v3, qi v4] [] (c0 :: c1 :: c2 :: c3 :: c4 :: c5 :: c6 :: c7 :: c8 :: c9 :: c10 :: c11 :: c12 :: c13 :: c14 :: c15 :: bk1 zd zg zr zu zn zm zi zc zs zp zq ze zh zf zl zk zj zt za zo zb []) (none, (c0 :: c1 :: c2 :: c3 :: c4 :: c5 :: c6 :: c7 :: c8 :: c9 :: c10 :: c11 :: c12 :: c13 :: c14 :: c15 :: bk1 w_o_oSide w_o_oPrice w_o_oRem w_o_oFilled w_o_oStatus w_o_oStamp w_o_oTop w_o_restIds w_o_fIds w_o_fQty w_o_fPrice w_o_lvlIds w_o_lvlR w_o_lvlA w_o_minAlloc w_o_topCap w_o_accepted w_o_stampCounter w_o_restN w_o_fN w_o_lvlN []), 0, 0) := by
  intro zd zg zr zu zn zm zi zc zs zp zq ze zh zf zl zk zj zt za zo zb v3 v4 d1 d2 w_o_oSide w_o_oPrice w_o_oRem w_o_oFilled w_o_oStatus w_o_oStamp w_o_oTop w_o_restIds w_o_fIds w_o_fQty w_o_fPrice w_o_lvlIds w_o_lvlR w_o_lvlA w_o_minAlloc w_o_topCap w_o_accepted w_o_stampCounter w_o_restN w_o_fN w_o_lvlN h
  unfold f_init_152 at h
  refine OEnds.adv hm_1 2 (pc' := 157) (L' := [qr 16, qu, qu, qi v3, qi v4]) (S' := [.int 10000, .int v4]) (H' := (c0 :: c1 :: c2 :: c3 :: c4 :: c5 :: c6 :: c7 :: c8 :: c9 :: c10 :: c11 :: c12 :: c13 :: c14 :: c15 :: bk1 zd zg zr zu zn zm zi zc zs zp zq ze zh zf zl zk zj zt za zo zb [])) rfl ?_
  by_cases hc5 : (10000 : Int32) < v4
  · simp only [if_pos hc5] at h
    refine OEnds.icmpF hm_1 rfl ((tlt hc5).2.2.2) ?_
    refine OEnds.adv hm_1 2 (pc' := 165) (L' := [qr 16, qu, qu, qi v3, qi 10000]) (S' := []) (H' := (c0 :: c1 :: c2 :: c3 :: c4 :: c5 :: c6 :: c7 :: c8 :: c9 :: c10 :: c11 :: c12 :: c13 :: c14 :: c15 :: bk1 zd zg zr zu zn zm zi zc zs zp zq ze zh zf zl zk zj zt za zo zb [])) rfl ?_
    exact ok_init_165_1 h
  · simp only [if_neg hc5] at h
    refine OEnds.icmpT hm_1 rfl (q := 165) rfl ((flt hc5).2.2.2) ?_
    show OEnds own_P 1 165 [qr 16, qu, qu, qi v3, qi v4] [] (c0 :: c1 :: c2 :: c3 :: c4 :: c5 :: c6 :: c7 :: c8 :: c9 :: c10 :: c11 :: c12 :: c13 :: c14 :: c15 :: bk1 zd zg zr zu zn zm zi zc zs zp zq ze zh zf zl zk zj zt za zo zb []) _
    exact ok_init_165_1 h
theorem ok_init_141_1 {c0 c1 c2 c3 c4 c5 c6 c7 c8 c9 c10 c11 c12 c13 c14 c15 : ACell} : ∀ {zd zg zr zu zn : List Int32} {zm : List Int64} {zi zc zs zp zq ze zh zf : List Int32} {zl zk zj : Int32} {zt : Int64} {za zo zb v2 v3 : Int32} {d1 d4 : Slot} {w_o_oSide w_o_oPrice w_o_oRem w_o_oFilled w_o_oStatus : List Int32} {w_o_oStamp : List Int64} {w_o_oTop w_o_restIds w_o_fIds w_o_fQty w_o_fPrice w_o_lvlIds w_o_lvlR w_o_lvlA : List Int32} {w_o_minAlloc w_o_topCap w_o_accepted : Int32} {w_o_stampCounter : Int64} {w_o_restN w_o_fN : Int32} {w_o_lvlN : Int32}, f_init_141 zd zg zr zu zn zm zi zc zs zp zq ze zh zf zl zk zj zt za zo zb v2 v3 = some (w_o_oSide, w_o_oPrice, w_o_oRem, w_o_oFilled, w_o_oStatus, w_o_oStamp, w_o_oTop, w_o_restIds, w_o_fIds, w_o_fQty, w_o_fPrice, w_o_lvlIds, w_o_lvlR, w_o_lvlA, w_o_minAlloc, w_o_topCap, w_o_accepted, w_o_stampCounter, w_o_restN, w_o_fN, w_o_lvlN) → OEnds own_P 1 141 [qr 16, d1, qi v2, qi v3, d4] [] (c0 :: c1 :: c2 :: c3 :: c4 :: c5 :: c6 :: c7 :: c8 :: c9 :: c10 :: c11 :: c12 :: c13 :: c14 :: c15 :: bk1 zd zg zr zu zn zm zi zc zs zp zq ze zh zf zl zk zj zt za zo zb []) (none, (c0 :: c1 :: c2 :: c3 :: c4 :: c5 :: c6 :: c7 :: c8 :: c9 :: c10 :: c11 :: c12 :: c13 :: c14 :: c15 :: bk1 w_o_oSide w_o_oPrice w_o_oRem w_o_oFilled w_o_oStatus w_o_oStamp w_o_oTop w_o_restIds w_o_fIds w_o_fQty w_o_fPrice w_o_lvlIds w_o_lvlR w_o_lvlA w_o_minAlloc w_o_topCap w_o_accepted w_o_stampCounter w_o_restN w_o_fN w_o_lvlN []), 0, 0) := by
  intro zd zg zr zu zn zm zi zc zs zp zq ze zh zf zl zk zj zt za zo zb v2 v3 d1 d4 w_o_oSide w_o_oPrice w_o_oRem w_o_oFilled w_o_oStatus w_o_oStamp w_o_oTop w_o_restIds w_o_fIds w_o_fQty w_o_fPrice w_o_lvlIds w_o_lvlR w_o_lvlA w_o_minAlloc w_o_topCap w_o_accepted w_o_stampCounter w_o_restN w_o_fN w_o_lvlN h
  unfold f_init_141 at h
  refine OEnds.adv hm_1 3 (pc' := 146) (L' := [qr 16, qu, qi v2, qi v3, qi v2]) (S' := [.int v2]) (H' := (c0 :: c1 :: c2 :: c3 :: c4 :: c5 :: c6 :: c7 :: c8 :: c9 :: c10 :: c11 :: c12 :: c13 :: c14 :: c15 :: bk1 zd zg zr zu zn zm zi zc zs zp zq ze zh zf zl zk zj zt za zo zb [])) rfl ?_
  by_cases hc6 : v2 < (0 : Int32)
  · simp only [if_pos hc6] at h
    refine OEnds.ifF hm_1 rfl ((tlt hc6).2.1) ?_
    refine OEnds.adv hm_1 2 (pc' := 152) (L' := [qr 16, qu, qi v2, qi v3, qi 0]) (S' := []) (H' := (c0 :: c1 :: c2 :: c3 :: c4 :: c5 :: c6 :: c7 :: c8 :: c9 :: c10 :: c11 :: c12 :: c13 :: c14 :: c15 :: bk1 zd zg zr zu zn zm zi zc zs zp zq ze zh zf zl zk zj zt za zo zb [])) rfl ?_
    exact ok_init_152_1 h
  · simp only [if_neg hc6] at h
    refine OEnds.ifT hm_1 rfl (q := 152) rfl ((flt hc6).2.1) ?_
    show OEnds own_P 1 152 [qr 16, qu, qi v2, qi v3, qi v2] [] (c0 :: c1 :: c2 :: c3 :: c4 :: c5 :: c6 :: c7 :: c8 :: c9 :: c10 :: c11 :: c12 :: c13 :: c14 :: c15 :: bk1 zd zg zr zu zn zm zi zc zs zp zq ze zh zf zl zk zj zt za zo zb []) _
    exact ok_init_152_1 h
theorem ok_init_132_1 {c0 c1 c2 c3 c4 c5 c6 c7 c8 c9 c10 c11 c12 c13 c14 c15 : ACell} : ∀ {zd zg zr zu zn : List Int32} {zm : List Int64} {zi zc zs zp zq ze zh zf : List Int32} {zl zk zj : Int32} {zt : Int64} {za zo zb v2 v3 : Int32} {d1 d4 : Slot} {w_o_oSide w_o_oPrice w_o_oRem w_o_oFilled w_o_oStatus : List Int32} {w_o_oStamp : List Int64} {w_o_oTop w_o_restIds w_o_fIds w_o_fQty w_o_fPrice w_o_lvlIds w_o_lvlR w_o_lvlA : List Int32} {w_o_minAlloc w_o_topCap w_o_accepted : Int32} {w_o_stampCounter : Int64} {w_o_restN w_o_fN : Int32} {w_o_lvlN : Int32}, f_init_132 zd zg zr zu zn zm zi zc zs zp zq ze zh zf zl zk zj zt za zo zb v2 v3 = some (w_o_oSide, w_o_oPrice, w_o_oRem, w_o_oFilled, w_o_oStatus, w_o_oStamp, w_o_oTop, w_o_restIds, w_o_fIds, w_o_fQty, w_o_fPrice, w_o_lvlIds, w_o_lvlR, w_o_lvlA, w_o_minAlloc, w_o_topCap, w_o_accepted, w_o_stampCounter, w_o_restN, w_o_fN, w_o_lvlN) → OEnds own_P 1 132 [qr 16, d1, qi v2, qi v3, d4] [] (c0 :: c1 :: c2 :: c3 :: c4 :: c5 :: c6 :: c7 :: c8 :: c9 :: c10 :: c11 :: c12 :: c13 :: c14 :: c15 :: bk1 zd zg zr zu zn zm zi zc zs zp zq ze zh zf zl zk zj zt za zo zb []) (none, (c0 :: c1 :: c2 :: c3 :: c4 :: c5 :: c6 :: c7 :: c8 :: c9 :: c10 :: c11 :: c12 :: c13 :: c14 :: c15 :: bk1 w_o_oSide w_o_oPrice w_o_oRem w_o_oFilled w_o_oStatus w_o_oStamp w_o_oTop w_o_restIds w_o_fIds w_o_fQty w_o_fPrice w_o_lvlIds w_o_lvlR w_o_lvlA w_o_minAlloc w_o_topCap w_o_accepted w_o_stampCounter w_o_restN w_o_fN w_o_lvlN []), 0, 0) := by
  intro zd zg zr zu zn zm zi zc zs zp zq ze zh zf zl zk zj zt za zo zb v2 v3 d1 d4 w_o_oSide w_o_oPrice w_o_oRem w_o_oFilled w_o_oStatus w_o_oStamp w_o_oTop w_o_restIds w_o_fIds w_o_fQty w_o_fPrice w_o_lvlIds w_o_lvlR w_o_lvlA w_o_minAlloc w_o_topCap w_o_accepted w_o_stampCounter w_o_restN w_o_fN w_o_lvlN h
  unfold f_init_132 at h
  refine OEnds.adv hm_1 2 (pc' := 135) (L' := [qr 16, qu, qi v2, qi v3, qu]) (S' := [.int 100, .int v3]) (H' := (c0 :: c1 :: c2 :: c3 :: c4 :: c5 :: c6 :: c7 :: c8 :: c9 :: c10 :: c11 :: c12 :: c13 :: c14 :: c15 :: bk1 zd zg zr zu zn zm zi zc zs zp zq ze zh zf zl zk zj zt za zo zb [])) rfl ?_
  by_cases hc7 : (100 : Int32) < v3
  · simp only [if_pos hc7] at h
    refine OEnds.icmpF hm_1 rfl ((tlt hc7).2.2.2) ?_
    refine OEnds.adv hm_1 2 (pc' := 141) (L' := [qr 16, qu, qi v2, qi 100, qu]) (S' := []) (H' := (c0 :: c1 :: c2 :: c3 :: c4 :: c5 :: c6 :: c7 :: c8 :: c9 :: c10 :: c11 :: c12 :: c13 :: c14 :: c15 :: bk1 zd zg zr zu zn zm zi zc zs zp zq ze zh zf zl zk zj zt za zo zb [])) rfl ?_
    exact ok_init_141_1 h
  · simp only [if_neg hc7] at h
    refine OEnds.icmpT hm_1 rfl (q := 141) rfl ((flt hc7).2.2.2) ?_
    show OEnds own_P 1 141 [qr 16, qu, qi v2, qi v3, qu] [] (c0 :: c1 :: c2 :: c3 :: c4 :: c5 :: c6 :: c7 :: c8 :: c9 :: c10 :: c11 :: c12 :: c13 :: c14 :: c15 :: bk1 zd zg zr zu zn zm zi zc zs zp zq ze zh zf zl zk zj zt za zo zb []) _
    exact ok_init_141_1 h
theorem ok_init_1 {c0 c1 c2 c3 c4 c5 c6 c7 c8 c9 c10 c11 c12 c13 c14 c15 : ACell} {v1 v2 : Int32} {w_o_oSide w_o_oPrice w_o_oRem w_o_oFilled w_o_oStatus : List Int32} {w_o_oStamp : List Int64} {w_o_oTop w_o_restIds w_o_fIds w_o_fQty w_o_fPrice w_o_lvlIds w_o_lvlR w_o_lvlA : List Int32} {w_o_minAlloc w_o_topCap w_o_accepted : Int32} {w_o_stampCounter : Int64} {w_o_restN w_o_fN w_o_lvlN : Int32} (h : f_init v1 v2 = some (w_o_oSide, w_o_oPrice, w_o_oRem, w_o_oFilled, w_o_oStatus, w_o_oStamp, w_o_oTop, w_o_restIds, w_o_fIds, w_o_fQty, w_o_fPrice, w_o_lvlIds, w_o_lvlR, w_o_lvlA, w_o_minAlloc, w_o_topCap, w_o_accepted, w_o_stampCounter, w_o_restN, w_o_fN, w_o_lvlN)) : OEnds own_P 1 0 [qr 16, qi v1, qi v2, qu, qu] [] (c0 :: c1 :: c2 :: c3 :: c4 :: c5 :: c6 :: c7 :: c8 :: c9 :: c10 :: c11 :: c12 :: c13 :: c14 :: c15 :: (.inl (0, [.null, .null, .null, .null, .null, .null, .null, .null, .null, .null, .null, .null, .null, .null, .int 0, .int 0, .int 0, .long 0, .int 0, .int 0, .int 0]) : ACell) :: []) (none, (c0 :: c1 :: c2 :: c3 :: c4 :: c5 :: c6 :: c7 :: c8 :: c9 :: c10 :: c11 :: c12 :: c13 :: c14 :: c15 :: bk1 w_o_oSide w_o_oPrice w_o_oRem w_o_oFilled w_o_oStatus w_o_oStamp w_o_oTop w_o_restIds w_o_fIds w_o_fQty w_o_fPrice w_o_lvlIds w_o_lvlR w_o_lvlA w_o_minAlloc w_o_topCap w_o_accepted w_o_stampCounter w_o_restN w_o_fN w_o_lvlN []), 14, 2240) := by
  unfold f_init at h
  refine OEnds.adv hm_1 1 (pc' := 1) (L' := [qr 16, qi v1, qi v2, qu, qu]) (S' := [.ref 16]) (H' := (c0 :: c1 :: c2 :: c3 :: c4 :: c5 :: c6 :: c7 :: c8 :: c9 :: c10 :: c11 :: c12 :: c13 :: c14 :: c15 :: (.inl (0, [.null, .null, .null, .null, .null, .null, .null, .null, .null, .null, .null, .null, .null, .null, .int 0, .int 0, .int 0, .long 0, .int 0, .int 0, .int 0]) : ACell) :: [])) rfl ?_
  refine OEnds.oinit hm_1 rfl ⟨Nat.le_of_ble_eq_true rfl, Nat.le_of_ble_eq_true rfl⟩ ?_
  refine OEnds.adv hm_1 2 (pc' := 8) (L' := [qr 16, qi v1, qi v2, qu, qu]) (S' := [.int 256, .ref 16]) (H' := (c0 :: c1 :: c2 :: c3 :: c4 :: c5 :: c6 :: c7 :: c8 :: c9 :: c10 :: c11 :: c12 :: c13 :: c14 :: c15 :: (.inl (0, [.null, .null, .null, .null, .null, .null, .null, .null, .null, .null, .null, .null, .null, .null, .int 0, .int 0, .int 0, .long 0, .int 0, .int 0, .int 0]) : ACell) :: [])) rfl ?_
  refine OEnds.made1 hm_1 rfl rfl (ks := 256) rfl rfl ?_
  refine OEnds.adv hm_1 3 (pc' := 17) (L' := [qr 16, qi v1, qi v2, qu, qu]) (S' := [.int 256, .ref 16]) (H' := (c0 :: c1 :: c2 :: c3 :: c4 :: c5 :: c6 :: c7 :: c8 :: c9 :: c10 :: c11 :: c12 :: c13 :: c14 :: c15 :: (.inl (0, [.ref 17, .null, .null, .null, .null, .null, .null, .null, .null, .null, .null, .null, .null, .null, .int 0, .int 0, .int 0, .long 0, .int 0, .int 0, .int 0]) : ACell) :: .inr (.inl (false, (List.replicate 256 0))) :: [])) rfl ?_
  refine OEnds.made1 hm_1 rfl rfl (ks := 256) rfl rfl ?_
  refine OEnds.adv hm_1 3 (pc' := 26) (L' := [qr 16, qi v1, qi v2, qu, qu]) (S' := [.int 256, .ref 16]) (H' := (c0 :: c1 :: c2 :: c3 :: c4 :: c5 :: c6 :: c7 :: c8 :: c9 :: c10 :: c11 :: c12 :: c13 :: c14 :: c15 :: (.inl (0, [.ref 17, .ref 18, .null, .null, .null, .null, .null, .null, .null, .null, .null, .null, .null, .null, .int 0, .int 0, .int 0, .long 0, .int 0, .int 0, .int 0]) : ACell) :: .inr (.inl (false, (List.replicate 256 0))) :: .inr (.inl (false, (List.replicate 256 0))) :: [])) rfl ?_
  refine OEnds.made1 hm_1 rfl rfl (ks := 256) rfl rfl ?_
  refine OEnds.adv hm_1 3 (pc' := 35) (L' := [qr 16, qi v1, qi v2, qu, qu]) (S' := [.int 256, .ref 16]) (H' := (c0 :: c1 :: c2 :: c3 :: c4 :: c5 :: c6 :: c7 :: c8 :: c9 :: c10 :: c11 :: c12 :: c13 :: c14 :: c15 :: (.inl (0, [.ref 17, .ref 18, .ref 19, .null, .null, .null, .null, .null, .null, .null, .null, .null, .null, .null, .int 0, .int 0, .int 0, .long 0, .int 0, .int 0, .int 0]) : ACell) :: .inr (.inl (false, (List.replicate 256 0))) :: .inr (.inl (false, (List.replicate 256 0))) :: .inr (.inl (false, (List.replicate 256 0))) :: [])) rfl ?_
  refine OEnds.made1 hm_1 rfl rfl (ks := 256) rfl rfl ?_
  refine OEnds.adv hm_1 3 (pc' := 44) (L' := [qr 16, qi v1, qi v2, qu, qu]) (S' := [.int 256, .ref 16]) (H' := (c0 :: c1 :: c2 :: c3 :: c4 :: c5 :: c6 :: c7 :: c8 :: c9 :: c10 :: c11 :: c12 :: c13 :: c14 :: c15 :: (.inl (0, [.ref 17, .ref 18, .ref 19, .ref 20, .null, .null, .null, .null, .null, .null, .null, .null, .null, .null, .int 0, .int 0, .int 0, .long 0, .int 0, .int 0, .int 0]) : ACell) :: .inr (.inl (false, (List.replicate 256 0))) :: .inr (.inl (false, (List.replicate 256 0))) :: .inr (.inl (false, (List.replicate 256 0))) :: .inr (.inl (false, (List.replicate 256 0))) :: [])) rfl ?_
  refine OEnds.made1 hm_1 rfl rfl (ks := 256) rfl rfl ?_
  refine OEnds.adv hm_1 3 (pc' := 53) (L' := [qr 16, qi v1, qi v2, qu, qu]) (S' := [.int 256, .ref 16]) (H' := (c0 :: c1 :: c2 :: c3 :: c4 :: c5 :: c6 :: c7 :: c8 :: c9 :: c10 :: c11 :: c12 :: c13 :: c14 :: c15 :: (.inl (0, [.ref 17, .ref 18, .ref 19, .ref 20, .ref 21, .null, .null, .null, .null, .null, .null, .null, .null, .null, .int 0, .int 0, .int 0, .long 0, .int 0, .int 0, .int 0]) : ACell) :: .inr (.inl (false, (List.replicate 256 0))) :: .inr (.inl (false, (List.replicate 256 0))) :: .inr (.inl (false, (List.replicate 256 0))) :: .inr (.inl (false, (List.replicate 256 0))) :: .inr (.inl (false, (List.replicate 256 0))) :: [])) rfl ?_
  refine OEnds.made1 hm_1 rfl rfl (ks := 256) rfl rfl ?_
  refine OEnds.adv hm_1 3 (pc' := 62) (L' := [qr 16, qi v1, qi v2, qu, qu]) (S' := [.int 256, .ref 16]) (H' := (c0 :: c1 :: c2 :: c3 :: c4 :: c5 :: c6 :: c7 :: c8 :: c9 :: c10 :: c11 :: c12 :: c13 :: c14 :: c15 :: (.inl (0, [.ref 17, .ref 18, .ref 19, .ref 20, .ref 21, .ref 22, .null, .null, .null, .null, .null, .null, .null, .null, .int 0, .int 0, .int 0, .long 0, .int 0, .int 0, .int 0]) : ACell) :: .inr (.inl (false, (List.replicate 256 0))) :: .inr (.inl (false, (List.replicate 256 0))) :: .inr (.inl (false, (List.replicate 256 0))) :: .inr (.inl (false, (List.replicate 256 0))) :: .inr (.inl (false, (List.replicate 256 0))) :: .inr (.inr (List.replicate 256 0)) :: [])) rfl ?_
  refine OEnds.made1 hm_1 rfl rfl (ks := 256) rfl rfl ?_
  refine OEnds.adv hm_1 3 (pc' := 70) (L' := [qr 16, qi v1, qi v2, qu, qu]) (S' := [.int 64, .ref 16]) (H' := (c0 :: c1 :: c2 :: c3 :: c4 :: c5 :: c6 :: c7 :: c8 :: c9 :: c10 :: c11 :: c12 :: c13 :: c14 :: c15 :: (.inl (0, [.ref 17, .ref 18, .ref 19, .ref 20, .ref 21, .ref 22, .ref 23, .null, .null, .null, .null, .null, .null, .null, .int 0, .int 0, .int 0, .long 0, .int 0, .int 0, .int 0]) : ACell) :: .inr (.inl (false, (List.replicate 256 0))) :: .inr (.inl (false, (List.replicate 256 0))) :: .inr (.inl (false, (List.replicate 256 0))) :: .inr (.inl (false, (List.replicate 256 0))) :: .inr (.inl (false, (List.replicate 256 0))) :: .inr (.inr (List.replicate 256 0)) :: .inr (.inl (true, (List.replicate 256 0))) :: [])) rfl ?_
  refine OEnds.made1 hm_1 rfl rfl (ks := 64) rfl rfl ?_
  refine OEnds.adv hm_1 3 (pc' := 78) (L' := [qr 16, qi v1, qi v2, qu, qu]) (S' := [.int 64, .ref 16]) (H' := (c0 :: c1 :: c2 :: c3 :: c4 :: c5 :: c6 :: c7 :: c8 :: c9 :: c10 :: c11 :: c12 :: c13 :: c14 :: c15 :: (.inl (0, [.ref 17, .ref 18, .ref 19, .ref 20, .ref 21, .ref 22, .ref 23, .ref 24, .null, .null, .null, .null, .null, .null, .int 0, .int 0, .int 0, .long 0, .int 0, .int 0, .int 0]) : ACell) :: .inr (.inl (false, (List.replicate 256 0))) :: .inr (.inl (false, (List.replicate 256 0))) :: .inr (.inl (false, (List.replicate 256 0))) :: .inr (.inl (false, (List.replicate 256 0))) :: .inr (.inl (false, (List.replicate 256 0))) :: .inr (.inr (List.replicate 256 0)) :: .inr (.inl (true, (List.replicate 256 0))) :: .inr (.inl (false, (List.replicate 64 0))) :: [])) rfl ?_
  refine OEnds.made1 hm_1 rfl rfl (ks := 64) rfl rfl ?_
  refine OEnds.adv hm_1 3 (pc' := 86) (L' := [qr 16, qi v1, qi v2, qu, qu]) (S' := [.int 64, .ref 16]) (H' := (c0 :: c1 :: c2 :: c3 :: c4 :: c5 :: c6 :: c7 :: c8 :: c9 :: c10 :: c11 :: c12 :: c13 :: c14 :: c15 :: (.inl (0, [.ref 17, .ref 18, .ref 19, .ref 20, .ref 21, .ref 22, .ref 23, .ref 24, .ref 25, .null, .null, .null, .null, .null, .int 0, .int 0, .int 0, .long 0, .int 0, .int 0, .int 0]) : ACell) :: .inr (.inl (false, (List.replicate 256 0))) :: .inr (.inl (false, (List.replicate 256 0))) :: .inr (.inl (false, (List.replicate 256 0))) :: .inr (.inl (false, (List.replicate 256 0))) :: .inr (.inl (false, (List.replicate 256 0))) :: .inr (.inr (List.replicate 256 0)) :: .inr (.inl (true, (List.replicate 256 0))) :: .inr (.inl (false, (List.replicate 64 0))) :: .inr (.inl (false, (List.replicate 64 0))) :: [])) rfl ?_
  refine OEnds.made1 hm_1 rfl rfl (ks := 64) rfl rfl ?_
  refine OEnds.adv hm_1 3 (pc' := 94) (L' := [qr 16, qi v1, qi v2, qu, qu]) (S' := [.int 64, .ref 16]) (H' := (c0 :: c1 :: c2 :: c3 :: c4 :: c5 :: c6 :: c7 :: c8 :: c9 :: c10 :: c11 :: c12 :: c13 :: c14 :: c15 :: (.inl (0, [.ref 17, .ref 18, .ref 19, .ref 20, .ref 21, .ref 22, .ref 23, .ref 24, .ref 25, .ref 26, .null, .null, .null, .null, .int 0, .int 0, .int 0, .long 0, .int 0, .int 0, .int 0]) : ACell) :: .inr (.inl (false, (List.replicate 256 0))) :: .inr (.inl (false, (List.replicate 256 0))) :: .inr (.inl (false, (List.replicate 256 0))) :: .inr (.inl (false, (List.replicate 256 0))) :: .inr (.inl (false, (List.replicate 256 0))) :: .inr (.inr (List.replicate 256 0)) :: .inr (.inl (true, (List.replicate 256 0))) :: .inr (.inl (false, (List.replicate 64 0))) :: .inr (.inl (false, (List.replicate 64 0))) :: .inr (.inl (false, (List.replicate 64 0))) :: [])) rfl ?_
  refine OEnds.made1 hm_1 rfl rfl (ks := 64) rfl rfl ?_
  refine OEnds.adv hm_1 3 (pc' := 102) (L' := [qr 16, qi v1, qi v2, qu, qu]) (S' := [.int 64, .ref 16]) (H' := (c0 :: c1 :: c2 :: c3 :: c4 :: c5 :: c6 :: c7 :: c8 :: c9 :: c10 :: c11 :: c12 :: c13 :: c14 :: c15 :: (.inl (0, [.ref 17, .ref 18, .ref 19, .ref 20, .ref 21, .ref 22, .ref 23, .ref 24, .ref 25, .ref 26, .ref 27, .null, .null, .null, .int 0, .int 0, .int 0, .long 0, .int 0, .int 0, .int 0]) : ACell) :: .inr (.inl (false, (List.replicate 256 0))) :: .inr (.inl (false, (List.replicate 256 0))) :: .inr (.inl (false, (List.replicate 256 0))) :: .inr (.inl (false, (List.replicate 256 0))) :: .inr (.inl (false, (List.replicate 256 0))) :: .inr (.inr (List.replicate 256 0)) :: .inr (.inl (true, (List.replicate 256 0))) :: .inr (.inl (false, (List.replicate 64 0))) :: .inr (.inl (false, (List.replicate 64 0))) :: .inr (.inl (false, (List.replicate 64 0))) :: .inr (.inl (false, (List.replicate 64 0))) :: [])) rfl ?_
  refine OEnds.made1 hm_1 rfl rfl (ks := 64) rfl rfl ?_
  refine OEnds.adv hm_1 3 (pc' := 110) (L' := [qr 16, qi v1, qi v2, qu, qu]) (S' := [.int 64, .ref 16]) (H' := (c0 :: c1 :: c2 :: c3 :: c4 :: c5 :: c6 :: c7 :: c8 :: c9 :: c10 :: c11 :: c12 :: c13 :: c14 :: c15 :: (.inl (0, [.ref 17, .ref 18, .ref 19, .ref 20, .ref 21, .ref 22, .ref 23, .ref 24, .ref 25, .ref 26, .ref 27, .ref 28, .null, .null, .int 0, .int 0, .int 0, .long 0, .int 0, .int 0, .int 0]) : ACell) :: .inr (.inl (false, (List.replicate 256 0))) :: .inr (.inl (false, (List.replicate 256 0))) :: .inr (.inl (false, (List.replicate 256 0))) :: .inr (.inl (false, (List.replicate 256 0))) :: .inr (.inl (false, (List.replicate 256 0))) :: .inr (.inr (List.replicate 256 0)) :: .inr (.inl (true, (List.replicate 256 0))) :: .inr (.inl (false, (List.replicate 64 0))) :: .inr (.inl (false, (List.replicate 64 0))) :: .inr (.inl (false, (List.replicate 64 0))) :: .inr (.inl (false, (List.replicate 64 0))) :: .inr (.inl (false, (List.replicate 64 0))) :: [])) rfl ?_
  refine OEnds.made1 hm_1 rfl rfl (ks := 64) rfl rfl ?_
  refine OEnds.adv hm_1 3 (pc' := 118) (L' := [qr 16, qi v1, qi v2, qu, qu]) (S' := [.int 64, .ref 16]) (H' := (c0 :: c1 :: c2 :: c3 :: c4 :: c5 :: c6 :: c7 :: c8 :: c9 :: c10 :: c11 :: c12 :: c13 :: c14 :: c15 :: (.inl (0, [.ref 17, .ref 18, .ref 19, .ref 20, .ref 21, .ref 22, .ref 23, .ref 24, .ref 25, .ref 26, .ref 27, .ref 28, .ref 29, .null, .int 0, .int 0, .int 0, .long 0, .int 0, .int 0, .int 0]) : ACell) :: .inr (.inl (false, (List.replicate 256 0))) :: .inr (.inl (false, (List.replicate 256 0))) :: .inr (.inl (false, (List.replicate 256 0))) :: .inr (.inl (false, (List.replicate 256 0))) :: .inr (.inl (false, (List.replicate 256 0))) :: .inr (.inr (List.replicate 256 0)) :: .inr (.inl (true, (List.replicate 256 0))) :: .inr (.inl (false, (List.replicate 64 0))) :: .inr (.inl (false, (List.replicate 64 0))) :: .inr (.inl (false, (List.replicate 64 0))) :: .inr (.inl (false, (List.replicate 64 0))) :: .inr (.inl (false, (List.replicate 64 0))) :: .inr (.inl (false, (List.replicate 64 0))) :: [])) rfl ?_
  refine OEnds.made1 hm_1 rfl rfl (ks := 64) rfl rfl ?_
  refine OEnds.adv hm_1 5 (pc' := 127) (L' := [qr 16, qi v1, qi v2, qi v1, qu]) (S' := [.int 1, .int v1]) (H' := (c0 :: c1 :: c2 :: c3 :: c4 :: c5 :: c6 :: c7 :: c8 :: c9 :: c10 :: c11 :: c12 :: c13 :: c14 :: c15 :: bk1 (List.replicate 256 0) (List.replicate 256 0) (List.replicate 256 0) (List.replicate 256 0) (List.replicate 256 0) (List.replicate 256 0) (List.replicate 256 0) (List.replicate 64 0) (List.replicate 64 0) (List.replicate 64 0) (List.replicate 64 0) (List.replicate 64 0) (List.replicate 64 0) (List.replicate 64 0) 0 0 0 0 0 0 0 [])) rfl ?_
  by_cases hc8 : v1 < (1 : Int32)
  · simp only [if_pos hc8] at h
    refine OEnds.icmpF hm_1 rfl ((tlt hc8).2.1) ?_
    refine OEnds.adv hm_1 2 (pc' := 132) (L' := [qr 16, qi v1, qi v2, qi 1, qu]) (S' := []) (H' := (c0 :: c1 :: c2 :: c3 :: c4 :: c5 :: c6 :: c7 :: c8 :: c9 :: c10 :: c11 :: c12 :: c13 :: c14 :: c15 :: bk1 (List.replicate 256 0) (List.replicate 256 0) (List.replicate 256 0) (List.replicate 256 0) (List.replicate 256 0) (List.replicate 256 0) (List.replicate 256 0) (List.replicate 64 0) (List.replicate 64 0) (List.replicate 64 0) (List.replicate 64 0) (List.replicate 64 0) (List.replicate 64 0) (List.replicate 64 0) 0 0 0 0 0 0 0 [])) rfl ?_
    exact ok_init_132_1 h
  · simp only [if_neg hc8] at h
    refine OEnds.icmpT hm_1 rfl (q := 132) rfl ((flt hc8).2.1) ?_
    show OEnds own_P 1 132 [qr 16, qi v1, qi v2, qi v1, qu] [] (c0 :: c1 :: c2 :: c3 :: c4 :: c5 :: c6 :: c7 :: c8 :: c9 :: c10 :: c11 :: c12 :: c13 :: c14 :: c15 :: bk1 (List.replicate 256 0) (List.replicate 256 0) (List.replicate 256 0) (List.replicate 256 0) (List.replicate 256 0) (List.replicate 256 0) (List.replicate 256 0) (List.replicate 64 0) (List.replicate 64 0) (List.replicate 64 0) (List.replicate 64 0) (List.replicate 64 0) (List.replicate 64 0) (List.replicate 64 0) 0 0 0 0 0 0 0 []) _
    exact ok_init_132_1 h
theorem ok_isResting_0 {zd zg zr zu zn : List Int32} {zm : List Int64} {zi zc zs zp zq ze zh zf : List Int32} {zl zk zj : Int32} {zt : Int64} {za zo zb : Int32} {c0 : ACell} {po : List ACell} {v1 res : Int32} (h : f_isResting zn zj v1 = some res) : OEnds own_P 5 0 [qr 1, qi v1] [] (c0 :: bk0 zd zg zr zu zn zm zi zc zs zp zq ze zh zf zl zk zj zt za zo zb po) (some (.int res), (c0 :: bk0 zd zg zr zu zn zm zi zc zs zp zq ze zh zf zl zk zj zt za zo zb po), 0, 0) := by
  unfold f_isResting at h
  refine OEnds.adv hm_5 2 (pc' := 2) (L' := [qr 1, qi v1]) (S' := [.int 1, .int v1]) (H' := (c0 :: bk0 zd zg zr zu zn zm zi zc zs zp zq ze zh zf zl zk zj zt za zo zb po)) rfl ?_
  by_cases hc9 : v1 < (1 : Int32)
  · simp only [if_pos hc9] at h
    refine OEnds.icmpT hm_5 rfl (q := 27) rfl ((tlt hc9).1) ?_
    refine OEnds.adv hm_5 1 (pc' := 28) (L' := [qr 1, qi v1]) (S' := [.int 0]) (H' := (c0 :: bk0 zd zg zr zu zn zm zi zc zs zp zq ze zh zf zl zk zj zt za zo zb po)) rfl ?_
    cases h
    exact OEnds.iret hm_5 rfl rfl
  · simp only [if_neg hc9] at h
    refine OEnds.icmpF hm_5 rfl ((flt hc9).1) ?_
    refine OEnds.adv hm_5 3 (pc' := 10) (L' := [qr 1, qi v1]) (S' := [.int zj, .int v1]) (H' := (c0 :: bk0 zd zg zr zu zn zm zi zc zs zp zq ze zh zf zl zk zj zt za zo zb po)) rfl ?_
    by_cases hc10 : zj < v1
    · simp only [if_pos hc10] at h
      refine OEnds.icmpT hm_5 rfl (q := 27) rfl ((tlt hc10).2.2.1) ?_
      refine OEnds.adv hm_5 1 (pc' := 28) (L' := [qr 1, qi v1]) (S' := [.int 0]) (H' := (c0 :: bk0 zd zg zr zu zn zm zi zc zs zp zq ze zh zf zl zk zj zt za zo zb po)) rfl ?_
      cases h
      exact OEnds.iret hm_5 rfl rfl
    · simp only [if_neg hc10] at h
      refine OEnds.icmpF hm_5 rfl ((flt hc10).2.2.1) ?_
      refine OEnds.adv hm_5 3 (pc' := 18) (L' := [qr 1, qi v1]) (S' := [.int v1, .ref 6]) (H' := (c0 :: bk0 zd zg zr zu zn zm zi zc zs zp zq ze zh zf zl zk zj zt za zo zb po)) rfl ?_
      obtain ⟨x1, hx1, h⟩ := bnd h
      refine OEnds.plain hm_5 rfl rfl (x_iaload rfl hx1) ?_
      refine OEnds.adv hm_5 1 (pc' := 20) (L' := [qr 1, qi v1]) (S' := [.int 1, .int x1]) (H' := (c0 :: bk0 zd zg zr zu zn zm zi zc zs zp zq ze zh zf zl zk zj zt za zo zb po)) rfl ?_
      by_cases hc11 : x1 = (1 : Int32)
      · simp only [if_pos hc11] at h
        refine OEnds.icmpF hm_5 rfl ((teq hc11).2) ?_
        refine OEnds.adv hm_5 2 (pc' := 28) (L' := [qr 1, qi v1]) (S' := [.int 1]) (H' := (c0 :: bk0 zd zg zr zu zn zm zi zc zs zp zq ze zh zf zl zk zj zt za zo zb po)) rfl ?_
        cases h
        exact OEnds.iret hm_5 rfl rfl
      · simp only [if_neg hc11] at h
        refine OEnds.icmpT hm_5 rfl (q := 27) rfl ((feq hc11).2) ?_
        refine OEnds.adv hm_5 1 (pc' := 28) (L' := [qr 1, qi v1]) (S' := [.int 0]) (H' := (c0 :: bk0 zd zg zr zu zn zm zi zc zs zp zq ze zh zf zl zk zj zt za zo zb po)) rfl ?_
        cases h
        exact OEnds.iret hm_5 rfl rfl
theorem ok_removeResting_20_0 {zd zg zr zu zn : List Int32} {zm : List Int64} {zi zs zp zq ze zh zf : List Int32} {zl zk zj : Int32} {zt : Int64} {zo zb : Int32} {c0 : ACell} {po : List ACell} : ∀ {zc : List Int32} {za v2 : Int32} {d1 : Slot} {w_o_restIds : List Int32} {w_o_restN : Int32}, f_removeResting_20 zc za v2 = some (w_o_restIds, w_o_restN) → OEnds own_P 25 20 [qr 1, d1, qi v2] [] (c0 :: bk0 zd zg zr zu zn zm zi zc zs zp zq ze zh zf zl zk zj zt za zo zb po) (none, (c0 :: bk0 zd zg zr zu zn zm zi w_o_restIds zs zp zq ze zh zf zl zk zj zt w_o_restN zo zb po), 0, 0) := by
  intro zc za v2 d1 w_o_restIds w_o_restN h
  unfold f_removeResting_20 at h
  refine OEnds.adv hm_25 9 (pc' := 35) (L' := [qr 1, qu, qi v2]) (S' := [.int (za - (1 : Int32)), .ref 9, .int v2, .ref 9]) (H' := (c0 :: bk0 zd zg zr zu zn zm zi zc zs zp zq ze zh zf zl zk zj zt za zo zb po)) rfl ?_
  obtain ⟨x3, hx3, h⟩ := bnd h
  refine OEnds.plain hm_25 rfl rfl (x_iaload rfl hx3) ?_
  show OEnds own_P 25 36 [qr 1, qu, qi v2] [.int x3, .int v2, .ref 9] (c0 :: bk0 zd zg zr zu zn zm zi zc zs zp zq ze zh zf zl zk zj zt za zo zb po) _
  obtain ⟨A4, hA4, h⟩ := bnd h
  refine OEnds.plain hm_25 rfl rfl (x_iastore rfl (Nat.le_of_ble_eq_true rfl) hA4) ?_
  refine OEnds.adv hm_25 6 (pc' := 47) (L' := [qr 1, qu, qi v2]) (S' := []) (H' := (c0 :: bk0 zd zg zr zu zn zm zi A4 zs zp zq ze zh zf zl zk zj zt (za - (1 : Int32)) zo zb po)) rfl ?_
  cases h
  exact OEnds.vret hm_25 rfl rfl
theorem ok_removeResting_2_0 {zd zg zr zu zn : List Int32} {zm : List Int64} {zi zs zp zq ze zh zf : List Int32} {zl zk zj : Int32} {zt : Int64} {zo zb : Int32} {c0 : ACell} {po : List ACell} {k20 : List Int32 → Int32 → Int32 → Option (List Int32 × Int32)} (hk20 : ∀ {zc : List Int32} {za v2 : Int32} {d1 : Slot} {w_o_restIds : List Int32} {w_o_restN : Int32}, k20 zc za v2 = some (w_o_restIds, w_o_restN) → OEnds own_P 25 20 [qr 1, d1, qi v2] [] (c0 :: bk0 zd zg zr zu zn zm zi zc zs zp zq ze zh zf zl zk zj zt za zo zb po) (none, (c0 :: bk0 zd zg zr zu zn zm zi w_o_restIds zs zp zq ze zh zf zl zk zj zt w_o_restN zo zb po), 0, 0)) : ∀ (n : Nat), ∀ {zc : List Int32} {za v1 v2 : Int32} {w_o_restIds : List Int32} {w_o_restN : Int32}, f_removeResting_2 k20 n zc za v1 v2 = some (w_o_restIds, w_o_restN) → OEnds own_P 25 2 [qr 1, qi v1, qi v2] [] (c0 :: bk0 zd zg zr zu zn zm zi zc zs zp zq ze zh zf zl zk zj zt za zo zb po) (none, (c0 :: bk0 zd zg zr zu zn zm zi w_o_restIds zs zp zq ze zh zf zl zk zj zt w_o_restN zo zb po), 0, 0) := by
  intro n
  induction n with
  | zero => intro zc za v1 v2 w_o_restIds w_o_restN h; cases h
  | succ n ih =>
    intro zc za v1 v2 w_o_restIds w_o_restN h
    unfold f_removeResting_2 at h
    refine OEnds.adv hm_25 3 (pc' := 7) (L' := [qr 1, qi v1, qi v2]) (S' := [.int za, .int v2]) (H' := (c0 :: bk0 zd zg zr zu zn zm zi zc zs zp zq ze zh zf zl zk zj zt za zo zb po)) rfl ?_
    by_cases hc12 : v2 < za
    · simp only [if_pos hc12] at h
      refine OEnds.icmpF hm_25 rfl ((tlt hc12).2.1) ?_
      refine OEnds.adv hm_25 3 (pc' := 15) (L' := [qr 1, qi v1, qi v2]) (S' := [.int v2, .ref 9]) (H' := (c0 :: bk0 zd zg zr zu zn zm zi zc zs zp zq ze zh zf zl zk zj zt za zo zb po)) rfl ?_
      obtain ⟨x2, hx2, h⟩ := bnd h
      refine OEnds.plain hm_25 rfl rfl (x_iaload rfl hx2) ?_
      refine OEnds.adv hm_25 1 (pc' := 17) (L' := [qr 1, qi v1, qi v2]) (S' := [.int v1, .int x2]) (H' := (c0 :: bk0 zd zg zr zu zn zm zi zc zs zp zq ze zh zf zl zk zj zt za zo zb po)) rfl ?_
      by_cases hc13 : x2 = v1
      · simp only [if_pos hc13] at h
        refine OEnds.icmpF hm_25 rfl ((teq hc13).2) ?_
        show OEnds own_P 25 20 [qr 1, qi v1, qi v2] [] (c0 :: bk0 zd zg zr zu zn zm zi zc zs zp zq ze zh zf zl zk zj zt za zo zb po) _
        exact hk20 h
      · simp only [if_neg hc13] at h
        refine OEnds.icmpT hm_25 rfl (q := 48) rfl ((feq hc13).2) ?_
        refine OEnds.adv hm_25 2 (pc' := 2) (L' := [qr 1, qi v1, qi (v2 + (1 : Int32))]) (S' := []) (H' := (c0 :: bk0 zd zg zr zu zn zm zi zc zs zp zq ze zh zf zl zk zj zt za zo zb po)) rfl ?_
        exact ih h
    · simp only [if_neg hc12] at h
      refine OEnds.icmpT hm_25 rfl (q := 54) rfl ((flt hc12).2.1) ?_
      show OEnds own_P 25 54 [qr 1, qi v1, qi v2] [] (c0 :: bk0 zd zg zr zu zn zm zi zc zs zp zq ze zh zf zl zk zj zt za zo zb po) _
      cases h
      exact OEnds.vret hm_25 rfl rfl
theorem ok_removeResting_0 {zd zg zr zu zn : List Int32} {zm : List Int64} {zi zs zp zq ze zh zf : List Int32} {zl zk zj : Int32} {zt : Int64} {zo zb : Int32} {c0 : ACell} {po : List ACell} {zc : List Int32} {za v1 : Int32} {w_o_restIds : List Int32} {w_o_restN : Int32} (h : f_removeResting zc za v1 = some (w_o_restIds, w_o_restN)) : OEnds own_P 25 0 [qr 1, qi v1, qu] [] (c0 :: bk0 zd zg zr zu zn zm zi zc zs zp zq ze zh zf zl zk zj zt za zo zb po) (none, (c0 :: bk0 zd zg zr zu zn zm zi w_o_restIds zs zp zq ze zh zf zl zk zj zt w_o_restN zo zb po), 0, 0) := by
  unfold f_removeResting at h
  refine OEnds.adv hm_25 2 (pc' := 2) (L' := [qr 1, qi v1, qi 0]) (S' := []) (H' := (c0 :: bk0 zd zg zr zu zn zm zi zc zs zp zq ze zh zf zl zk zj zt za zo zb po)) rfl ?_
  exact ok_removeResting_2_0 (k20 := f_removeResting_20) ok_removeResting_20_0 100000 h
theorem ok_cancel_0 {zd zg zu : List Int32} {zm : List Int64} {zs zp zq ze zh zf : List Int32} {zl zk zj : Int32} {zt : Int64} {zo zb : Int32} {c0 : ACell} {po : List ACell} {zr zn zi zc : List Int32} {za v1 res : Int32} {w_o_oRem w_o_oStatus w_o_oTop w_o_restIds : List Int32} {w_o_restN : Int32} (h : f_cancel zj zr zn zi zc za v1 = some (res, w_o_oRem, w_o_oStatus, w_o_oTop, w_o_restIds, w_o_restN)) : OEnds own_P 6 0 [qr 1, qi v1] [] (c0 :: bk0 zd zg zr zu zn zm zi zc zs zp zq ze zh zf zl zk zj zt za zo zb po) (some (.int res), (c0 :: bk0 zd zg w_o_oRem zu w_o_oStatus zm w_o_oTop w_o_restIds zs zp zq ze zh zf zl zk zj zt w_o_restN zo zb po), 0, 0) := by
  unfold f_cancel at h
  refine OEnds.adv hm_6 2 (pc' := 2) (L' := [qr 1, qi v1]) (S' := [.int v1, .ref 1]) (H' := (c0 :: bk0 zd zg zr zu zn zm zi zc zs zp zq ze zh zf zl zk zj zt za zo zb po)) rfl ?_
  obtain ⟨r5, hq14, h⟩ := bnd h
  refine OEnds.call0 hm_6 rfl rfl (by decide) rfl (as := [.ref 1, .int v1]) (rest := []) rfl rfl (ok_isResting_0 hq14) ?_
  show OEnds own_P 6 5 [qr 1, qi v1] [.int r5] (c0 :: bk0 zd zg zr zu zn zm zi zc zs zp zq ze zh zf zl zk zj zt za zo zb po) _
  by_cases hc15 : r5 = (0 : Int32)
  · simp only [if_pos hc15] at h
    refine OEnds.ifF hm_6 rfl ((teq hc15).2) ?_
    refine OEnds.adv hm_6 1 (pc' := 10) (L' := [qr 1, qi v1]) (S' := [.int (-6)]) (H' := (c0 :: bk0 zd zg zr zu zn zm zi zc zs zp zq ze zh zf zl zk zj zt za zo zb po)) rfl ?_
    cases h
    exact OEnds.iret hm_6 rfl rfl
  · simp only [if_neg hc15] at h
    refine OEnds.ifT hm_6 rfl (q := 11) rfl ((feq hc15).2) ?_
    refine OEnds.adv hm_6 4 (pc' := 17) (L' := [qr 1, qi v1]) (S' := [.int 3, .int v1, .ref 6]) (H' := (c0 :: bk0 zd zg zr zu zn zm zi zc zs zp zq ze zh zf zl zk zj zt za zo zb po)) rfl ?_
    obtain ⟨A6, hA6, h⟩ := bnd h
    refine OEnds.plain hm_6 rfl rfl (x_iastore rfl (Nat.le_of_ble_eq_true rfl) hA6) ?_
    refine OEnds.adv hm_6 4 (pc' := 24) (L' := [qr 1, qi v1]) (S' := [.int 0, .int v1, .ref 4]) (H' := (c0 :: bk0 zd zg zr zu A6 zm zi zc zs zp zq ze zh zf zl zk zj zt za zo zb po)) rfl ?_
    obtain ⟨A7, hA7, h⟩ := bnd h
    refine OEnds.plain hm_6 rfl rfl (x_iastore rfl (Nat.le_of_ble_eq_true rfl) hA7) ?_
    refine OEnds.adv hm_6 4 (pc' := 31) (L' := [qr 1, qi v1]) (S' := [.int 0, .int v1, .ref 8]) (H' := (c0 :: bk0 zd zg A7 zu A6 zm zi zc zs zp zq ze zh zf zl zk zj zt za zo zb po)) rfl ?_
    obtain ⟨A8, hA8, h⟩ := bnd h
    refine OEnds.plain hm_6 rfl rfl (x_bastore rfl (Nat.le_of_ble_eq_true rfl) hA8) ?_
    refine OEnds.adv hm_6 2 (pc' := 34) (L' := [qr 1, qi v1]) (S' := [.int v1, .ref 1]) (H' := (c0 :: bk0 zd zg A7 zu A6 zm A8 zc zs zp zq ze zh zf zl zk zj zt za zo zb po)) rfl ?_
    obtain ⟨⟨s9, s10⟩, hq16, h⟩ := bnd h
    refine OEnds.call0 hm_6 rfl rfl (by decide) rfl (as := [.ref 1, .int v1]) (rest := []) rfl rfl (ok_removeResting_0 hq16) ?_
    refine OEnds.adv hm_6 1 (pc' := 38) (L' := [qr 1, qi v1]) (S' := [.int 0]) (H' := (c0 :: bk0 zd zg A7 zu A6 zm A8 s9 zs zp zq ze zh zf zl zk zj zt s10 zo zb po)) rfl ?_
    cases h
    exact OEnds.iret hm_6 rfl rfl
theorem ok_amend_0 {zd zg zu zn zc zs zp zq ze zh zf : List Int32} {zl zk zj za zo zb : Int32} {c0 : ACell} {po : List ACell} {zr : List Int32} {zm : List Int64} {zi : List Int32} {zt : Int64} {v1 v2 res : Int32} {w_o_oRem : List Int32} {w_o_oStamp : List Int64} {w_o_oTop : List Int32} {w_o_stampCounter : Int64} (h : f_amend zn zj zr zm zi zt v1 v2 = some (res, w_o_oRem, w_o_oStamp, w_o_oTop, w_o_stampCounter)) : OEnds own_P 4 0 [qr 1, qi v1, qi v2] [] (c0 :: bk0 zd zg zr zu zn zm zi zc zs zp zq ze zh zf zl zk zj zt za zo zb po) (some (.int res), (c0 :: bk0 zd zg w_o_oRem zu zn w_o_oStamp w_o_oTop zc zs zp zq ze zh zf zl zk zj w_o_stampCounter za zo zb po), 0, 0) := by
  unfold f_amend at h
  refine OEnds.adv hm_4 2 (pc' := 2) (L' := [qr 1, qi v1, qi v2]) (S' := [.int v1, .ref 1]) (H' := (c0 :: bk0 zd zg zr zu zn zm zi zc zs zp zq ze zh zf zl zk zj zt za zo zb po)) rfl ?_
  obtain ⟨r11, hq17, h⟩ := bnd h
  refine OEnds.call0 hm_4 rfl rfl (by decide) rfl (as := [.ref 1, .int v1]) (rest := []) rfl rfl (ok_isResting_0 hq17) ?_
  show OEnds own_P 4 5 [qr 1, qi v1, qi v2] [.int r11] (c0 :: bk0 zd zg zr zu zn zm zi zc zs zp zq ze zh zf zl zk zj zt za zo zb po) _
  by_cases hc18 : r11 = (0 : Int32)
  · simp only [if_pos hc18] at h
    refine OEnds.ifF hm_4 rfl ((teq hc18).2) ?_
    refine OEnds.adv hm_4 1 (pc' := 10) (L' := [qr 1, qi v1, qi v2]) (S' := [.int (-6)]) (H' := (c0 :: bk0 zd zg zr zu zn zm zi zc zs zp zq ze zh zf zl zk zj zt za zo zb po)) rfl ?_
    cases h
    exact OEnds.iret hm_4 rfl rfl
  · simp only [if_neg hc18] at h
    refine OEnds.ifT hm_4 rfl (q := 11) rfl ((feq hc18).2) ?_
    refine OEnds.adv hm_4 2 (pc' := 13) (L' := [qr 1, qi v1, qi v2]) (S' := [.int 1, .int v2]) (H' := (c0 :: bk0 zd zg zr zu zn zm zi zc zs zp zq ze zh zf zl zk zj zt za zo zb po)) rfl ?_
    by_cases hc19 : v2 < (1 : Int32)
    · simp only [if_pos hc19] at h
      refine OEnds.icmpT hm_4 rfl (q := 23) rfl ((tlt hc19).1) ?_
      refine OEnds.adv hm_4 1 (pc' := 25) (L' := [qr 1, qi v1, qi v2]) (S' := [.int (-3)]) (H' := (c0 :: bk0 zd zg zr zu zn zm zi zc zs zp zq ze zh zf zl zk zj zt za zo zb po)) rfl ?_
      cases h
      exact OEnds.iret hm_4 rfl rfl
    · simp only [if_neg hc19] at h
      refine OEnds.icmpF hm_4 rfl ((flt hc19).1) ?_
      refine OEnds.adv hm_4 2 (pc' := 20) (L' := [qr 1, qi v1, qi v2]) (S' := [.int 10000, .int v2]) (H' := (c0 :: bk0 zd zg zr zu zn zm zi zc zs zp zq ze zh zf zl zk zj zt za zo zb po)) rfl ?_
      by_cases hc20 : (10000 : Int32) < v2
      · simp only [if_pos hc20] at h
        refine OEnds.icmpF hm_4 rfl ((tlt hc20).2.2.2) ?_
        refine OEnds.adv hm_4 1 (pc' := 25) (L' := [qr 1, qi v1, qi v2]) (S' := [.int (-3)]) (H' := (c0 :: bk0 zd zg zr zu zn zm zi zc zs zp zq ze zh zf zl zk zj zt za zo zb po)) rfl ?_
        cases h
        exact OEnds.iret hm_4 rfl rfl
      · simp only [if_neg hc20] at h
        refine OEnds.icmpT hm_4 rfl (q := 26) rfl ((flt hc20).2.2.2) ?_
        refine OEnds.adv hm_4 4 (pc' := 32) (L' := [qr 1, qi v1, qi v2]) (S' := [.int v1, .ref 4, .int v2]) (H' := (c0 :: bk0 zd zg zr zu zn zm zi zc zs zp zq ze zh zf zl zk zj zt za zo zb po)) rfl ?_
        obtain ⟨x12, hx12, h⟩ := bnd h
        refine OEnds.plain hm_4 rfl rfl (x_iaload rfl hx12) ?_
        show OEnds own_P 4 33 [qr 1, qi v1, qi v2] [.int x12, .int v2] (c0 :: bk0 zd zg zr zu zn zm zi zc zs zp zq ze zh zf zl zk zj zt za zo zb po) _
        by_cases hc21 : v2 < x12
        · simp only [if_pos hc21] at h
          refine OEnds.icmpF hm_4 rfl ((tlt hc21).2.1) ?_
          refine OEnds.adv hm_4 4 (pc' := 42) (L' := [qr 1, qi v1, qi v2]) (S' := [.int v2, .int v1, .ref 4]) (H' := (c0 :: bk0 zd zg zr zu zn zm zi zc zs zp zq ze zh zf zl zk zj zt za zo zb po)) rfl ?_
          obtain ⟨A17, hA17, h⟩ := bnd h
          refine OEnds.plain hm_4 rfl rfl (x_iastore rfl (Nat.le_of_ble_eq_true rfl) hA17) ?_
          refine OEnds.adv hm_4 2 (pc' := 91) (L' := [qr 1, qi v1, qi v2]) (S' := [.int 0]) (H' := (c0 :: bk0 zd zg A17 zu zn zm zi zc zs zp zq ze zh zf zl zk zj zt za zo zb po)) rfl ?_
          cases h
          exact OEnds.iret hm_4 rfl rfl
        · simp only [if_neg hc21] at h
          refine OEnds.icmpT hm_4 rfl (q := 46) rfl ((flt hc21).2.1) ?_
          refine OEnds.adv hm_4 4 (pc' := 52) (L' := [qr 1, qi v1, qi v2]) (S' := [.int v1, .ref 4, .int v2]) (H' := (c0 :: bk0 zd zg zr zu zn zm zi zc zs zp zq ze zh zf zl zk zj zt za zo zb po)) rfl ?_
          obtain ⟨x13, hx13, h⟩ := bnd h
          refine OEnds.plain hm_4 rfl rfl (x_iaload rfl hx13) ?_
          show OEnds own_P 4 53 [qr 1, qi v1, qi v2] [.int x13, .int v2] (c0 :: bk0 zd zg zr zu zn zm zi zc zs zp zq ze zh zf zl zk zj zt za zo zb po) _
          by_cases hc22 : x13 < v2
          · simp only [if_pos hc22] at h
            refine OEnds.icmpF hm_4 rfl ((tlt hc22).2.2.2) ?_
            refine OEnds.adv hm_4 4 (pc' := 62) (L' := [qr 1, qi v1, qi v2]) (S' := [.int v2, .int v1, .ref 4]) (H' := (c0 :: bk0 zd zg zr zu zn zm zi zc zs zp zq ze zh zf zl zk zj zt za zo zb po)) rfl ?_
            obtain ⟨A14, hA14, h⟩ := bnd h
            refine OEnds.plain hm_4 rfl rfl (x_iastore rfl (Nat.le_of_ble_eq_true rfl) hA14) ?_
            refine OEnds.adv hm_4 11 (pc' := 82) (L' := [qr 1, qi v1, qi v2]) (S' := [.long (zt + (1 : Int64)), .int v1, .ref 7]) (H' := (c0 :: bk0 zd zg A14 zu zn zm zi zc zs zp zq ze zh zf zl zk zj (zt + (1 : Int64)) za zo zb po)) rfl ?_
            obtain ⟨A15, hA15, h⟩ := bnd h
            refine OEnds.plain hm_4 rfl rfl (x_lastore rfl (Nat.le_of_ble_eq_true rfl) hA15) ?_
            refine OEnds.adv hm_4 4 (pc' := 89) (L' := [qr 1, qi v1, qi v2]) (S' := [.int 0, .int v1, .ref 8]) (H' := (c0 :: bk0 zd zg A14 zu zn A15 zi zc zs zp zq ze zh zf zl zk zj (zt + (1 : Int64)) za zo zb po)) rfl ?_
            obtain ⟨A16, hA16, h⟩ := bnd h
            refine OEnds.plain hm_4 rfl rfl (x_bastore rfl (Nat.le_of_ble_eq_true rfl) hA16) ?_
            refine OEnds.adv hm_4 1 (pc' := 91) (L' := [qr 1, qi v1, qi v2]) (S' := [.int 0]) (H' := (c0 :: bk0 zd zg A14 zu zn A15 A16 zc zs zp zq ze zh zf zl zk zj (zt + (1 : Int64)) za zo zb po)) rfl ?_
            cases h
            exact OEnds.iret hm_4 rfl rfl
          · simp only [if_neg hc22] at h
            refine OEnds.icmpT hm_4 rfl (q := 90) rfl ((flt hc22).2.2.2) ?_
            refine OEnds.adv hm_4 1 (pc' := 91) (L' := [qr 1, qi v1, qi v2]) (S' := [.int 0]) (H' := (c0 :: bk0 zd zg zr zu zn zm zi zc zs zp zq ze zh zf zl zk zj zt za zo zb po)) rfl ?_
            cases h
            exact OEnds.iret hm_4 rfl rfl
theorem ok_better_0 {zd zg zr zu zn : List Int32} {zm : List Int64} {zi zc zs zp zq ze zh zf : List Int32} {zl zk zj : Int32} {zt : Int64} {za zo zb : Int32} {c0 : ACell} {po : List ACell} {v1 v2 v3 res : Int32} (h : f_better v1 v2 v3 = some res) : OEnds own_P 27 0 [qr 1, qi v1, qi v2, qi v3] [] (c0 :: bk0 zd zg zr zu zn zm zi zc zs zp zq ze zh zf zl zk zj zt za zo zb po) (some (.int res), (c0 :: bk0 zd zg zr zu zn zm zi zc zs zp zq ze zh zf zl zk zj zt za zo zb po), 0, 0) := by
  unfold f_better at h
  refine OEnds.adv hm_27 1 (pc' := 1) (L' := [qr 1, qi v1, qi v2, qi v3]) (S' := [.int v1]) (H' := (c0 :: bk0 zd zg zr zu zn zm zi zc zs zp zq ze zh zf zl zk zj zt za zo zb po)) rfl ?_
  by_cases hc23 : v1 = (0 : Int32)
  · simp only [if_pos hc23] at h
    refine OEnds.ifF hm_27 rfl ((teq hc23).2) ?_
    refine OEnds.adv hm_27 2 (pc' := 6) (L' := [qr 1, qi v1, qi v2, qi v3]) (S' := [.int v3, .int v2]) (H' := (c0 :: bk0 zd zg zr zu zn zm zi zc zs zp zq ze zh zf zl zk zj zt za zo zb po)) rfl ?_
    by_cases hc24 : v3 < v2
    · simp only [if_pos hc24] at h
      refine OEnds.icmpF hm_27 rfl ((tlt hc24).2.2.2) ?_
      refine OEnds.adv hm_27 2 (pc' := 14) (L' := [qr 1, qi v1, qi v2, qi v3]) (S' := [.int 1]) (H' := (c0 :: bk0 zd zg zr zu zn zm zi zc zs zp zq ze zh zf zl zk zj zt za zo zb po)) rfl ?_
      cases h
      exact OEnds.iret hm_27 rfl rfl
    · simp only [if_neg hc24] at h
      refine OEnds.icmpT hm_27 rfl (q := 13) rfl ((flt hc24).2.2.2) ?_
      refine OEnds.adv hm_27 1 (pc' := 14) (L' := [qr 1, qi v1, qi v2, qi v3]) (S' := [.int 0]) (H' := (c0 :: bk0 zd zg zr zu zn zm zi zc zs zp zq ze zh zf zl zk zj zt za zo zb po)) rfl ?_
      cases h
      exact OEnds.iret hm_27 rfl rfl
  · simp only [if_neg hc23] at h
    refine OEnds.ifT hm_27 rfl (q := 15) rfl ((feq hc23).2) ?_
    refine OEnds.adv hm_27 2 (pc' := 17) (L' := [qr 1, qi v1, qi v2, qi v3]) (S' := [.int v3, .int v2]) (H' := (c0 :: bk0 zd zg zr zu zn zm zi zc zs zp zq ze zh zf zl zk zj zt za zo zb po)) rfl ?_
    by_cases hc25 : v2 < v3
    · simp only [if_pos hc25] at h
      refine OEnds.icmpF hm_27 rfl ((tlt hc25).2.1) ?_
      refine OEnds.adv hm_27 2 (pc' := 25) (L' := [qr 1, qi v1, qi v2, qi v3]) (S' := [.int 1]) (H' := (c0 :: bk0 zd zg zr zu zn zm zi zc zs zp zq ze zh zf zl zk zj zt za zo zb po)) rfl ?_
      cases h
      exact OEnds.iret hm_27 rfl rfl
    · simp only [if_neg hc25] at h
      refine OEnds.icmpT hm_27 rfl (q := 24) rfl ((flt hc25).2.1) ?_
      refine OEnds.adv hm_27 1 (pc' := 25) (L' := [qr 1, qi v1, qi v2, qi v3]) (S' := [.int 0]) (H' := (c0 :: bk0 zd zg zr zu zn zm zi zc zs zp zq ze zh zf zl zk zj zt za zo zb po)) rfl ?_
      cases h
      exact OEnds.iret hm_27 rfl rfl
theorem ok_bestOf_4_0 {zd zg zr zu zn : List Int32} {zm : List Int64} {zi zc zs zp zq ze zh zf : List Int32} {zl zk zj : Int32} {zt : Int64} {za zo zb : Int32} {c0 : ACell} {po : List ACell} : ∀ (n : Nat), ∀ {v1 v2 v3 : Int32} {d4 d5 : Slot} {res : Int32}, f_bestOf_4 zd zg zc za n v1 v2 v3 = some res → OEnds own_P 8 4 [qr 1, qi v1, qi v2, qi v3, d4, d5] [] (c0 :: bk0 zd zg zr zu zn zm zi zc zs zp zq ze zh zf zl zk zj zt za zo zb po) (some (.int res), (c0 :: bk0 zd zg zr zu zn zm zi zc zs zp zq ze zh zf zl zk zj zt za zo zb po), 0, 0) := by
  intro n
  induction n with
  | zero => intro v1 v2 v3 d4 d5 res h; cases h
  | succ n ih =>
    intro v1 v2 v3 d4 d5 res h
    unfold f_bestOf_4 at h
    refine OEnds.adv hm_8 3 (pc' := 9) (L' := [qr 1, qi v1, qi v2, qi v3, qu, qu]) (S' := [.int za, .int v3]) (H' := (c0 :: bk0 zd zg zr zu zn zm zi zc zs zp zq ze zh zf zl zk zj zt za zo zb po)) rfl ?_
    by_cases hc26 : v3 < za
    · simp only [if_pos hc26] at h
      refine OEnds.icmpF hm_8 rfl ((tlt hc26).2.1) ?_
      refine OEnds.adv hm_8 3 (pc' := 17) (L' := [qr 1, qi v1, qi v2, qi v3, qu, qu]) (S' := [.int v3, .ref 9]) (H' := (c0 :: bk0 zd zg zr zu zn zm zi zc zs zp zq ze zh zf zl zk zj zt za zo zb po)) rfl ?_
      obtain ⟨x18, hx18, h⟩ := bnd h
      refine OEnds.plain hm_8 rfl rfl (x_iaload rfl hx18) ?_
      refine OEnds.adv hm_8 4 (pc' := 26) (L' := [qr 1, qi v1, qi v2, qi v3, qi x18, qu]) (S' := [.int x18, .ref 2]) (H' := (c0 :: bk0 zd zg zr zu zn zm zi zc zs zp zq ze zh zf zl zk zj zt za zo zb po)) rfl ?_
      obtain ⟨x19, hx19, h⟩ := bnd h
      refine OEnds.plain hm_8 rfl rfl (x_iaload rfl hx19) ?_
      refine OEnds.adv hm_8 1 (pc' := 28) (L' := [qr 1, qi v1, qi v2, qi v3, qi x18, qu]) (S' := [.int v1, .int x19]) (H' := (c0 :: bk0 zd zg zr zu zn zm zi zc zs zp zq ze zh zf zl zk zj zt za zo zb po)) rfl ?_
      by_cases hc27 : x19 = v1
      · simp only [if_pos hc27] at h
        refine OEnds.icmpT hm_8 rfl (q := 34) rfl ((teq hc27).1) ?_
        refine OEnds.adv hm_8 3 (pc' := 40) (L' := [qr 1, qi v1, qi v2, qi v3, qi x18, qu]) (S' := [.int x18, .ref 3]) (H' := (c0 :: bk0 zd zg zr zu zn zm zi zc zs zp zq ze zh zf zl zk zj zt za zo zb po)) rfl ?_
        obtain ⟨x20, hx20, h⟩ := bnd h
        refine OEnds.plain hm_8 rfl rfl (x_iaload rfl hx20) ?_
        refine OEnds.adv hm_8 2 (pc' := 44) (L' := [qr 1, qi v1, qi v2, qi v3, qi x18, qi x20]) (S' := [.int v2]) (H' := (c0 :: bk0 zd zg zr zu zn zm zi zc zs zp zq ze zh zf zl zk zj zt za zo zb po)) rfl ?_
        by_cases hc28 : v2 = (0 : Int32)
        · simp only [if_pos hc28] at h
          refine OEnds.ifT hm_8 rfl (q := 58) rfl ((teq hc28).1) ?_
          refine OEnds.adv hm_8 4 (pc' := 4) (L' := [qr 1, qi v1, qi x20, qi (v3 + (1 : Int32)), qi x18, qi x20]) (S' := []) (H' := (c0 :: bk0 zd zg zr zu zn zm zi zc zs zp zq ze zh zf zl zk zj zt za zo zb po)) rfl ?_
          exact ih h
        · simp only [if_neg hc28] at h
          refine OEnds.ifF hm_8 rfl ((feq hc28).1) ?_
          refine OEnds.adv hm_8 4 (pc' := 52) (L' := [qr 1, qi v1, qi v2, qi v3, qi x18, qi x20]) (S' := [.int v2, .int x20, .int v1, .ref 1]) (H' := (c0 :: bk0 zd zg zr zu zn zm zi zc zs zp zq ze zh zf zl zk zj zt za zo zb po)) rfl ?_
          obtain ⟨r21, hq29, h⟩ := bnd h
          refine OEnds.call0 hm_8 rfl rfl (by decide) rfl (as := [.ref 1, .int v1, .int x20, .int v2]) (rest := []) rfl rfl (ok_better_0 hq29) ?_
          show OEnds own_P 8 55 [qr 1, qi v1, qi v2, qi v3, qi x18, qi x20] [.int r21] (c0 :: bk0 zd zg zr zu zn zm zi zc zs zp zq ze zh zf zl zk zj zt za zo zb po) _
          by_cases hc30 : r21 = (0 : Int32)
          · simp only [if_pos hc30] at h
            refine OEnds.ifT hm_8 rfl (q := 61) rfl ((teq hc30).1) ?_
            refine OEnds.adv hm_8 2 (pc' := 4) (L' := [qr 1, qi v1, qi v2, qi (v3 + (1 : Int32)), qi x18, qi x20]) (S' := []) (H' := (c0 :: bk0 zd zg zr zu zn zm zi zc zs zp zq ze zh zf zl zk zj zt za zo zb po)) rfl ?_
            exact ih h
          · simp only [if_neg hc30] at h
            refine OEnds.ifF hm_8 rfl ((feq hc30).1) ?_
            refine OEnds.adv hm_8 4 (pc' := 4) (L' := [qr 1, qi v1, qi x20, qi (v3 + (1 : Int32)), qi x18, qi x20]) (S' := []) (H' := (c0 :: bk0 zd zg zr zu zn zm zi zc zs zp zq ze zh zf zl zk zj zt za zo zb po)) rfl ?_
            exact ih h
      · simp only [if_neg hc27] at h
        refine OEnds.icmpF hm_8 rfl ((feq hc27).1) ?_
        refine OEnds.adv hm_8 3 (pc' := 4) (L' := [qr 1, qi v1, qi v2, qi (v3 + (1 : Int32)), qi x18, qu]) (S' := []) (H' := (c0 :: bk0 zd zg zr zu zn zm zi zc zs zp zq ze zh zf zl zk zj zt za zo zb po)) rfl ?_
        exact ih h
    · simp only [if_neg hc26] at h
      refine OEnds.icmpT hm_8 rfl (q := 67) rfl ((flt hc26).2.1) ?_
      refine OEnds.adv hm_8 1 (pc' := 68) (L' := [qr 1, qi v1, qi v2, qi v3, qu, qu]) (S' := [.int v2]) (H' := (c0 :: bk0 zd zg zr zu zn zm zi zc zs zp zq ze zh zf zl zk zj zt za zo zb po)) rfl ?_
      cases h
      exact OEnds.iret hm_8 rfl rfl
theorem ok_bestOf_0 {zd zg zr zu zn : List Int32} {zm : List Int64} {zi zc zs zp zq ze zh zf : List Int32} {zl zk zj : Int32} {zt : Int64} {za zo zb : Int32} {c0 : ACell} {po : List ACell} {v1 res : Int32} (h : f_bestOf zd zg zc za v1 = some res) : OEnds own_P 8 0 [qr 1, qi v1, qu, qu, qu, qu] [] (c0 :: bk0 zd zg zr zu zn zm zi zc zs zp zq ze zh zf zl zk zj zt za zo zb po) (some (.int res), (c0 :: bk0 zd zg zr zu zn zm zi zc zs zp zq ze zh zf zl zk zj zt za zo zb po), 0, 0) := by
  unfold f_bestOf at h
  refine OEnds.adv hm_8 4 (pc' := 4) (L' := [qr 1, qi v1, qi 0, qi 0, qu, qu]) (S' := []) (H' := (c0 :: bk0 zd zg zr zu zn zm zi zc zs zp zq ze zh zf zl zk zj zt za zo zb po)) rfl ?_
  exact ok_bestOf_4_0 100000 h
theorem ok_crosses_0 {zd zg zr zu zn : List Int32} {zm : List Int64} {zi zc zs zp zq ze zh zf : List Int32} {zl zk zj : Int32} {zt : Int64} {za zo zb : Int32} {c0 : ACell} {po : List ACell} {v1 v2 v3 res : Int32} (h : f_crosses v1 v2 v3 = some res) : OEnds own_P 26 0 [qr 1, qi v1, qi v2, qi v3] [] (c0 :: bk0 zd zg zr zu zn zm zi zc zs zp zq ze zh zf zl zk zj zt za zo zb po) (some (.int res), (c0 :: bk0 zd zg zr zu zn zm zi zc zs zp zq ze zh zf zl zk zj zt za zo zb po), 0, 0) := by
  unfold f_crosses at h
  refine OEnds.adv hm_26 1 (pc' := 1) (L' := [qr 1, qi v1, qi v2, qi v3]) (S' := [.int v1]) (H' := (c0 :: bk0 zd zg zr zu zn zm zi zc zs zp zq ze zh zf zl zk zj zt za zo zb po)) rfl ?_
  by_cases hc31 : v1 = (0 : Int32)
  · simp only [if_pos hc31] at h
    refine OEnds.ifF hm_26 rfl ((teq hc31).2) ?_
    refine OEnds.adv hm_26 2 (pc' := 6) (L' := [qr 1, qi v1, qi v2, qi v3]) (S' := [.int v2, .int v3]) (H' := (c0 :: bk0 zd zg zr zu zn zm zi zc zs zp zq ze zh zf zl zk zj zt za zo zb po)) rfl ?_
    by_cases hc32 : v2 < v3
    · simp only [if_pos hc32] at h
      refine OEnds.icmpT hm_26 rfl (q := 13) rfl ((tlt hc32).2.2.1) ?_
      refine OEnds.adv hm_26 1 (pc' := 14) (L' := [qr 1, qi v1, qi v2, qi v3]) (S' := [.int 0]) (H' := (c0 :: bk0 zd zg zr zu zn zm zi zc zs zp zq ze zh zf zl zk zj zt za zo zb po)) rfl ?_
      cases h
      exact OEnds.iret hm_26 rfl rfl
    · simp only [if_neg hc32] at h
      refine OEnds.icmpF hm_26 rfl ((flt hc32).2.2.1) ?_
      refine OEnds.adv hm_26 2 (pc' := 14) (L' := [qr 1, qi v1, qi v2, qi v3]) (S' := [.int 1]) (H' := (c0 :: bk0 zd zg zr zu zn zm zi zc zs zp zq ze zh zf zl zk zj zt za zo zb po)) rfl ?_
      cases h
      exact OEnds.iret hm_26 rfl rfl
  · simp only [if_neg hc31] at h
    refine OEnds.ifT hm_26 rfl (q := 15) rfl ((feq hc31).2) ?_
    refine OEnds.adv hm_26 2 (pc' := 17) (L' := [qr 1, qi v1, qi v2, qi v3]) (S' := [.int v2, .int v3]) (H' := (c0 :: bk0 zd zg zr zu zn zm zi zc zs zp zq ze zh zf zl zk zj zt za zo zb po)) rfl ?_
    by_cases hc33 : v3 < v2
    · simp only [if_pos hc33] at h
      refine OEnds.icmpT hm_26 rfl (q := 24) rfl ((tlt hc33).1) ?_
      refine OEnds.adv hm_26 1 (pc' := 25) (L' := [qr 1, qi v1, qi v2, qi v3]) (S' := [.int 0]) (H' := (c0 :: bk0 zd zg zr zu zn zm zi zc zs zp zq ze zh zf zl zk zj zt za zo zb po)) rfl ?_
      cases h
      exact OEnds.iret hm_26 rfl rfl
    · simp only [if_neg hc33] at h
      refine OEnds.icmpF hm_26 rfl ((flt hc33).1) ?_
      refine OEnds.adv hm_26 2 (pc' := 25) (L' := [qr 1, qi v1, qi v2, qi v3]) (S' := [.int 1]) (H' := (c0 :: bk0 zd zg zr zu zn zm zi zc zs zp zq ze zh zf zl zk zj zt za zo zb po)) rfl ?_
      cases h
      exact OEnds.iret hm_26 rfl rfl
theorem ok_gatherLevel_7_0 {zd zg zr zu zn : List Int32} {zm : List Int64} {zi zc zs zp zq zh zf : List Int32} {zl zk zj : Int32} {zt : Int64} {za zo : Int32} {c0 : ACell} {po : List ACell} : ∀ (n : Nat), ∀ {ze : List Int32} {zb v1 v2 v3 : Int32} {d4 : Slot} {w_o_lvlIds : List Int32} {w_o_lvlN : Int32}, f_gatherLevel_7 zd zg zc za n ze zb v1 v2 v3 = some (w_o_lvlIds, w_o_lvlN) → OEnds own_P 29 7 [qr 1, qi v1, qi v2, qi v3, d4] [] (c0 :: bk0 zd zg zr zu zn zm zi zc zs zp zq ze zh zf zl zk zj zt za zo zb po) (none, (c0 :: bk0 zd zg zr zu zn zm zi zc zs zp zq w_o_lvlIds zh zf zl zk zj zt za zo w_o_lvlN po), 0, 0) := by
  intro n
  induction n with
  | zero => intro ze zb v1 v2 v3 d4 w_o_lvlIds w_o_lvlN h; cases h
  | succ n ih =>
    intro ze zb v1 v2 v3 d4 w_o_lvlIds w_o_lvlN h
    unfold f_gatherLevel_7 at h
    refine OEnds.adv hm_29 3 (pc' := 12) (L' := [qr 1, qi v1, qi v2, qi v3, qu]) (S' := [.int za, .int v3]) (H' := (c0 :: bk0 zd zg zr zu zn zm zi zc zs zp zq ze zh zf zl zk zj zt za zo zb po)) rfl ?_
    by_cases hc34 : v3 < za
    · simp only [if_pos hc34] at h
      refine OEnds.icmpF hm_29 rfl ((tlt hc34).2.1) ?_
      refine OEnds.adv hm_29 3 (pc' := 20) (L' := [qr 1, qi v1, qi v2, qi v3, qu]) (S' := [.int v3, .ref 9]) (H' := (c0 :: bk0 zd zg zr zu zn zm zi zc zs zp zq ze zh zf zl zk zj zt za zo zb po)) rfl ?_
      obtain ⟨x22, hx22, h⟩ := bnd h
      refine OEnds.plain hm_29 rfl rfl (x_iaload rfl hx22) ?_
      refine OEnds.adv hm_29 4 (pc' := 29) (L' := [qr 1, qi v1, qi v2, qi v3, qi x22]) (S' := [.int x22, .ref 2]) (H' := (c0 :: bk0 zd zg zr zu zn zm zi zc zs zp zq ze zh zf zl zk zj zt za zo zb po)) rfl ?_
      obtain ⟨x23, hx23, h⟩ := bnd h
      refine OEnds.plain hm_29 rfl rfl (x_iaload rfl hx23) ?_
      refine OEnds.adv hm_29 1 (pc' := 31) (L' := [qr 1, qi v1, qi v2, qi v3, qi x22]) (S' := [.int v1, .int x23]) (H' := (c0 :: bk0 zd zg zr zu zn zm zi zc zs zp zq ze zh zf zl zk zj zt za zo zb po)) rfl ?_
      by_cases hc35 : x23 = v1
      · simp only [if_pos hc35] at h
        refine OEnds.icmpF hm_29 rfl ((teq hc35).2) ?_
        refine OEnds.adv hm_29 3 (pc' := 40) (L' := [qr 1, qi v1, qi v2, qi v3, qi x22]) (S' := [.int x22, .ref 3]) (H' := (c0 :: bk0 zd zg zr zu zn zm zi zc zs zp zq ze zh zf zl zk zj zt za zo zb po)) rfl ?_
        obtain ⟨x24, hx24, h⟩ := bnd h
        refine OEnds.plain hm_29 rfl rfl (x_iaload rfl hx24) ?_
        refine OEnds.adv hm_29 1 (pc' := 42) (L' := [qr 1, qi v1, qi v2, qi v3, qi x22]) (S' := [.int v2, .int x24]) (H' := (c0 :: bk0 zd zg zr zu zn zm zi zc zs zp zq ze zh zf zl zk zj zt za zo zb po)) rfl ?_
        by_cases hc36 : x24 = v2
        · simp only [if_pos hc36] at h
          refine OEnds.icmpF hm_29 rfl ((teq hc36).2) ?_
          refine OEnds.adv hm_29 3 (pc' := 51) (L' := [qr 1, qi v1, qi v2, qi v3, qi x22]) (S' := [.int 64, .int zb]) (H' := (c0 :: bk0 zd zg zr zu zn zm zi zc zs zp zq ze zh zf zl zk zj zt za zo zb po)) rfl ?_
          by_cases hc37 : zb < (64 : Int32)
          · simp only [if_pos hc37] at h
            refine OEnds.icmpF hm_29 rfl ((tlt hc37).2.1) ?_
            refine OEnds.adv hm_29 5 (pc' := 64) (L' := [qr 1, qi v1, qi v2, qi v3, qi x22]) (S' := [.int x22, .int zb, .ref 13]) (H' := (c0 :: bk0 zd zg zr zu zn zm zi zc zs zp zq ze zh zf zl zk zj zt za zo zb po)) rfl ?_
            obtain ⟨A25, hA25, h⟩ := bnd h
            refine OEnds.plain hm_29 rfl rfl (x_iastore rfl (Nat.le_of_ble_eq_true rfl) hA25) ?_
            refine OEnds.adv hm_29 8 (pc' := 7) (L' := [qr 1, qi v1, qi v2, qi (v3 + (1 : Int32)), qi x22]) (S' := []) (H' := (c0 :: bk0 zd zg zr zu zn zm zi zc zs zp zq A25 zh zf zl zk zj zt za zo (zb + (1 : Int32)) po)) rfl ?_
            exact ih h
          · simp only [if_neg hc37] at h
            refine OEnds.icmpT hm_29 rfl (q := 75) rfl ((flt hc37).2.1) ?_
            refine OEnds.adv hm_29 2 (pc' := 7) (L' := [qr 1, qi v1, qi v2, qi (v3 + (1 : Int32)), qi x22]) (S' := []) (H' := (c0 :: bk0 zd zg zr zu zn zm zi zc zs zp zq ze zh zf zl zk zj zt za zo zb po)) rfl ?_
            exact ih h
        · simp only [if_neg hc36] at h
          refine OEnds.icmpT hm_29 rfl (q := 75) rfl ((feq hc36).2) ?_
          refine OEnds.adv hm_29 2 (pc' := 7) (L' := [qr 1, qi v1, qi v2, qi (v3 + (1 : Int32)), qi x22]) (S' := []) (H' := (c0 :: bk0 zd zg zr zu zn zm zi zc zs zp zq ze zh zf zl zk zj zt za zo zb po)) rfl ?_
          exact ih h
      · simp only [if_neg hc35] at h
        refine OEnds.icmpT hm_29 rfl (q := 75) rfl ((feq hc35).2) ?_
        refine OEnds.adv hm_29 2 (pc' := 7) (L' := [qr 1, qi v1, qi v2, qi (v3 + (1 : Int32)), qi x22]) (S' := []) (H' := (c0 :: bk0 zd zg zr zu zn zm zi zc zs zp zq ze zh zf zl zk zj zt za zo zb po)) rfl ?_
        exact ih h
    · simp only [if_neg hc34] at h
      refine OEnds.icmpT hm_29 rfl (q := 81) rfl ((flt hc34).2.1) ?_
      show OEnds own_P 29 81 [qr 1, qi v1, qi v2, qi v3, qu] [] (c0 :: bk0 zd zg zr zu zn zm zi zc zs zp zq ze zh zf zl zk zj zt za zo zb po) _
      cases h
      exact OEnds.vret hm_29 rfl rfl
theorem ok_gatherLevel_0 {zd zg zr zu zn : List Int32} {zm : List Int64} {zi zc zs zp zq zh zf : List Int32} {zl zk zj : Int32} {zt : Int64} {za zo : Int32} {c0 : ACell} {po : List ACell} {ze : List Int32} {zb v1 v2 : Int32} {w_o_lvlIds : List Int32} {w_o_lvlN : Int32} (h : f_gatherLevel zd zg zc za ze zb v1 v2 = some (w_o_lvlIds, w_o_lvlN)) : OEnds own_P 29 0 [qr 1, qi v1, qi v2, qu, qu] [] (c0 :: bk0 zd zg zr zu zn zm zi zc zs zp zq ze zh zf zl zk zj zt za zo zb po) (none, (c0 :: bk0 zd zg zr zu zn zm zi zc zs zp zq w_o_lvlIds zh zf zl zk zj zt za zo w_o_lvlN po), 0, 0) := by
  unfold f_gatherLevel at h
  refine OEnds.adv hm_29 5 (pc' := 7) (L' := [qr 1, qi v1, qi v2, qi 0, qu]) (S' := []) (H' := (c0 :: bk0 zd zg zr zu zn zm zi zc zs zp zq ze zh zf zl zk zj zt za zo 0 po)) rfl ?_
  exact ok_gatherLevel_7_0 100000 h
theorem ok_sortLevel_73_0 {zd zg zr zu zn : List Int32} {zm : List Int64} {zi zc zs zp zq zh zf : List Int32} {zl zk zj : Int32} {zt : Int64} {za zo zb : Int32} {c0 : ACell} {po : List ACell} {kb : List Int32 → Int32 → Option (List Int32)} (hkb : ∀ {ze : List Int32} {v1 : Int32} {d2 d3 d4 d5 : Slot} {w_o_lvlIds : List Int32}, kb ze v1 = some w_o_lvlIds → OEnds own_P 30 2 [qr 1, qi v1, d2, d3, d4, d5] [] (c0 :: bk0 zd zg zr zu zn zm zi zc zs zp zq ze zh zf zl zk zj zt za zo zb po) (none, (c0 :: bk0 zd zg zr zu zn zm zi zc zs zp zq w_o_lvlIds zh zf zl zk zj zt za zo zb po), 0, 0)) : ∀ {ze : List Int32} {v1 v2 v5 : Int32} {d3 d4 : Slot} {w_o_lvlIds : List Int32}, f_sortLevel_73 kb zm zb ze v1 v2 v5 = some w_o_lvlIds → OEnds own_P 30 73 [qr 1, qi v1, qi v2, d3, d4, qi v5] [] (c0 :: bk0 zd zg zr zu zn zm zi zc zs zp zq ze zh zf zl zk zj zt za zo zb po) (none, (c0 :: bk0 zd zg zr zu zn zm zi zc zs zp zq w_o_lvlIds zh zf zl zk zj zt za zo zb po), 0, 0) := by
  intro ze v1 v2 v5 d3 d4 w_o_lvlIds h
  unfold f_sortLevel_73 at h
  refine OEnds.adv hm_30 4 (pc' := 80) (L' := [qr 1, qi v1, qi v2, qu, qu, qi v5]) (S' := [.int v2, .int v5, .ref 13]) (H' := (c0 :: bk0 zd zg zr zu zn zm zi zc zs zp zq ze zh zf zl zk zj zt za zo zb po)) rfl ?_
  obtain ⟨A32, hA32, h⟩ := bnd h
  refine OEnds.plain hm_30 rfl rfl (x_iastore rfl (Nat.le_of_ble_eq_true rfl) hA32) ?_
  refine OEnds.adv hm_30 2 (pc' := 2) (L' := [qr 1, qi (v1 + (1 : Int32)), qi v2, qu, qu, qi v5]) (S' := []) (H' := (c0 :: bk0 zd zg zr zu zn zm zi zc zs zp zq A32 zh zf zl zk zj zt za zo zb po)) rfl ?_
  exact hkb h
theorem ok_sortLevel_27_0 {zd zg zr zu zn : List Int32} {zm : List Int64} {zi zc zs zp zq zh zf : List Int32} {zl zk zj : Int32} {zt : Int64} {za zo zb : Int32} {c0 : ACell} {po : List ACell} {k73 : List Int32 → Int32 → Int32 → Int32 → Option (List Int32)} (hk73 : ∀ {ze : List Int32} {v1 v2 v5 : Int32} {d3 d4 : Slot} {w_o_lvlIds : List Int32}, k73 ze v1 v2 v5 = some w_o_lvlIds → OEnds own_P 30 73 [qr 1, qi v1, qi v2, d3, d4, qi v5] [] (c0 :: bk0 zd zg zr zu zn zm zi zc zs zp zq ze zh zf zl zk zj zt za zo zb po) (none, (c0 :: bk0 zd zg zr zu zn zm zi zc zs zp zq w_o_lvlIds zh zf zl zk zj zt za zo zb po), 0, 0)) : ∀ (n : Nat), ∀ {ze : List Int32} {v1 v2 : Int32} {v3 : Int64} {v5 : Int32} {w_o_lvlIds : List Int32}, f_sortLevel_27 k73 zm zb n ze v1 v2 v3 v5 = some w_o_lvlIds → OEnds own_P 30 27 [qr 1, qi v1, qi v2, ql v3, qw, qi v5] [] (c0 :: bk0 zd zg zr zu zn zm zi zc zs zp zq ze zh zf zl zk zj zt za zo zb po) (none, (c0 :: bk0 zd zg zr zu zn zm zi zc zs zp zq w_o_lvlIds zh zf zl zk zj zt za zo zb po), 0, 0) := by
  intro n
  induction n with
  | zero => intro ze v1 v2 v3 v5 w_o_lvlIds h; cases h
  | succ n ih =>
    intro ze v1 v2 v3 v5 w_o_lvlIds h
    unfold f_sortLevel_27 at h
    refine OEnds.adv hm_30 1 (pc' := 29) (L' := [qr 1, qi v1, qi v2, ql v3, qw, qi v5]) (S' := [.int v5]) (H' := (c0 :: bk0 zd zg zr zu zn zm zi zc zs zp zq ze zh zf zl zk zj zt za zo zb po)) rfl ?_
    by_cases hc38 : (0 : Int32) < v5
    · simp only [if_pos hc38] at h
      refine OEnds.ifF hm_30 rfl ((tlt hc38).2.2.2) ?_
      refine OEnds.adv hm_30 7 (pc' := 44) (L' := [qr 1, qi v1, qi v2, ql v3, qw, qi v5]) (S' := [.int (v5 - (1 : Int32)), .ref 13, .ref 7]) (H' := (c0 :: bk0 zd zg zr zu zn zm zi zc zs zp zq ze zh zf zl zk zj zt za zo zb po)) rfl ?_
      obtain ⟨x28, hx28, h⟩ := bnd h
      refine OEnds.plain hm_30 rfl rfl (x_iaload rfl hx28) ?_
      show OEnds own_P 30 45 [qr 1, qi v1, qi v2, ql v3, qw, qi v5] [.int x28, .ref 7] (c0 :: bk0 zd zg zr zu zn zm zi zc zs zp zq ze zh zf zl zk zj zt za zo zb po) _
      obtain ⟨x29, hx29, h⟩ := bnd h
      refine OEnds.plain hm_30 rfl rfl (x_laload rfl hx29) ?_
      refine OEnds.adv hm_30 2 (pc' := 48) (L' := [qr 1, qi v1, qi v2, ql v3, qw, qi v5]) (S' := [.int (XT.cmpL x29 v3)]) (H' := (c0 :: bk0 zd zg zr zu zn zm zi zc zs zp zq ze zh zf zl zk zj zt za zo zb po)) rfl ?_
      by_cases hc39 : v3 < x29
      · simp only [if_pos hc39] at h
        refine OEnds.ifF hm_30 rfl ((tlt (c_gt.mpr hc39)).2.2.2) ?_
        refine OEnds.adv hm_30 8 (pc' := 65) (L' := [qr 1, qi v1, qi v2, ql v3, qw, qi v5]) (S' := [.int (v5 - (1 : Int32)), .ref 13, .int v5, .ref 13]) (H' := (c0 :: bk0 zd zg zr zu zn zm zi zc zs zp zq ze zh zf zl zk zj zt za zo zb po)) rfl ?_
        obtain ⟨x30, hx30, h⟩ := bnd h
        refine OEnds.plain hm_30 rfl rfl (x_iaload rfl hx30) ?_
        show OEnds own_P 30 66 [qr 1, qi v1, qi v2, ql v3, qw, qi v5] [.int x30, .int v5, .ref 13] (c0 :: bk0 zd zg zr zu zn zm zi zc zs zp zq ze zh zf zl zk zj zt za zo zb po) _
        obtain ⟨A31, hA31, h⟩ := bnd h
        refine OEnds.plain hm_30 rfl rfl (x_iastore rfl (Nat.le_of_ble_eq_true rfl) hA31) ?_
        refine OEnds.adv hm_30 2 (pc' := 27) (L' := [qr 1, qi v1, qi v2, ql v3, qw, qi (v5 + (-1 : Int32))]) (S' := []) (H' := (c0 :: bk0 zd zg zr zu zn zm zi zc zs zp zq A31 zh zf zl zk zj zt za zo zb po)) rfl ?_
        exact ih h
      · simp only [if_neg hc39] at h
        refine OEnds.ifT hm_30 rfl (q := 73) rfl ((flt (mt c_gt.mp hc39)).2.2.2) ?_
        show OEnds own_P 30 73 [qr 1, qi v1, qi v2, ql v3, qw, qi v5] [] (c0 :: bk0 zd zg zr zu zn zm zi zc zs zp zq ze zh zf zl zk zj zt za zo zb po) _
        exact hk73 h
    · simp only [if_neg hc38] at h
      refine OEnds.ifT hm_30 rfl (q := 73) rfl ((flt hc38).2.2.2) ?_
      show OEnds own_P 30 73 [qr 1, qi v1, qi v2, ql v3, qw, qi v5] [] (c0 :: bk0 zd zg zr zu zn zm zi zc zs zp zq ze zh zf zl zk zj zt za zo zb po) _
      exact hk73 h
theorem ok_sortLevel_2_0 {zd zg zr zu zn : List Int32} {zm : List Int64} {zi zc zs zp zq zh zf : List Int32} {zl zk zj : Int32} {zt : Int64} {za zo zb : Int32} {c0 : ACell} {po : List ACell} : ∀ (n : Nat), ∀ {ze : List Int32} {v1 : Int32} {d2 d3 d4 d5 : Slot} {w_o_lvlIds : List Int32}, f_sortLevel_2 zm zb n ze v1 = some w_o_lvlIds → OEnds own_P 30 2 [qr 1, qi v1, d2, d3, d4, d5] [] (c0 :: bk0 zd zg zr zu zn zm zi zc zs zp zq ze zh zf zl zk zj zt za zo zb po) (none, (c0 :: bk0 zd zg zr zu zn zm zi zc zs zp zq w_o_lvlIds zh zf zl zk zj zt za zo zb po), 0, 0) := by
  intro n
  induction n with
  | zero => intro ze v1 d2 d3 d4 d5 w_o_lvlIds h; cases h
  | succ n ih =>
    intro ze v1 d2 d3 d4 d5 w_o_lvlIds h
    unfold f_sortLevel_2 at h
    refine OEnds.adv hm_30 3 (pc' := 7) (L' := [qr 1, qi v1, qu, qu, qu, qu]) (S' := [.int zb, .int v1]) (H' := (c0 :: bk0 zd zg zr zu zn zm zi zc zs zp zq ze zh zf zl zk zj zt za zo zb po)) rfl ?_
    by_cases hc40 : v1 < zb
    · simp only [if_pos hc40] at h
      refine OEnds.icmpF hm_30 rfl ((tlt hc40).2.1) ?_
      refine OEnds.adv hm_30 3 (pc' := 15) (L' := [qr 1, qi v1, qu, qu, qu, qu]) (S' := [.int v1, .ref 13]) (H' := (c0 :: bk0 zd zg zr zu zn zm zi zc zs zp zq ze zh zf zl zk zj zt za zo zb po)) rfl ?_
      obtain ⟨x26, hx26, h⟩ := bnd h
      refine OEnds.plain hm_30 rfl rfl (x_iaload rfl hx26) ?_
      refine OEnds.adv hm_30 4 (pc' := 22) (L' := [qr 1, qi v1, qi x26, qu, qu, qu]) (S' := [.int x26, .ref 7]) (H' := (c0 :: bk0 zd zg zr zu zn zm zi zc zs zp zq ze zh zf zl zk zj zt za zo zb po)) rfl ?_
      obtain ⟨x27, hx27, h⟩ := bnd h
      refine OEnds.plain hm_30 rfl rfl (x_laload rfl hx27) ?_
      refine OEnds.adv hm_30 3 (pc' := 27) (L' := [qr 1, qi v1, qi x26, ql x27, qw, qi v1]) (S' := []) (H' := (c0 :: bk0 zd zg zr zu zn zm zi zc zs zp zq ze zh zf zl zk zj zt za zo zb po)) rfl ?_
      exact ok_sortLevel_27_0 (k73 := f_sortLevel_73 (f_sortLevel_2 zm zb n) zm zb) (ok_sortLevel_73_0 ih) 100000 h
    · simp only [if_neg hc40] at h
      refine OEnds.icmpT hm_30 rfl (q := 87) rfl ((flt hc40).2.1) ?_
      show OEnds own_P 30 87 [qr 1, qi v1, qu, qu, qu, qu] [] (c0 :: bk0 zd zg zr zu zn zm zi zc zs zp zq ze zh zf zl zk zj zt za zo zb po) _
      cases h
      exact OEnds.vret hm_30 rfl rfl
theorem ok_sortLevel_0 {zd zg zr zu zn : List Int32} {zm : List Int64} {zi zc zs zp zq zh zf : List Int32} {zl zk zj : Int32} {zt : Int64} {za zo zb : Int32} {c0 : ACell} {po : List ACell} {ze w_o_lvlIds : List Int32} (h : f_sortLevel zm zb ze = some w_o_lvlIds) : OEnds own_P 30 0 [qr 1, qu, qu, qu, qu, qu] [] (c0 :: bk0 zd zg zr zu zn zm zi zc zs zp zq ze zh zf zl zk zj zt za zo zb po) (none, (c0 :: bk0 zd zg zr zu zn zm zi zc zs zp zq w_o_lvlIds zh zf zl zk zj zt za zo zb po), 0, 0) := by
  unfold f_sortLevel at h
  refine OEnds.adv hm_30 2 (pc' := 2) (L' := [qr 1, qi 1, qu, qu, qu, qu]) (S' := []) (H' := (c0 :: bk0 zd zg zr zu zn zm zi zc zs zp zq ze zh zf zl zk zj zt za zo zb po)) rfl ?_
  exact ok_sortLevel_2_0 100000 h
theorem ok_topStep_80_0 {zd zg zr zu zn : List Int32} {zm : List Int64} {zi zc zs zp zq ze zh : List Int32} {zl zk zj : Int32} {zt : Int64} {za zo zb : Int32} {c0 : ACell} {po : List ACell} : ∀ {zf : List Int32} {v2 v4 : Int32} {d1 d3 : Slot} {res : Int32} {w_o_lvlA : List Int32}, f_topStep_80 zi ze zh zk zb zf v2 v4 = some (res, w_o_lvlA) → OEnds own_P 32 80 [qr 1, d1, qi v2, d3, qi v4] [] (c0 :: bk0 zd zg zr zu zn zm zi zc zs zp zq ze zh zf zl zk zj zt za zo zb po) (some (.int res), (c0 :: bk0 zd zg zr zu zn zm zi zc zs zp zq ze zh w_o_lvlA zl zk zj zt za zo zb po), 0, 0) := by
  intro zf v2 v4 d1 d3 res w_o_lvlA h
  unfold f_topStep_80 at h
  refine OEnds.adv hm_32 4 (pc' := 86) (L' := [qr 1, qu, qi v2, qu, qi v4]) (S' := [.int v2, .ref 15, .int v2, .ref 15]) (H' := (c0 :: bk0 zd zg zr zu zn zm zi zc zs zp zq ze zh zf zl zk zj zt za zo zb po)) rfl ?_
  obtain ⟨x37, hx37, h⟩ := bnd h
  refine OEnds.plain hm_32 rfl rfl (x_iaload rfl hx37) ?_
  refine OEnds.adv hm_32 2 (pc' := 90) (L' := [qr 1, qu, qi v2, qu, qi v4]) (S' := [.int (x37 + v4), .int v2, .ref 15]) (H' := (c0 :: bk0 zd zg zr zu zn zm zi zc zs zp zq ze zh zf zl zk zj zt za zo zb po)) rfl ?_
  obtain ⟨A38, hA38, h⟩ := bnd h
  refine OEnds.plain hm_32 rfl rfl (x_iastore rfl (Nat.le_of_ble_eq_true rfl) hA38) ?_
  refine OEnds.adv hm_32 1 (pc' := 93) (L' := [qr 1, qu, qi v2, qu, qi v4]) (S' := [.int v4]) (H' := (c0 :: bk0 zd zg zr zu zn zm zi zc zs zp zq ze zh A38 zl zk zj zt za zo zb po)) rfl ?_
  cases h
  exact OEnds.iret hm_32 rfl rfl
theorem ok_topStep_72_0 {zd zg zr zu zn : List Int32} {zm : List Int64} {zi zc zs zp zq ze zh : List Int32} {zl zk zj : Int32} {zt : Int64} {za zo zb : Int32} {c0 : ACell} {po : List ACell} : ∀ {zf : List Int32} {v2 v4 : Int32} {d1 d3 : Slot} {res : Int32} {w_o_lvlA : List Int32}, f_topStep_72 zi ze zh zk zb zf v2 v4 = some (res, w_o_lvlA) → OEnds own_P 32 72 [qr 1, d1, qi v2, d3, qi v4] [] (c0 :: bk0 zd zg zr zu zn zm zi zc zs zp zq ze zh zf zl zk zj zt za zo zb po) (some (.int res), (c0 :: bk0 zd zg zr zu zn zm zi zc zs zp zq ze zh w_o_lvlA zl zk zj zt za zo zb po), 0, 0) := by
  intro zf v2 v4 d1 d3 res w_o_lvlA h
  unfold f_topStep_72 at h
  refine OEnds.adv hm_32 1 (pc' := 74) (L' := [qr 1, qu, qi v2, qu, qi v4]) (S' := [.int v4]) (H' := (c0 :: bk0 zd zg zr zu zn zm zi zc zs zp zq ze zh zf zl zk zj zt za zo zb po)) rfl ?_
  by_cases hc41 : v4 < (0 : Int32)
  · simp only [if_pos hc41] at h
    refine OEnds.ifF hm_32 rfl ((tlt hc41).2.1) ?_
    refine OEnds.adv hm_32 2 (pc' := 80) (L' := [qr 1, qu, qi v2, qu, qi 0]) (S' := []) (H' := (c0 :: bk0 zd zg zr zu zn zm zi zc zs zp zq ze zh zf zl zk zj zt za zo zb po)) rfl ?_
    exact ok_topStep_80_0 h
  · simp only [if_neg hc41] at h
    refine OEnds.ifT hm_32 rfl (q := 80) rfl ((flt hc41).2.1) ?_
    show OEnds own_P 32 80 [qr 1, qu, qi v2, qu, qi v4] [] (c0 :: bk0 zd zg zr zu zn zm zi zc zs zp zq ze zh zf zl zk zj zt za zo zb po) _
    exact ok_topStep_80_0 h
theorem ok_topStep_57_0 {zd zg zr zu zn : List Int32} {zm : List Int64} {zi zc zs zp zq ze zh : List Int32} {zl zk zj : Int32} {zt : Int64} {za zo zb : Int32} {c0 : ACell} {po : List ACell} : ∀ {zf : List Int32} {v2 v4 : Int32} {d1 d3 : Slot} {res : Int32} {w_o_lvlA : List Int32}, f_topStep_57 zi ze zh zk zb zf v2 v4 = some (res, w_o_lvlA) → OEnds own_P 32 57 [qr 1, d1, qi v2, d3, qi v4] [] (c0 :: bk0 zd zg zr zu zn zm zi zc zs zp zq ze zh zf zl zk zj zt za zo zb po) (some (.int res), (c0 :: bk0 zd zg zr zu zn zm zi zc zs zp zq ze zh w_o_lvlA zl zk zj zt za zo zb po), 0, 0) := by
  intro zf v2 v4 d1 d3 res w_o_lvlA h
  unfold f_topStep_57 at h
  refine OEnds.adv hm_32 3 (pc' := 63) (L' := [qr 1, qu, qi v2, qu, qi v4]) (S' := [.int v4, .int zk]) (H' := (c0 :: bk0 zd zg zr zu zn zm zi zc zs zp zq ze zh zf zl zk zj zt za zo zb po)) rfl ?_
  by_cases hc42 : zk < v4
  · simp only [if_pos hc42] at h
    refine OEnds.icmpF hm_32 rfl ((tlt hc42).2.1) ?_
    refine OEnds.adv hm_32 3 (pc' := 72) (L' := [qr 1, qu, qi v2, qu, qi zk]) (S' := []) (H' := (c0 :: bk0 zd zg zr zu zn zm zi zc zs zp zq ze zh zf zl zk zj zt za zo zb po)) rfl ?_
    exact ok_topStep_72_0 h
  · simp only [if_neg hc42] at h
    refine OEnds.icmpT hm_32 rfl (q := 72) rfl ((flt hc42).2.1) ?_
    show OEnds own_P 32 72 [qr 1, qu, qi v2, qu, qi v4] [] (c0 :: bk0 zd zg zr zu zn zm zi zc zs zp zq ze zh zf zl zk zj zt za zo zb po) _
    exact ok_topStep_72_0 h
theorem ok_topStep_35_0 {zd zg zr zu zn : List Int32} {zm : List Int64} {zi zc zs zp zq ze zh : List Int32} {zl zk zj : Int32} {zt : Int64} {za zo zb : Int32} {c0 : ACell} {po : List ACell} : ∀ {zf : List Int32} {v1 v2 : Int32} {d3 d4 : Slot} {res : Int32} {w_o_lvlA : List Int32}, f_topStep_35 zi ze zh zk zb zf v1 v2 = some (res, w_o_lvlA) → OEnds own_P 32 35 [qr 1, qi v1, qi v2, d3, d4] [] (c0 :: bk0 zd zg zr zu zn zm zi zc zs zp zq ze zh zf zl zk zj zt za zo zb po) (some (.int res), (c0 :: bk0 zd zg zr zu zn zm zi zc zs zp zq ze zh w_o_lvlA zl zk zj zt za zo zb po), 0, 0) := by
  intro zf v1 v2 d3 d4 res w_o_lvlA h
  unfold f_topStep_35 at h
  refine OEnds.adv hm_32 5 (pc' := 43) (L' := [qr 1, qi v1, qi v2, qu, qi v1]) (S' := [.int v2, .ref 14]) (H' := (c0 :: bk0 zd zg zr zu zn zm zi zc zs zp zq ze zh zf zl zk zj zt za zo zb po)) rfl ?_
  obtain ⟨x35, hx35, h⟩ := bnd h
  refine OEnds.plain hm_32 rfl rfl (x_iaload rfl hx35) ?_
  refine OEnds.adv hm_32 1 (pc' := 46) (L' := [qr 1, qi v1, qi v2, qu, qi v1]) (S' := [.int v1, .int x35]) (H' := (c0 :: bk0 zd zg zr zu zn zm zi zc zs zp zq ze zh zf zl zk zj zt za zo zb po)) rfl ?_
  by_cases hc43 : x35 < v1
  · simp only [if_pos hc43] at h
    refine OEnds.icmpF hm_32 rfl ((tlt hc43).2.1) ?_
    refine OEnds.adv hm_32 3 (pc' := 54) (L' := [qr 1, qi v1, qi v2, qu, qi v1]) (S' := [.int v2, .ref 14]) (H' := (c0 :: bk0 zd zg zr zu zn zm zi zc zs zp zq ze zh zf zl zk zj zt za zo zb po)) rfl ?_
    obtain ⟨x36, hx36, h⟩ := bnd h
    refine OEnds.plain hm_32 rfl rfl (x_iaload rfl hx36) ?_
    refine OEnds.adv hm_32 1 (pc' := 57) (L' := [qr 1, qi v1, qi v2, qu, qi x36]) (S' := []) (H' := (c0 :: bk0 zd zg zr zu zn zm zi zc zs zp zq ze zh zf zl zk zj zt za zo zb po)) rfl ?_
    exact ok_topStep_57_0 h
  · simp only [if_neg hc43] at h
    refine OEnds.icmpT hm_32 rfl (q := 57) rfl ((flt hc43).2.1) ?_
    show OEnds own_P 32 57 [qr 1, qi v1, qi v2, qu, qi v1] [] (c0 :: bk0 zd zg zr zu zn zm zi zc zs zp zq ze zh zf zl zk zj zt za zo zb po) _
    exact ok_topStep_57_0 h
theorem ok_topStep_11_0 {zd zg zr zu zn : List Int32} {zm : List Int64} {zi zc zs zp zq ze zh : List Int32} {zl zk zj : Int32} {zt : Int64} {za zo zb : Int32} {c0 : ACell} {po : List ACell} {k35 : List Int32 → Int32 → Int32 → Option (Int32 × List Int32)} (hk35 : ∀ {zf : List Int32} {v1 v2 : Int32} {d3 d4 : Slot} {res : Int32} {w_o_lvlA : List Int32}, k35 zf v1 v2 = some (res, w_o_lvlA) → OEnds own_P 32 35 [qr 1, qi v1, qi v2, d3, d4] [] (c0 :: bk0 zd zg zr zu zn zm zi zc zs zp zq ze zh zf zl zk zj zt za zo zb po) (some (.int res), (c0 :: bk0 zd zg zr zu zn zm zi zc zs zp zq ze zh w_o_lvlA zl zk zj zt za zo zb po), 0, 0)) : ∀ (n : Nat), ∀ {zf : List Int32} {v1 v2 : Int32} {d3 d4 : Slot} {res : Int32} {w_o_lvlA : List Int32}, f_topStep_11 k35 zi ze zh zk zb n zf v1 v2 = some (res, w_o_lvlA) → OEnds own_P 32 11 [qr 1, qi v1, qi v2, d3, d4] [] (c0 :: bk0 zd zg zr zu zn zm zi zc zs zp zq ze zh zf zl zk zj zt za zo zb po) (some (.int res), (c0 :: bk0 zd zg zr zu zn zm zi zc zs zp zq ze zh w_o_lvlA zl zk zj zt za zo zb po), 0, 0) := by
  intro n
  induction n with
  | zero => intro zf v1 v2 d3 d4 res w_o_lvlA h; cases h
  | succ n ih =>
    intro zf v1 v2 d3 d4 res w_o_lvlA h
    unfold f_topStep_11 at h
    refine OEnds.adv hm_32 3 (pc' := 16) (L' := [qr 1, qi v1, qi v2, qu, qu]) (S' := [.int zb, .int v2]) (H' := (c0 :: bk0 zd zg zr zu zn zm zi zc zs zp zq ze zh zf zl zk zj zt za zo zb po)) rfl ?_
    by_cases hc44 : v2 < zb
    · simp only [if_pos hc44] at h
      refine OEnds.icmpF hm_32 rfl ((tlt hc44).2.1) ?_
      refine OEnds.adv hm_32 3 (pc' := 24) (L' := [qr 1, qi v1, qi v2, qu, qu]) (S' := [.int v2, .ref 13]) (H' := (c0 :: bk0 zd zg zr zu zn zm zi zc zs zp zq ze zh zf zl zk zj zt za zo zb po)) rfl ?_
      obtain ⟨x33, hx33, h⟩ := bnd h
      refine OEnds.plain hm_32 rfl rfl (x_iaload rfl hx33) ?_
      refine OEnds.adv hm_32 4 (pc' := 31) (L' := [qr 1, qi v1, qi v2, qi x33, qu]) (S' := [.int x33, .ref 8]) (H' := (c0 :: bk0 zd zg zr zu zn zm zi zc zs zp zq ze zh zf zl zk zj zt za zo zb po)) rfl ?_
      obtain ⟨x34, hx34, h⟩ := bnd h
      refine OEnds.plain hm_32 rfl rfl (x_baload rfl hx34) ?_
      show OEnds own_P 32 32 [qr 1, qi v1, qi v2, qi x33, qu] [.int x34] (c0 :: bk0 zd zg zr zu zn zm zi zc zs zp zq ze zh zf zl zk zj zt za zo zb po) _
      by_cases hc45 : x34 = (0 : Int32)
      · simp only [if_pos hc45] at h
        refine OEnds.ifT hm_32 rfl (q := 94) rfl ((teq hc45).1) ?_
        refine OEnds.adv hm_32 2 (pc' := 11) (L' := [qr 1, qi v1, qi (v2 + (1 : Int32)), qi x33, qu]) (S' := []) (H' := (c0 :: bk0 zd zg zr zu zn zm zi zc zs zp zq ze zh zf zl zk zj zt za zo zb po)) rfl ?_
        exact ih h
      · simp only [if_neg hc45] at h
        refine OEnds.ifF hm_32 rfl ((feq hc45).1) ?_
        show OEnds own_P 32 35 [qr 1, qi v1, qi v2, qi x33, qu] [] (c0 :: bk0 zd zg zr zu zn zm zi zc zs zp zq ze zh zf zl zk zj zt za zo zb po) _
        exact hk35 h
    · simp only [if_neg hc44] at h
      refine OEnds.icmpT hm_32 rfl (q := 100) rfl ((flt hc44).2.1) ?_
      refine OEnds.adv hm_32 1 (pc' := 101) (L' := [qr 1, qi v1, qi v2, qu, qu]) (S' := [.int 0]) (H' := (c0 :: bk0 zd zg zr zu zn zm zi zc zs zp zq ze zh zf zl zk zj zt za zo zb po)) rfl ?_
      cases h
      exact OEnds.iret hm_32 rfl rfl
theorem ok_topStep_0 {zd zg zr zu zn : List Int32} {zm : List Int64} {zi zc zs zp zq ze zh : List Int32} {zl zk zj : Int32} {zt : Int64} {za zo zb : Int32} {c0 : ACell} {po : List ACell} {zf : List Int32} {v1 res : Int32} {w_o_lvlA : List Int32} (h : f_topStep zi ze zh zk zb zf v1 = some (res, w_o_lvlA)) : OEnds own_P 32 0 [qr 1, qi v1, qu, qu, qu] [] (c0 :: bk0 zd zg zr zu zn zm zi zc zs zp zq ze zh zf zl zk zj zt za zo zb po) (some (.int res), (c0 :: bk0 zd zg zr zu zn zm zi zc zs zp zq ze zh w_o_lvlA zl zk zj zt za zo zb po), 0, 0) := by
  unfold f_topStep at h
  refine OEnds.adv hm_32 2 (pc' := 4) (L' := [qr 1, qi v1, qu, qu, qu]) (S' := [.int zk]) (H' := (c0 :: bk0 zd zg zr zu zn zm zi zc zs zp zq ze zh zf zl zk zj zt za zo zb po)) rfl ?_
  by_cases hc46 : (0 : Int32) < zk
  · simp only [if_pos hc46] at h
    refine OEnds.ifT hm_32 rfl (q := 9) rfl ((tlt hc46).2.2.1) ?_
    refine OEnds.adv hm_32 2 (pc' := 11) (L' := [qr 1, qi v1, qi 0, qu, qu]) (S' := []) (H' := (c0 :: bk0 zd zg zr zu zn zm zi zc zs zp zq ze zh zf zl zk zj zt za zo zb po)) rfl ?_
    exact ok_topStep_11_0 (k35 := f_topStep_35 zi ze zh zk zb) ok_topStep_35_0 100000 h
  · simp only [if_neg hc46] at h
    refine OEnds.ifF hm_32 rfl ((flt hc46).2.2.1) ?_
    refine OEnds.adv hm_32 1 (pc' := 8) (L' := [qr 1, qi v1, qu, qu, qu]) (S' := [.int 0]) (H' := (c0 :: bk0 zd zg zr zu zn zm zi zc zs zp zq ze zh zf zl zk zj zt za zo zb po)) rfl ?_
    cases h
    exact OEnds.iret hm_32 rfl rfl
theorem ok_proRataStep_102_0 {zd zg zr zu zn : List Int32} {zm : List Int64} {zi zc zs zp zq ze zh : List Int32} {zl zk zj : Int32} {zt : Int64} {za zo zb : Int32} {c0 : ACell} {po : List ACell} {kb : List Int32 → Int32 → Int64 → Int32 → Int32 → Option (Int32 × List Int32)} (hkb : ∀ {zf : List Int32} {v1 : Int32} {v2 : Int64} {v4 v5 : Int32} {d6 d7 d8 : Slot} {res : Int32} {w_o_lvlA : List Int32}, kb zf v1 v2 v4 v5 = some (res, w_o_lvlA) → OEnds own_P 35 53 [qr 1, qi v1, ql v2, qw, qi v4, qi v5, d6, d7, d8] [] (c0 :: bk0 zd zg zr zu zn zm zi zc zs zp zq ze zh zf zl zk zj zt za zo zb po) (some (.int res), (c0 :: bk0 zd zg zr zu zn zm zi zc zs zp zq ze zh w_o_lvlA zl zk zj zt za zo zb po), 0, 0)) : ∀ {zf : List Int32} {v1 : Int32} {v2 : Int64} {v4 v5 v8 : Int32} {d6 d7 : Slot} {res : Int32} {w_o_lvlA : List Int32}, f_proRataStep_102 kb zh zl zb zf v1 v2 v4 v5 v8 = some (res, w_o_lvlA) → OEnds own_P 35 102 [qr 1, qi v1, ql v2, qw, qi v4, qi v5, d6, d7, qi v8] [] (c0 :: bk0 zd zg zr zu zn zm zi zc zs zp zq ze zh zf zl zk zj zt za zo zb po) (some (.int res), (c0 :: bk0 zd zg zr zu zn zm zi zc zs zp zq ze zh w_o_lvlA zl zk zj zt za zo zb po), 0, 0) := by
  intro zf v1 v2 v4 v5 v8 d6 d7 res w_o_lvlA h
  unfold f_proRataStep_102 at h
  refine OEnds.adv hm_35 4 (pc' := 109) (L' := [qr 1, qi v1, ql v2, qw, qi v4, qi v5, qu, qu, qi v8]) (S' := [.int v5, .ref 15, .int v5, .ref 15]) (H' := (c0 :: bk0 zd zg zr zu zn zm zi zc zs zp zq ze zh zf zl zk zj zt za zo zb po)) rfl ?_
  obtain ⟨x43, hx43, h⟩ := bnd h
  refine OEnds.plain hm_35 rfl rfl (x_iaload rfl hx43) ?_
  refine OEnds.adv hm_35 2 (pc' := 113) (L' := [qr 1, qi v1, ql v2, qw, qi v4, qi v5, qu, qu, qi v8]) (S' := [.int (x43 + v8), .int v5, .ref 15]) (H' := (c0 :: bk0 zd zg zr zu zn zm zi zc zs zp zq ze zh zf zl zk zj zt za zo zb po)) rfl ?_
  obtain ⟨A44, hA44, h⟩ := bnd h
  refine OEnds.plain hm_35 rfl rfl (x_iastore rfl (Nat.le_of_ble_eq_true rfl) hA44) ?_
  refine OEnds.adv hm_35 6 (pc' := 53) (L' := [qr 1, qi v1, ql v2, qw, qi (v4 + v8), qi (v5 + (1 : Int32)), qu, qu, qi v8]) (S' := []) (H' := (c0 :: bk0 zd zg zr zu zn zm zi zc zs zp zq ze zh A44 zl zk zj zt za zo zb po)) rfl ?_
  exact hkb h
theorem ok_proRataStep_53_0 {zd zg zr zu zn : List Int32} {zm : List Int64} {zi zc zs zp zq ze zh : List Int32} {zl zk zj : Int32} {zt : Int64} {za zo zb : Int32} {c0 : ACell} {po : List ACell} : ∀ (n : Nat), ∀ {zf : List Int32} {v1 : Int32} {v2 : Int64} {v4 v5 : Int32} {d6 d7 d8 : Slot} {res : Int32} {w_o_lvlA : List Int32}, f_proRataStep_53 zh zl zb n zf v1 v2 v4 v5 = some (res, w_o_lvlA) → OEnds own_P 35 53 [qr 1, qi v1, ql v2, qw, qi v4, qi v5, d6, d7, d8] [] (c0 :: bk0 zd zg zr zu zn zm zi zc zs zp zq ze zh zf zl zk zj zt za zo zb po) (some (.int res), (c0 :: bk0 zd zg zr zu zn zm zi zc zs zp zq ze zh w_o_lvlA zl zk zj zt za zo zb po), 0, 0) := by
  intro n
  induction n with
  | zero => intro zf v1 v2 v4 v5 d6 d7 d8 res w_o_lvlA h; cases h
  | succ n ih =>
    intro zf v1 v2 v4 v5 d6 d7 d8 res w_o_lvlA h
    unfold f_proRataStep_53 at h
    refine OEnds.adv hm_35 3 (pc' := 59) (L' := [qr 1, qi v1, ql v2, qw, qi v4, qi v5, qu, qu, qu]) (S' := [.int zb, .int v5]) (H' := (c0 :: bk0 zd zg zr zu zn zm zi zc zs zp zq ze zh zf zl zk zj zt za zo zb po)) rfl ?_
    by_cases hc47 : v5 < zb
    · simp only [if_pos hc47] at h
      refine OEnds.icmpF hm_35 rfl ((tlt hc47).2.1) ?_
      refine OEnds.adv hm_35 3 (pc' := 68) (L' := [qr 1, qi v1, ql v2, qw, qi v4, qi v5, qu, qu, qu]) (S' := [.int v5, .ref 14]) (H' := (c0 :: bk0 zd zg zr zu zn zm zi zc zs zp zq ze zh zf zl zk zj zt za zo zb po)) rfl ?_
      obtain ⟨x41, hx41, h⟩ := bnd h
      refine OEnds.plain hm_35 rfl rfl (x_iaload rfl hx41) ?_
      refine OEnds.adv hm_35 3 (pc' := 75) (L' := [qr 1, qi v1, ql v2, qw, qi v4, qi v5, qu, qu, qu]) (S' := [.int v5, .ref 15, .int x41]) (H' := (c0 :: bk0 zd zg zr zu zn zm zi zc zs zp zq ze zh zf zl zk zj zt za zo zb po)) rfl ?_
      obtain ⟨x42, hx42, h⟩ := bnd h
      refine OEnds.plain hm_35 rfl rfl (x_iaload rfl hx42) ?_
      refine OEnds.adv hm_35 8 (pc' := 86) (L' := [qr 1, qi v1, ql v2, qw, qi v4, qi v5, ql (x41 - x42).toInt64, qw, qu]) (S' := [.long v2, .long (v1.toInt64 * (x41 - x42).toInt64)]) (H' := (c0 :: bk0 zd zg zr zu zn zm zi zc zs zp zq ze zh zf zl zk zj zt za zo zb po)) rfl ?_
      by_cases hz48 : v2 = 0
      · simp only [if_pos hz48] at h
        cases h
      simp only [if_neg hz48] at h
      refine OEnds.plain hm_35 rfl rfl (x_ldiv hz48) ?_
      refine OEnds.adv hm_35 5 (pc' := 96) (L' := [qr 1, qi v1, ql v2, qw, qi v4, qi v5, ql (x41 - x42).toInt64, qw, qi ((v1.toInt64 * (x41 - x42).toInt64) / v2).toInt32]) (S' := [.int zl, .int ((v1.toInt64 * (x41 - x42).toInt64) / v2).toInt32]) (H' := (c0 :: bk0 zd zg zr zu zn zm zi zc zs zp zq ze zh zf zl zk zj zt za zo zb po)) rfl ?_
      by_cases hc49 : ((v1.toInt64 * (x41 - x42).toInt64) / v2).toInt32 < zl
      · simp only [if_pos hc49] at h
        refine OEnds.icmpF hm_35 rfl ((tlt hc49).2.1) ?_
        refine OEnds.adv hm_35 2 (pc' := 102) (L' := [qr 1, qi v1, ql v2, qw, qi v4, qi v5, ql (x41 - x42).toInt64, qw, qi 0]) (S' := []) (H' := (c0 :: bk0 zd zg zr zu zn zm zi zc zs zp zq ze zh zf zl zk zj zt za zo zb po)) rfl ?_
        exact ok_proRataStep_102_0 ih h
      · simp only [if_neg hc49] at h
        refine OEnds.icmpT hm_35 rfl (q := 102) rfl ((flt hc49).2.1) ?_
        show OEnds own_P 35 102 [qr 1, qi v1, ql v2, qw, qi v4, qi v5, ql (x41 - x42).toInt64, qw, qi ((v1.toInt64 * (x41 - x42).toInt64) / v2).toInt32] [] (c0 :: bk0 zd zg zr zu zn zm zi zc zs zp zq ze zh zf zl zk zj zt za zo zb po) _
        exact ok_proRataStep_102_0 ih h
    · simp only [if_neg hc47] at h
      refine OEnds.icmpT hm_35 rfl (q := 127) rfl ((flt hc47).2.1) ?_
      refine OEnds.adv hm_35 1 (pc' := 129) (L' := [qr 1, qi v1, ql v2, qw, qi v4, qi v5, qu, qu, qu]) (S' := [.int v4]) (H' := (c0 :: bk0 zd zg zr zu zn zm zi zc zs zp zq ze zh zf zl zk zj zt za zo zb po)) rfl ?_
      cases h
      exact OEnds.iret hm_35 rfl rfl
theorem ok_proRataStep_39_0 {zd zg zr zu zn : List Int32} {zm : List Int64} {zi zc zs zp zq ze zh : List Int32} {zl zk zj : Int32} {zt : Int64} {za zo zb : Int32} {c0 : ACell} {po : List ACell} : ∀ {zf : List Int32} {v1 : Int32} {v2 : Int64} {d4 d5 d6 d7 d8 : Slot} {res : Int32} {w_o_lvlA : List Int32}, f_proRataStep_39 zh zl zb zf v1 v2 = some (res, w_o_lvlA) → OEnds own_P 35 39 [qr 1, qi v1, ql v2, qw, d4, d5, d6, d7, d8] [] (c0 :: bk0 zd zg zr zu zn zm zi zc zs zp zq ze zh zf zl zk zj zt za zo zb po) (some (.int res), (c0 :: bk0 zd zg zr zu zn zm zi zc zs zp zq ze zh w_o_lvlA zl zk zj zt za zo zb po), 0, 0) := by
  intro zf v1 v2 d4 d5 d6 d7 d8 res w_o_lvlA h
  unfold f_proRataStep_39 at h
  refine OEnds.adv hm_35 3 (pc' := 42) (L' := [qr 1, qi v1, ql v2, qw, qu, qu, qu, qu, qu]) (S' := [.int (XT.cmpL v2 (0 : Int64))]) (H' := (c0 :: bk0 zd zg zr zu zn zm zi zc zs zp zq ze zh zf zl zk zj zt za zo zb po)) rfl ?_
  by_cases hc50 : (0 : Int64) < v2
  · simp only [if_pos hc50] at h
    refine OEnds.ifT hm_35 rfl (q := 47) rfl ((tlt (c_gt.mpr hc50)).2.2.1) ?_
    refine OEnds.adv hm_35 4 (pc' := 53) (L' := [qr 1, qi v1, ql v2, qw, qi 0, qi 0, qu, qu, qu]) (S' := []) (H' := (c0 :: bk0 zd zg zr zu zn zm zi zc zs zp zq ze zh zf zl zk zj zt za zo zb po)) rfl ?_
    exact ok_proRataStep_53_0 100000 h
  · simp only [if_neg hc50] at h
    refine OEnds.ifF hm_35 rfl ((flt (mt c_gt.mp hc50)).2.2.1) ?_
    refine OEnds.adv hm_35 1 (pc' := 46) (L' := [qr 1, qi v1, ql v2, qw, qu, qu, qu, qu, qu]) (S' := [.int 0]) (H' := (c0 :: bk0 zd zg zr zu zn zm zi zc zs zp zq ze zh zf zl zk zj zt za zo zb po)) rfl ?_
    cases h
    exact OEnds.iret hm_35 rfl rfl
theorem ok_proRataStep_5_0 {zd zg zr zu zn : List Int32} {zm : List Int64} {zi zc zs zp zq ze zh : List Int32} {zl zk zj : Int32} {zt : Int64} {za zo zb : Int32} {c0 : ACell} {po : List ACell} {k39 : List Int32 → Int32 → Int64 → Option (Int32 × List Int32)} (hk39 : ∀ {zf : List Int32} {v1 : Int32} {v2 : Int64} {d4 d5 d6 d7 d8 : Slot} {res : Int32} {w_o_lvlA : List Int32}, k39 zf v1 v2 = some (res, w_o_lvlA) → OEnds own_P 35 39 [qr 1, qi v1, ql v2, qw, d4, d5, d6, d7, d8] [] (c0 :: bk0 zd zg zr zu zn zm zi zc zs zp zq ze zh zf zl zk zj zt za zo zb po) (some (.int res), (c0 :: bk0 zd zg zr zu zn zm zi zc zs zp zq ze zh w_o_lvlA zl zk zj zt za zo zb po), 0, 0)) : ∀ (n : Nat), ∀ {zf : List Int32} {v1 : Int32} {v2 : Int64} {v4 : Int32} {d5 d6 d7 d8 : Slot} {res : Int32} {w_o_lvlA : List Int32}, f_proRataStep_5 k39 zh zl zb n zf v1 v2 v4 = some (res, w_o_lvlA) → OEnds own_P 35 5 [qr 1, qi v1, ql v2, qw, qi v4, d5, d6, d7, d8] [] (c0 :: bk0 zd zg zr zu zn zm zi zc zs zp zq ze zh zf zl zk zj zt za zo zb po) (some (.int res), (c0 :: bk0 zd zg zr zu zn zm zi zc zs zp zq ze zh w_o_lvlA zl zk zj zt za zo zb po), 0, 0) := by
  intro n
  induction n with
  | zero => intro zf v1 v2 v4 d5 d6 d7 d8 res w_o_lvlA h; cases h
  | succ n ih =>
    intro zf v1 v2 v4 d5 d6 d7 d8 res w_o_lvlA h
    unfold f_proRataStep_5 at h
    refine OEnds.adv hm_35 3 (pc' := 11) (L' := [qr 1, qi v1, ql v2, qw, qi v4, qu, qu, qu, qu]) (S' := [.int zb, .int v4]) (H' := (c0 :: bk0 zd zg zr zu zn zm zi zc zs zp zq ze zh zf zl zk zj zt za zo zb po)) rfl ?_
    by_cases hc51 : v4 < zb
    · simp only [if_pos hc51] at h
      refine OEnds.icmpF hm_35 rfl ((tlt hc51).2.1) ?_
      refine OEnds.adv hm_35 4 (pc' := 21) (L' := [qr 1, qi v1, ql v2, qw, qi v4, qu, qu, qu, qu]) (S' := [.int v4, .ref 14, .long v2]) (H' := (c0 :: bk0 zd zg zr zu zn zm zi zc zs zp zq ze zh zf zl zk zj zt za zo zb po)) rfl ?_
      obtain ⟨x39, hx39, h⟩ := bnd h
      refine OEnds.plain hm_35 rfl rfl (x_iaload rfl hx39) ?_
      refine OEnds.adv hm_35 3 (pc' := 28) (L' := [qr 1, qi v1, ql v2, qw, qi v4, qu, qu, qu, qu]) (S' := [.int v4, .ref 15, .int x39, .long v2]) (H' := (c0 :: bk0 zd zg zr zu zn zm zi zc zs zp zq ze zh zf zl zk zj zt za zo zb po)) rfl ?_
      obtain ⟨x40, hx40, h⟩ := bnd h
      refine OEnds.plain hm_35 rfl rfl (x_iaload rfl hx40) ?_
      refine OEnds.adv hm_35 6 (pc' := 5) (L' := [qr 1, qi v1, ql (v2 + (x39 - x40).toInt64), qw, qi (v4 + (1 : Int32)), qu, qu, qu, qu]) (S' := []) (H' := (c0 :: bk0 zd zg zr zu zn zm zi zc zs zp zq ze zh zf zl zk zj zt za zo zb po)) rfl ?_
      exact ih h
    · simp only [if_neg hc51] at h
      refine OEnds.icmpT hm_35 rfl (q := 39) rfl ((flt hc51).2.1) ?_
      show OEnds own_P 35 39 [qr 1, qi v1, ql v2, qw, qi v4, qu, qu, qu, qu] [] (c0 :: bk0 zd zg zr zu zn zm zi zc zs zp zq ze zh zf zl zk zj zt za zo zb po) _
      exact hk39 h
theorem ok_proRataStep_0 {zd zg zr zu zn : List Int32} {zm : List Int64} {zi zc zs zp zq ze zh : List Int32} {zl zk zj : Int32} {zt : Int64} {za zo zb : Int32} {c0 : ACell} {po : List ACell} {zf : List Int32} {v1 res : Int32} {w_o_lvlA : List Int32} (h : f_proRataStep zh zl zb zf v1 = some (res, w_o_lvlA)) : OEnds own_P 35 0 [qr 1, qi v1, qu, qu, qu, qu, qu, qu, qu] [] (c0 :: bk0 zd zg zr zu zn zm zi zc zs zp zq ze zh zf zl zk zj zt za zo zb po) (some (.int res), (c0 :: bk0 zd zg zr zu zn zm zi zc zs zp zq ze zh w_o_lvlA zl zk zj zt za zo zb po), 0, 0) := by
  unfold f_proRataStep at h
  refine OEnds.adv hm_35 4 (pc' := 5) (L' := [qr 1, qi v1, ql 0, qw, qi 0, qu, qu, qu, qu]) (S' := []) (H' := (c0 :: bk0 zd zg zr zu zn zm zi zc zs zp zq ze zh zf zl zk zj zt za zo zb po)) rfl ?_
  exact ok_proRataStep_5_0 (k39 := f_proRataStep_39 zh zl zb) ok_proRataStep_39_0 100000 h
theorem ok_timeStep_43_0 {zd zg zr zu zn : List Int32} {zm : List Int64} {zi zc zs zp zq ze zh : List Int32} {zl zk zj : Int32} {zt : Int64} {za zo zb : Int32} {c0 : ACell} {po : List ACell} {kb : List Int32 → Int32 → Int32 → Option (List Int32)} (hkb : ∀ {zf : List Int32} {v2 v3 : Int32} {d1 d4 d5 : Slot} {w_o_lvlA : List Int32}, kb zf v2 v3 = some w_o_lvlA → OEnds own_P 33 4 [qr 1, d1, qi v2, qi v3, d4, d5] [] (c0 :: bk0 zd zg zr zu zn zm zi zc zs zp zq ze zh zf zl zk zj zt za zo zb po) (none, (c0 :: bk0 zd zg zr zu zn zm zi zc zs zp zq ze zh w_o_lvlA zl zk zj zt za zo zb po), 0, 0)) : ∀ {zf : List Int32} {v2 v3 t0 : Int32} {d1 d4 d5 : Slot} {w_o_lvlA : List Int32}, f_timeStep_43 kb zh zb zf v2 v3 t0 = some w_o_lvlA → OEnds own_P 33 43 [qr 1, d1, qi v2, qi v3, d4, d5] [.int t0] (c0 :: bk0 zd zg zr zu zn zm zi zc zs zp zq ze zh zf zl zk zj zt za zo zb po) (none, (c0 :: bk0 zd zg zr zu zn zm zi zc zs zp zq ze zh w_o_lvlA zl zk zj zt za zo zb po), 0, 0) := by
  intro zf v2 v3 t0 d1 d4 d5 w_o_lvlA h
  unfold f_timeStep_43 at h
  refine OEnds.adv hm_33 2 (pc' := 47) (L' := [qr 1, qu, qi v2, qi v3, qu, qi t0]) (S' := [.int t0]) (H' := (c0 :: bk0 zd zg zr zu zn zm zi zc zs zp zq ze zh zf zl zk zj zt za zo zb po)) rfl ?_
  by_cases hc52 : (0 : Int32) < t0
  · simp only [if_pos hc52] at h
    refine OEnds.ifF hm_33 rfl ((tlt hc52).2.2.2) ?_
    refine OEnds.adv hm_33 4 (pc' := 56) (L' := [qr 1, qu, qi v2, qi v3, qu, qi t0]) (S' := [.int v3, .ref 15, .int v3, .ref 15]) (H' := (c0 :: bk0 zd zg zr zu zn zm zi zc zs zp zq ze zh zf zl zk zj zt za zo zb po)) rfl ?_
    obtain ⟨x47, hx47, h⟩ := bnd h
    refine OEnds.plain hm_33 rfl rfl (x_iaload rfl hx47) ?_
    refine OEnds.adv hm_33 2 (pc' := 60) (L' := [qr 1, qu, qi v2, qi v3, qu, qi t0]) (S' := [.int (x47 + t0), .int v3, .ref 15]) (H' := (c0 :: bk0 zd zg zr zu zn zm zi zc zs zp zq ze zh zf zl zk zj zt za zo zb po)) rfl ?_
    obtain ⟨A48, hA48, h⟩ := bnd h
    refine OEnds.plain hm_33 rfl rfl (x_iastore rfl (Nat.le_of_ble_eq_true rfl) hA48) ?_
    refine OEnds.adv hm_33 6 (pc' := 4) (L' := [qr 1, qu, qi (v2 - t0), qi (v3 + (1 : Int32)), qu, qi t0]) (S' := []) (H' := (c0 :: bk0 zd zg zr zu zn zm zi zc zs zp zq ze zh A48 zl zk zj zt za zo zb po)) rfl ?_
    exact hkb h
  · simp only [if_neg hc52] at h
    refine OEnds.ifT hm_33 rfl (q := 66) rfl ((flt hc52).2.2.2) ?_
    refine OEnds.adv hm_33 2 (pc' := 4) (L' := [qr 1, qu, qi v2, qi (v3 + (1 : Int32)), qu, qi t0]) (S' := []) (H' := (c0 :: bk0 zd zg zr zu zn zm zi zc zs zp zq ze zh zf zl zk zj zt za zo zb po)) rfl ?_
    exact hkb h
theorem ok_timeStep_4_0 {zd zg zr zu zn : List Int32} {zm : List Int64} {zi zc zs zp zq ze zh : List Int32} {zl zk zj : Int32} {zt : Int64} {za zo zb : Int32} {c0 : ACell} {po : List ACell} : ∀ (n : Nat), ∀ {zf : List Int32} {v2 v3 : Int32} {d1 d4 d5 : Slot} {w_o_lvlA : List Int32}, f_timeStep_4 zh zb n zf v2 v3 = some w_o_lvlA → OEnds own_P 33 4 [qr 1, d1, qi v2, qi v3, d4, d5] [] (c0 :: bk0 zd zg zr zu zn zm zi zc zs zp zq ze zh zf zl zk zj zt za zo zb po) (none, (c0 :: bk0 zd zg zr zu zn zm zi zc zs zp zq ze zh w_o_lvlA zl zk zj zt za zo zb po), 0, 0) := by
  intro n
  induction n with
  | zero => intro zf v2 v3 d1 d4 d5 w_o_lvlA h; cases h
  | succ n ih =>
    intro zf v2 v3 d1 d4 d5 w_o_lvlA h
    unfold f_timeStep_4 at h
    refine OEnds.adv hm_33 3 (pc' := 9) (L' := [qr 1, qu, qi v2, qi v3, qu, qu]) (S' := [.int zb, .int v3]) (H' := (c0 :: bk0 zd zg zr zu zn zm zi zc zs zp zq ze zh zf zl zk zj zt za zo zb po)) rfl ?_
    by_cases hc53 : v3 < zb
    · simp only [if_pos hc53] at h
      refine OEnds.icmpF hm_33 rfl ((tlt hc53).2.1) ?_
      refine OEnds.adv hm_33 1 (pc' := 13) (L' := [qr 1, qu, qi v2, qi v3, qu, qu]) (S' := [.int v2]) (H' := (c0 :: bk0 zd zg zr zu zn zm zi zc zs zp zq ze zh zf zl zk zj zt za zo zb po)) rfl ?_
      by_cases hc54 : (0 : Int32) < v2
      · simp only [if_pos hc54] at h
        refine OEnds.ifF hm_33 rfl ((tlt hc54).2.2.2) ?_
        refine OEnds.adv hm_33 3 (pc' := 21) (L' := [qr 1, qu, qi v2, qi v3, qu, qu]) (S' := [.int v3, .ref 14]) (H' := (c0 :: bk0 zd zg zr zu zn zm zi zc zs zp zq ze zh zf zl zk zj zt za zo zb po)) rfl ?_
        obtain ⟨x45, hx45, h⟩ := bnd h
        refine OEnds.plain hm_33 rfl rfl (x_iaload rfl hx45) ?_
        refine OEnds.adv hm_33 3 (pc' := 27) (L' := [qr 1, qu, qi v2, qi v3, qu, qu]) (S' := [.int v3, .ref 15, .int x45]) (H' := (c0 :: bk0 zd zg zr zu zn zm zi zc zs zp zq ze zh zf zl zk zj zt za zo zb po)) rfl ?_
        obtain ⟨x46, hx46, h⟩ := bnd h
        refine OEnds.plain hm_33 rfl rfl (x_iaload rfl hx46) ?_
        refine OEnds.adv hm_33 4 (pc' := 34) (L' := [qr 1, qu, qi v2, qi v3, qi (x45 - x46), qu]) (S' := [.int (x45 - x46), .int v2]) (H' := (c0 :: bk0 zd zg zr zu zn zm zi zc zs zp zq ze zh zf zl zk zj zt za zo zb po)) rfl ?_
        by_cases hc55 : v2 < (x45 - x46)
        · simp only [if_pos hc55] at h
          refine OEnds.icmpF hm_33 rfl ((tlt hc55).2.1) ?_
          refine OEnds.adv hm_33 2 (pc' := 43) (L' := [qr 1, qu, qi v2, qi v3, qi (x45 - x46), qu]) (S' := [.int v2]) (H' := (c0 :: bk0 zd zg zr zu zn zm zi zc zs zp zq ze zh zf zl zk zj zt za zo zb po)) rfl ?_
          exact ok_timeStep_43_0 ih h
        · simp only [if_neg hc55] at h
          refine OEnds.icmpT hm_33 rfl (q := 41) rfl ((flt hc55).2.1) ?_
          refine OEnds.adv hm_33 1 (pc' := 43) (L' := [qr 1, qu, qi v2, qi v3, qi (x45 - x46), qu]) (S' := [.int (x45 - x46)]) (H' := (c0 :: bk0 zd zg zr zu zn zm zi zc zs zp zq ze zh zf zl zk zj zt za zo zb po)) rfl ?_
          exact ok_timeStep_43_0 ih h
      · simp only [if_neg hc54] at h
        refine OEnds.ifT hm_33 rfl (q := 72) rfl ((flt hc54).2.2.2) ?_
        show OEnds own_P 33 72 [qr 1, qu, qi v2, qi v3, qu, qu] [] (c0 :: bk0 zd zg zr zu zn zm zi zc zs zp zq ze zh zf zl zk zj zt za zo zb po) _
        cases h
        exact OEnds.vret hm_33 rfl rfl
    · simp only [if_neg hc53] at h
      refine OEnds.icmpT hm_33 rfl (q := 72) rfl ((flt hc53).2.1) ?_
      show OEnds own_P 33 72 [qr 1, qu, qi v2, qi v3, qu, qu] [] (c0 :: bk0 zd zg zr zu zn zm zi zc zs zp zq ze zh zf zl zk zj zt za zo zb po) _
      cases h
      exact OEnds.vret hm_33 rfl rfl
theorem ok_timeStep_0 {zd zg zr zu zn : List Int32} {zm : List Int64} {zi zc zs zp zq ze zh : List Int32} {zl zk zj : Int32} {zt : Int64} {za zo zb : Int32} {c0 : ACell} {po : List ACell} {zf : List Int32} {v1 : Int32} {w_o_lvlA : List Int32} (h : f_timeStep zh zb zf v1 = some w_o_lvlA) : OEnds own_P 33 0 [qr 1, qi v1, qu, qu, qu, qu] [] (c0 :: bk0 zd zg zr zu zn zm zi zc zs zp zq ze zh zf zl zk zj zt za zo zb po) (none, (c0 :: bk0 zd zg zr zu zn zm zi zc zs zp zq ze zh w_o_lvlA zl zk zj zt za zo zb po), 0, 0) := by
  unfold f_timeStep at h
  refine OEnds.adv hm_33 4 (pc' := 4) (L' := [qr 1, qi v1, qi v1, qi 0, qu, qu]) (S' := []) (H' := (c0 :: bk0 zd zg zr zu zn zm zi zc zs zp zq ze zh zf zl zk zj zt za zo zb po)) rfl ?_
  exact ok_timeStep_4_0 100000 h
theorem ok_allocate_67_0 {zd zg zr zu zn : List Int32} {zm : List Int64} {zi zc zs zp zq ze zh : List Int32} {zl zk zj : Int32} {zt : Int64} {za zo zb : Int32} {c0 : ACell} {po : List ACell} : ∀ {zf : List Int32} {v3 v5 v6 : Int32} {d1 d2 d4 : Slot} {res : Int32} {w_o_lvlA : List Int32}, f_allocate_67 zi ze zh zl zk zb zf v3 v5 v6 = some (res, w_o_lvlA) → OEnds own_P 31 67 [qr 1, d1, d2, qi v3, d4, qi v5, qi v6] [] (c0 :: bk0 zd zg zr zu zn zm zi zc zs zp zq ze zh zf zl zk zj zt za zo zb po) (some (.int res), (c0 :: bk0 zd zg zr zu zn zm zi zc zs zp zq ze zh w_o_lvlA zl zk zj zt za zo zb po), 0, 0) := by
  intro zf v3 v5 v6 d1 d2 d4 res w_o_lvlA h
  unfold f_allocate_67 at h
  refine OEnds.adv hm_31 4 (pc' := 73) (L' := [qr 1, qu, qu, qi v3, qu, qi v5, qi v6]) (S' := [.int (v5 - v6), .ref 1]) (H' := (c0 :: bk0 zd zg zr zu zn zm zi zc zs zp zq ze zh zf zl zk zj zt za zo zb po)) rfl ?_
  obtain ⟨s54, hq56, h⟩ := bnd h
  refine OEnds.call0 hm_31 rfl rfl (by decide) rfl (as := [.ref 1, .int (v5 - v6)]) (rest := []) rfl rfl (ok_timeStep_0 hq56) ?_
  refine OEnds.adv hm_31 1 (pc' := 77) (L' := [qr 1, qu, qu, qi v3, qu, qi v5, qi v6]) (S' := [.int v3]) (H' := (c0 :: bk0 zd zg zr zu zn zm zi zc zs zp zq ze zh s54 zl zk zj zt za zo zb po)) rfl ?_
  cases h
  exact OEnds.iret hm_31 rfl rfl
theorem ok_allocate_37_0 {zd zg zr zu zn : List Int32} {zm : List Int64} {zi zc zs zp zq ze zh : List Int32} {zl zk zj : Int32} {zt : Int64} {za zo zb : Int32} {c0 : ACell} {po : List ACell} : ∀ {zf : List Int32} {t0 : Int32} {d1 d2 d3 d4 d5 d6 : Slot} {res : Int32} {w_o_lvlA : List Int32}, f_allocate_37 zi ze zh zl zk zb zf t0 = some (res, w_o_lvlA) → OEnds own_P 31 37 [qr 1, d1, d2, d3, d4, d5, d6] [.int t0] (c0 :: bk0 zd zg zr zu zn zm zi zc zs zp zq ze zh zf zl zk zj zt za zo zb po) (some (.int res), (c0 :: bk0 zd zg zr zu zn zm zi zc zs zp zq ze zh w_o_lvlA zl zk zj zt za zo zb po), 0, 0) := by
  intro zf t0 d1 d2 d3 d4 d5 d6 res w_o_lvlA h
  unfold f_allocate_37 at h
  refine OEnds.adv hm_31 3 (pc' := 40) (L' := [qr 1, qu, qu, qi t0, qu, qu, qu]) (S' := [.int t0, .ref 1]) (H' := (c0 :: bk0 zd zg zr zu zn zm zi zc zs zp zq ze zh zf zl zk zj zt za zo zb po)) rfl ?_
  obtain ⟨⟨r50, s51⟩, hq57, h⟩ := bnd h
  refine OEnds.call0 hm_31 rfl rfl (by decide) rfl (as := [.ref 1, .int t0]) (rest := []) rfl rfl (ok_topStep_0 hq57) ?_
  refine OEnds.adv hm_31 8 (pc' := 56) (L' := [qr 1, qu, qu, qi t0, qi r50, qi (t0 - r50), qi 0]) (S' := [.int (t0 - r50)]) (H' := (c0 :: bk0 zd zg zr zu zn zm zi zc zs zp zq ze zh s51 zl zk zj zt za zo zb po)) rfl ?_
  by_cases hc58 : (0 : Int32) < (t0 - r50)
  · simp only [if_pos hc58] at h
    refine OEnds.ifF hm_31 rfl ((tlt hc58).2.2.2) ?_
    refine OEnds.adv hm_31 2 (pc' := 62) (L' := [qr 1, qu, qu, qi t0, qi r50, qi (t0 - r50), qi 0]) (S' := [.int (t0 - r50), .ref 1]) (H' := (c0 :: bk0 zd zg zr zu zn zm zi zc zs zp zq ze zh s51 zl zk zj zt za zo zb po)) rfl ?_
    obtain ⟨⟨r52, s53⟩, hq59, h⟩ := bnd h
    refine OEnds.call0 hm_31 rfl rfl (by decide) rfl (as := [.ref 1, .int (t0 - r50)]) (rest := []) rfl rfl (ok_proRataStep_0 hq59) ?_
    refine OEnds.adv hm_31 1 (pc' := 67) (L' := [qr 1, qu, qu, qi t0, qi r50, qi (t0 - r50), qi r52]) (S' := []) (H' := (c0 :: bk0 zd zg zr zu zn zm zi zc zs zp zq ze zh s53 zl zk zj zt za zo zb po)) rfl ?_
    exact ok_allocate_67_0 h
  · simp only [if_neg hc58] at h
    refine OEnds.ifT hm_31 rfl (q := 67) rfl ((flt hc58).2.2.2) ?_
    show OEnds own_P 31 67 [qr 1, qu, qu, qi t0, qi r50, qi (t0 - r50), qi 0] [] (c0 :: bk0 zd zg zr zu zn zm zi zc zs zp zq ze zh s51 zl zk zj zt za zo zb po) _
    exact ok_allocate_67_0 h
theorem ok_allocate_27_0 {zd zg zr zu zn : List Int32} {zm : List Int64} {zi zc zs zp zq ze zh : List Int32} {zl zk zj : Int32} {zt : Int64} {za zo zb : Int32} {c0 : ACell} {po : List ACell} : ∀ {zf : List Int32} {v1 v2 : Int32} {d3 d4 d5 d6 : Slot} {res : Int32} {w_o_lvlA : List Int32}, f_allocate_27 zi ze zh zl zk zb zf v1 v2 = some (res, w_o_lvlA) → OEnds own_P 31 27 [qr 1, qi v1, qi v2, d3, d4, d5, d6] [] (c0 :: bk0 zd zg zr zu zn zm zi zc zs zp zq ze zh zf zl zk zj zt za zo zb po) (some (.int res), (c0 :: bk0 zd zg zr zu zn zm zi zc zs zp zq ze zh w_o_lvlA zl zk zj zt za zo zb po), 0, 0) := by
  intro zf v1 v2 d3 d4 d5 d6 res w_o_lvlA h
  unfold f_allocate_27 at h
  refine OEnds.adv hm_31 2 (pc' := 29) (L' := [qr 1, qi v1, qi v2, qu, qu, qu, qu]) (S' := [.int v2, .int v1]) (H' := (c0 :: bk0 zd zg zr zu zn zm zi zc zs zp zq ze zh zf zl zk zj zt za zo zb po)) rfl ?_
  by_cases hc60 : v1 < v2
  · simp only [if_pos hc60] at h
    refine OEnds.icmpF hm_31 rfl ((tlt hc60).2.1) ?_
    refine OEnds.adv hm_31 2 (pc' := 37) (L' := [qr 1, qi v1, qi v2, qu, qu, qu, qu]) (S' := [.int v1]) (H' := (c0 :: bk0 zd zg zr zu zn zm zi zc zs zp zq ze zh zf zl zk zj zt za zo zb po)) rfl ?_
    exact ok_allocate_37_0 h
  · simp only [if_neg hc60] at h
    refine OEnds.icmpT hm_31 rfl (q := 36) rfl ((flt hc60).2.1) ?_
    refine OEnds.adv hm_31 1 (pc' := 37) (L' := [qr 1, qi v1, qi v2, qu, qu, qu, qu]) (S' := [.int v2]) (H' := (c0 :: bk0 zd zg zr zu zn zm zi zc zs zp zq ze zh zf zl zk zj zt za zo zb po)) rfl ?_
    exact ok_allocate_37_0 h
theorem ok_allocate_4_0 {zd zg zr zu zn : List Int32} {zm : List Int64} {zi zc zs zp zq ze zh : List Int32} {zl zk zj : Int32} {zt : Int64} {za zo zb : Int32} {c0 : ACell} {po : List ACell} {k27 : List Int32 → Int32 → Int32 → Option (Int32 × List Int32)} (hk27 : ∀ {zf : List Int32} {v1 v2 : Int32} {d3 d4 d5 d6 : Slot} {res : Int32} {w_o_lvlA : List Int32}, k27 zf v1 v2 = some (res, w_o_lvlA) → OEnds own_P 31 27 [qr 1, qi v1, qi v2, d3, d4, d5, d6] [] (c0 :: bk0 zd zg zr zu zn zm zi zc zs zp zq ze zh zf zl zk zj zt za zo zb po) (some (.int res), (c0 :: bk0 zd zg zr zu zn zm zi zc zs zp zq ze zh w_o_lvlA zl zk zj zt za zo zb po), 0, 0)) : ∀ (n : Nat), ∀ {zf : List Int32} {v1 v2 v3 : Int32} {d4 d5 d6 : Slot} {res : Int32} {w_o_lvlA : List Int32}, f_allocate_4 k27 zi ze zh zl zk zb n zf v1 v2 v3 = some (res, w_o_lvlA) → OEnds own_P 31 4 [qr 1, qi v1, qi v2, qi v3, d4, d5, d6] [] (c0 :: bk0 zd zg zr zu zn zm zi zc zs zp zq ze zh zf zl zk zj zt za zo zb po) (some (.int res), (c0 :: bk0 zd zg zr zu zn zm zi zc zs zp zq ze zh w_o_lvlA zl zk zj zt za zo zb po), 0, 0) := by
  intro n
  induction n with
  | zero => intro zf v1 v2 v3 d4 d5 d6 res w_o_lvlA h; cases h
  | succ n ih =>
    intro zf v1 v2 v3 d4 d5 d6 res w_o_lvlA h
    unfold f_allocate_4 at h
    refine OEnds.adv hm_31 3 (pc' := 9) (L' := [qr 1, qi v1, qi v2, qi v3, qu, qu, qu]) (S' := [.int zb, .int v3]) (H' := (c0 :: bk0 zd zg zr zu zn zm zi zc zs zp zq ze zh zf zl zk zj zt za zo zb po)) rfl ?_
    by_cases hc61 : v3 < zb
    · simp only [if_pos hc61] at h
      refine OEnds.icmpF hm_31 rfl ((tlt hc61).2.1) ?_
      refine OEnds.adv hm_31 4 (pc' := 18) (L' := [qr 1, qi v1, qi v2, qi v3, qu, qu, qu]) (S' := [.int v3, .ref 14, .int v2]) (H' := (c0 :: bk0 zd zg zr zu zn zm zi zc zs zp zq ze zh zf zl zk zj zt za zo zb po)) rfl ?_
      obtain ⟨x49, hx49, h⟩ := bnd h
      refine OEnds.plain hm_31 rfl rfl (x_iaload rfl hx49) ?_
      refine OEnds.adv hm_31 4 (pc' := 4) (L' := [qr 1, qi v1, qi (v2 + x49), qi (v3 + (1 : Int32)), qu, qu, qu]) (S' := []) (H' := (c0 :: bk0 zd zg zr zu zn zm zi zc zs zp zq ze zh zf zl zk zj zt za zo zb po)) rfl ?_
      exact ih h
    · simp only [if_neg hc61] at h
      refine OEnds.icmpT hm_31 rfl (q := 27) rfl ((flt hc61).2.1) ?_
      show OEnds own_P 31 27 [qr 1, qi v1, qi v2, qi v3, qu, qu, qu] [] (c0 :: bk0 zd zg zr zu zn zm zi zc zs zp zq ze zh zf zl zk zj zt za zo zb po) _
      exact hk27 h
theorem ok_allocate_0 {zd zg zr zu zn : List Int32} {zm : List Int64} {zi zc zs zp zq ze zh : List Int32} {zl zk zj : Int32} {zt : Int64} {za zo zb : Int32} {c0 : ACell} {po : List ACell} {zf : List Int32} {v1 res : Int32} {w_o_lvlA : List Int32} (h : f_allocate zi ze zh zl zk zb zf v1 = some (res, w_o_lvlA)) : OEnds own_P 31 0 [qr 1, qi v1, qu, qu, qu, qu, qu] [] (c0 :: bk0 zd zg zr zu zn zm zi zc zs zp zq ze zh zf zl zk zj zt za zo zb po) (some (.int res), (c0 :: bk0 zd zg zr zu zn zm zi zc zs zp zq ze zh w_o_lvlA zl zk zj zt za zo zb po), 0, 0) := by
  unfold f_allocate at h
  refine OEnds.adv hm_31 4 (pc' := 4) (L' := [qr 1, qi v1, qi 0, qi 0, qu, qu, qu]) (S' := []) (H' := (c0 :: bk0 zd zg zr zu zn zm zi zc zs zp zq ze zh zf zl zk zj zt za zo zb po)) rfl ?_
  exact ok_allocate_4_0 (k27 := f_allocate_27 zi ze zh zl zk zb) ok_allocate_27_0 100000 h
theorem ok_applyLevel_82_0 {zd zg : List Int32} {zm : List Int64} {ze zh zf : List Int32} {zl zk zj : Int32} {zt : Int64} {zb : Int32} {c0 : ACell} {po : List ACell} {kb : List Int32 → List Int32 → List Int32 → List Int32 → List Int32 → List Int32 → List Int32 → List Int32 → Int32 → Int32 → Int32 → Int32 → Option (List Int32 × List Int32 × List Int32 × List Int32 × List Int32 × List Int32 × List Int32 × List Int32 × Int32 × Int32)} (hkb : ∀ {zr zu zn zi zc zs zp zq : List Int32} {za zo v1 v2 : Int32} {d3 d4 : Slot} {w_o_oRem w_o_oFilled w_o_oStatus w_o_oTop w_o_restIds w_o_fIds w_o_fQty w_o_fPrice : List Int32} {w_o_restN : Int32} {w_o_fN : Int32}, kb zr zu zn zi zc zs zp zq za zo v1 v2 = some (w_o_oRem, w_o_oFilled, w_o_oStatus, w_o_oTop, w_o_restIds, w_o_fIds, w_o_fQty, w_o_fPrice, w_o_restN, w_o_fN) → OEnds own_P 34 2 [qr 1, qi v1, qi v2, d3, d4] [] (c0 :: bk0 zd zg zr zu zn zm zi zc zs zp zq ze zh zf zl zk zj zt za zo zb po) (none, (c0 :: bk0 zd zg w_o_oRem w_o_oFilled w_o_oStatus zm w_o_oTop w_o_restIds w_o_fIds w_o_fQty w_o_fPrice ze zh zf zl zk zj zt w_o_restN w_o_fN zb po), 0, 0)) : ∀ {zr zu zn zi zc zs zp zq : List Int32} {za zo v1 v2 v3 v4 : Int32} {w_o_oRem w_o_oFilled w_o_oStatus w_o_oTop w_o_restIds w_o_fIds w_o_fQty w_o_fPrice : List Int32} {w_o_restN : Int32} {w_o_fN : Int32}, f_applyLevel_82 kb ze zf zb zr zu zn zi zc zs zp zq za zo v1 v2 v3 v4 = some (w_o_oRem, w_o_oFilled, w_o_oStatus, w_o_oTop, w_o_restIds, w_o_fIds, w_o_fQty, w_o_fPrice, w_o_restN, w_o_fN) → OEnds own_P 34 82 [qr 1, qi v1, qi v2, qi v3, qi v4] [] (c0 :: bk0 zd zg zr zu zn zm zi zc zs zp zq ze zh zf zl zk zj zt za zo zb po) (none, (c0 :: bk0 zd zg w_o_oRem w_o_oFilled w_o_oStatus zm w_o_oTop w_o_restIds w_o_fIds w_o_fQty w_o_fPrice ze zh zf zl zk zj zt w_o_restN w_o_fN zb po), 0, 0) := by
  intro zr zu zn zi zc zs zp zq za zo v1 v2 v3 v4 w_o_oRem w_o_oFilled w_o_oStatus w_o_oTop w_o_restIds w_o_fIds w_o_fQty w_o_fPrice w_o_restN w_o_fN h
  unfold f_applyLevel_82 at h
  refine OEnds.adv hm_34 4 (pc' := 89) (L' := [qr 1, qi v1, qi v2, qi v3, qi v4]) (S' := [.int v4, .ref 4, .int v4, .ref 4]) (H' := (c0 :: bk0 zd zg zr zu zn zm zi zc zs zp zq ze zh zf zl zk zj zt za zo zb po)) rfl ?_
  obtain ⟨x60, hx60, h⟩ := bnd h
  refine OEnds.plain hm_34 rfl rfl (x_iaload rfl hx60) ?_
  refine OEnds.adv hm_34 2 (pc' := 92) (L' := [qr 1, qi v1, qi v2, qi v3, qi v4]) (S' := [.int (x60 - v3), .int v4, .ref 4]) (H' := (c0 :: bk0 zd zg zr zu zn zm zi zc zs zp zq ze zh zf zl zk zj zt za zo zb po)) rfl ?_
  obtain ⟨A61, hA61, h⟩ := bnd h
  refine OEnds.plain hm_34 rfl rfl (x_iastore rfl (Nat.le_of_ble_eq_true rfl) hA61) ?_
  refine OEnds.adv hm_34 4 (pc' := 100) (L' := [qr 1, qi v1, qi v2, qi v3, qi v4]) (S' := [.int v4, .ref 5, .int v4, .ref 5]) (H' := (c0 :: bk0 zd zg A61 zu zn zm zi zc zs zp zq ze zh zf zl zk zj zt za zo zb po)) rfl ?_
  obtain ⟨x62, hx62, h⟩ := bnd h
  refine OEnds.plain hm_34 rfl rfl (x_iaload rfl hx62) ?_
  refine OEnds.adv hm_34 2 (pc' := 103) (L' := [qr 1, qi v1, qi v2, qi v3, qi v4]) (S' := [.int (x62 + v3), .int v4, .ref 5]) (H' := (c0 :: bk0 zd zg A61 zu zn zm zi zc zs zp zq ze zh zf zl zk zj zt za zo zb po)) rfl ?_
  obtain ⟨A63, hA63, h⟩ := bnd h
  refine OEnds.plain hm_34 rfl rfl (x_iastore rfl (Nat.le_of_ble_eq_true rfl) hA63) ?_
  refine OEnds.adv hm_34 3 (pc' := 110) (L' := [qr 1, qi v1, qi v2, qi v3, qi v4]) (S' := [.int v4, .ref 4]) (H' := (c0 :: bk0 zd zg A61 A63 zn zm zi zc zs zp zq ze zh zf zl zk zj zt za zo zb po)) rfl ?_
  obtain ⟨x64, hx64, h⟩ := bnd h
  refine OEnds.plain hm_34 rfl rfl (x_iaload rfl hx64) ?_
  show OEnds own_P 34 111 [qr 1, qi v1, qi v2, qi v3, qi v4] [.int x64] (c0 :: bk0 zd zg A61 A63 zn zm zi zc zs zp zq ze zh zf zl zk zj zt za zo zb po) _
  by_cases hc62 : (0 : Int32) < x64
  · simp only [if_pos hc62] at h
    refine OEnds.ifT hm_34 rfl (q := 144) rfl ((tlt hc62).2.2.1) ?_
    refine OEnds.adv hm_34 2 (pc' := 2) (L' := [qr 1, qi v1, qi (v2 + (1 : Int32)), qi v3, qi v4]) (S' := []) (H' := (c0 :: bk0 zd zg A61 A63 zn zm zi zc zs zp zq ze zh zf zl zk zj zt za zo zb po)) rfl ?_
    exact hkb h
  · simp only [if_neg hc62] at h
    refine OEnds.ifF hm_34 rfl ((flt hc62).2.2.1) ?_
    refine OEnds.adv hm_34 4 (pc' := 121) (L' := [qr 1, qi v1, qi v2, qi v3, qi v4]) (S' := [.int 0, .int v4, .ref 4]) (H' := (c0 :: bk0 zd zg A61 A63 zn zm zi zc zs zp zq ze zh zf zl zk zj zt za zo zb po)) rfl ?_
    obtain ⟨A65, hA65, h⟩ := bnd h
    refine OEnds.plain hm_34 rfl rfl (x_iastore rfl (Nat.le_of_ble_eq_true rfl) hA65) ?_
    refine OEnds.adv hm_34 4 (pc' := 129) (L' := [qr 1, qi v1, qi v2, qi v3, qi v4]) (S' := [.int 2, .int v4, .ref 6]) (H' := (c0 :: bk0 zd zg A65 A63 zn zm zi zc zs zp zq ze zh zf zl zk zj zt za zo zb po)) rfl ?_
    obtain ⟨A66, hA66, h⟩ := bnd h
    refine OEnds.plain hm_34 rfl rfl (x_iastore rfl (Nat.le_of_ble_eq_true rfl) hA66) ?_
    refine OEnds.adv hm_34 4 (pc' := 137) (L' := [qr 1, qi v1, qi v2, qi v3, qi v4]) (S' := [.int 0, .int v4, .ref 8]) (H' := (c0 :: bk0 zd zg A65 A63 A66 zm zi zc zs zp zq ze zh zf zl zk zj zt za zo zb po)) rfl ?_
    obtain ⟨A67, hA67, h⟩ := bnd h
    refine OEnds.plain hm_34 rfl rfl (x_bastore rfl (Nat.le_of_ble_eq_true rfl) hA67) ?_
    refine OEnds.adv hm_34 2 (pc' := 141) (L' := [qr 1, qi v1, qi v2, qi v3, qi v4]) (S' := [.int v4, .ref 1]) (H' := (c0 :: bk0 zd zg A65 A63 A66 zm A67 zc zs zp zq ze zh zf zl zk zj zt za zo zb po)) rfl ?_
    obtain ⟨⟨s68, s69⟩, hq63, h⟩ := bnd h
    refine OEnds.call0 hm_34 rfl rfl (by decide) rfl (as := [.ref 1, .int v4]) (rest := []) rfl rfl (ok_removeResting_0 hq63) ?_
    refine OEnds.adv hm_34 2 (pc' := 2) (L' := [qr 1, qi v1, qi (v2 + (1 : Int32)), qi v3, qi v4]) (S' := []) (H' := (c0 :: bk0 zd zg A65 A63 A66 zm A67 s68 zs zp zq ze zh zf zl zk zj zt s69 zo zb po)) rfl ?_
    exact hkb h
theorem ok_applyLevel_2_0 {zd zg : List Int32} {zm : List Int64} {ze zh zf : List Int32} {zl zk zj : Int32} {zt : Int64} {zb : Int32} {c0 : ACell} {po : List ACell} : ∀ (n : Nat), ∀ {zr zu zn zi zc zs zp zq : List Int32} {za zo v1 v2 : Int32} {d3 d4 : Slot} {w_o_oRem w_o_oFilled w_o_oStatus w_o_oTop w_o_restIds w_o_fIds w_o_fQty w_o_fPrice : List Int32} {w_o_restN : Int32} {w_o_fN : Int32}, f_applyLevel_2 ze zf zb n zr zu zn zi zc zs zp zq za zo v1 v2 = some (w_o_oRem, w_o_oFilled, w_o_oStatus, w_o_oTop, w_o_restIds, w_o_fIds, w_o_fQty, w_o_fPrice, w_o_restN, w_o_fN) → OEnds own_P 34 2 [qr 1, qi v1, qi v2, d3, d4] [] (c0 :: bk0 zd zg zr zu zn zm zi zc zs zp zq ze zh zf zl zk zj zt za zo zb po) (none, (c0 :: bk0 zd zg w_o_oRem w_o_oFilled w_o_oStatus zm w_o_oTop w_o_restIds w_o_fIds w_o_fQty w_o_fPrice ze zh zf zl zk zj zt w_o_restN w_o_fN zb po), 0, 0) := by
  intro n
  induction n with
  | zero => intro zr zu zn zi zc zs zp zq za zo v1 v2 d3 d4 w_o_oRem w_o_oFilled w_o_oStatus w_o_oTop w_o_restIds w_o_fIds w_o_fQty w_o_fPrice w_o_restN w_o_fN h; cases h
  | succ n ih =>
    intro zr zu zn zi zc zs zp zq za zo v1 v2 d3 d4 w_o_oRem w_o_oFilled w_o_oStatus w_o_oTop w_o_restIds w_o_fIds w_o_fQty w_o_fPrice w_o_restN w_o_fN h
    unfold f_applyLevel_2 at h
    refine OEnds.adv hm_34 3 (pc' := 7) (L' := [qr 1, qi v1, qi v2, qu, qu]) (S' := [.int zb, .int v2]) (H' := (c0 :: bk0 zd zg zr zu zn zm zi zc zs zp zq ze zh zf zl zk zj zt za zo zb po)) rfl ?_
    by_cases hc64 : v2 < zb
    · simp only [if_pos hc64] at h
      refine OEnds.icmpF hm_34 rfl ((tlt hc64).2.1) ?_
      refine OEnds.adv hm_34 3 (pc' := 15) (L' := [qr 1, qi v1, qi v2, qu, qu]) (S' := [.int v2, .ref 15]) (H' := (c0 :: bk0 zd zg zr zu zn zm zi zc zs zp zq ze zh zf zl zk zj zt za zo zb po)) rfl ?_
      obtain ⟨x55, hx55, h⟩ := bnd h
      refine OEnds.plain hm_34 rfl rfl (x_iaload rfl hx55) ?_
      refine OEnds.adv hm_34 2 (pc' := 18) (L' := [qr 1, qi v1, qi v2, qi x55, qu]) (S' := [.int x55]) (H' := (c0 :: bk0 zd zg zr zu zn zm zi zc zs zp zq ze zh zf zl zk zj zt za zo zb po)) rfl ?_
      by_cases hc65 : (0 : Int32) < x55
      · simp only [if_pos hc65] at h
        refine OEnds.ifT hm_34 rfl (q := 24) rfl ((tlt hc65).2.2.1) ?_
        refine OEnds.adv hm_34 3 (pc' := 29) (L' := [qr 1, qi v1, qi v2, qi x55, qu]) (S' := [.int v2, .ref 13]) (H' := (c0 :: bk0 zd zg zr zu zn zm zi zc zs zp zq ze zh zf zl zk zj zt za zo zb po)) rfl ?_
        obtain ⟨x56, hx56, h⟩ := bnd h
        refine OEnds.plain hm_34 rfl rfl (x_iaload rfl hx56) ?_
        refine OEnds.adv hm_34 4 (pc' := 38) (L' := [qr 1, qi v1, qi v2, qi x55, qi x56]) (S' := [.int 64, .int zo]) (H' := (c0 :: bk0 zd zg zr zu zn zm zi zc zs zp zq ze zh zf zl zk zj zt za zo zb po)) rfl ?_
        by_cases hc66 : zo < (64 : Int32)
        · simp only [if_pos hc66] at h
          refine OEnds.icmpF hm_34 rfl ((tlt hc66).2.1) ?_
          refine OEnds.adv hm_34 5 (pc' := 51) (L' := [qr 1, qi v1, qi v2, qi x55, qi x56]) (S' := [.int x56, .int zo, .ref 10]) (H' := (c0 :: bk0 zd zg zr zu zn zm zi zc zs zp zq ze zh zf zl zk zj zt za zo zb po)) rfl ?_
          obtain ⟨A57, hA57, h⟩ := bnd h
          refine OEnds.plain hm_34 rfl rfl (x_iastore rfl (Nat.le_of_ble_eq_true rfl) hA57) ?_
          refine OEnds.adv hm_34 5 (pc' := 61) (L' := [qr 1, qi v1, qi v2, qi x55, qi x56]) (S' := [.int v1, .int zo, .ref 12]) (H' := (c0 :: bk0 zd zg zr zu zn zm zi zc A57 zp zq ze zh zf zl zk zj zt za zo zb po)) rfl ?_
          obtain ⟨A58, hA58, h⟩ := bnd h
          refine OEnds.plain hm_34 rfl rfl (x_iastore rfl (Nat.le_of_ble_eq_true rfl) hA58) ?_
          refine OEnds.adv hm_34 5 (pc' := 71) (L' := [qr 1, qi v1, qi v2, qi x55, qi x56]) (S' := [.int x55, .int zo, .ref 11]) (H' := (c0 :: bk0 zd zg zr zu zn zm zi zc A57 zp A58 ze zh zf zl zk zj zt za zo zb po)) rfl ?_
          obtain ⟨A59, hA59, h⟩ := bnd h
          refine OEnds.plain hm_34 rfl rfl (x_iastore rfl (Nat.le_of_ble_eq_true rfl) hA59) ?_
          refine OEnds.adv hm_34 6 (pc' := 82) (L' := [qr 1, qi v1, qi v2, qi x55, qi x56]) (S' := []) (H' := (c0 :: bk0 zd zg zr zu zn zm zi zc A57 A59 A58 ze zh zf zl zk zj zt za (zo + (1 : Int32)) zb po)) rfl ?_
          exact ok_applyLevel_82_0 ih h
        · simp only [if_neg hc66] at h
          refine OEnds.icmpT hm_34 rfl (q := 82) rfl ((flt hc66).2.1) ?_
          show OEnds own_P 34 82 [qr 1, qi v1, qi v2, qi x55, qi x56] [] (c0 :: bk0 zd zg zr zu zn zm zi zc zs zp zq ze zh zf zl zk zj zt za zo zb po) _
          exact ok_applyLevel_82_0 ih h
      · simp only [if_neg hc65] at h
        refine OEnds.ifF hm_34 rfl ((flt hc65).2.2.1) ?_
        refine OEnds.adv hm_34 3 (pc' := 2) (L' := [qr 1, qi v1, qi (v2 + (1 : Int32)), qi x55, qu]) (S' := []) (H' := (c0 :: bk0 zd zg zr zu zn zm zi zc zs zp zq ze zh zf zl zk zj zt za zo zb po)) rfl ?_
        exact ih h
    · simp only [if_neg hc64] at h
      refine OEnds.icmpT hm_34 rfl (q := 150) rfl ((flt hc64).2.1) ?_
      show OEnds own_P 34 150 [qr 1, qi v1, qi v2, qu, qu] [] (c0 :: bk0 zd zg zr zu zn zm zi zc zs zp zq ze zh zf zl zk zj zt za zo zb po) _
      cases h
      exact OEnds.vret hm_34 rfl rfl
theorem ok_applyLevel_0 {zd zg : List Int32} {zm : List Int64} {ze zh zf : List Int32} {zl zk zj : Int32} {zt : Int64} {zb : Int32} {c0 : ACell} {po : List ACell} {zr zu zn zi zc zs zp zq : List Int32} {za zo v1 : Int32} {w_o_oRem w_o_oFilled w_o_oStatus w_o_oTop w_o_restIds w_o_fIds w_o_fQty w_o_fPrice : List Int32} {w_o_restN w_o_fN : Int32} (h : f_applyLevel ze zf zb zr zu zn zi zc zs zp zq za zo v1 = some (w_o_oRem, w_o_oFilled, w_o_oStatus, w_o_oTop, w_o_restIds, w_o_fIds, w_o_fQty, w_o_fPrice, w_o_restN, w_o_fN)) : OEnds own_P 34 0 [qr 1, qi v1, qu, qu, qu] [] (c0 :: bk0 zd zg zr zu zn zm zi zc zs zp zq ze zh zf zl zk zj zt za zo zb po) (none, (c0 :: bk0 zd zg w_o_oRem w_o_oFilled w_o_oStatus zm w_o_oTop w_o_restIds w_o_fIds w_o_fQty w_o_fPrice ze zh zf zl zk zj zt w_o_restN w_o_fN zb po), 0, 0) := by
  unfold f_applyLevel at h
  refine OEnds.adv hm_34 2 (pc' := 2) (L' := [qr 1, qi v1, qi 0, qu, qu]) (S' := []) (H' := (c0 :: bk0 zd zg zr zu zn zm zi zc zs zp zq ze zh zf zl zk zj zt za zo zb po)) rfl ?_
  exact ok_applyLevel_2_0 100000 h
theorem ok_matchLevel_59_0 {zd zg : List Int32} {zm : List Int64} {zl zk zj : Int32} {zt : Int64} {c0 : ACell} {po : List ACell} : ∀ {zr zu zn zi zc zs zp zq ze zh zf : List Int32} {za zo zb v2 v3 : Int32} {d1 d4 d5 : Slot} {res : Int32} {w_o_oRem w_o_oFilled w_o_oStatus w_o_oTop w_o_restIds w_o_fIds w_o_fQty w_o_fPrice w_o_lvlIds w_o_lvlR w_o_lvlA : List Int32} {w_o_restN w_o_fN : Int32} {w_o_lvlN : Int32}, f_matchLevel_59 zd zg zm zl zk zr zu zn zi zc zs zp zq ze zh zf za zo zb v2 v3 = some (res, w_o_oRem, w_o_oFilled, w_o_oStatus, w_o_oTop, w_o_restIds, w_o_fIds, w_o_fQty, w_o_fPrice, w_o_lvlIds, w_o_lvlR, w_o_lvlA, w_o_restN, w_o_fN, w_o_lvlN) → OEnds own_P 28 59 [qr 1, d1, qi v2, qi v3, d4, d5] [] (c0 :: bk0 zd zg zr zu zn zm zi zc zs zp zq ze zh zf zl zk zj zt za zo zb po) (some (.int res), (c0 :: bk0 zd zg w_o_oRem w_o_oFilled w_o_oStatus zm w_o_oTop w_o_restIds w_o_fIds w_o_fQty w_o_fPrice w_o_lvlIds w_o_lvlR w_o_lvlA zl zk zj zt w_o_restN w_o_fN w_o_lvlN po), 0, 0) := by
  intro zr zu zn zi zc zs zp zq ze zh zf za zo zb v2 v3 d1 d4 d5 res w_o_oRem w_o_oFilled w_o_oStatus w_o_oTop w_o_restIds w_o_fIds w_o_fQty w_o_fPrice w_o_lvlIds w_o_lvlR w_o_lvlA w_o_restN w_o_fN w_o_lvlN h
  unfold f_matchLevel_59 at h
  refine OEnds.adv hm_28 2 (pc' := 61) (L' := [qr 1, qu, qi v2, qi v3, qu, qu]) (S' := [.int v3, .ref 1]) (H' := (c0 :: bk0 zd zg zr zu zn zm zi zc zs zp zq ze zh zf zl zk zj zt za zo zb po)) rfl ?_
  obtain ⟨⟨r77, s78⟩, hq67, h⟩ := bnd h
  refine OEnds.call0 hm_28 rfl rfl (by decide) rfl (as := [.ref 1, .int v3]) (rest := []) rfl rfl (ok_allocate_0 hq67) ?_
  refine OEnds.adv hm_28 3 (pc' := 68) (L' := [qr 1, qu, qi v2, qi v3, qi r77, qu]) (S' := [.int v2, .ref 1]) (H' := (c0 :: bk0 zd zg zr zu zn zm zi zc zs zp zq ze zh s78 zl zk zj zt za zo zb po)) rfl ?_
  obtain ⟨⟨s79, s80, s81, s82, s83, s84, s85, s86, s87, s88⟩, hq68, h⟩ := bnd h
  refine OEnds.call0 hm_28 rfl rfl (by decide) rfl (as := [.ref 1, .int v2]) (rest := []) rfl rfl (ok_applyLevel_0 hq68) ?_
  refine OEnds.adv hm_28 1 (pc' := 73) (L' := [qr 1, qu, qi v2, qi v3, qi r77, qu]) (S' := [.int r77]) (H' := (c0 :: bk0 zd zg s79 s80 s81 zm s82 s83 s84 s85 s86 ze zh s78 zl zk zj zt s87 s88 zb po)) rfl ?_
  cases h
  exact OEnds.iret hm_28 rfl rfl
theorem ok_matchLevel_13_0 {zd zg : List Int32} {zm : List Int64} {zl zk zj : Int32} {zt : Int64} {c0 : ACell} {po : List ACell} {k59 : List Int32 → List Int32 → List Int32 → List Int32 → List Int32 → List Int32 → List Int32 → List Int32 → List Int32 → List Int32 → List Int32 → Int32 → Int32 → Int32 → Int32 → Int32 → Option (Int32 × List Int32 × List Int32 × List Int32 × List Int32 × List Int32 × List Int32 × List Int32 × List Int32 × List Int32 × List Int32 × List Int32 × Int32 × Int32 × Int32)} (hk59 : ∀ {zr zu zn zi zc zs zp zq ze zh zf : List Int32} {za zo zb v2 v3 : Int32} {d1 d4 d5 : Slot} {res : Int32} {w_o_oRem w_o_oFilled w_o_oStatus w_o_oTop w_o_restIds w_o_fIds w_o_fQty w_o_fPrice w_o_lvlIds w_o_lvlR w_o_lvlA : List Int32} {w_o_restN w_o_fN : Int32} {w_o_lvlN : Int32}, k59 zr zu zn zi zc zs zp zq ze zh zf za zo zb v2 v3 = some (res, w_o_oRem, w_o_oFilled, w_o_oStatus, w_o_oTop, w_o_restIds, w_o_fIds, w_o_fQty, w_o_fPrice, w_o_lvlIds, w_o_lvlR, w_o_lvlA, w_o_restN, w_o_fN, w_o_lvlN) → OEnds own_P 28 59 [qr 1, d1, qi v2, qi v3, d4, d5] [] (c0 :: bk0 zd zg zr zu zn zm zi zc zs zp zq ze zh zf zl zk zj zt za zo zb po) (some (.int res), (c0 :: bk0 zd zg w_o_oRem w_o_oFilled w_o_oStatus zm w_o_oTop w_o_restIds w_o_fIds w_o_fQty w_o_fPrice w_o_lvlIds w_o_lvlR w_o_lvlA zl zk zj zt w_o_restN w_o_fN w_o_lvlN po), 0, 0)) : ∀ (n : Nat), ∀ {zr zu zn zi zc zs zp zq ze zh zf : List Int32} {za zo zb v2 v3 v4 : Int32} {d1 d5 : Slot} {res : Int32} {w_o_oRem w_o_oFilled w_o_oStatus w_o_oTop w_o_restIds w_o_fIds w_o_fQty w_o_fPrice w_o_lvlIds w_o_lvlR w_o_lvlA : List Int32} {w_o_restN w_o_fN : Int32} {w_o_lvlN : Int32}, f_matchLevel_13 k59 zd zg zm zl zk n zr zu zn zi zc zs zp zq ze zh zf za zo zb v2 v3 v4 = some (res, w_o_oRem, w_o_oFilled, w_o_oStatus, w_o_oTop, w_o_restIds, w_o_fIds, w_o_fQty, w_o_fPrice, w_o_lvlIds, w_o_lvlR, w_o_lvlA, w_o_restN, w_o_fN, w_o_lvlN) → OEnds own_P 28 13 [qr 1, d1, qi v2, qi v3, qi v4, d5] [] (c0 :: bk0 zd zg zr zu zn zm zi zc zs zp zq ze zh zf zl zk zj zt za zo zb po) (some (.int res), (c0 :: bk0 zd zg w_o_oRem w_o_oFilled w_o_oStatus zm w_o_oTop w_o_restIds w_o_fIds w_o_fQty w_o_fPrice w_o_lvlIds w_o_lvlR w_o_lvlA zl zk zj zt w_o_restN w_o_fN w_o_lvlN po), 0, 0) := by
  intro n
  induction n with
  | zero => intro zr zu zn zi zc zs zp zq ze zh zf za zo zb v2 v3 v4 d1 d5 res w_o_oRem w_o_oFilled w_o_oStatus w_o_oTop w_o_restIds w_o_fIds w_o_fQty w_o_fPrice w_o_lvlIds w_o_lvlR w_o_lvlA w_o_restN w_o_fN w_o_lvlN h; cases h
  | succ n ih =>
    intro zr zu zn zi zc zs zp zq ze zh zf za zo zb v2 v3 v4 d1 d5 res w_o_oRem w_o_oFilled w_o_oStatus w_o_oTop w_o_restIds w_o_fIds w_o_fQty w_o_fPrice w_o_lvlIds w_o_lvlR w_o_lvlA w_o_restN w_o_fN w_o_lvlN h
    unfold f_matchLevel_13 at h
    refine OEnds.adv hm_28 3 (pc' := 19) (L' := [qr 1, qu, qi v2, qi v3, qi v4, qu]) (S' := [.int zb, .int v4]) (H' := (c0 :: bk0 zd zg zr zu zn zm zi zc zs zp zq ze zh zf zl zk zj zt za zo zb po)) rfl ?_
    by_cases hc69 : v4 < zb
    · simp only [if_pos hc69] at h
      refine OEnds.icmpF hm_28 rfl ((tlt hc69).2.1) ?_
      refine OEnds.adv hm_28 3 (pc' := 28) (L' := [qr 1, qu, qi v2, qi v3, qi v4, qu]) (S' := [.int v4, .ref 13]) (H' := (c0 :: bk0 zd zg zr zu zn zm zi zc zs zp zq ze zh zf zl zk zj zt za zo zb po)) rfl ?_
      obtain ⟨x73, hx73, h⟩ := bnd h
      refine OEnds.plain hm_28 rfl rfl (x_iaload rfl hx73) ?_
      refine OEnds.adv hm_28 7 (pc' := 43) (L' := [qr 1, qu, qi v2, qi v3, qi v4, qi x73]) (S' := [.int x73, .ref 4, .int v4, .ref 14]) (H' := (c0 :: bk0 zd zg zr zu zn zm zi zc zs zp zq ze zh zf zl zk zj zt za zo zb po)) rfl ?_
      obtain ⟨x74, hx74, h⟩ := bnd h
      refine OEnds.plain hm_28 rfl rfl (x_iaload rfl hx74) ?_
      show OEnds own_P 28 44 [qr 1, qu, qi v2, qi v3, qi v4, qi x73] [.int x74, .int v4, .ref 14] (c0 :: bk0 zd zg zr zu zn zm zi zc zs zp zq ze zh zf zl zk zj zt za zo zb po) _
      obtain ⟨A75, hA75, h⟩ := bnd h
      refine OEnds.plain hm_28 rfl rfl (x_iastore rfl (Nat.le_of_ble_eq_true rfl) hA75) ?_
      refine OEnds.adv hm_28 4 (pc' := 52) (L' := [qr 1, qu, qi v2, qi v3, qi v4, qi x73]) (S' := [.int 0, .int v4, .ref 15]) (H' := (c0 :: bk0 zd zg zr zu zn zm zi zc zs zp zq ze A75 zf zl zk zj zt za zo zb po)) rfl ?_
      obtain ⟨A76, hA76, h⟩ := bnd h
      refine OEnds.plain hm_28 rfl rfl (x_iastore rfl (Nat.le_of_ble_eq_true rfl) hA76) ?_
      refine OEnds.adv hm_28 2 (pc' := 13) (L' := [qr 1, qu, qi v2, qi v3, qi (v4 + (1 : Int32)), qi x73]) (S' := []) (H' := (c0 :: bk0 zd zg zr zu zn zm zi zc zs zp zq ze A75 A76 zl zk zj zt za zo zb po)) rfl ?_
      exact ih h
    · simp only [if_neg hc69] at h
      refine OEnds.icmpT hm_28 rfl (q := 59) rfl ((flt hc69).2.1) ?_
      show OEnds own_P 28 59 [qr 1, qu, qi v2, qi v3, qi v4, qu] [] (c0 :: bk0 zd zg zr zu zn zm zi zc zs zp zq ze zh zf zl zk zj zt za zo zb po) _
      exact hk59 h
theorem ok_matchLevel_0 {zd zg : List Int32} {zm : List Int64} {zl zk zj : Int32} {zt : Int64} {c0 : ACell} {po : List ACell} {zr zu zn zi zc zs zp zq ze zh zf : List Int32} {za zo zb v1 v2 v3 res : Int32} {w_o_oRem w_o_oFilled w_o_oStatus w_o_oTop w_o_restIds w_o_fIds w_o_fQty w_o_fPrice w_o_lvlIds w_o_lvlR w_o_lvlA : List Int32} {w_o_restN w_o_fN w_o_lvlN : Int32} (h : f_matchLevel zd zg zm zl zk zr zu zn zi zc zs zp zq ze zh zf za zo zb v1 v2 v3 = some (res, w_o_oRem, w_o_oFilled, w_o_oStatus, w_o_oTop, w_o_restIds, w_o_fIds, w_o_fQty, w_o_fPrice, w_o_lvlIds, w_o_lvlR, w_o_lvlA, w_o_restN, w_o_fN, w_o_lvlN)) : OEnds own_P 28 0 [qr 1, qi v1, qi v2, qi v3, qu, qu] [] (c0 :: bk0 zd zg zr zu zn zm zi zc zs zp zq ze zh zf zl zk zj zt za zo zb po) (some (.int res), (c0 :: bk0 zd zg w_o_oRem w_o_oFilled w_o_oStatus zm w_o_oTop w_o_restIds w_o_fIds w_o_fQty w_o_fPrice w_o_lvlIds w_o_lvlR w_o_lvlA zl zk zj zt w_o_restN w_o_fN w_o_lvlN po), 0, 0) := by
  unfold f_matchLevel at h
  refine OEnds.adv hm_28 3 (pc' := 3) (L' := [qr 1, qi v1, qi v2, qi v3, qu, qu]) (S' := [.int v2, .int v1, .ref 1]) (H' := (c0 :: bk0 zd zg zr zu zn zm zi zc zs zp zq ze zh zf zl zk zj zt za zo zb po)) rfl ?_
  obtain ⟨⟨s70, s71⟩, hq70, h⟩ := bnd h
  refine OEnds.call0 hm_28 rfl rfl (by decide) rfl (as := [.ref 1, .int v1, .int v2]) (rest := []) rfl rfl (ok_gatherLevel_0 hq70) ?_
  refine OEnds.adv hm_28 1 (pc' := 7) (L' := [qr 1, qi v1, qi v2, qi v3, qu, qu]) (S' := [.ref 1]) (H' := (c0 :: bk0 zd zg zr zu zn zm zi zc zs zp zq s70 zh zf zl zk zj zt za zo s71 po)) rfl ?_
  obtain ⟨s72, hq71, h⟩ := bnd h
  refine OEnds.call0 hm_28 rfl rfl (by decide) rfl (as := [.ref 1]) (rest := []) rfl rfl (ok_sortLevel_0 hq71) ?_
  refine OEnds.adv hm_28 2 (pc' := 13) (L' := [qr 1, qi v1, qi v2, qi v3, qi 0, qu]) (S' := []) (H' := (c0 :: bk0 zd zg zr zu zn zm zi zc zs zp zq s72 zh zf zl zk zj zt za zo s71 po)) rfl ?_
  exact ok_matchLevel_13_0 (k59 := f_matchLevel_59 zd zg zm zl zk) ok_matchLevel_59_0 100000 h
theorem ok_matchIncoming_12_0 {zd zg : List Int32} {zm : List Int64} {zl zk zj : Int32} {zt : Int64} {c0 : ACell} {po : List ACell} : ∀ (n : Nat), ∀ {zr zu zn zi zc zs zp zq ze zh zf : List Int32} {za zo zb v1 v2 v3 v5 v6 v7 : Int32} {d4 d8 d9 : Slot} {res : Int32} {w_o_oRem w_o_oFilled w_o_oStatus w_o_oTop w_o_restIds w_o_fIds w_o_fQty w_o_fPrice w_o_lvlIds w_o_lvlR w_o_lvlA : List Int32} {w_o_restN w_o_fN : Int32} {w_o_lvlN : Int32}, f_matchIncoming_12 zd zg zm zl zk n zr zu zn zi zc zs zp zq ze zh zf za zo zb v1 v2 v3 v5 v6 v7 = some (res, w_o_oRem, w_o_oFilled, w_o_oStatus, w_o_oTop, w_o_restIds, w_o_fIds, w_o_fQty, w_o_fPrice, w_o_lvlIds, w_o_lvlR, w_o_lvlA, w_o_restN, w_o_fN, w_o_lvlN) → OEnds own_P 7 12 [qr 1, qi v1, qi v2, qi v3, d4, qi v5, qi v6, qi v7, d8, d9] [] (c0 :: bk0 zd zg zr zu zn zm zi zc zs zp zq ze zh zf zl zk zj zt za zo zb po) (some (.int res), (c0 :: bk0 zd zg w_o_oRem w_o_oFilled w_o_oStatus zm w_o_oTop w_o_restIds w_o_fIds w_o_fQty w_o_fPrice w_o_lvlIds w_o_lvlR w_o_lvlA zl zk zj zt w_o_restN w_o_fN w_o_lvlN po), 0, 0) := by
  intro n
  induction n with
  | zero => intro zr zu zn zi zc zs zp zq ze zh zf za zo zb v1 v2 v3 v5 v6 v7 d4 d8 d9 res w_o_oRem w_o_oFilled w_o_oStatus w_o_oTop w_o_restIds w_o_fIds w_o_fQty w_o_fPrice w_o_lvlIds w_o_lvlR w_o_lvlA w_o_restN w_o_fN w_o_lvlN h; cases h
  | succ n ih =>
    intro zr zu zn zi zc zs zp zq ze zh zf za zo zb v1 v2 v3 v5 v6 v7 d4 d8 d9 res w_o_oRem w_o_oFilled w_o_oStatus w_o_oTop w_o_restIds w_o_fIds w_o_fQty w_o_fPrice w_o_lvlIds w_o_lvlR w_o_lvlA w_o_restN w_o_fN w_o_lvlN h
    unfold f_matchIncoming_12 at h
    refine OEnds.adv hm_7 2 (pc' := 16) (L' := [qr 1, qi v1, qi v2, qi v3, qu, qi v5, qi v6, qi v7, qu, qu]) (S' := [.int 64, .int v7]) (H' := (c0 :: bk0 zd zg zr zu zn zm zi zc zs zp zq ze zh zf zl zk zj zt za zo zb po)) rfl ?_
    by_cases hc72 : (64 : Int32) < v7
    · simp only [if_pos hc72] at h
      refine OEnds.icmpT hm_7 rfl (q := 98) rfl ((tlt hc72).2.2.1) ?_
      refine OEnds.adv hm_7 1 (pc' := 100) (L' := [qr 1, qi v1, qi v2, qi v3, qu, qi v5, qi v6, qi v7, qu, qu]) (S' := [.int v5]) (H' := (c0 :: bk0 zd zg zr zu zn zm zi zc zs zp zq ze zh zf zl zk zj zt za zo zb po)) rfl ?_
      cases h
      exact OEnds.iret hm_7 rfl rfl
    · simp only [if_neg hc72] at h
      refine OEnds.icmpF hm_7 rfl ((flt hc72).2.2.1) ?_
      refine OEnds.adv hm_7 1 (pc' := 21) (L' := [qr 1, qi v1, qi v2, qi v3, qu, qi v5, qi v6, qi v7, qu, qu]) (S' := [.int v5]) (H' := (c0 :: bk0 zd zg zr zu zn zm zi zc zs zp zq ze zh zf zl zk zj zt za zo zb po)) rfl ?_
      by_cases hc73 : (0 : Int32) < v5
      · simp only [if_pos hc73] at h
        refine OEnds.ifF hm_7 rfl ((tlt hc73).2.2.2) ?_
        refine OEnds.adv hm_7 2 (pc' := 27) (L' := [qr 1, qi v1, qi v2, qi v3, qu, qi v5, qi v6, qi v7, qu, qu]) (S' := [.int v6, .ref 1]) (H' := (c0 :: bk0 zd zg zr zu zn zm zi zc zs zp zq ze zh zf zl zk zj zt za zo zb po)) rfl ?_
        obtain ⟨r89, hq74, h⟩ := bnd h
        refine OEnds.call0 hm_7 rfl rfl (by decide) rfl (as := [.ref 1, .int v6]) (rest := []) rfl rfl (ok_bestOf_0 hq74) ?_
        refine OEnds.adv hm_7 2 (pc' := 34) (L' := [qr 1, qi v1, qi v2, qi v3, qu, qi v5, qi v6, qi v7, qi r89, qu]) (S' := [.int r89]) (H' := (c0 :: bk0 zd zg zr zu zn zm zi zc zs zp zq ze zh zf zl zk zj zt za zo zb po)) rfl ?_
        by_cases hc75 : r89 = (0 : Int32)
        · simp only [if_pos hc75] at h
          refine OEnds.ifF hm_7 rfl ((teq hc75).2) ?_
          refine OEnds.adv hm_7 2 (pc' := 100) (L' := [qr 1, qi v1, qi v2, qi v3, qu, qi v5, qi v6, qi v7, qi r89, qu]) (S' := [.int v5]) (H' := (c0 :: bk0 zd zg zr zu zn zm zi zc zs zp zq ze zh zf zl zk zj zt za zo zb po)) rfl ?_
          cases h
          exact OEnds.iret hm_7 rfl rfl
        · simp only [if_neg hc75] at h
          refine OEnds.ifT hm_7 rfl (q := 40) rfl ((feq hc75).2) ?_
          refine OEnds.adv hm_7 4 (pc' := 45) (L' := [qr 1, qi v1, qi v2, qi v3, qu, qi v5, qi v6, qi v7, qi r89, qu]) (S' := [.int r89, .int v3, .int v2, .ref 1]) (H' := (c0 :: bk0 zd zg zr zu zn zm zi zc zs zp zq ze zh zf zl zk zj zt za zo zb po)) rfl ?_
          obtain ⟨r90, hq76, h⟩ := bnd h
          refine OEnds.call0 hm_7 rfl rfl (by decide) rfl (as := [.ref 1, .int v2, .int v3, .int r89]) (rest := []) rfl rfl (ok_crosses_0 hq76) ?_
          show OEnds own_P 7 48 [qr 1, qi v1, qi v2, qi v3, qu, qi v5, qi v6, qi v7, qi r89, qu] [.int r90] (c0 :: bk0 zd zg zr zu zn zm zi zc zs zp zq ze zh zf zl zk zj zt za zo zb po) _
          by_cases hc77 : r90 = (0 : Int32)
          · simp only [if_pos hc77] at h
            refine OEnds.ifF hm_7 rfl ((teq hc77).2) ?_
            refine OEnds.adv hm_7 2 (pc' := 100) (L' := [qr 1, qi v1, qi v2, qi v3, qu, qi v5, qi v6, qi v7, qi r89, qu]) (S' := [.int v5]) (H' := (c0 :: bk0 zd zg zr zu zn zm zi zc zs zp zq ze zh zf zl zk zj zt za zo zb po)) rfl ?_
            cases h
            exact OEnds.iret hm_7 rfl rfl
          · simp only [if_neg hc77] at h
            refine OEnds.ifT hm_7 rfl (q := 54) rfl ((feq hc77).2) ?_
            refine OEnds.adv hm_7 4 (pc' := 61) (L' := [qr 1, qi v1, qi v2, qi v3, qu, qi v5, qi v6, qi v7, qi r89, qu]) (S' := [.int v5, .int r89, .int v6, .ref 1]) (H' := (c0 :: bk0 zd zg zr zu zn zm zi zc zs zp zq ze zh zf zl zk zj zt za zo zb po)) rfl ?_
            obtain ⟨⟨r91, s92, s93, s94, s95, s96, s97, s98, s99, s100, s101, s102, s103, s104, s105⟩, hq78, h⟩ := bnd h
            refine OEnds.call0 hm_7 rfl rfl (by decide) rfl (as := [.ref 1, .int v6, .int r89, .int v5]) (rest := []) rfl rfl (ok_matchLevel_0 hq78) ?_
            refine OEnds.adv hm_7 2 (pc' := 68) (L' := [qr 1, qi v1, qi v2, qi v3, qu, qi v5, qi v6, qi v7, qi r89, qi r91]) (S' := [.int r91]) (H' := (c0 :: bk0 zd zg s92 s93 s94 zm s95 s96 s97 s98 s99 s100 s101 s102 zl zk zj zt s103 s104 s105 po)) rfl ?_
            by_cases hc79 : (0 : Int32) < r91
            · simp only [if_pos hc79] at h
              refine OEnds.ifT hm_7 rfl (q := 74) rfl ((tlt hc79).2.2.1) ?_
              refine OEnds.adv hm_7 8 (pc' := 87) (L' := [qr 1, qi v1, qi v2, qi v3, qu, qi (v5 - r91), qi v6, qi v7, qi r89, qi r91]) (S' := [.int v1, .ref 5, .int v1, .ref 5]) (H' := (c0 :: bk0 zd zg s92 s93 s94 zm s95 s96 s97 s98 s99 s100 s101 s102 zl zk zj zt s103 s104 s105 po)) rfl ?_
              obtain ⟨x106, hx106, h⟩ := bnd h
              refine OEnds.plain hm_7 rfl rfl (x_iaload rfl hx106) ?_
              refine OEnds.adv hm_7 2 (pc' := 91) (L' := [qr 1, qi v1, qi v2, qi v3, qu, qi (v5 - r91), qi v6, qi v7, qi r89, qi r91]) (S' := [.int (x106 + r91), .int v1, .ref 5]) (H' := (c0 :: bk0 zd zg s92 s93 s94 zm s95 s96 s97 s98 s99 s100 s101 s102 zl zk zj zt s103 s104 s105 po)) rfl ?_
              obtain ⟨A107, hA107, h⟩ := bnd h
              refine OEnds.plain hm_7 rfl rfl (x_iastore rfl (Nat.le_of_ble_eq_true rfl) hA107) ?_
              refine OEnds.adv hm_7 2 (pc' := 12) (L' := [qr 1, qi v1, qi v2, qi v3, qu, qi (v5 - r91), qi v6, qi (v7 + (1 : Int32)), qi r89, qi r91]) (S' := []) (H' := (c0 :: bk0 zd zg s92 A107 s94 zm s95 s96 s97 s98 s99 s100 s101 s102 zl zk zj zt s103 s104 s105 po)) rfl ?_
              exact ih h
            · simp only [if_neg hc79] at h
              refine OEnds.ifF hm_7 rfl ((flt hc79).2.2.1) ?_
              refine OEnds.adv hm_7 2 (pc' := 100) (L' := [qr 1, qi v1, qi v2, qi v3, qu, qi v5, qi v6, qi v7, qi r89, qi r91]) (S' := [.int v5]) (H' := (c0 :: bk0 zd zg s92 s93 s94 zm s95 s96 s97 s98 s99 s100 s101 s102 zl zk zj zt s103 s104 s105 po)) rfl ?_
              cases h
              exact OEnds.iret hm_7 rfl rfl
      · simp only [if_neg hc73] at h
        refine OEnds.ifT hm_7 rfl (q := 98) rfl ((flt hc73).2.2.2) ?_
        refine OEnds.adv hm_7 1 (pc' := 100) (L' := [qr 1, qi v1, qi v2, qi v3, qu, qi v5, qi v6, qi v7, qu, qu]) (S' := [.int v5]) (H' := (c0 :: bk0 zd zg zr zu zn zm zi zc zs zp zq ze zh zf zl zk zj zt za zo zb po)) rfl ?_
        cases h
        exact OEnds.iret hm_7 rfl rfl
theorem ok_matchIncoming_0 {zd zg : List Int32} {zm : List Int64} {zl zk zj : Int32} {zt : Int64} {c0 : ACell} {po : List ACell} {zr zu zn zi zc zs zp zq ze zh zf : List Int32} {za zo zb v1 v2 v3 v4 res : Int32} {w_o_oRem w_o_oFilled w_o_oStatus w_o_oTop w_o_restIds w_o_fIds w_o_fQty w_o_fPrice w_o_lvlIds w_o_lvlR w_o_lvlA : List Int32} {w_o_restN w_o_fN w_o_lvlN : Int32} (h : f_matchIncoming zd zg zm zl zk zr zu zn zi zc zs zp zq ze zh zf za zo zb v1 v2 v3 v4 = some (res, w_o_oRem, w_o_oFilled, w_o_oStatus, w_o_oTop, w_o_restIds, w_o_fIds, w_o_fQty, w_o_fPrice, w_o_lvlIds, w_o_lvlR, w_o_lvlA, w_o_restN, w_o_fN, w_o_lvlN)) : OEnds own_P 7 0 [qr 1, qi v1, qi v2, qi v3, qi v4, qu, qu, qu, qu, qu] [] (c0 :: bk0 zd zg zr zu zn zm zi zc zs zp zq ze zh zf zl zk zj zt za zo zb po) (some (.int res), (c0 :: bk0 zd zg w_o_oRem w_o_oFilled w_o_oStatus zm w_o_oTop w_o_restIds w_o_fIds w_o_fQty w_o_fPrice w_o_lvlIds w_o_lvlR w_o_lvlA zl zk zj zt w_o_restN w_o_fN w_o_lvlN po), 0, 0) := by
  unfold f_matchIncoming at h
  refine OEnds.adv hm_7 8 (pc' := 12) (L' := [qr 1, qi v1, qi v2, qi v3, qi v4, qi v4, qi ((1 : Int32) - v2), qi 0, qu, qu]) (S' := []) (H' := (c0 :: bk0 zd zg zr zu zn zm zi zc zs zp zq ze zh zf zl zk zj zt za zo zb po)) rfl ?_
  exact ok_matchIncoming_12_0 100000 h
theorem ok_clearFlags_2_0 {zd zg zr zu zn : List Int32} {zm : List Int64} {zc zs zp zq ze zh zf : List Int32} {zl zk zj : Int32} {zt : Int64} {za zo zb : Int32} {c0 : ACell} {po : List ACell} : ∀ (n : Nat), ∀ {zi : List Int32} {v1 v2 : Int32} {d3 : Slot} {w_o_oTop : List Int32}, f_clearFlags_2 zd zc za n zi v1 v2 = some w_o_oTop → OEnds own_P 24 2 [qr 1, qi v1, qi v2, d3] [] (c0 :: bk0 zd zg zr zu zn zm zi zc zs zp zq ze zh zf zl zk zj zt za zo zb po) (none, (c0 :: bk0 zd zg zr zu zn zm w_o_oTop zc zs zp zq ze zh zf zl zk zj zt za zo zb po), 0, 0) := by
  intro n
  induction n with
  | zero => intro zi v1 v2 d3 w_o_oTop h; cases h
  | succ n ih =>
    intro zi v1 v2 d3 w_o_oTop h
    unfold f_clearFlags_2 at h
    refine OEnds.adv hm_24 3 (pc' := 7) (L' := [qr 1, qi v1, qi v2, qu]) (S' := [.int za, .int v2]) (H' := (c0 :: bk0 zd zg zr zu zn zm zi zc zs zp zq ze zh zf zl zk zj zt za zo zb po)) rfl ?_
    by_cases hc80 : v2 < za
    · simp only [if_pos hc80] at h
      refine OEnds.icmpF hm_24 rfl ((tlt hc80).2.1) ?_
      refine OEnds.adv hm_24 3 (pc' := 15) (L' := [qr 1, qi v1, qi v2, qu]) (S' := [.int v2, .ref 9]) (H' := (c0 :: bk0 zd zg zr zu zn zm zi zc zs zp zq ze zh zf zl zk zj zt za zo zb po)) rfl ?_
      obtain ⟨x108, hx108, h⟩ := bnd h
      refine OEnds.plain hm_24 rfl rfl (x_iaload rfl hx108) ?_
      refine OEnds.adv hm_24 4 (pc' := 22) (L' := [qr 1, qi v1, qi v2, qi x108]) (S' := [.int x108, .ref 2]) (H' := (c0 :: bk0 zd zg zr zu zn zm zi zc zs zp zq ze zh zf zl zk zj zt za zo zb po)) rfl ?_
      obtain ⟨x109, hx109, h⟩ := bnd h
      refine OEnds.plain hm_24 rfl rfl (x_iaload rfl hx109) ?_
      refine OEnds.adv hm_24 1 (pc' := 24) (L' := [qr 1, qi v1, qi v2, qi x108]) (S' := [.int v1, .int x109]) (H' := (c0 :: bk0 zd zg zr zu zn zm zi zc zs zp zq ze zh zf zl zk zj zt za zo zb po)) rfl ?_
      by_cases hc81 : x109 = v1
      · simp only [if_pos hc81] at h
        refine OEnds.icmpF hm_24 rfl ((teq hc81).2) ?_
        refine OEnds.adv hm_24 4 (pc' := 33) (L' := [qr 1, qi v1, qi v2, qi x108]) (S' := [.int 0, .int x108, .ref 8]) (H' := (c0 :: bk0 zd zg zr zu zn zm zi zc zs zp zq ze zh zf zl zk zj zt za zo zb po)) rfl ?_
        obtain ⟨A110, hA110, h⟩ := bnd h
        refine OEnds.plain hm_24 rfl rfl (x_bastore rfl (Nat.le_of_ble_eq_true rfl) hA110) ?_
        refine OEnds.adv hm_24 2 (pc' := 2) (L' := [qr 1, qi v1, qi (v2 + (1 : Int32)), qi x108]) (S' := []) (H' := (c0 :: bk0 zd zg zr zu zn zm A110 zc zs zp zq ze zh zf zl zk zj zt za zo zb po)) rfl ?_
        exact ih h
      · simp only [if_neg hc81] at h
        refine OEnds.icmpT hm_24 rfl (q := 34) rfl ((feq hc81).2) ?_
        refine OEnds.adv hm_24 2 (pc' := 2) (L' := [qr 1, qi v1, qi (v2 + (1 : Int32)), qi x108]) (S' := []) (H' := (c0 :: bk0 zd zg zr zu zn zm zi zc zs zp zq ze zh zf zl zk zj zt za zo zb po)) rfl ?_
        exact ih h
    · simp only [if_neg hc80] at h
      refine OEnds.icmpT hm_24 rfl (q := 40) rfl ((flt hc80).2.1) ?_
      show OEnds own_P 24 40 [qr 1, qi v1, qi v2, qu] [] (c0 :: bk0 zd zg zr zu zn zm zi zc zs zp zq ze zh zf zl zk zj zt za zo zb po) _
      cases h
      exact OEnds.vret hm_24 rfl rfl
theorem ok_clearFlags_0 {zd zg zr zu zn : List Int32} {zm : List Int64} {zc zs zp zq ze zh zf : List Int32} {zl zk zj : Int32} {zt : Int64} {za zo zb : Int32} {c0 : ACell} {po : List ACell} {zi : List Int32} {v1 : Int32} {w_o_oTop : List Int32} (h : f_clearFlags zd zc za zi v1 = some w_o_oTop) : OEnds own_P 24 0 [qr 1, qi v1, qu, qu] [] (c0 :: bk0 zd zg zr zu zn zm zi zc zs zp zq ze zh zf zl zk zj zt za zo zb po) (none, (c0 :: bk0 zd zg zr zu zn zm w_o_oTop zc zs zp zq ze zh zf zl zk zj zt za zo zb po), 0, 0) := by
  unfold f_clearFlags at h
  refine OEnds.adv hm_24 2 (pc' := 2) (L' := [qr 1, qi v1, qi 0, qu]) (S' := []) (H' := (c0 :: bk0 zd zg zr zu zn zm zi zc zs zp zq ze zh zf zl zk zj zt za zo zb po)) rfl ?_
  exact ok_clearFlags_2_0 100000 h
theorem ok_finishIncoming_90_0 {zd zg zu zs zp zq ze zh zf : List Int32} {zl zk zj zo zb : Int32} {c0 : ACell} {po : List ACell} : ∀ {zr zn : List Int32} {zm : List Int64} {zi zc : List Int32} {zt : Int64} {za v1 v4 v7 : Int32} {d2 d3 d5 d6 : Slot} {w_o_oRem w_o_oStatus : List Int32} {w_o_oStamp : List Int64} {w_o_oTop w_o_restIds : List Int32} {w_o_stampCounter : Int64} {w_o_restN : Int32}, f_finishIncoming_90 zd zg zr zn zm zi zc zt za v1 v4 v7 = some (w_o_oRem, w_o_oStatus, w_o_oStamp, w_o_oTop, w_o_restIds, w_o_stampCounter, w_o_restN) → OEnds own_P 9 90 [qr 1, qi v1, d2, d3, qi v4, d5, d6, qi v7] [] (c0 :: bk0 zd zg zr zu zn zm zi zc zs zp zq ze zh zf zl zk zj zt za zo zb po) (none, (c0 :: bk0 zd zg w_o_oRem zu w_o_oStatus w_o_oStamp w_o_oTop w_o_restIds zs zp zq ze zh zf zl zk zj w_o_stampCounter w_o_restN zo zb po), 0, 0) := by
  intro zr zn zm zi zc zt za v1 v4 v7 d2 d3 d5 d6 w_o_oRem w_o_oStatus w_o_oStamp w_o_oTop w_o_restIds w_o_stampCounter w_o_restN h
  unfold f_finishIncoming_90 at h
  refine OEnds.adv hm_9 11 (pc' := 109) (L' := [qr 1, qi v1, qu, qu, qi v4, qu, qu, qi v7]) (S' := [.long (zt + (1 : Int64)), .int v1, .ref 7]) (H' := (c0 :: bk0 zd zg zr zu zn zm zi zc zs zp zq ze zh zf zl zk zj (zt + (1 : Int64)) za zo zb po)) rfl ?_
  obtain ⟨A116, hA116, h⟩ := bnd h
  refine OEnds.plain hm_9 rfl rfl (x_lastore rfl (Nat.le_of_ble_eq_true rfl) hA116) ?_
  refine OEnds.adv hm_9 4 (pc' := 117) (L' := [qr 1, qi v1, qu, qu, qi v4, qu, qu, qi v7]) (S' := [.int v4, .int v1, .ref 4]) (H' := (c0 :: bk0 zd zg zr zu zn A116 zi zc zs zp zq ze zh zf zl zk zj (zt + (1 : Int64)) za zo zb po)) rfl ?_
  obtain ⟨A117, hA117, h⟩ := bnd h
  refine OEnds.plain hm_9 rfl rfl (x_iastore rfl (Nat.le_of_ble_eq_true rfl) hA117) ?_
  refine OEnds.adv hm_9 4 (pc' := 124) (L' := [qr 1, qi v1, qu, qu, qi v4, qu, qu, qi v7]) (S' := [.int 1, .int v1, .ref 6]) (H' := (c0 :: bk0 zd zg A117 zu zn A116 zi zc zs zp zq ze zh zf zl zk zj (zt + (1 : Int64)) za zo zb po)) rfl ?_
  obtain ⟨A118, hA118, h⟩ := bnd h
  refine OEnds.plain hm_9 rfl rfl (x_iastore rfl (Nat.le_of_ble_eq_true rfl) hA118) ?_
  refine OEnds.adv hm_9 4 (pc' := 132) (L' := [qr 1, qi v1, qu, qu, qi v4, qu, qu, qi v7]) (S' := [.int v7, .int v1, .ref 8]) (H' := (c0 :: bk0 zd zg A117 zu A118 A116 zi zc zs zp zq ze zh zf zl zk zj (zt + (1 : Int64)) za zo zb po)) rfl ?_
  obtain ⟨A119, hA119, h⟩ := bnd h
  refine OEnds.plain hm_9 rfl rfl (x_bastore rfl (Nat.le_of_ble_eq_true rfl) hA119) ?_
  refine OEnds.adv hm_9 5 (pc' := 142) (L' := [qr 1, qi v1, qu, qu, qi v4, qu, qu, qi v7]) (S' := [.int v1, .int za, .ref 9]) (H' := (c0 :: bk0 zd zg A117 zu A118 A116 A119 zc zs zp zq ze zh zf zl zk zj (zt + (1 : Int64)) za zo zb po)) rfl ?_
  obtain ⟨A120, hA120, h⟩ := bnd h
  refine OEnds.plain hm_9 rfl rfl (x_iastore rfl (Nat.le_of_ble_eq_true rfl) hA120) ?_
  refine OEnds.adv hm_9 6 (pc' := 153) (L' := [qr 1, qi v1, qu, qu, qi v4, qu, qu, qi v7]) (S' := []) (H' := (c0 :: bk0 zd zg A117 zu A118 A116 A119 A120 zs zp zq ze zh zf zl zk zj (zt + (1 : Int64)) (za + (1 : Int32)) zo zb po)) rfl ?_
  cases h
  exact OEnds.vret hm_9 rfl rfl
theorem ok_finishIncoming_78_0 {zd zg zu zs zp zq ze zh zf : List Int32} {zl zk zj zo zb : Int32} {c0 : ACell} {po : List ACell} : ∀ {zr zn : List Int32} {zm : List Int64} {zi zc : List Int32} {zt : Int64} {za v1 v2 v4 t0 : Int32} {d3 d5 d6 d7 : Slot} {w_o_oRem w_o_oStatus : List Int32} {w_o_oStamp : List Int64} {w_o_oTop w_o_restIds : List Int32} {w_o_stampCounter : Int64} {w_o_restN : Int32}, f_finishIncoming_78 zd zg zr zn zm zi zc zt za v1 v2 v4 t0 = some (w_o_oRem, w_o_oStatus, w_o_oStamp, w_o_oTop, w_o_restIds, w_o_stampCounter, w_o_restN) → OEnds own_P 9 78 [qr 1, qi v1, qi v2, d3, qi v4, d5, d6, d7] [.int t0] (c0 :: bk0 zd zg zr zu zn zm zi zc zs zp zq ze zh zf zl zk zj zt za zo zb po) (none, (c0 :: bk0 zd zg w_o_oRem zu w_o_oStatus w_o_oStamp w_o_oTop w_o_restIds zs zp zq ze zh zf zl zk zj w_o_stampCounter w_o_restN zo zb po), 0, 0) := by
  intro zr zn zm zi zc zt za v1 v2 v4 t0 d3 d5 d6 d7 w_o_oRem w_o_oStatus w_o_oStamp w_o_oTop w_o_restIds w_o_stampCounter w_o_restN h
  unfold f_finishIncoming_78 at h
  refine OEnds.adv hm_9 2 (pc' := 82) (L' := [qr 1, qi v1, qi v2, qu, qi v4, qu, qu, qi t0]) (S' := [.int t0]) (H' := (c0 :: bk0 zd zg zr zu zn zm zi zc zs zp zq ze zh zf zl zk zj zt za zo zb po)) rfl ?_
  by_cases hc82 : t0 = (0 : Int32)
  · simp only [if_pos hc82] at h
    refine OEnds.ifT hm_9 rfl (q := 90) rfl ((teq hc82).1) ?_
    show OEnds own_P 9 90 [qr 1, qi v1, qi v2, qu, qi v4, qu, qu, qi t0] [] (c0 :: bk0 zd zg zr zu zn zm zi zc zs zp zq ze zh zf zl zk zj zt za zo zb po) _
    exact ok_finishIncoming_90_0 h
  · simp only [if_neg hc82] at h
    refine OEnds.ifF hm_9 rfl ((feq hc82).1) ?_
    refine OEnds.adv hm_9 2 (pc' := 87) (L' := [qr 1, qi v1, qi v2, qu, qi v4, qu, qu, qi t0]) (S' := [.int v2, .ref 1]) (H' := (c0 :: bk0 zd zg zr zu zn zm zi zc zs zp zq ze zh zf zl zk zj zt za zo zb po)) rfl ?_
    obtain ⟨s115, hq83, h⟩ := bnd h
    refine OEnds.call0 hm_9 rfl rfl (by decide) rfl (as := [.ref 1, .int v2]) (rest := []) rfl rfl (ok_clearFlags_0 hq83) ?_
    show OEnds own_P 9 90 [qr 1, qi v1, qi v2, qu, qi v4, qu, qu, qi t0] [] (c0 :: bk0 zd zg zr zu zn zm s115 zc zs zp zq ze zh zf zl zk zj zt za zo zb po) _
    exact ok_finishIncoming_90_0 h
theorem ok_finishIncoming_35_0 {zd zg zu zs zp zq ze zh zf : List Int32} {zl zk zj zo zb : Int32} {c0 : ACell} {po : List ACell} : ∀ {zr zn : List Int32} {zm : List Int64} {zi zc : List Int32} {zt : Int64} {za v1 : Int32} {d2 d3 d4 d5 d6 d7 : Slot} {w_o_oRem w_o_oStatus : List Int32} {w_o_oStamp : List Int64} {w_o_oTop w_o_restIds : List Int32} {w_o_stampCounter : Int64} {w_o_restN : Int32}, f_finishIncoming_35 zd zg zr zn zm zi zc zt za v1 = some (w_o_oRem, w_o_oStatus, w_o_oStamp, w_o_oTop, w_o_restIds, w_o_stampCounter, w_o_restN) → OEnds own_P 9 35 [qr 1, qi v1, d2, d3, d4, d5, d6, d7] [] (c0 :: bk0 zd zg zr zu zn zm zi zc zs zp zq ze zh zf zl zk zj zt za zo zb po) (none, (c0 :: bk0 zd zg w_o_oRem zu w_o_oStatus w_o_oStamp w_o_oTop w_o_restIds zs zp zq ze zh zf zl zk zj w_o_stampCounter w_o_restN zo zb po), 0, 0) := by
  intro zr zn zm zi zc zt za v1 d2 d3 d4 d5 d6 d7 w_o_oRem w_o_oStatus w_o_oStamp w_o_oTop w_o_restIds w_o_stampCounter w_o_restN h
  unfold f_finishIncoming_35 at h
  refine OEnds.adv hm_9 4 (pc' := 41) (L' := [qr 1, qi v1, qu, qu, qu, qu, qu, qu]) (S' := [.int 4, .int v1, .ref 6]) (H' := (c0 :: bk0 zd zg zr zu zn zm zi zc zs zp zq ze zh zf zl zk zj zt za zo zb po)) rfl ?_
  obtain ⟨A121, hA121, h⟩ := bnd h
  refine OEnds.plain hm_9 rfl rfl (x_iastore rfl (Nat.le_of_ble_eq_true rfl) hA121) ?_
  refine OEnds.adv hm_9 4 (pc' := 48) (L' := [qr 1, qi v1, qu, qu, qu, qu, qu, qu]) (S' := [.int 0, .int v1, .ref 4]) (H' := (c0 :: bk0 zd zg zr zu A121 zm zi zc zs zp zq ze zh zf zl zk zj zt za zo zb po)) rfl ?_
  obtain ⟨A122, hA122, h⟩ := bnd h
  refine OEnds.plain hm_9 rfl rfl (x_iastore rfl (Nat.le_of_ble_eq_true rfl) hA122) ?_
  show OEnds own_P 9 49 [qr 1, qi v1, qu, qu, qu, qu, qu, qu] [] (c0 :: bk0 zd zg A122 zu A121 zm zi zc zs zp zq ze zh zf zl zk zj zt za zo zb po) _
  cases h
  exact OEnds.vret hm_9 rfl rfl
theorem ok_finishIncoming_0 {zd zg zu zs zp zq ze zh zf : List Int32} {zl zk zj zo zb : Int32} {c0 : ACell} {po : List ACell} {zr zn : List Int32} {zm : List Int64} {zi zc : List Int32} {zt : Int64} {za v1 v2 v3 v4 v5 : Int32} {w_o_oRem w_o_oStatus : List Int32} {w_o_oStamp : List Int64} {w_o_oTop w_o_restIds : List Int32} {w_o_stampCounter : Int64} {w_o_restN : Int32} (h : f_finishIncoming zd zg zr zn zm zi zc zt za v1 v2 v3 v4 v5 = some (w_o_oRem, w_o_oStatus, w_o_oStamp, w_o_oTop, w_o_restIds, w_o_stampCounter, w_o_restN)) : OEnds own_P 9 0 [qr 1, qi v1, qi v2, qi v3, qi v4, qi v5, qu, qu] [] (c0 :: bk0 zd zg zr zu zn zm zi zc zs zp zq ze zh zf zl zk zj zt za zo zb po) (none, (c0 :: bk0 zd zg w_o_oRem zu w_o_oStatus w_o_oStamp w_o_oTop w_o_restIds zs zp zq ze zh zf zl zk zj w_o_stampCounter w_o_restN zo zb po), 0, 0) := by
  unfold f_finishIncoming at h
  refine OEnds.adv hm_9 1 (pc' := 2) (L' := [qr 1, qi v1, qi v2, qi v3, qi v4, qi v5, qu, qu]) (S' := [.int v4]) (H' := (c0 :: bk0 zd zg zr zu zn zm zi zc zs zp zq ze zh zf zl zk zj zt za zo zb po)) rfl ?_
  by_cases hc84 : v4 = (0 : Int32)
  · simp only [if_pos hc84] at h
    refine OEnds.ifF hm_9 rfl ((teq hc84).2) ?_
    refine OEnds.adv hm_9 4 (pc' := 11) (L' := [qr 1, qi v1, qi v2, qi v3, qi v4, qi v5, qu, qu]) (S' := [.int 2, .int v1, .ref 6]) (H' := (c0 :: bk0 zd zg zr zu zn zm zi zc zs zp zq ze zh zf zl zk zj zt za zo zb po)) rfl ?_
    obtain ⟨A113, hA113, h⟩ := bnd h
    refine OEnds.plain hm_9 rfl rfl (x_iastore rfl (Nat.le_of_ble_eq_true rfl) hA113) ?_
    refine OEnds.adv hm_9 4 (pc' := 18) (L' := [qr 1, qi v1, qi v2, qi v3, qi v4, qi v5, qu, qu]) (S' := [.int 0, .int v1, .ref 4]) (H' := (c0 :: bk0 zd zg zr zu A113 zm zi zc zs zp zq ze zh zf zl zk zj zt za zo zb po)) rfl ?_
    obtain ⟨A114, hA114, h⟩ := bnd h
    refine OEnds.plain hm_9 rfl rfl (x_iastore rfl (Nat.le_of_ble_eq_true rfl) hA114) ?_
    show OEnds own_P 9 19 [qr 1, qi v1, qi v2, qi v3, qi v4, qi v5, qu, qu] [] (c0 :: bk0 zd zg A114 zu A113 zm zi zc zs zp zq ze zh zf zl zk zj zt za zo zb po) _
    cases h
    exact OEnds.vret hm_9 rfl rfl
  · simp only [if_neg hc84] at h
    refine OEnds.ifT hm_9 rfl (q := 20) rfl ((feq hc84).2) ?_
    refine OEnds.adv hm_9 2 (pc' := 23) (L' := [qr 1, qi v1, qi v2, qi v3, qi v4, qi v5, qu, qu]) (S' := [.int 1, .int v5]) (H' := (c0 :: bk0 zd zg zr zu zn zm zi zc zs zp zq ze zh zf zl zk zj zt za zo zb po)) rfl ?_
    by_cases hc85 : v5 = (1 : Int32)
    · simp only [if_pos hc85] at h
      refine OEnds.icmpT hm_9 rfl (q := 35) rfl ((teq hc85).1) ?_
      show OEnds own_P 9 35 [qr 1, qi v1, qi v2, qi v3, qi v4, qi v5, qu, qu] [] (c0 :: bk0 zd zg zr zu zn zm zi zc zs zp zq ze zh zf zl zk zj zt za zo zb po) _
      exact ok_finishIncoming_35_0 h
    · simp only [if_neg hc85] at h
      refine OEnds.icmpF hm_9 rfl ((feq hc85).1) ?_
      refine OEnds.adv hm_9 3 (pc' := 32) (L' := [qr 1, qi v1, qi v2, qi v3, qi v4, qi v5, qu, qu]) (S' := [.int 64, .int za]) (H' := (c0 :: bk0 zd zg zr zu zn zm zi zc zs zp zq ze zh zf zl zk zj zt za zo zb po)) rfl ?_
      by_cases hc86 : za < (64 : Int32)
      · simp only [if_pos hc86] at h
        refine OEnds.icmpT hm_9 rfl (q := 50) rfl ((tlt hc86).1) ?_
        refine OEnds.adv hm_9 2 (pc' := 52) (L' := [qr 1, qi v1, qi v2, qi v3, qi v4, qi v5, qu, qu]) (S' := [.int v2, .ref 1]) (H' := (c0 :: bk0 zd zg zr zu zn zm zi zc zs zp zq ze zh zf zl zk zj zt za zo zb po)) rfl ?_
        obtain ⟨r111, hq87, h⟩ := bnd h
        refine OEnds.call0 hm_9 rfl rfl (by decide) rfl (as := [.ref 1, .int v2]) (rest := []) rfl rfl (ok_bestOf_0 hq87) ?_
        refine OEnds.adv hm_9 2 (pc' := 59) (L' := [qr 1, qi v1, qi v2, qi v3, qi v4, qi v5, qi r111, qu]) (S' := [.int r111]) (H' := (c0 :: bk0 zd zg zr zu zn zm zi zc zs zp zq ze zh zf zl zk zj zt za zo zb po)) rfl ?_
        by_cases hc88 : r111 = (0 : Int32)
        · simp only [if_pos hc88] at h
          refine OEnds.ifT hm_9 rfl (q := 73) rfl ((teq hc88).1) ?_
          refine OEnds.adv hm_9 2 (pc' := 78) (L' := [qr 1, qi v1, qi v2, qi v3, qi v4, qi v5, qi r111, qu]) (S' := [.int 1]) (H' := (c0 :: bk0 zd zg zr zu zn zm zi zc zs zp zq ze zh zf zl zk zj zt za zo zb po)) rfl ?_
          exact ok_finishIncoming_78_0 h
        · simp only [if_neg hc88] at h
          refine OEnds.ifF hm_9 rfl ((feq hc88).1) ?_
          refine OEnds.adv hm_9 4 (pc' := 67) (L' := [qr 1, qi v1, qi v2, qi v3, qi v4, qi v5, qi r111, qu]) (S' := [.int r111, .int v3, .int v2, .ref 1]) (H' := (c0 :: bk0 zd zg zr zu zn zm zi zc zs zp zq ze zh zf zl zk zj zt za zo zb po)) rfl ?_
          obtain ⟨r112, hq89, h⟩ := bnd h
          refine OEnds.call0 hm_9 rfl rfl (by decide) rfl (as := [.ref 1, .int v2, .int v3, .int r111]) (rest := []) rfl rfl (ok_better_0 hq89) ?_
          show OEnds own_P 9 70 [qr 1, qi v1, qi v2, qi v3, qi v4, qi v5, qi r111, qu] [.int r112] (c0 :: bk0 zd zg zr zu zn zm zi zc zs zp zq ze zh zf zl zk zj zt za zo zb po) _
          by_cases hc90 : r112 = (0 : Int32)
          · simp only [if_pos hc90] at h
            refine OEnds.ifT hm_9 rfl (q := 77) rfl ((teq hc90).1) ?_
            refine OEnds.adv hm_9 1 (pc' := 78) (L' := [qr 1, qi v1, qi v2, qi v3, qi v4, qi v5, qi r111, qu]) (S' := [.int 0]) (H' := (c0 :: bk0 zd zg zr zu zn zm zi zc zs zp zq ze zh zf zl zk zj zt za zo zb po)) rfl ?_
            exact ok_finishIncoming_78_0 h
          · simp only [if_neg hc90] at h
            refine OEnds.ifF hm_9 rfl ((feq hc90).1) ?_
            refine OEnds.adv hm_9 2 (pc' := 78) (L' := [qr 1, qi v1, qi v2, qi v3, qi v4, qi v5, qi r111, qu]) (S' := [.int 1]) (H' := (c0 :: bk0 zd zg zr zu zn zm zi zc zs zp zq ze zh zf zl zk zj zt za zo zb po)) rfl ?_
            exact ok_finishIncoming_78_0 h
      · simp only [if_neg hc86] at h
        refine OEnds.icmpF hm_9 rfl ((flt hc86).1) ?_
        show OEnds own_P 9 35 [qr 1, qi v1, qi v2, qi v3, qi v4, qi v5, qu, qu] [] (c0 :: bk0 zd zg zr zu zn zm zi zc zs zp zq ze zh zf zl zk zj zt za zo zb po) _
        exact ok_finishIncoming_35_0 h
theorem ok_submit_55_0 {zl zk : Int32} {c0 : ACell} {po : List ACell} : ∀ {zd zg zr zu zn : List Int32} {zm : List Int64} {zi zc zs zp zq ze zh zf : List Int32} {zj : Int32} {zt : Int64} {za zo zb v1 v2 v3 v4 : Int32} {d5 d6 : Slot} {res : Int32} {w_o_oSide w_o_oPrice w_o_oRem w_o_oFilled w_o_oStatus : List Int32} {w_o_oStamp : List Int64} {w_o_oTop w_o_restIds w_o_fIds w_o_fQty w_o_fPrice w_o_lvlIds w_o_lvlR w_o_lvlA : List Int32} {w_o_accepted : Int32} {w_o_stampCounter : Int64} {w_o_restN w_o_fN : Int32} {w_o_lvlN : Int32}, f_submit_55 zl zk zd zg zr zu zn zm zi zc zs zp zq ze zh zf zj zt za zo zb v1 v2 v3 v4 = some (res, w_o_oSide, w_o_oPrice, w_o_oRem, w_o_oFilled, w_o_oStatus, w_o_oStamp, w_o_oTop, w_o_restIds, w_o_fIds, w_o_fQty, w_o_fPrice, w_o_lvlIds, w_o_lvlR, w_o_lvlA, w_o_accepted, w_o_stampCounter, w_o_restN, w_o_fN, w_o_lvlN) → OEnds own_P 3 55 [qr 1, qi v1, qi v2, qi v3, qi v4, d5, d6] [] (c0 :: bk0 zd zg zr zu zn zm zi zc zs zp zq ze zh zf zl zk zj zt za zo zb po) (some (.int res), (c0 :: bk0 w_o_oSide w_o_oPrice w_o_oRem w_o_oFilled w_o_oStatus w_o_oStamp w_o_oTop w_o_restIds w_o_fIds w_o_fQty w_o_fPrice w_o_lvlIds w_o_lvlR w_o_lvlA zl zk w_o_accepted w_o_stampCounter w_o_restN w_o_fN w_o_lvlN po), 0, 0) := by
  intro zd zg zr zu zn zm zi zc zs zp zq ze zh zf zj zt za zo zb v1 v2 v3 v4 d5 d6 res w_o_oSide w_o_oPrice w_o_oRem w_o_oFilled w_o_oStatus w_o_oStamp w_o_oTop w_o_restIds w_o_fIds w_o_fQty w_o_fPrice w_o_lvlIds w_o_lvlR w_o_lvlA w_o_accepted w_o_stampCounter w_o_restN w_o_fN w_o_lvlN h
  unfold f_submit_55 at h
  refine OEnds.adv hm_3 3 (pc' := 62) (L' := [qr 1, qi v1, qi v2, qi v3, qi v4, qu, qu]) (S' := [.int 255, .int zj]) (H' := (c0 :: bk0 zd zg zr zu zn zm zi zc zs zp zq ze zh zf zl zk zj zt za zo zb po)) rfl ?_
  by_cases hc91 : zj < (255 : Int32)
  · simp only [if_pos hc91] at h
    refine OEnds.icmpT hm_3 rfl (q := 68) rfl ((tlt hc91).1) ?_
    refine OEnds.adv hm_3 16 (pc' := 96) (L' := [qr 1, qi v1, qi v2, qi v3, qi v4, qi (zj + (1 : Int32)), qu]) (S' := [.int v1, .int (zj + (1 : Int32)), .ref 2]) (H' := (c0 :: bk0 zd zg zr zu zn zm zi zc zs zp zq ze zh zf zl zk (zj + (1 : Int32)) zt za 0 zb po)) rfl ?_
    obtain ⟨A123, hA123, h⟩ := bnd h
    refine OEnds.plain hm_3 rfl rfl (x_iastore rfl (Nat.le_of_ble_eq_true rfl) hA123) ?_
    refine OEnds.adv hm_3 4 (pc' := 104) (L' := [qr 1, qi v1, qi v2, qi v3, qi v4, qi (zj + (1 : Int32)), qu]) (S' := [.int v2, .int (zj + (1 : Int32)), .ref 3]) (H' := (c0 :: bk0 A123 zg zr zu zn zm zi zc zs zp zq ze zh zf zl zk (zj + (1 : Int32)) zt za 0 zb po)) rfl ?_
    obtain ⟨A124, hA124, h⟩ := bnd h
    refine OEnds.plain hm_3 rfl rfl (x_iastore rfl (Nat.le_of_ble_eq_true rfl) hA124) ?_
    refine OEnds.adv hm_3 4 (pc' := 112) (L' := [qr 1, qi v1, qi v2, qi v3, qi v4, qi (zj + (1 : Int32)), qu]) (S' := [.int 0, .int (zj + (1 : Int32)), .ref 4]) (H' := (c0 :: bk0 A123 A124 zr zu zn zm zi zc zs zp zq ze zh zf zl zk (zj + (1 : Int32)) zt za 0 zb po)) rfl ?_
    obtain ⟨A125, hA125, h⟩ := bnd h
    refine OEnds.plain hm_3 rfl rfl (x_iastore rfl (Nat.le_of_ble_eq_true rfl) hA125) ?_
    refine OEnds.adv hm_3 4 (pc' := 120) (L' := [qr 1, qi v1, qi v2, qi v3, qi v4, qi (zj + (1 : Int32)), qu]) (S' := [.int 0, .int (zj + (1 : Int32)), .ref 5]) (H' := (c0 :: bk0 A123 A124 A125 zu zn zm zi zc zs zp zq ze zh zf zl zk (zj + (1 : Int32)) zt za 0 zb po)) rfl ?_
    obtain ⟨A126, hA126, h⟩ := bnd h
    refine OEnds.plain hm_3 rfl rfl (x_iastore rfl (Nat.le_of_ble_eq_true rfl) hA126) ?_
    refine OEnds.adv hm_3 4 (pc' := 128) (L' := [qr 1, qi v1, qi v2, qi v3, qi v4, qi (zj + (1 : Int32)), qu]) (S' := [.int 0, .int (zj + (1 : Int32)), .ref 8]) (H' := (c0 :: bk0 A123 A124 A125 A126 zn zm zi zc zs zp zq ze zh zf zl zk (zj + (1 : Int32)) zt za 0 zb po)) rfl ?_
    obtain ⟨A127, hA127, h⟩ := bnd h
    refine OEnds.plain hm_3 rfl rfl (x_bastore rfl (Nat.le_of_ble_eq_true rfl) hA127) ?_
    refine OEnds.adv hm_3 4 (pc' := 136) (L' := [qr 1, qi v1, qi v2, qi v3, qi v4, qi (zj + (1 : Int32)), qu]) (S' := [.long 0, .int (zj + (1 : Int32)), .ref 7]) (H' := (c0 :: bk0 A123 A124 A125 A126 zn zm A127 zc zs zp zq ze zh zf zl zk (zj + (1 : Int32)) zt za 0 zb po)) rfl ?_
    obtain ⟨A128, hA128, h⟩ := bnd h
    refine OEnds.plain hm_3 rfl rfl (x_lastore rfl (Nat.le_of_ble_eq_true rfl) hA128) ?_
    refine OEnds.adv hm_3 5 (pc' := 143) (L' := [qr 1, qi v1, qi v2, qi v3, qi v4, qi (zj + (1 : Int32)), qu]) (S' := [.int v3, .int v2, .int v1, .int (zj + (1 : Int32)), .ref 1]) (H' := (c0 :: bk0 A123 A124 A125 A126 zn A128 A127 zc zs zp zq ze zh zf zl zk (zj + (1 : Int32)) zt za 0 zb po)) rfl ?_
    obtain ⟨⟨r129, s130, s131, s132, s133, s134, s135, s136, s137, s138, s139, s140, s141, s142, s143⟩, hq92, h⟩ := bnd h
    refine OEnds.call0 hm_3 rfl rfl (by decide) rfl (as := [.ref 1, .int (zj + (1 : Int32)), .int v1, .int v2, .int v3]) (rest := []) rfl rfl (ok_matchIncoming_0 hq92) ?_
    refine OEnds.adv hm_3 7 (pc' := 157) (L' := [qr 1, qi v1, qi v2, qi v3, qi v4, qi (zj + (1 : Int32)), qi r129]) (S' := [.int v4, .int r129, .int v2, .int v1, .int (zj + (1 : Int32)), .ref 1]) (H' := (c0 :: bk0 A123 A124 s130 s131 s132 A128 s133 s134 s135 s136 s137 s138 s139 s140 zl zk (zj + (1 : Int32)) zt s141 s142 s143 po)) rfl ?_
    obtain ⟨⟨s144, s145, s146, s147, s148, s149, s150⟩, hq93, h⟩ := bnd h
    refine OEnds.call0 hm_3 rfl rfl (by decide) rfl (as := [.ref 1, .int (zj + (1 : Int32)), .int v1, .int v2, .int r129, .int v4]) (rest := []) rfl rfl (ok_finishIncoming_0 hq93) ?_
    refine OEnds.adv hm_3 1 (pc' := 162) (L' := [qr 1, qi v1, qi v2, qi v3, qi v4, qi (zj + (1 : Int32)), qi r129]) (S' := [.int (zj + (1 : Int32))]) (H' := (c0 :: bk0 A123 A124 s144 s131 s145 s146 s147 s148 s135 s136 s137 s138 s139 s140 zl zk (zj + (1 : Int32)) s149 s150 s142 s143 po)) rfl ?_
    cases h
    exact OEnds.iret hm_3 rfl rfl
  · simp only [if_neg hc91] at h
    refine OEnds.icmpF hm_3 rfl ((flt hc91).1) ?_
    refine OEnds.adv hm_3 1 (pc' := 67) (L' := [qr 1, qi v1, qi v2, qi v3, qi v4, qu, qu]) (S' := [.int (-5)]) (H' := (c0 :: bk0 zd zg zr zu zn zm zi zc zs zp zq ze zh zf zl zk zj zt za zo zb po)) rfl ?_
    cases h
    exact OEnds.iret hm_3 rfl rfl
theorem ok_submit_11_0 {zl zk : Int32} {c0 : ACell} {po : List ACell} : ∀ {zd zg zr zu zn : List Int32} {zm : List Int64} {zi zc zs zp zq ze zh zf : List Int32} {zj : Int32} {zt : Int64} {za zo zb v1 v2 v3 v4 : Int32} {d5 d6 : Slot} {res : Int32} {w_o_oSide w_o_oPrice w_o_oRem w_o_oFilled w_o_oStatus : List Int32} {w_o_oStamp : List Int64} {w_o_oTop w_o_restIds w_o_fIds w_o_fQty w_o_fPrice w_o_lvlIds w_o_lvlR w_o_lvlA : List Int32} {w_o_accepted : Int32} {w_o_stampCounter : Int64} {w_o_restN w_o_fN : Int32} {w_o_lvlN : Int32}, f_submit_11 zl zk zd zg zr zu zn zm zi zc zs zp zq ze zh zf zj zt za zo zb v1 v2 v3 v4 = some (res, w_o_oSide, w_o_oPrice, w_o_oRem, w_o_oFilled, w_o_oStatus, w_o_oStamp, w_o_oTop, w_o_restIds, w_o_fIds, w_o_fQty, w_o_fPrice, w_o_lvlIds, w_o_lvlR, w_o_lvlA, w_o_accepted, w_o_stampCounter, w_o_restN, w_o_fN, w_o_lvlN) → OEnds own_P 3 11 [qr 1, qi v1, qi v2, qi v3, qi v4, d5, d6] [] (c0 :: bk0 zd zg zr zu zn zm zi zc zs zp zq ze zh zf zl zk zj zt za zo zb po) (some (.int res), (c0 :: bk0 w_o_oSide w_o_oPrice w_o_oRem w_o_oFilled w_o_oStatus w_o_oStamp w_o_oTop w_o_restIds w_o_fIds w_o_fQty w_o_fPrice w_o_lvlIds w_o_lvlR w_o_lvlA zl zk w_o_accepted w_o_stampCounter w_o_restN w_o_fN w_o_lvlN po), 0, 0) := by
  intro zd zg zr zu zn zm zi zc zs zp zq ze zh zf zj zt za zo zb v1 v2 v3 v4 d5 d6 res w_o_oSide w_o_oPrice w_o_oRem w_o_oFilled w_o_oStatus w_o_oStamp w_o_oTop w_o_restIds w_o_fIds w_o_fQty w_o_fPrice w_o_lvlIds w_o_lvlR w_o_lvlA w_o_accepted w_o_stampCounter w_o_restN w_o_fN w_o_lvlN h
  unfold f_submit_11 at h
  refine OEnds.adv hm_3 2 (pc' := 13) (L' := [qr 1, qi v1, qi v2, qi v3, qi v4, qu, qu]) (S' := [.int 1, .int v2]) (H' := (c0 :: bk0 zd zg zr zu zn zm zi zc zs zp zq ze zh zf zl zk zj zt za zo zb po)) rfl ?_
  by_cases hc94 : v2 < (1 : Int32)
  · simp only [if_pos hc94] at h
    refine OEnds.icmpT hm_3 rfl (q := 23) rfl ((tlt hc94).1) ?_
    refine OEnds.adv hm_3 1 (pc' := 25) (L' := [qr 1, qi v1, qi v2, qi v3, qi v4, qu, qu]) (S' := [.int (-2)]) (H' := (c0 :: bk0 zd zg zr zu zn zm zi zc zs zp zq ze zh zf zl zk zj zt za zo zb po)) rfl ?_
    cases h
    exact OEnds.iret hm_3 rfl rfl
  · simp only [if_neg hc94] at h
    refine OEnds.icmpF hm_3 rfl ((flt hc94).1) ?_
    refine OEnds.adv hm_3 2 (pc' := 20) (L' := [qr 1, qi v1, qi v2, qi v3, qi v4, qu, qu]) (S' := [.int 1000, .int v2]) (H' := (c0 :: bk0 zd zg zr zu zn zm zi zc zs zp zq ze zh zf zl zk zj zt za zo zb po)) rfl ?_
    by_cases hc95 : (1000 : Int32) < v2
    · simp only [if_pos hc95] at h
      refine OEnds.icmpF hm_3 rfl ((tlt hc95).2.2.2) ?_
      refine OEnds.adv hm_3 1 (pc' := 25) (L' := [qr 1, qi v1, qi v2, qi v3, qi v4, qu, qu]) (S' := [.int (-2)]) (H' := (c0 :: bk0 zd zg zr zu zn zm zi zc zs zp zq ze zh zf zl zk zj zt za zo zb po)) rfl ?_
      cases h
      exact OEnds.iret hm_3 rfl rfl
    · simp only [if_neg hc95] at h
      refine OEnds.icmpT hm_3 rfl (q := 26) rfl ((flt hc95).2.2.2) ?_
      refine OEnds.adv hm_3 2 (pc' := 28) (L' := [qr 1, qi v1, qi v2, qi v3, qi v4, qu, qu]) (S' := [.int 1, .int v3]) (H' := (c0 :: bk0 zd zg zr zu zn zm zi zc zs zp zq ze zh zf zl zk zj zt za zo zb po)) rfl ?_
      by_cases hc96 : v3 < (1 : Int32)
      · simp only [if_pos hc96] at h
        refine OEnds.icmpT hm_3 rfl (q := 38) rfl ((tlt hc96).1) ?_
        refine OEnds.adv hm_3 1 (pc' := 40) (L' := [qr 1, qi v1, qi v2, qi v3, qi v4, qu, qu]) (S' := [.int (-3)]) (H' := (c0 :: bk0 zd zg zr zu zn zm zi zc zs zp zq ze zh zf zl zk zj zt za zo zb po)) rfl ?_
        cases h
        exact OEnds.iret hm_3 rfl rfl
      · simp only [if_neg hc96] at h
        refine OEnds.icmpF hm_3 rfl ((flt hc96).1) ?_
        refine OEnds.adv hm_3 2 (pc' := 35) (L' := [qr 1, qi v1, qi v2, qi v3, qi v4, qu, qu]) (S' := [.int 10000, .int v3]) (H' := (c0 :: bk0 zd zg zr zu zn zm zi zc zs zp zq ze zh zf zl zk zj zt za zo zb po)) rfl ?_
        by_cases hc97 : (10000 : Int32) < v3
        · simp only [if_pos hc97] at h
          refine OEnds.icmpF hm_3 rfl ((tlt hc97).2.2.2) ?_
          refine OEnds.adv hm_3 1 (pc' := 40) (L' := [qr 1, qi v1, qi v2, qi v3, qi v4, qu, qu]) (S' := [.int (-3)]) (H' := (c0 :: bk0 zd zg zr zu zn zm zi zc zs zp zq ze zh zf zl zk zj zt za zo zb po)) rfl ?_
          cases h
          exact OEnds.iret hm_3 rfl rfl
        · simp only [if_neg hc97] at h
          refine OEnds.icmpT hm_3 rfl (q := 41) rfl ((flt hc97).2.2.2) ?_
          refine OEnds.adv hm_3 1 (pc' := 43) (L' := [qr 1, qi v1, qi v2, qi v3, qi v4, qu, qu]) (S' := [.int v4]) (H' := (c0 :: bk0 zd zg zr zu zn zm zi zc zs zp zq ze zh zf zl zk zj zt za zo zb po)) rfl ?_
          by_cases hc98 : v4 = (0 : Int32)
          · simp only [if_pos hc98] at h
            refine OEnds.ifT hm_3 rfl (q := 55) rfl ((teq hc98).1) ?_
            show OEnds own_P 3 55 [qr 1, qi v1, qi v2, qi v3, qi v4, qu, qu] [] (c0 :: bk0 zd zg zr zu zn zm zi zc zs zp zq ze zh zf zl zk zj zt za zo zb po) _
            exact ok_submit_55_0 h
          · simp only [if_neg hc98] at h
            refine OEnds.ifF hm_3 rfl ((feq hc98).1) ?_
            refine OEnds.adv hm_3 2 (pc' := 49) (L' := [qr 1, qi v1, qi v2, qi v3, qi v4, qu, qu]) (S' := [.int 1, .int v4]) (H' := (c0 :: bk0 zd zg zr zu zn zm zi zc zs zp zq ze zh zf zl zk zj zt za zo zb po)) rfl ?_
            by_cases hc99 : v4 = (1 : Int32)
            · simp only [if_pos hc99] at h
              refine OEnds.icmpT hm_3 rfl (q := 55) rfl ((teq hc99).1) ?_
              show OEnds own_P 3 55 [qr 1, qi v1, qi v2, qi v3, qi v4, qu, qu] [] (c0 :: bk0 zd zg zr zu zn zm zi zc zs zp zq ze zh zf zl zk zj zt za zo zb po) _
              exact ok_submit_55_0 h
            · simp only [if_neg hc99] at h
              refine OEnds.icmpF hm_3 rfl ((feq hc99).1) ?_
              refine OEnds.adv hm_3 1 (pc' := 54) (L' := [qr 1, qi v1, qi v2, qi v3, qi v4, qu, qu]) (S' := [.int (-4)]) (H' := (c0 :: bk0 zd zg zr zu zn zm zi zc zs zp zq ze zh zf zl zk zj zt za zo zb po)) rfl ?_
              cases h
              exact OEnds.iret hm_3 rfl rfl
theorem ok_submit_0 {zl zk : Int32} {c0 : ACell} {po : List ACell} {zd zg zr zu zn : List Int32} {zm : List Int64} {zi zc zs zp zq ze zh zf : List Int32} {zj : Int32} {zt : Int64} {za zo zb v1 v2 v3 v4 res : Int32} {w_o_oSide w_o_oPrice w_o_oRem w_o_oFilled w_o_oStatus : List Int32} {w_o_oStamp : List Int64} {w_o_oTop w_o_restIds w_o_fIds w_o_fQty w_o_fPrice w_o_lvlIds w_o_lvlR w_o_lvlA : List Int32} {w_o_accepted : Int32} {w_o_stampCounter : Int64} {w_o_restN w_o_fN w_o_lvlN : Int32} (h : f_submit zl zk zd zg zr zu zn zm zi zc zs zp zq ze zh zf zj zt za zo zb v1 v2 v3 v4 = some (res, w_o_oSide, w_o_oPrice, w_o_oRem, w_o_oFilled, w_o_oStatus, w_o_oStamp, w_o_oTop, w_o_restIds, w_o_fIds, w_o_fQty, w_o_fPrice, w_o_lvlIds, w_o_lvlR, w_o_lvlA, w_o_accepted, w_o_stampCounter, w_o_restN, w_o_fN, w_o_lvlN)) : OEnds own_P 3 0 [qr 1, qi v1, qi v2, qi v3, qi v4, qu, qu] [] (c0 :: bk0 zd zg zr zu zn zm zi zc zs zp zq ze zh zf zl zk zj zt za zo zb po) (some (.int res), (c0 :: bk0 w_o_oSide w_o_oPrice w_o_oRem w_o_oFilled w_o_oStatus w_o_oStamp w_o_oTop w_o_restIds w_o_fIds w_o_fQty w_o_fPrice w_o_lvlIds w_o_lvlR w_o_lvlA zl zk w_o_accepted w_o_stampCounter w_o_restN w_o_fN w_o_lvlN po), 0, 0) := by
  unfold f_submit at h
  refine OEnds.adv hm_3 1 (pc' := 1) (L' := [qr 1, qi v1, qi v2, qi v3, qi v4, qu, qu]) (S' := [.int v1]) (H' := (c0 :: bk0 zd zg zr zu zn zm zi zc zs zp zq ze zh zf zl zk zj zt za zo zb po)) rfl ?_
  by_cases hc100 : v1 = (0 : Int32)
  · simp only [if_pos hc100] at h
    refine OEnds.ifT hm_3 rfl (q := 11) rfl ((teq hc100).1) ?_
    show OEnds own_P 3 11 [qr 1, qi v1, qi v2, qi v3, qi v4, qu, qu] [] (c0 :: bk0 zd zg zr zu zn zm zi zc zs zp zq ze zh zf zl zk zj zt za zo zb po) _
    exact ok_submit_11_0 h
  · simp only [if_neg hc100] at h
    refine OEnds.ifF hm_3 rfl ((feq hc100).1) ?_
    refine OEnds.adv hm_3 2 (pc' := 6) (L' := [qr 1, qi v1, qi v2, qi v3, qi v4, qu, qu]) (S' := [.int 1, .int v1]) (H' := (c0 :: bk0 zd zg zr zu zn zm zi zc zs zp zq ze zh zf zl zk zj zt za zo zb po)) rfl ?_
    by_cases hc101 : v1 = (1 : Int32)
    · simp only [if_pos hc101] at h
      refine OEnds.icmpT hm_3 rfl (q := 11) rfl ((teq hc101).1) ?_
      show OEnds own_P 3 11 [qr 1, qi v1, qi v2, qi v3, qi v4, qu, qu] [] (c0 :: bk0 zd zg zr zu zn zm zi zc zs zp zq ze zh zf zl zk zj zt za zo zb po) _
      exact ok_submit_11_0 h
    · simp only [if_neg hc101] at h
      refine OEnds.icmpF hm_3 rfl ((feq hc101).1) ?_
      refine OEnds.adv hm_3 1 (pc' := 10) (L' := [qr 1, qi v1, qi v2, qi v3, qi v4, qu, qu]) (S' := [.int (-1)]) (H' := (c0 :: bk0 zd zg zr zu zn zm zi zc zs zp zq ze zh zf zl zk zj zt za zo zb po)) rfl ?_
      cases h
      exact OEnds.iret hm_3 rfl rfl
theorem ok_L_step_0 {zar zas : Int32} {c0 : ACell} {po : List ACell} {zw zx zah zac zz : List Int32} {zag : List Int64} {zai zab zad zae zaf zaz zba zbb : List Int32} {zv : Int32} {zbd : Int64} {zaa zy zbc v1 v2 v3 v4 v5 : Int32} {w_p0_oSide w_p0_oPrice w_p0_oRem w_p0_oFilled w_p0_oStatus : List Int32} {w_p0_oStamp : List Int64} {w_p0_oTop w_p0_restIds w_p0_fIds w_p0_fQty w_p0_fPrice w_p0_lvlIds w_p0_lvlR w_p0_lvlA : List Int32} {w_p0_accepted : Int32} {w_p0_stampCounter : Int64} {w_p0_restN w_p0_fN w_p0_lvlN : Int32} (h : f_L_step zar zas zw zx zah zac zz zag zai zab zad zae zaf zaz zba zbb zv zbd zaa zy zbc v1 v2 v3 v4 v5 = some (w_p0_oSide, w_p0_oPrice, w_p0_oRem, w_p0_oFilled, w_p0_oStatus, w_p0_oStamp, w_p0_oTop, w_p0_restIds, w_p0_fIds, w_p0_fQty, w_p0_fPrice, w_p0_lvlIds, w_p0_lvlR, w_p0_lvlA, w_p0_accepted, w_p0_stampCounter, w_p0_restN, w_p0_fN, w_p0_lvlN)) : OEnds own_P 2 0 [qr 1, qi v1, qi v2, qi v3, qi v4, qi v5] [] (c0 :: bk0 zw zx zah zac zz zag zai zab zad zae zaf zaz zba zbb zar zas zv zbd zaa zy zbc po) (none, (c0 :: bk0 w_p0_oSide w_p0_oPrice w_p0_oRem w_p0_oFilled w_p0_oStatus w_p0_oStamp w_p0_oTop w_p0_restIds w_p0_fIds w_p0_fQty w_p0_fPrice w_p0_lvlIds w_p0_lvlR w_p0_lvlA zar zas w_p0_accepted w_p0_stampCounter w_p0_restN w_p0_fN w_p0_lvlN po), 0, 0) := by
  unfold f_L_step at h
  refine OEnds.adv hm_2 2 (pc' := 2) (L' := [qr 1, qi v1, qi v2, qi v3, qi v4, qi v5]) (S' := [.int 1, .int v1]) (H' := (c0 :: bk0 zw zx zah zac zz zag zai zab zad zae zaf zaz zba zbb zar zas zv zbd zaa zy zbc po)) rfl ?_
  by_cases hc102 : v1 = (1 : Int32)
  · simp only [if_pos hc102] at h
    refine OEnds.icmpF hm_2 rfl ((teq hc102).2) ?_
    refine OEnds.adv hm_2 2 (pc' := 7) (L' := [qr 1, qi v1, qi v2, qi v3, qi v4, qi v5]) (S' := [.int v2, .ref 1]) (H' := (c0 :: bk0 zw zx zah zac zz zag zai zab zad zae zaf zaz zba zbb zar zas zv zbd zaa zy zbc po)) rfl ?_
    obtain ⟨⟨r176, s177, s178, s179, s180, s181⟩, hq103, h⟩ := bnd h
    refine OEnds.call0 hm_2 rfl rfl (by decide) rfl (as := [.ref 1, .int v2]) (rest := []) rfl rfl (ok_cancel_0 hq103) ?_
    refine OEnds.adv hm_2 2 (pc' := 40) (L' := [qr 1, qi v1, qi v2, qi v3, qi v4, qi v5]) (S' := []) (H' := (c0 :: bk0 zw zx s177 zac s178 zag s179 s180 zad zae zaf zaz zba zbb zar zas zv zbd s181 zy zbc po)) rfl ?_
    cases h
    exact OEnds.vret hm_2 rfl rfl
  · simp only [if_neg hc102] at h
    refine OEnds.icmpT hm_2 rfl (q := 14) rfl ((feq hc102).2) ?_
    refine OEnds.adv hm_2 2 (pc' := 16) (L' := [qr 1, qi v1, qi v2, qi v3, qi v4, qi v5]) (S' := [.int 2, .int v1]) (H' := (c0 :: bk0 zw zx zah zac zz zag zai zab zad zae zaf zaz zba zbb zar zas zv zbd zaa zy zbc po)) rfl ?_
    by_cases hc104 : v1 = (2 : Int32)
    · simp only [if_pos hc104] at h
      refine OEnds.icmpF hm_2 rfl ((teq hc104).2) ?_
      refine OEnds.adv hm_2 3 (pc' := 22) (L' := [qr 1, qi v1, qi v2, qi v3, qi v4, qi v5]) (S' := [.int v3, .int v2, .ref 1]) (H' := (c0 :: bk0 zw zx zah zac zz zag zai zab zad zae zaf zaz zba zbb zar zas zv zbd zaa zy zbc po)) rfl ?_
      obtain ⟨⟨r171, s172, s173, s174, s175⟩, hq105, h⟩ := bnd h
      refine OEnds.call0 hm_2 rfl rfl (by decide) rfl (as := [.ref 1, .int v2, .int v3]) (rest := []) rfl rfl (ok_amend_0 hq105) ?_
      refine OEnds.adv hm_2 2 (pc' := 40) (L' := [qr 1, qi v1, qi v2, qi v3, qi v4, qi v5]) (S' := []) (H' := (c0 :: bk0 zw zx s172 zac zz s173 s174 zab zad zae zaf zaz zba zbb zar zas zv s175 zaa zy zbc po)) rfl ?_
      cases h
      exact OEnds.vret hm_2 rfl rfl
    · simp only [if_neg hc104] at h
      refine OEnds.icmpT hm_2 rfl (q := 29) rfl ((feq hc104).2) ?_
      refine OEnds.adv hm_2 5 (pc' := 36) (L' := [qr 1, qi v1, qi v2, qi v3, qi v4, qi v5]) (S' := [.int v5, .int v4, .int v3, .int v2, .ref 1]) (H' := (c0 :: bk0 zw zx zah zac zz zag zai zab zad zae zaf zaz zba zbb zar zas zv zbd zaa zy zbc po)) rfl ?_
      obtain ⟨⟨r151, s152, s153, s154, s155, s156, s157, s158, s159, s160, s161, s162, s163, s164, s165, s166, s167, s168, s169, s170⟩, hq106, h⟩ := bnd h
      refine OEnds.call0 hm_2 rfl rfl (by decide) rfl (as := [.ref 1, .int v2, .int v3, .int v4, .int v5]) (rest := []) rfl rfl (ok_submit_0 hq106) ?_
      refine OEnds.adv hm_2 1 (pc' := 40) (L' := [qr 1, qi v1, qi v2, qi v3, qi v4, qi v5]) (S' := []) (H' := (c0 :: bk0 s152 s153 s154 s155 s156 s157 s158 s159 s160 s161 s162 s163 s164 s165 zar zas s166 s167 s168 s169 s170 po)) rfl ?_
      cases h
      exact OEnds.vret hm_2 rfl rfl
theorem ok_isResting_1 {zd zg zr zu zn : List Int32} {zm : List Int64} {zi zc zs zp zq ze zh zf : List Int32} {zl zk zj : Int32} {zt : Int64} {za zo zb : Int32} {c0 c1 c2 c3 c4 c5 c6 c7 c8 c9 c10 c11 c12 c13 c14 c15 : ACell} {po : List ACell} {v1 res : Int32} (h : f_isResting zn zj v1 = some res) : OEnds own_P 5 0 [qr 16, qi v1] [] (c0 :: c1 :: c2 :: c3 :: c4 :: c5 :: c6 :: c7 :: c8 :: c9 :: c10 :: c11 :: c12 :: c13 :: c14 :: c15 :: bk1 zd zg zr zu zn zm zi zc zs zp zq ze zh zf zl zk zj zt za zo zb po) (some (.int res), (c0 :: c1 :: c2 :: c3 :: c4 :: c5 :: c6 :: c7 :: c8 :: c9 :: c10 :: c11 :: c12 :: c13 :: c14 :: c15 :: bk1 zd zg zr zu zn zm zi zc zs zp zq ze zh zf zl zk zj zt za zo zb po), 0, 0) := by
  unfold f_isResting at h
  refine OEnds.adv hm_5 2 (pc' := 2) (L' := [qr 16, qi v1]) (S' := [.int 1, .int v1]) (H' := (c0 :: c1 :: c2 :: c3 :: c4 :: c5 :: c6 :: c7 :: c8 :: c9 :: c10 :: c11 :: c12 :: c13 :: c14 :: c15 :: bk1 zd zg zr zu zn zm zi zc zs zp zq ze zh zf zl zk zj zt za zo zb po)) rfl ?_
  by_cases hc107 : v1 < (1 : Int32)
  · simp only [if_pos hc107] at h
    refine OEnds.icmpT hm_5 rfl (q := 27) rfl ((tlt hc107).1) ?_
    refine OEnds.adv hm_5 1 (pc' := 28) (L' := [qr 16, qi v1]) (S' := [.int 0]) (H' := (c0 :: c1 :: c2 :: c3 :: c4 :: c5 :: c6 :: c7 :: c8 :: c9 :: c10 :: c11 :: c12 :: c13 :: c14 :: c15 :: bk1 zd zg zr zu zn zm zi zc zs zp zq ze zh zf zl zk zj zt za zo zb po)) rfl ?_
    cases h
    exact OEnds.iret hm_5 rfl rfl
  · simp only [if_neg hc107] at h
    refine OEnds.icmpF hm_5 rfl ((flt hc107).1) ?_
    refine OEnds.adv hm_5 3 (pc' := 10) (L' := [qr 16, qi v1]) (S' := [.int zj, .int v1]) (H' := (c0 :: c1 :: c2 :: c3 :: c4 :: c5 :: c6 :: c7 :: c8 :: c9 :: c10 :: c11 :: c12 :: c13 :: c14 :: c15 :: bk1 zd zg zr zu zn zm zi zc zs zp zq ze zh zf zl zk zj zt za zo zb po)) rfl ?_
    by_cases hc108 : zj < v1
    · simp only [if_pos hc108] at h
      refine OEnds.icmpT hm_5 rfl (q := 27) rfl ((tlt hc108).2.2.1) ?_
      refine OEnds.adv hm_5 1 (pc' := 28) (L' := [qr 16, qi v1]) (S' := [.int 0]) (H' := (c0 :: c1 :: c2 :: c3 :: c4 :: c5 :: c6 :: c7 :: c8 :: c9 :: c10 :: c11 :: c12 :: c13 :: c14 :: c15 :: bk1 zd zg zr zu zn zm zi zc zs zp zq ze zh zf zl zk zj zt za zo zb po)) rfl ?_
      cases h
      exact OEnds.iret hm_5 rfl rfl
    · simp only [if_neg hc108] at h
      refine OEnds.icmpF hm_5 rfl ((flt hc108).2.2.1) ?_
      refine OEnds.adv hm_5 3 (pc' := 18) (L' := [qr 16, qi v1]) (S' := [.int v1, .ref 21]) (H' := (c0 :: c1 :: c2 :: c3 :: c4 :: c5 :: c6 :: c7 :: c8 :: c9 :: c10 :: c11 :: c12 :: c13 :: c14 :: c15 :: bk1 zd zg zr zu zn zm zi zc zs zp zq ze zh zf zl zk zj zt za zo zb po)) rfl ?_
      obtain ⟨x1, hx1, h⟩ := bnd h
      refine OEnds.plain hm_5 rfl rfl (x_iaload rfl hx1) ?_
      refine OEnds.adv hm_5 1 (pc' := 20) (L' := [qr 16, qi v1]) (S' := [.int 1, .int x1]) (H' := (c0 :: c1 :: c2 :: c3 :: c4 :: c5 :: c6 :: c7 :: c8 :: c9 :: c10 :: c11 :: c12 :: c13 :: c14 :: c15 :: bk1 zd zg zr zu zn zm zi zc zs zp zq ze zh zf zl zk zj zt za zo zb po)) rfl ?_
      by_cases hc109 : x1 = (1 : Int32)
      · simp only [if_pos hc109] at h
        refine OEnds.icmpF hm_5 rfl ((teq hc109).2) ?_
        refine OEnds.adv hm_5 2 (pc' := 28) (L' := [qr 16, qi v1]) (S' := [.int 1]) (H' := (c0 :: c1 :: c2 :: c3 :: c4 :: c5 :: c6 :: c7 :: c8 :: c9 :: c10 :: c11 :: c12 :: c13 :: c14 :: c15 :: bk1 zd zg zr zu zn zm zi zc zs zp zq ze zh zf zl zk zj zt za zo zb po)) rfl ?_
        cases h
        exact OEnds.iret hm_5 rfl rfl
      · simp only [if_neg hc109] at h
        refine OEnds.icmpT hm_5 rfl (q := 27) rfl ((feq hc109).2) ?_
        refine OEnds.adv hm_5 1 (pc' := 28) (L' := [qr 16, qi v1]) (S' := [.int 0]) (H' := (c0 :: c1 :: c2 :: c3 :: c4 :: c5 :: c6 :: c7 :: c8 :: c9 :: c10 :: c11 :: c12 :: c13 :: c14 :: c15 :: bk1 zd zg zr zu zn zm zi zc zs zp zq ze zh zf zl zk zj zt za zo zb po)) rfl ?_
        cases h
        exact OEnds.iret hm_5 rfl rfl
theorem ok_removeResting_20_1 {zd zg zr zu zn : List Int32} {zm : List Int64} {zi zs zp zq ze zh zf : List Int32} {zl zk zj : Int32} {zt : Int64} {zo zb : Int32} {c0 c1 c2 c3 c4 c5 c6 c7 c8 c9 c10 c11 c12 c13 c14 c15 : ACell} {po : List ACell} : ∀ {zc : List Int32} {za v2 : Int32} {d1 : Slot} {w_o_restIds : List Int32} {w_o_restN : Int32}, f_removeResting_20 zc za v2 = some (w_o_restIds, w_o_restN) → OEnds own_P 25 20 [qr 16, d1, qi v2] [] (c0 :: c1 :: c2 :: c3 :: c4 :: c5 :: c6 :: c7 :: c8 :: c9 :: c10 :: c11 :: c12 :: c13 :: c14 :: c15 :: bk1 zd zg zr zu zn zm zi zc zs zp zq ze zh zf zl zk zj zt za zo zb po) (none, (c0 :: c1 :: c2 :: c3 :: c4 :: c5 :: c6 :: c7 :: c8 :: c9 :: c10 :: c11 :: c12 :: c13 :: c14 :: c15 :: bk1 zd zg zr zu zn zm zi w_o_restIds zs zp zq ze zh zf zl zk zj zt w_o_restN zo zb po), 0, 0) := by
  intro zc za v2 d1 w_o_restIds w_o_restN h
  unfold f_removeResting_20 at h
  refine OEnds.adv hm_25 9 (pc' := 35) (L' := [qr 16, qu, qi v2]) (S' := [.int (za - (1 : Int32)), .ref 24, .int v2, .ref 24]) (H' := (c0 :: c1 :: c2 :: c3 :: c4 :: c5 :: c6 :: c7 :: c8 :: c9 :: c10 :: c11 :: c12 :: c13 :: c14 :: c15 :: bk1 zd zg zr zu zn zm zi zc zs zp zq ze zh zf zl zk zj zt za zo zb po)) rfl ?_
  obtain ⟨x3, hx3, h⟩ := bnd h
  refine OEnds.plain hm_25 rfl rfl (x_iaload rfl hx3) ?_
  show OEnds own_P 25 36 [qr 16, qu, qi v2] [.int x3, .int v2, .ref 24] (c0 :: c1 :: c2 :: c3 :: c4 :: c5 :: c6 :: c7 :: c8 :: c9 :: c10 :: c11 :: c12 :: c13 :: c14 :: c15 :: bk1 zd zg zr zu zn zm zi zc zs zp zq ze zh zf zl zk zj zt za zo zb po) _
  obtain ⟨A4, hA4, h⟩ := bnd h
  refine OEnds.plain hm_25 rfl rfl (x_iastore rfl (Nat.le_of_ble_eq_true rfl) hA4) ?_
  refine OEnds.adv hm_25 6 (pc' := 47) (L' := [qr 16, qu, qi v2]) (S' := []) (H' := (c0 :: c1 :: c2 :: c3 :: c4 :: c5 :: c6 :: c7 :: c8 :: c9 :: c10 :: c11 :: c12 :: c13 :: c14 :: c15 :: bk1 zd zg zr zu zn zm zi A4 zs zp zq ze zh zf zl zk zj zt (za - (1 : Int32)) zo zb po)) rfl ?_
  cases h
  exact OEnds.vret hm_25 rfl rfl
theorem ok_removeResting_2_1 {zd zg zr zu zn : List Int32} {zm : List Int64} {zi zs zp zq ze zh zf : List Int32} {zl zk zj : Int32} {zt : Int64} {zo zb : Int32} {c0 c1 c2 c3 c4 c5 c6 c7 c8 c9 c10 c11 c12 c13 c14 c15 : ACell} {po : List ACell} {k20 : List Int32 → Int32 → Int32 → Option (List Int32 × Int32)} (hk20 : ∀ {zc : List Int32} {za v2 : Int32} {d1 : Slot} {w_o_restIds : List Int32} {w_o_restN : Int32}, k20 zc za v2 = some (w_o_restIds, w_o_restN) → OEnds own_P 25 20 [qr 16, d1, qi v2] [] (c0 :: c1 :: c2 :: c3 :: c4 :: c5 :: c6 :: c7 :: c8 :: c9 :: c10 :: c11 :: c12 :: c13 :: c14 :: c15 :: bk1 zd zg zr zu zn zm zi zc zs zp zq ze zh zf zl zk zj zt za zo zb po) (none, (c0 :: c1 :: c2 :: c3 :: c4 :: c5 :: c6 :: c7 :: c8 :: c9 :: c10 :: c11 :: c12 :: c13 :: c14 :: c15 :: bk1 zd zg zr zu zn zm zi w_o_restIds zs zp zq ze zh zf zl zk zj zt w_o_restN zo zb po), 0, 0)) : ∀ (n : Nat), ∀ {zc : List Int32} {za v1 v2 : Int32} {w_o_restIds : List Int32} {w_o_restN : Int32}, f_removeResting_2 k20 n zc za v1 v2 = some (w_o_restIds, w_o_restN) → OEnds own_P 25 2 [qr 16, qi v1, qi v2] [] (c0 :: c1 :: c2 :: c3 :: c4 :: c5 :: c6 :: c7 :: c8 :: c9 :: c10 :: c11 :: c12 :: c13 :: c14 :: c15 :: bk1 zd zg zr zu zn zm zi zc zs zp zq ze zh zf zl zk zj zt za zo zb po) (none, (c0 :: c1 :: c2 :: c3 :: c4 :: c5 :: c6 :: c7 :: c8 :: c9 :: c10 :: c11 :: c12 :: c13 :: c14 :: c15 :: bk1 zd zg zr zu zn zm zi w_o_restIds zs zp zq ze zh zf zl zk zj zt w_o_restN zo zb po), 0, 0) := by
  intro n
  induction n with
  | zero => intro zc za v1 v2 w_o_restIds w_o_restN h; cases h
  | succ n ih =>
    intro zc za v1 v2 w_o_restIds w_o_restN h
    unfold f_removeResting_2 at h
    refine OEnds.adv hm_25 3 (pc' := 7) (L' := [qr 16, qi v1, qi v2]) (S' := [.int za, .int v2]) (H' := (c0 :: c1 :: c2 :: c3 :: c4 :: c5 :: c6 :: c7 :: c8 :: c9 :: c10 :: c11 :: c12 :: c13 :: c14 :: c15 :: bk1 zd zg zr zu zn zm zi zc zs zp zq ze zh zf zl zk zj zt za zo zb po)) rfl ?_
    by_cases hc110 : v2 < za
    · simp only [if_pos hc110] at h
      refine OEnds.icmpF hm_25 rfl ((tlt hc110).2.1) ?_
      refine OEnds.adv hm_25 3 (pc' := 15) (L' := [qr 16, qi v1, qi v2]) (S' := [.int v2, .ref 24]) (H' := (c0 :: c1 :: c2 :: c3 :: c4 :: c5 :: c6 :: c7 :: c8 :: c9 :: c10 :: c11 :: c12 :: c13 :: c14 :: c15 :: bk1 zd zg zr zu zn zm zi zc zs zp zq ze zh zf zl zk zj zt za zo zb po)) rfl ?_
      obtain ⟨x2, hx2, h⟩ := bnd h
      refine OEnds.plain hm_25 rfl rfl (x_iaload rfl hx2) ?_
      refine OEnds.adv hm_25 1 (pc' := 17) (L' := [qr 16, qi v1, qi v2]) (S' := [.int v1, .int x2]) (H' := (c0 :: c1 :: c2 :: c3 :: c4 :: c5 :: c6 :: c7 :: c8 :: c9 :: c10 :: c11 :: c12 :: c13 :: c14 :: c15 :: bk1 zd zg zr zu zn zm zi zc zs zp zq ze zh zf zl zk zj zt za zo zb po)) rfl ?_
      by_cases hc111 : x2 = v1
      · simp only [if_pos hc111] at h
        refine OEnds.icmpF hm_25 rfl ((teq hc111).2) ?_
        show OEnds own_P 25 20 [qr 16, qi v1, qi v2] [] (c0 :: c1 :: c2 :: c3 :: c4 :: c5 :: c6 :: c7 :: c8 :: c9 :: c10 :: c11 :: c12 :: c13 :: c14 :: c15 :: bk1 zd zg zr zu zn zm zi zc zs zp zq ze zh zf zl zk zj zt za zo zb po) _
        exact hk20 h
      · simp only [if_neg hc111] at h
        refine OEnds.icmpT hm_25 rfl (q := 48) rfl ((feq hc111).2) ?_
        refine OEnds.adv hm_25 2 (pc' := 2) (L' := [qr 16, qi v1, qi (v2 + (1 : Int32))]) (S' := []) (H' := (c0 :: c1 :: c2 :: c3 :: c4 :: c5 :: c6 :: c7 :: c8 :: c9 :: c10 :: c11 :: c12 :: c13 :: c14 :: c15 :: bk1 zd zg zr zu zn zm zi zc zs zp zq ze zh zf zl zk zj zt za zo zb po)) rfl ?_
        exact ih h
    · simp only [if_neg hc110] at h
      refine OEnds.icmpT hm_25 rfl (q := 54) rfl ((flt hc110).2.1) ?_
      show OEnds own_P 25 54 [qr 16, qi v1, qi v2] [] (c0 :: c1 :: c2 :: c3 :: c4 :: c5 :: c6 :: c7 :: c8 :: c9 :: c10 :: c11 :: c12 :: c13 :: c14 :: c15 :: bk1 zd zg zr zu zn zm zi zc zs zp zq ze zh zf zl zk zj zt za zo zb po) _
      cases h
      exact OEnds.vret hm_25 rfl rfl
theorem ok_removeResting_1 {zd zg zr zu zn : List Int32} {zm : List Int64} {zi zs zp zq ze zh zf : List Int32} {zl zk zj : Int32} {zt : Int64} {zo zb : Int32} {c0 c1 c2 c3 c4 c5 c6 c7 c8 c9 c10 c11 c12 c13 c14 c15 : ACell} {po : List ACell} {zc : List Int32} {za v1 : Int32} {w_o_restIds : List Int32} {w_o_restN : Int32} (h : f_removeResting zc za v1 = some (w_o_restIds, w_o_restN)) : OEnds own_P 25 0 [qr 16, qi v1, qu] [] (c0 :: c1 :: c2 :: c3 :: c4 :: c5 :: c6 :: c7 :: c8 :: c9 :: c10 :: c11 :: c12 :: c13 :: c14 :: c15 :: bk1 zd zg zr zu zn zm zi zc zs zp zq ze zh zf zl zk zj zt za zo zb po) (none, (c0 :: c1 :: c2 :: c3 :: c4 :: c5 :: c6 :: c7 :: c8 :: c9 :: c10 :: c11 :: c12 :: c13 :: c14 :: c15 :: bk1 zd zg zr zu zn zm zi w_o_restIds zs zp zq ze zh zf zl zk zj zt w_o_restN zo zb po), 0, 0) := by
  unfold f_removeResting at h
  refine OEnds.adv hm_25 2 (pc' := 2) (L' := [qr 16, qi v1, qi 0]) (S' := []) (H' := (c0 :: c1 :: c2 :: c3 :: c4 :: c5 :: c6 :: c7 :: c8 :: c9 :: c10 :: c11 :: c12 :: c13 :: c14 :: c15 :: bk1 zd zg zr zu zn zm zi zc zs zp zq ze zh zf zl zk zj zt za zo zb po)) rfl ?_
  exact ok_removeResting_2_1 (k20 := f_removeResting_20) ok_removeResting_20_1 100000 h
theorem ok_cancel_1 {zd zg zu : List Int32} {zm : List Int64} {zs zp zq ze zh zf : List Int32} {zl zk zj : Int32} {zt : Int64} {zo zb : Int32} {c0 c1 c2 c3 c4 c5 c6 c7 c8 c9 c10 c11 c12 c13 c14 c15 : ACell} {po : List ACell} {zr zn zi zc : List Int32} {za v1 res : Int32} {w_o_oRem w_o_oStatus w_o_oTop w_o_restIds : List Int32} {w_o_restN : Int32} (h : f_cancel zj zr zn zi zc za v1 = some (res, w_o_oRem, w_o_oStatus, w_o_oTop, w_o_restIds, w_o_restN)) : OEnds own_P 6 0 [qr 16, qi v1] [] (c0 :: c1 :: c2 :: c3 :: c4 :: c5 :: c6 :: c7 :: c8 :: c9 :: c10 :: c11 :: c12 :: c13 :: c14 :: c15 :: bk1 zd zg zr zu zn zm zi zc zs zp zq ze zh zf zl zk zj zt za zo zb po) (some (.int res), (c0 :: c1 :: c2 :: c3 :: c4 :: c5 :: c6 :: c7 :: c8 :: c9 :: c10 :: c11 :: c12 :: c13 :: c14 :: c15 :: bk1 zd zg w_o_oRem zu w_o_oStatus zm w_o_oTop w_o_restIds zs zp zq ze zh zf zl zk zj zt w_o_restN zo zb po), 0, 0) := by
  unfold f_cancel at h
  refine OEnds.adv hm_6 2 (pc' := 2) (L' := [qr 16, qi v1]) (S' := [.int v1, .ref 16]) (H' := (c0 :: c1 :: c2 :: c3 :: c4 :: c5 :: c6 :: c7 :: c8 :: c9 :: c10 :: c11 :: c12 :: c13 :: c14 :: c15 :: bk1 zd zg zr zu zn zm zi zc zs zp zq ze zh zf zl zk zj zt za zo zb po)) rfl ?_
  obtain ⟨r5, hq112, h⟩ := bnd h
  refine OEnds.call0 hm_6 rfl rfl (by decide) rfl (as := [.ref 16, .int v1]) (rest := []) rfl rfl (ok_isResting_1 hq112) ?_
  show OEnds own_P 6 5 [qr 16, qi v1] [.int r5] (c0 :: c1 :: c2 :: c3 :: c4 :: c5 :: c6 :: c7 :: c8 :: c9 :: c10 :: c11 :: c12 :: c13 :: c14 :: c15 :: bk1 zd zg zr zu zn zm zi zc zs zp zq ze zh zf zl zk zj zt za zo zb po) _
  by_cases hc113 : r5 = (0 : Int32)
  · simp only [if_pos hc113] at h
    refine OEnds.ifF hm_6 rfl ((teq hc113).2) ?_
    refine OEnds.adv hm_6 1 (pc' := 10) (L' := [qr 16, qi v1]) (S' := [.int (-6)]) (H' := (c0 :: c1 :: c2 :: c3 :: c4 :: c5 :: c6 :: c7 :: c8 :: c9 :: c10 :: c11 :: c12 :: c13 :: c14 :: c15 :: bk1 zd zg zr zu zn zm zi zc zs zp zq ze zh zf zl zk zj zt za zo zb po)) rfl ?_
    cases h
    exact OEnds.iret hm_6 rfl rfl
  · simp only [if_neg hc113] at h
    refine OEnds.ifT hm_6 rfl (q := 11) rfl ((feq hc113).2) ?_
    refine OEnds.adv hm_6 4 (pc' := 17) (L' := [qr 16, qi v1]) (S' := [.int 3, .int v1, .ref 21]) (H' := (c0 :: c1 :: c2 :: c3 :: c4 :: c5 :: c6 :: c7 :: c8 :: c9 :: c10 :: c11 :: c12 :: c13 :: c14 :: c15 :: bk1 zd zg zr zu zn zm zi zc zs zp zq ze zh zf zl zk zj zt za zo zb po)) rfl ?_
    obtain ⟨A6, hA6, h⟩ := bnd h
    refine OEnds.plain hm_6 rfl rfl (x_iastore rfl (Nat.le_of_ble_eq_true rfl) hA6) ?_
    refine OEnds.adv hm_6 4 (pc' := 24) (L' := [qr 16, qi v1]) (S' := [.int 0, .int v1, .ref 19]) (H' := (c0 :: c1 :: c2 :: c3 :: c4 :: c5 :: c6 :: c7 :: c8 :: c9 :: c10 :: c11 :: c12 :: c13 :: c14 :: c15 :: bk1 zd zg zr zu A6 zm zi zc zs zp zq ze zh zf zl zk zj zt za zo zb po)) rfl ?_
    obtain ⟨A7, hA7, h⟩ := bnd h
    refine OEnds.plain hm_6 rfl rfl (x_iastore rfl (Nat.le_of_ble_eq_true rfl) hA7) ?_
    refine OEnds.adv hm_6 4 (pc' := 31) (L' := [qr 16, qi v1]) (S' := [.int 0, .int v1, .ref 23]) (H' := (c0 :: c1 :: c2 :: c3 :: c4 :: c5 :: c6 :: c7 :: c8 :: c9 :: c10 :: c11 :: c12 :: c13 :: c14 :: c15 :: bk1 zd zg A7 zu A6 zm zi zc zs zp zq ze zh zf zl zk zj zt za zo zb po)) rfl ?_
    obtain ⟨A8, hA8, h⟩ := bnd h
    refine OEnds.plain hm_6 rfl rfl (x_bastore rfl (Nat.le_of_ble_eq_true rfl) hA8) ?_
    refine OEnds.adv hm_6 2 (pc' := 34) (L' := [qr 16, qi v1]) (S' := [.int v1, .ref 16]) (H' := (c0 :: c1 :: c2 :: c3 :: c4 :: c5 :: c6 :: c7 :: c8 :: c9 :: c10 :: c11 :: c12 :: c13 :: c14 :: c15 :: bk1 zd zg A7 zu A6 zm A8 zc zs zp zq ze zh zf zl zk zj zt za zo zb po)) rfl ?_
    obtain ⟨⟨s9, s10⟩, hq114, h⟩ := bnd h
    refine OEnds.call0 hm_6 rfl rfl (by decide) rfl (as := [.ref 16, .int v1]) (rest := []) rfl rfl (ok_removeResting_1 hq114) ?_
    refine OEnds.adv hm_6 1 (pc' := 38) (L' := [qr 16, qi v1]) (S' := [.int 0]) (H' := (c0 :: c1 :: c2 :: c3 :: c4 :: c5 :: c6 :: c7 :: c8 :: c9 :: c10 :: c11 :: c12 :: c13 :: c14 :: c15 :: bk1 zd zg A7 zu A6 zm A8 s9 zs zp zq ze zh zf zl zk zj zt s10 zo zb po)) rfl ?_
    cases h
    exact OEnds.iret hm_6 rfl rfl
theorem ok_amend_1 {zd zg zu zn zc zs zp zq ze zh zf : List Int32} {zl zk zj za zo zb : Int32} {c0 c1 c2 c3 c4 c5 c6 c7 c8 c9 c10 c11 c12 c13 c14 c15 : ACell} {po : List ACell} {zr : List Int32} {zm : List Int64} {zi : List Int32} {zt : Int64} {v1 v2 res : Int32} {w_o_oRem : List Int32} {w_o_oStamp : List Int64} {w_o_oTop : List Int32} {w_o_stampCounter : Int64} (h : f_amend zn zj zr zm zi zt v1 v2 = some (res, w_o_oRem, w_o_oStamp, w_o_oTop, w_o_stampCounter)) : OEnds own_P 4 0 [qr 16, qi v1, qi v2] [] (c0 :: c1 :: c2 :: c3 :: c4 :: c5 :: c6 :: c7 :: c8 :: c9 :: c10 :: c11 :: c12 :: c13 :: c14 :: c15 :: bk1 zd zg zr zu zn zm zi zc zs zp zq ze zh zf zl zk zj zt za zo zb po) (some (.int res), (c0 :: c1 :: c2 :: c3 :: c4 :: c5 :: c6 :: c7 :: c8 :: c9 :: c10 :: c11 :: c12 :: c13 :: c14 :: c15 :: bk1 zd zg w_o_oRem zu zn w_o_oStamp w_o_oTop zc zs zp zq ze zh zf zl zk zj w_o_stampCounter za zo zb po), 0, 0) := by
  unfold f_amend at h
  refine OEnds.adv hm_4 2 (pc' := 2) (L' := [qr 16, qi v1, qi v2]) (S' := [.int v1, .ref 16]) (H' := (c0 :: c1 :: c2 :: c3 :: c4 :: c5 :: c6 :: c7 :: c8 :: c9 :: c10 :: c11 :: c12 :: c13 :: c14 :: c15 :: bk1 zd zg zr zu zn zm zi zc zs zp zq ze zh zf zl zk zj zt za zo zb po)) rfl ?_
  obtain ⟨r11, hq115, h⟩ := bnd h
  refine OEnds.call0 hm_4 rfl rfl (by decide) rfl (as := [.ref 16, .int v1]) (rest := []) rfl rfl (ok_isResting_1 hq115) ?_
  show OEnds own_P 4 5 [qr 16, qi v1, qi v2] [.int r11] (c0 :: c1 :: c2 :: c3 :: c4 :: c5 :: c6 :: c7 :: c8 :: c9 :: c10 :: c11 :: c12 :: c13 :: c14 :: c15 :: bk1 zd zg zr zu zn zm zi zc zs zp zq ze zh zf zl zk zj zt za zo zb po) _
  by_cases hc116 : r11 = (0 : Int32)
  · simp only [if_pos hc116] at h
    refine OEnds.ifF hm_4 rfl ((teq hc116).2) ?_
    refine OEnds.adv hm_4 1 (pc' := 10) (L' := [qr 16, qi v1, qi v2]) (S' := [.int (-6)]) (H' := (c0 :: c1 :: c2 :: c3 :: c4 :: c5 :: c6 :: c7 :: c8 :: c9 :: c10 :: c11 :: c12 :: c13 :: c14 :: c15 :: bk1 zd zg zr zu zn zm zi zc zs zp zq ze zh zf zl zk zj zt za zo zb po)) rfl ?_
    cases h
    exact OEnds.iret hm_4 rfl rfl
  · simp only [if_neg hc116] at h
    refine OEnds.ifT hm_4 rfl (q := 11) rfl ((feq hc116).2) ?_
    refine OEnds.adv hm_4 2 (pc' := 13) (L' := [qr 16, qi v1, qi v2]) (S' := [.int 1, .int v2]) (H' := (c0 :: c1 :: c2 :: c3 :: c4 :: c5 :: c6 :: c7 :: c8 :: c9 :: c10 :: c11 :: c12 :: c13 :: c14 :: c15 :: bk1 zd zg zr zu zn zm zi zc zs zp zq ze zh zf zl zk zj zt za zo zb po)) rfl ?_
    by_cases hc117 : v2 < (1 : Int32)
    · simp only [if_pos hc117] at h
      refine OEnds.icmpT hm_4 rfl (q := 23) rfl ((tlt hc117).1) ?_
      refine OEnds.adv hm_4 1 (pc' := 25) (L' := [qr 16, qi v1, qi v2]) (S' := [.int (-3)]) (H' := (c0 :: c1 :: c2 :: c3 :: c4 :: c5 :: c6 :: c7 :: c8 :: c9 :: c10 :: c11 :: c12 :: c13 :: c14 :: c15 :: bk1 zd zg zr zu zn zm zi zc zs zp zq ze zh zf zl zk zj zt za zo zb po)) rfl ?_
      cases h
      exact OEnds.iret hm_4 rfl rfl
    · simp only [if_neg hc117] at h
      refine OEnds.icmpF hm_4 rfl ((flt hc117).1) ?_
      refine OEnds.adv hm_4 2 (pc' := 20) (L' := [qr 16, qi v1, qi v2]) (S' := [.int 10000, .int v2]) (H' := (c0 :: c1 :: c2 :: c3 :: c4 :: c5 :: c6 :: c7 :: c8 :: c9 :: c10 :: c11 :: c12 :: c13 :: c14 :: c15 :: bk1 zd zg zr zu zn zm zi zc zs zp zq ze zh zf zl zk zj zt za zo zb po)) rfl ?_
      by_cases hc118 : (10000 : Int32) < v2
      · simp only [if_pos hc118] at h
        refine OEnds.icmpF hm_4 rfl ((tlt hc118).2.2.2) ?_
        refine OEnds.adv hm_4 1 (pc' := 25) (L' := [qr 16, qi v1, qi v2]) (S' := [.int (-3)]) (H' := (c0 :: c1 :: c2 :: c3 :: c4 :: c5 :: c6 :: c7 :: c8 :: c9 :: c10 :: c11 :: c12 :: c13 :: c14 :: c15 :: bk1 zd zg zr zu zn zm zi zc zs zp zq ze zh zf zl zk zj zt za zo zb po)) rfl ?_
        cases h
        exact OEnds.iret hm_4 rfl rfl
      · simp only [if_neg hc118] at h
        refine OEnds.icmpT hm_4 rfl (q := 26) rfl ((flt hc118).2.2.2) ?_
        refine OEnds.adv hm_4 4 (pc' := 32) (L' := [qr 16, qi v1, qi v2]) (S' := [.int v1, .ref 19, .int v2]) (H' := (c0 :: c1 :: c2 :: c3 :: c4 :: c5 :: c6 :: c7 :: c8 :: c9 :: c10 :: c11 :: c12 :: c13 :: c14 :: c15 :: bk1 zd zg zr zu zn zm zi zc zs zp zq ze zh zf zl zk zj zt za zo zb po)) rfl ?_
        obtain ⟨x12, hx12, h⟩ := bnd h
        refine OEnds.plain hm_4 rfl rfl (x_iaload rfl hx12) ?_
        show OEnds own_P 4 33 [qr 16, qi v1, qi v2] [.int x12, .int v2] (c0 :: c1 :: c2 :: c3 :: c4 :: c5 :: c6 :: c7 :: c8 :: c9 :: c10 :: c11 :: c12 :: c13 :: c14 :: c15 :: bk1 zd zg zr zu zn zm zi zc zs zp zq ze zh zf zl zk zj zt za zo zb po) _
        by_cases hc119 : v2 < x12
        · simp only [if_pos hc119] at h
          refine OEnds.icmpF hm_4 rfl ((tlt hc119).2.1) ?_
          refine OEnds.adv hm_4 4 (pc' := 42) (L' := [qr 16, qi v1, qi v2]) (S' := [.int v2, .int v1, .ref 19]) (H' := (c0 :: c1 :: c2 :: c3 :: c4 :: c5 :: c6 :: c7 :: c8 :: c9 :: c10 :: c11 :: c12 :: c13 :: c14 :: c15 :: bk1 zd zg zr zu zn zm zi zc zs zp zq ze zh zf zl zk zj zt za zo zb po)) rfl ?_
          obtain ⟨A17, hA17, h⟩ := bnd h
          refine OEnds.plain hm_4 rfl rfl (x_iastore rfl (Nat.le_of_ble_eq_true rfl) hA17) ?_
          refine OEnds.adv hm_4 2 (pc' := 91) (L' := [qr 16, qi v1, qi v2]) (S' := [.int 0]) (H' := (c0 :: c1 :: c2 :: c3 :: c4 :: c5 :: c6 :: c7 :: c8 :: c9 :: c10 :: c11 :: c12 :: c13 :: c14 :: c15 :: bk1 zd zg A17 zu zn zm zi zc zs zp zq ze zh zf zl zk zj zt za zo zb po)) rfl ?_
          cases h
          exact OEnds.iret hm_4 rfl rfl
        · simp only [if_neg hc119] at h
          refine OEnds.icmpT hm_4 rfl (q := 46) rfl ((flt hc119).2.1) ?_
          refine OEnds.adv hm_4 4 (pc' := 52) (L' := [qr 16, qi v1, qi v2]) (S' := [.int v1, .ref 19, .int v2]) (H' := (c0 :: c1 :: c2 :: c3 :: c4 :: c5 :: c6 :: c7 :: c8 :: c9 :: c10 :: c11 :: c12 :: c13 :: c14 :: c15 :: bk1 zd zg zr zu zn zm zi zc zs zp zq ze zh zf zl zk zj zt za zo zb po)) rfl ?_
          obtain ⟨x13, hx13, h⟩ := bnd h
          refine OEnds.plain hm_4 rfl rfl (x_iaload rfl hx13) ?_
          show OEnds own_P 4 53 [qr 16, qi v1, qi v2] [.int x13, .int v2] (c0 :: c1 :: c2 :: c3 :: c4 :: c5 :: c6 :: c7 :: c8 :: c9 :: c10 :: c11 :: c12 :: c13 :: c14 :: c15 :: bk1 zd zg zr zu zn zm zi zc zs zp zq ze zh zf zl zk zj zt za zo zb po) _
          by_cases hc120 : x13 < v2
          · simp only [if_pos hc120] at h
            refine OEnds.icmpF hm_4 rfl ((tlt hc120).2.2.2) ?_
            refine OEnds.adv hm_4 4 (pc' := 62) (L' := [qr 16, qi v1, qi v2]) (S' := [.int v2, .int v1, .ref 19]) (H' := (c0 :: c1 :: c2 :: c3 :: c4 :: c5 :: c6 :: c7 :: c8 :: c9 :: c10 :: c11 :: c12 :: c13 :: c14 :: c15 :: bk1 zd zg zr zu zn zm zi zc zs zp zq ze zh zf zl zk zj zt za zo zb po)) rfl ?_
            obtain ⟨A14, hA14, h⟩ := bnd h
            refine OEnds.plain hm_4 rfl rfl (x_iastore rfl (Nat.le_of_ble_eq_true rfl) hA14) ?_
            refine OEnds.adv hm_4 11 (pc' := 82) (L' := [qr 16, qi v1, qi v2]) (S' := [.long (zt + (1 : Int64)), .int v1, .ref 22]) (H' := (c0 :: c1 :: c2 :: c3 :: c4 :: c5 :: c6 :: c7 :: c8 :: c9 :: c10 :: c11 :: c12 :: c13 :: c14 :: c15 :: bk1 zd zg A14 zu zn zm zi zc zs zp zq ze zh zf zl zk zj (zt + (1 : Int64)) za zo zb po)) rfl ?_
            obtain ⟨A15, hA15, h⟩ := bnd h
            refine OEnds.plain hm_4 rfl rfl (x_lastore rfl (Nat.le_of_ble_eq_true rfl) hA15) ?_
            refine OEnds.adv hm_4 4 (pc' := 89) (L' := [qr 16, qi v1, qi v2]) (S' := [.int 0, .int v1, .ref 23]) (H' := (c0 :: c1 :: c2 :: c3 :: c4 :: c5 :: c6 :: c7 :: c8 :: c9 :: c10 :: c11 :: c12 :: c13 :: c14 :: c15 :: bk1 zd zg A14 zu zn A15 zi zc zs zp zq ze zh zf zl zk zj (zt + (1 : Int64)) za zo zb po)) rfl ?_
            obtain ⟨A16, hA16, h⟩ := bnd h
            refine OEnds.plain hm_4 rfl rfl (x_bastore rfl (Nat.le_of_ble_eq_true rfl) hA16) ?_
            refine OEnds.adv hm_4 1 (pc' := 91) (L' := [qr 16, qi v1, qi v2]) (S' := [.int 0]) (H' := (c0 :: c1 :: c2 :: c3 :: c4 :: c5 :: c6 :: c7 :: c8 :: c9 :: c10 :: c11 :: c12 :: c13 :: c14 :: c15 :: bk1 zd zg A14 zu zn A15 A16 zc zs zp zq ze zh zf zl zk zj (zt + (1 : Int64)) za zo zb po)) rfl ?_
            cases h
            exact OEnds.iret hm_4 rfl rfl
          · simp only [if_neg hc120] at h
            refine OEnds.icmpT hm_4 rfl (q := 90) rfl ((flt hc120).2.2.2) ?_
            refine OEnds.adv hm_4 1 (pc' := 91) (L' := [qr 16, qi v1, qi v2]) (S' := [.int 0]) (H' := (c0 :: c1 :: c2 :: c3 :: c4 :: c5 :: c6 :: c7 :: c8 :: c9 :: c10 :: c11 :: c12 :: c13 :: c14 :: c15 :: bk1 zd zg zr zu zn zm zi zc zs zp zq ze zh zf zl zk zj zt za zo zb po)) rfl ?_
            cases h
            exact OEnds.iret hm_4 rfl rfl
theorem ok_better_1 {zd zg zr zu zn : List Int32} {zm : List Int64} {zi zc zs zp zq ze zh zf : List Int32} {zl zk zj : Int32} {zt : Int64} {za zo zb : Int32} {c0 c1 c2 c3 c4 c5 c6 c7 c8 c9 c10 c11 c12 c13 c14 c15 : ACell} {po : List ACell} {v1 v2 v3 res : Int32} (h : f_better v1 v2 v3 = some res) : OEnds own_P 27 0 [qr 16, qi v1, qi v2, qi v3] [] (c0 :: c1 :: c2 :: c3 :: c4 :: c5 :: c6 :: c7 :: c8 :: c9 :: c10 :: c11 :: c12 :: c13 :: c14 :: c15 :: bk1 zd zg zr zu zn zm zi zc zs zp zq ze zh zf zl zk zj zt za zo zb po) (some (.int res), (c0 :: c1 :: c2 :: c3 :: c4 :: c5 :: c6 :: c7 :: c8 :: c9 :: c10 :: c11 :: c12 :: c13 :: c14 :: c15 :: bk1 zd zg zr zu zn zm zi zc zs zp zq ze zh zf zl zk zj zt za zo zb po), 0, 0) := by
  unfold f_better at h
  refine OEnds.adv hm_27 1 (pc' := 1) (L' := [qr 16, qi v1, qi v2, qi v3]) (S' := [.int v1]) (H' := (c0 :: c1 :: c2 :: c3 :: c4 :: c5 :: c6 :: c7 :: c8 :: c9 :: c10 :: c11 :: c12 :: c13 :: c14 :: c15 :: bk1 zd zg zr zu zn zm zi zc zs zp zq ze zh zf zl zk zj zt za zo zb po)) rfl ?_
  by_cases hc121 : v1 = (0 : Int32)
  · simp only [if_pos hc121] at h
    refine OEnds.ifF hm_27 rfl ((teq hc121).2) ?_
    refine OEnds.adv hm_27 2 (pc' := 6) (L' := [qr 16, qi v1, qi v2, qi v3]) (S' := [.int v3, .int v2]) (H' := (c0 :: c1 :: c2 :: c3 :: c4 :: c5 :: c6 :: c7 :: c8 :: c9 :: c10 :: c11 :: c12 :: c13 :: c14 :: c15 :: bk1 zd zg zr zu zn zm zi zc zs zp zq ze zh zf zl zk zj zt za zo zb po)) rfl ?_
    by_cases hc122 : v3 < v2
    · simp only [if_pos hc122] at h
      refine OEnds.icmpF hm_27 rfl ((tlt hc122).2.2.2) ?_
      refine OEnds.adv hm_27 2 (pc' := 14) (L' := [qr 16, qi v1, qi v2, qi v3]) (S' := [.int 1]) (H' := (c0 :: c1 :: c2 :: c3 :: c4 :: c5 :: c6 :: c7 :: c8 :: c9 :: c10 :: c11 :: c12 :: c13 :: c14 :: c15 :: bk1 zd zg zr zu zn zm zi zc zs zp zq ze zh zf zl zk zj zt za zo zb po)) rfl ?_
      cases h
      exact OEnds.iret hm_27 rfl rfl
    · simp only [if_neg hc122] at h
      refine OEnds.icmpT hm_27 rfl (q := 13) rfl ((flt hc122).2.2.2) ?_
      refine OEnds.adv hm_27 1 (pc' := 14) (L' := [qr 16, qi v1, qi v2, qi v3]) (S' := [.int 0]) (H' := (c0 :: c1 :: c2 :: c3 :: c4 :: c5 :: c6 :: c7 :: c8 :: c9 :: c10 :: c11 :: c12 :: c13 :: c14 :: c15 :: bk1 zd zg zr zu zn zm zi zc zs zp zq ze zh zf zl zk zj zt za zo zb po)) rfl ?_
      cases h
      exact OEnds.iret hm_27 rfl rfl
  · simp only [if_neg hc121] at h
    refine OEnds.ifT hm_27 rfl (q := 15) rfl ((feq hc121).2) ?_
    refine OEnds.adv hm_27 2 (pc' := 17) (L' := [qr 16, qi v1, qi v2, qi v3]) (S' := [.int v3, .int v2]) (H' := (c0 :: c1 :: c2 :: c3 :: c4 :: c5 :: c6 :: c7 :: c8 :: c9 :: c10 :: c11 :: c12 :: c13 :: c14 :: c15 :: bk1 zd zg zr zu zn zm zi zc zs zp zq ze zh zf zl zk zj zt za zo zb po)) rfl ?_
    by_cases hc123 : v2 < v3
    · simp only [if_pos hc123] at h
      refine OEnds.icmpF hm_27 rfl ((tlt hc123).2.1) ?_
      refine OEnds.adv hm_27 2 (pc' := 25) (L' := [qr 16, qi v1, qi v2, qi v3]) (S' := [.int 1]) (H' := (c0 :: c1 :: c2 :: c3 :: c4 :: c5 :: c6 :: c7 :: c8 :: c9 :: c10 :: c11 :: c12 :: c13 :: c14 :: c15 :: bk1 zd zg zr zu zn zm zi zc zs zp zq ze zh zf zl zk zj zt za zo zb po)) rfl ?_
      cases h
      exact OEnds.iret hm_27 rfl rfl
    · simp only [if_neg hc123] at h
      refine OEnds.icmpT hm_27 rfl (q := 24) rfl ((flt hc123).2.1) ?_
      refine OEnds.adv hm_27 1 (pc' := 25) (L' := [qr 16, qi v1, qi v2, qi v3]) (S' := [.int 0]) (H' := (c0 :: c1 :: c2 :: c3 :: c4 :: c5 :: c6 :: c7 :: c8 :: c9 :: c10 :: c11 :: c12 :: c13 :: c14 :: c15 :: bk1 zd zg zr zu zn zm zi zc zs zp zq ze zh zf zl zk zj zt za zo zb po)) rfl ?_
      cases h
      exact OEnds.iret hm_27 rfl rfl
theorem ok_bestOf_4_1 {zd zg zr zu zn : List Int32} {zm : List Int64} {zi zc zs zp zq ze zh zf : List Int32} {zl zk zj : Int32} {zt : Int64} {za zo zb : Int32} {c0 c1 c2 c3 c4 c5 c6 c7 c8 c9 c10 c11 c12 c13 c14 c15 : ACell} {po : List ACell} : ∀ (n : Nat), ∀ {v1 v2 v3 : Int32} {d4 d5 : Slot} {res : Int32}, f_bestOf_4 zd zg zc za n v1 v2 v3 = some res → OEnds own_P 8 4 [qr 16, qi v1, qi v2, qi v3, d4, d5] [] (c0 :: c1 :: c2 :: c3 :: c4 :: c5 :: c6 :: c7 :: c8 :: c9 :: c10 :: c11 :: c12 :: c13 :: c14 :: c15 :: bk1 zd zg zr zu zn zm zi zc zs zp zq ze zh zf zl zk zj zt za zo zb po) (some (.int res), (c0 :: c1 :: c2 :: c3 :: c4 :: c5 :: c6 :: c7 :: c8 :: c9 :: c10 :: c11 :: c12 :: c13 :: c14 :: c15 :: bk1 zd zg zr zu zn zm zi zc zs zp zq ze zh zf zl zk zj zt za zo zb po), 0, 0) := by
  intro n
  induction n with
  | zero => intro v1 v2 v3 d4 d5 res h; cases h
  | succ n ih =>
    intro v1 v2 v3 d4 d5 res h
    unfold f_bestOf_4 at h
    refine OEnds.adv hm_8 3 (pc' := 9) (L' := [qr 16, qi v1, qi v2, qi v3, qu, qu]) (S' := [.int za, .int v3]) (H' := (c0 :: c1 :: c2 :: c3 :: c4 :: c5 :: c6 :: c7 :: c8 :: c9 :: c10 :: c11 :: c12 :: c13 :: c14 :: c15 :: bk1 zd zg zr zu zn zm zi zc zs zp zq ze zh zf zl zk zj zt za zo zb po)) rfl ?_
    by_cases hc124 : v3 < za
    · simp only [if_pos hc124] at h
      refine OEnds.icmpF hm_8 rfl ((tlt hc124).2.1) ?_
      refine OEnds.adv hm_8 3 (pc' := 17) (L' := [qr 16, qi v1, qi v2, qi v3, qu, qu]) (S' := [.int v3, .ref 24]) (H' := (c0 :: c1 :: c2 :: c3 :: c4 :: c5 :: c6 :: c7 :: c8 :: c9 :: c10 :: c11 :: c12 :: c13 :: c14 :: c15 :: bk1 zd zg zr zu zn zm zi zc zs zp zq ze zh zf zl zk zj zt za zo zb po)) rfl ?_
      obtain ⟨x18, hx18, h⟩ := bnd h
      refine OEnds.plain hm_8 rfl rfl (x_iaload rfl hx18) ?_
      refine OEnds.adv hm_8 4 (pc' := 26) (L' := [qr 16, qi v1, qi v2, qi v3, qi x18, qu]) (S' := [.int x18, .ref 17]) (H' := (c0 :: c1 :: c2 :: c3 :: c4 :: c5 :: c6 :: c7 :: c8 :: c9 :: c10 :: c11 :: c12 :: c13 :: c14 :: c15 :: bk1 zd zg zr zu zn zm zi zc zs zp zq ze zh zf zl zk zj zt za zo zb po)) rfl ?_
      obtain ⟨x19, hx19, h⟩ := bnd h
      refine OEnds.plain hm_8 rfl rfl (x_iaload rfl hx19) ?_
      refine OEnds.adv hm_8 1 (pc' := 28) (L' := [qr 16, qi v1, qi v2, qi v3, qi x18, qu]) (S' := [.int v1, .int x19]) (H' := (c0 :: c1 :: c2 :: c3 :: c4 :: c5 :: c6 :: c7 :: c8 :: c9 :: c10 :: c11 :: c12 :: c13 :: c14 :: c15 :: bk1 zd zg zr zu zn zm zi zc zs zp zq ze zh zf zl zk zj zt za zo zb po)) rfl ?_
      by_cases hc125 : x19 = v1
      · simp only [if_pos hc125] at h
        refine OEnds.icmpT hm_8 rfl (q := 34) rfl ((teq hc125).1) ?_
        refine OEnds.adv hm_8 3 (pc' := 40) (L' := [qr 16, qi v1, qi v2, qi v3, qi x18, qu]) (S' := [.int x18, .ref 18]) (H' := (c0 :: c1 :: c2 :: c3 :: c4 :: c5 :: c6 :: c7 :: c8 :: c9 :: c10 :: c11 :: c12 :: c13 :: c14 :: c15 :: bk1 zd zg zr zu zn zm zi zc zs zp zq ze zh zf zl zk zj zt za zo zb po)) rfl ?_
        obtain ⟨x20, hx20, h⟩ := bnd h
        refine OEnds.plain hm_8 rfl rfl (x_iaload rfl hx20) ?_
        refine OEnds.adv hm_8 2 (pc' := 44) (L' := [qr 16, qi v1, qi v2, qi v3, qi x18, qi x20]) (S' := [.int v2]) (H' := (c0 :: c1 :: c2 :: c3 :: c4 :: c5 :: c6 :: c7 :: c8 :: c9 :: c10 :: c11 :: c12 :: c13 :: c14 :: c15 :: bk1 zd zg zr zu zn zm zi zc zs zp zq ze zh zf zl zk zj zt za zo zb po)) rfl ?_
        by_cases hc126 : v2 = (0 : Int32)
        · simp only [if_pos hc126] at h
          refine OEnds.ifT hm_8 rfl (q := 58) rfl ((teq hc126).1) ?_
          refine OEnds.adv hm_8 4 (pc' := 4) (L' := [qr 16, qi v1, qi x20, qi (v3 + (1 : Int32)), qi x18, qi x20]) (S' := []) (H' := (c0 :: c1 :: c2 :: c3 :: c4 :: c5 :: c6 :: c7 :: c8 :: c9 :: c10 :: c11 :: c12 :: c13 :: c14 :: c15 :: bk1 zd zg zr zu zn zm zi zc zs zp zq ze zh zf zl zk zj zt za zo zb po)) rfl ?_
          exact ih h
        · simp only [if_neg hc126] at h
          refine OEnds.ifF hm_8 rfl ((feq hc126).1) ?_
          refine OEnds.adv hm_8 4 (pc' := 52) (L' := [qr 16, qi v1, qi v2, qi v3, qi x18, qi x20]) (S' := [.int v2, .int x20, .int v1, .ref 16]) (H' := (c0 :: c1 :: c2 :: c3 :: c4 :: c5 :: c6 :: c7 :: c8 :: c9 :: c10 :: c11 :: c12 :: c13 :: c14 :: c15 :: bk1 zd zg zr zu zn zm zi zc zs zp zq ze zh zf zl zk zj zt za zo zb po)) rfl ?_
          obtain ⟨r21, hq127, h⟩ := bnd h
          refine OEnds.call0 hm_8 rfl rfl (by decide) rfl (as := [.ref 16, .int v1, .int x20, .int v2]) (rest := []) rfl rfl (ok_better_1 hq127) ?_
          show OEnds own_P 8 55 [qr 16, qi v1, qi v2, qi v3, qi x18, qi x20] [.int r21] (c0 :: c1 :: c2 :: c3 :: c4 :: c5 :: c6 :: c7 :: c8 :: c9 :: c10 :: c11 :: c12 :: c13 :: c14 :: c15 :: bk1 zd zg zr zu zn zm zi zc zs zp zq ze zh zf zl zk zj zt za zo zb po) _
          by_cases hc128 : r21 = (0 : Int32)
          · simp only [if_pos hc128] at h
            refine OEnds.ifT hm_8 rfl (q := 61) rfl ((teq hc128).1) ?_
            refine OEnds.adv hm_8 2 (pc' := 4) (L' := [qr 16, qi v1, qi v2, qi (v3 + (1 : Int32)), qi x18, qi x20]) (S' := []) (H' := (c0 :: c1 :: c2 :: c3 :: c4 :: c5 :: c6 :: c7 :: c8 :: c9 :: c10 :: c11 :: c12 :: c13 :: c14 :: c15 :: bk1 zd zg zr zu zn zm zi zc zs zp zq ze zh zf zl zk zj zt za zo zb po)) rfl ?_
            exact ih h
          · simp only [if_neg hc128] at h
            refine OEnds.ifF hm_8 rfl ((feq hc128).1) ?_
            refine OEnds.adv hm_8 4 (pc' := 4) (L' := [qr 16, qi v1, qi x20, qi (v3 + (1 : Int32)), qi x18, qi x20]) (S' := []) (H' := (c0 :: c1 :: c2 :: c3 :: c4 :: c5 :: c6 :: c7 :: c8 :: c9 :: c10 :: c11 :: c12 :: c13 :: c14 :: c15 :: bk1 zd zg zr zu zn zm zi zc zs zp zq ze zh zf zl zk zj zt za zo zb po)) rfl ?_
            exact ih h
      · simp only [if_neg hc125] at h
        refine OEnds.icmpF hm_8 rfl ((feq hc125).1) ?_
        refine OEnds.adv hm_8 3 (pc' := 4) (L' := [qr 16, qi v1, qi v2, qi (v3 + (1 : Int32)), qi x18, qu]) (S' := []) (H' := (c0 :: c1 :: c2 :: c3 :: c4 :: c5 :: c6 :: c7 :: c8 :: c9 :: c10 :: c11 :: c12 :: c13 :: c14 :: c15 :: bk1 zd zg zr zu zn zm zi zc zs zp zq ze zh zf zl zk zj zt za zo zb po)) rfl ?_
        exact ih h
    · simp only [if_neg hc124] at h
      refine OEnds.icmpT hm_8 rfl (q := 67) rfl ((flt hc124).2.1) ?_
      refine OEnds.adv hm_8 1 (pc' := 68) (L' := [qr 16, qi v1, qi v2, qi v3, qu, qu]) (S' := [.int v2]) (H' := (c0 :: c1 :: c2 :: c3 :: c4 :: c5 :: c6 :: c7 :: c8 :: c9 :: c10 :: c11 :: c12 :: c13 :: c14 :: c15 :: bk1 zd zg zr zu zn zm zi zc zs zp zq ze zh zf zl zk zj zt za zo zb po)) rfl ?_
      cases h
      exact OEnds.iret hm_8 rfl rfl
theorem ok_bestOf_1 {zd zg zr zu zn : List Int32} {zm : List Int64} {zi zc zs zp zq ze zh zf : List Int32} {zl zk zj : Int32} {zt : Int64} {za zo zb : Int32} {c0 c1 c2 c3 c4 c5 c6 c7 c8 c9 c10 c11 c12 c13 c14 c15 : ACell} {po : List ACell} {v1 res : Int32} (h : f_bestOf zd zg zc za v1 = some res) : OEnds own_P 8 0 [qr 16, qi v1, qu, qu, qu, qu] [] (c0 :: c1 :: c2 :: c3 :: c4 :: c5 :: c6 :: c7 :: c8 :: c9 :: c10 :: c11 :: c12 :: c13 :: c14 :: c15 :: bk1 zd zg zr zu zn zm zi zc zs zp zq ze zh zf zl zk zj zt za zo zb po) (some (.int res), (c0 :: c1 :: c2 :: c3 :: c4 :: c5 :: c6 :: c7 :: c8 :: c9 :: c10 :: c11 :: c12 :: c13 :: c14 :: c15 :: bk1 zd zg zr zu zn zm zi zc zs zp zq ze zh zf zl zk zj zt za zo zb po), 0, 0) := by
  unfold f_bestOf at h
  refine OEnds.adv hm_8 4 (pc' := 4) (L' := [qr 16, qi v1, qi 0, qi 0, qu, qu]) (S' := []) (H' := (c0 :: c1 :: c2 :: c3 :: c4 :: c5 :: c6 :: c7 :: c8 :: c9 :: c10 :: c11 :: c12 :: c13 :: c14 :: c15 :: bk1 zd zg zr zu zn zm zi zc zs zp zq ze zh zf zl zk zj zt za zo zb po)) rfl ?_
  exact ok_bestOf_4_1 100000 h
theorem ok_crosses_1 {zd zg zr zu zn : List Int32} {zm : List Int64} {zi zc zs zp zq ze zh zf : List Int32} {zl zk zj : Int32} {zt : Int64} {za zo zb : Int32} {c0 c1 c2 c3 c4 c5 c6 c7 c8 c9 c10 c11 c12 c13 c14 c15 : ACell} {po : List ACell} {v1 v2 v3 res : Int32} (h : f_crosses v1 v2 v3 = some res) : OEnds own_P 26 0 [qr 16, qi v1, qi v2, qi v3] [] (c0 :: c1 :: c2 :: c3 :: c4 :: c5 :: c6 :: c7 :: c8 :: c9 :: c10 :: c11 :: c12 :: c13 :: c14 :: c15 :: bk1 zd zg zr zu zn zm zi zc zs zp zq ze zh zf zl zk zj zt za zo zb po) (some (.int res), (c0 :: c1 :: c2 :: c3 :: c4 :: c5 :: c6 :: c7 :: c8 :: c9 :: c10 :: c11 :: c12 :: c13 :: c14 :: c15 :: bk1 zd zg zr zu zn zm zi zc zs zp zq ze zh zf zl zk zj zt za zo zb po), 0, 0) := by
  unfold f_crosses at h
  refine OEnds.adv hm_26 1 (pc' := 1) (L' := [qr 16, qi v1, qi v2, qi v3]) (S' := [.int v1]) (H' := (c0 :: c1 :: c2 :: c3 :: c4 :: c5 :: c6 :: c7 :: c8 :: c9 :: c10 :: c11 :: c12 :: c13 :: c14 :: c15 :: bk1 zd zg zr zu zn zm zi zc zs zp zq ze zh zf zl zk zj zt za zo zb po)) rfl ?_
  by_cases hc129 : v1 = (0 : Int32)
  · simp only [if_pos hc129] at h
    refine OEnds.ifF hm_26 rfl ((teq hc129).2) ?_
    refine OEnds.adv hm_26 2 (pc' := 6) (L' := [qr 16, qi v1, qi v2, qi v3]) (S' := [.int v2, .int v3]) (H' := (c0 :: c1 :: c2 :: c3 :: c4 :: c5 :: c6 :: c7 :: c8 :: c9 :: c10 :: c11 :: c12 :: c13 :: c14 :: c15 :: bk1 zd zg zr zu zn zm zi zc zs zp zq ze zh zf zl zk zj zt za zo zb po)) rfl ?_
    by_cases hc130 : v2 < v3
    · simp only [if_pos hc130] at h
      refine OEnds.icmpT hm_26 rfl (q := 13) rfl ((tlt hc130).2.2.1) ?_
      refine OEnds.adv hm_26 1 (pc' := 14) (L' := [qr 16, qi v1, qi v2, qi v3]) (S' := [.int 0]) (H' := (c0 :: c1 :: c2 :: c3 :: c4 :: c5 :: c6 :: c7 :: c8 :: c9 :: c10 :: c11 :: c12 :: c13 :: c14 :: c15 :: bk1 zd zg zr zu zn zm zi zc zs zp zq ze zh zf zl zk zj zt za zo zb po)) rfl ?_
      cases h
      exact OEnds.iret hm_26 rfl rfl
    · simp only [if_neg hc130] at h
      refine OEnds.icmpF hm_26 rfl ((flt hc130).2.2.1) ?_
      refine OEnds.adv hm_26 2 (pc' := 14) (L' := [qr 16, qi v1, qi v2, qi v3]) (S' := [.int 1]) (H' := (c0 :: c1 :: c2 :: c3 :: c4 :: c5 :: c6 :: c7 :: c8 :: c9 :: c10 :: c11 :: c12 :: c13 :: c14 :: c15 :: bk1 zd zg zr zu zn zm zi zc zs zp zq ze zh zf zl zk zj zt za zo zb po)) rfl ?_
      cases h
      exact OEnds.iret hm_26 rfl rfl
  · simp only [if_neg hc129] at h
    refine OEnds.ifT hm_26 rfl (q := 15) rfl ((feq hc129).2) ?_
    refine OEnds.adv hm_26 2 (pc' := 17) (L' := [qr 16, qi v1, qi v2, qi v3]) (S' := [.int v2, .int v3]) (H' := (c0 :: c1 :: c2 :: c3 :: c4 :: c5 :: c6 :: c7 :: c8 :: c9 :: c10 :: c11 :: c12 :: c13 :: c14 :: c15 :: bk1 zd zg zr zu zn zm zi zc zs zp zq ze zh zf zl zk zj zt za zo zb po)) rfl ?_
    by_cases hc131 : v3 < v2
    · simp only [if_pos hc131] at h
      refine OEnds.icmpT hm_26 rfl (q := 24) rfl ((tlt hc131).1) ?_
      refine OEnds.adv hm_26 1 (pc' := 25) (L' := [qr 16, qi v1, qi v2, qi v3]) (S' := [.int 0]) (H' := (c0 :: c1 :: c2 :: c3 :: c4 :: c5 :: c6 :: c7 :: c8 :: c9 :: c10 :: c11 :: c12 :: c13 :: c14 :: c15 :: bk1 zd zg zr zu zn zm zi zc zs zp zq ze zh zf zl zk zj zt za zo zb po)) rfl ?_
      cases h
      exact OEnds.iret hm_26 rfl rfl
    · simp only [if_neg hc131] at h
      refine OEnds.icmpF hm_26 rfl ((flt hc131).1) ?_
      refine OEnds.adv hm_26 2 (pc' := 25) (L' := [qr 16, qi v1, qi v2, qi v3]) (S' := [.int 1]) (H' := (c0 :: c1 :: c2 :: c3 :: c4 :: c5 :: c6 :: c7 :: c8 :: c9 :: c10 :: c11 :: c12 :: c13 :: c14 :: c15 :: bk1 zd zg zr zu zn zm zi zc zs zp zq ze zh zf zl zk zj zt za zo zb po)) rfl ?_
      cases h
      exact OEnds.iret hm_26 rfl rfl
theorem ok_gatherLevel_7_1 {zd zg zr zu zn : List Int32} {zm : List Int64} {zi zc zs zp zq zh zf : List Int32} {zl zk zj : Int32} {zt : Int64} {za zo : Int32} {c0 c1 c2 c3 c4 c5 c6 c7 c8 c9 c10 c11 c12 c13 c14 c15 : ACell} {po : List ACell} : ∀ (n : Nat), ∀ {ze : List Int32} {zb v1 v2 v3 : Int32} {d4 : Slot} {w_o_lvlIds : List Int32} {w_o_lvlN : Int32}, f_gatherLevel_7 zd zg zc za n ze zb v1 v2 v3 = some (w_o_lvlIds, w_o_lvlN) → OEnds own_P 29 7 [qr 16, qi v1, qi v2, qi v3, d4] [] (c0 :: c1 :: c2 :: c3 :: c4 :: c5 :: c6 :: c7 :: c8 :: c9 :: c10 :: c11 :: c12 :: c13 :: c14 :: c15 :: bk1 zd zg zr zu zn zm zi zc zs zp zq ze zh zf zl zk zj zt za zo zb po) (none, (c0 :: c1 :: c2 :: c3 :: c4 :: c5 :: c6 :: c7 :: c8 :: c9 :: c10 :: c11 :: c12 :: c13 :: c14 :: c15 :: bk1 zd zg zr zu zn zm zi zc zs zp zq w_o_lvlIds zh zf zl zk zj zt za zo w_o_lvlN po), 0, 0) := by
  intro n
  induction n with
  | zero => intro ze zb v1 v2 v3 d4 w_o_lvlIds w_o_lvlN h; cases h
  | succ n ih =>
    intro ze zb v1 v2 v3 d4 w_o_lvlIds w_o_lvlN h
    unfold f_gatherLevel_7 at h
    refine OEnds.adv hm_29 3 (pc' := 12) (L' := [qr 16, qi v1, qi v2, qi v3, qu]) (S' := [.int za, .int v3]) (H' := (c0 :: c1 :: c2 :: c3 :: c4 :: c5 :: c6 :: c7 :: c8 :: c9 :: c10 :: c11 :: c12 :: c13 :: c14 :: c15 :: bk1 zd zg zr zu zn zm zi zc zs zp zq ze zh zf zl zk zj zt za zo zb po)) rfl ?_
    by_cases hc132 : v3 < za
    · simp only [if_pos hc132] at h
      refine OEnds.icmpF hm_29 rfl ((tlt hc132).2.1) ?_
      refine OEnds.adv hm_29 3 (pc' := 20) (L' := [qr 16, qi v1, qi v2, qi v3, qu]) (S' := [.int v3, .ref 24]) (H' := (c0 :: c1 :: c2 :: c3 :: c4 :: c5 :: c6 :: c7 :: c8 :: c9 :: c10 :: c11 :: c12 :: c13 :: c14 :: c15 :: bk1 zd zg zr zu zn zm zi zc zs zp zq ze zh zf zl zk zj zt za zo zb po)) rfl ?_
      obtain ⟨x22, hx22, h⟩ := bnd h
      refine OEnds.plain hm_29 rfl rfl (x_iaload rfl hx22) ?_
      refine OEnds.adv hm_29 4 (pc' := 29) (L' := [qr 16, qi v1, qi v2, qi v3, qi x22]) (S' := [.int x22, .ref 17]) (H' := (c0 :: c1 :: c2 :: c3 :: c4 :: c5 :: c6 :: c7 :: c8 :: c9 :: c10 :: c11 :: c12 :: c13 :: c14 :: c15 :: bk1 zd zg zr zu zn zm zi zc zs zp zq ze zh zf zl zk zj zt za zo zb po)) rfl ?_
      obtain ⟨x23, hx23, h⟩ := bnd h
      refine OEnds.plain hm_29 rfl rfl (x_iaload rfl hx23) ?_
      refine OEnds.adv hm_29 1 (pc' := 31) (L' := [qr 16, qi v1, qi v2, qi v3, qi x22]) (S' := [.int v1, .int x23]) (H' := (c0 :: c1 :: c2 :: c3 :: c4 :: c5 :: c6 :: c7 :: c8 :: c9 :: c10 :: c11 :: c12 :: c13 :: c14 :: c15 :: bk1 zd zg zr zu zn zm zi zc zs zp zq ze zh zf zl zk zj zt za zo zb po)) rfl ?_
      by_cases hc133 : x23 = v1
      · simp only [if_pos hc133] at h
        refine OEnds.icmpF hm_29 rfl ((teq hc133).2) ?_
        refine OEnds.adv hm_29 3 (pc' := 40) (L' := [qr 16, qi v1, qi v2, qi v3, qi x22]) (S' := [.int x22, .ref 18]) (H' := (c0 :: c1 :: c2 :: c3 :: c4 :: c5 :: c6 :: c7 :: c8 :: c9 :: c10 :: c11 :: c12 :: c13 :: c14 :: c15 :: bk1 zd zg zr zu zn zm zi zc zs zp zq ze zh zf zl zk zj zt za zo zb po)) rfl ?_
        obtain ⟨x24, hx24, h⟩ := bnd h
        refine OEnds.plain hm_29 rfl rfl (x_iaload rfl hx24) ?_
        refine OEnds.adv hm_29 1 (pc' := 42) (L' := [qr 16, qi v1, qi v2, qi v3, qi x22]) (S' := [.int v2, .int x24]) (H' := (c0 :: c1 :: c2 :: c3 :: c4 :: c5 :: c6 :: c7 :: c8 :: c9 :: c10 :: c11 :: c12 :: c13 :: c14 :: c15 :: bk1 zd zg zr zu zn zm zi zc zs zp zq ze zh zf zl zk zj zt za zo zb po)) rfl ?_
        by_cases hc134 : x24 = v2
        · simp only [if_pos hc134] at h
          refine OEnds.icmpF hm_29 rfl ((teq hc134).2) ?_
          refine OEnds.adv hm_29 3 (pc' := 51) (L' := [qr 16, qi v1, qi v2, qi v3, qi x22]) (S' := [.int 64, .int zb]) (H' := (c0 :: c1 :: c2 :: c3 :: c4 :: c5 :: c6 :: c7 :: c8 :: c9 :: c10 :: c11 :: c12 :: c13 :: c14 :: c15 :: bk1 zd zg zr zu zn zm zi zc zs zp zq ze zh zf zl zk zj zt za zo zb po)) rfl ?_
          by_cases hc135 : zb < (64 : Int32)
          · simp only [if_pos hc135] at h
            refine OEnds.icmpF hm_29 rfl ((tlt hc135).2.1) ?_
            refine OEnds.adv hm_29 5 (pc' := 64) (L' := [qr 16, qi v1, qi v2, qi v3, qi x22]) (S' := [.int x22, .int zb, .ref 28]) (H' := (c0 :: c1 :: c2 :: c3 :: c4 :: c5 :: c6 :: c7 :: c8 :: c9 :: c10 :: c11 :: c12 :: c13 :: c14 :: c15 :: bk1 zd zg zr zu zn zm zi zc zs zp zq ze zh zf zl zk zj zt za zo zb po)) rfl ?_
            obtain ⟨A25, hA25, h⟩ := bnd h
            refine OEnds.plain hm_29 rfl rfl (x_iastore rfl (Nat.le_of_ble_eq_true rfl) hA25) ?_
            refine OEnds.adv hm_29 8 (pc' := 7) (L' := [qr 16, qi v1, qi v2, qi (v3 + (1 : Int32)), qi x22]) (S' := []) (H' := (c0 :: c1 :: c2 :: c3 :: c4 :: c5 :: c6 :: c7 :: c8 :: c9 :: c10 :: c11 :: c12 :: c13 :: c14 :: c15 :: bk1 zd zg zr zu zn zm zi zc zs zp zq A25 zh zf zl zk zj zt za zo (zb + (1 : Int32)) po)) rfl ?_
            exact ih h
          · simp only [if_neg hc135] at h
            refine OEnds.icmpT hm_29 rfl (q := 75) rfl ((flt hc135).2.1) ?_
            refine OEnds.adv hm_29 2 (pc' := 7) (L' := [qr 16, qi v1, qi v2, qi (v3 + (1 : Int32)), qi x22]) (S' := []) (H' := (c0 :: c1 :: c2 :: c3 :: c4 :: c5 :: c6 :: c7 :: c8 :: c9 :: c10 :: c11 :: c12 :: c13 :: c14 :: c15 :: bk1 zd zg zr zu zn zm zi zc zs zp zq ze zh zf zl zk zj zt za zo zb po)) rfl ?_
            exact ih h
        · simp only [if_neg hc134] at h
          refine OEnds.icmpT hm_29 rfl (q := 75) rfl ((feq hc134).2) ?_
          refine OEnds.adv hm_29 2 (pc' := 7) (L' := [qr 16, qi v1, qi v2, qi (v3 + (1 : Int32)), qi x22]) (S' := []) (H' := (c0 :: c1 :: c2 :: c3 :: c4 :: c5 :: c6 :: c7 :: c8 :: c9 :: c10 :: c11 :: c12 :: c13 :: c14 :: c15 :: bk1 zd zg zr zu zn zm zi zc zs zp zq ze zh zf zl zk zj zt za zo zb po)) rfl ?_
          exact ih h
      · simp only [if_neg hc133] at h
        refine OEnds.icmpT hm_29 rfl (q := 75) rfl ((feq hc133).2) ?_
        refine OEnds.adv hm_29 2 (pc' := 7) (L' := [qr 16, qi v1, qi v2, qi (v3 + (1 : Int32)), qi x22]) (S' := []) (H' := (c0 :: c1 :: c2 :: c3 :: c4 :: c5 :: c6 :: c7 :: c8 :: c9 :: c10 :: c11 :: c12 :: c13 :: c14 :: c15 :: bk1 zd zg zr zu zn zm zi zc zs zp zq ze zh zf zl zk zj zt za zo zb po)) rfl ?_
        exact ih h
    · simp only [if_neg hc132] at h
      refine OEnds.icmpT hm_29 rfl (q := 81) rfl ((flt hc132).2.1) ?_
      show OEnds own_P 29 81 [qr 16, qi v1, qi v2, qi v3, qu] [] (c0 :: c1 :: c2 :: c3 :: c4 :: c5 :: c6 :: c7 :: c8 :: c9 :: c10 :: c11 :: c12 :: c13 :: c14 :: c15 :: bk1 zd zg zr zu zn zm zi zc zs zp zq ze zh zf zl zk zj zt za zo zb po) _
      cases h
      exact OEnds.vret hm_29 rfl rfl
theorem ok_gatherLevel_1 {zd zg zr zu zn : List Int32} {zm : List Int64} {zi zc zs zp zq zh zf : List Int32} {zl zk zj : Int32} {zt : Int64} {za zo : Int32} {c0 c1 c2 c3 c4 c5 c6 c7 c8 c9 c10 c11 c12 c13 c14 c15 : ACell} {po : List ACell} {ze : List Int32} {zb v1 v2 : Int32} {w_o_lvlIds : List Int32} {w_o_lvlN : Int32} (h : f_gatherLevel zd zg zc za ze zb v1 v2 = some (w_o_lvlIds, w_o_lvlN)) : OEnds own_P 29 0 [qr 16, qi v1, qi v2, qu, qu] [] (c0 :: c1 :: c2 :: c3 :: c4 :: c5 :: c6 :: c7 :: c8 :: c9 :: c10 :: c11 :: c12 :: c13 :: c14 :: c15 :: bk1 zd zg zr zu zn zm zi zc zs zp zq ze zh zf zl zk zj zt za zo zb po) (none, (c0 :: c1 :: c2 :: c3 :: c4 :: c5 :: c6 :: c7 :: c8 :: c9 :: c10 :: c11 :: c12 :: c13 :: c14 :: c15 :: bk1 zd zg zr zu zn zm zi zc zs zp zq w_o_lvlIds zh zf zl zk zj zt za zo w_o_lvlN po), 0, 0) := by
  unfold f_gatherLevel at h
  refine OEnds.adv hm_29 5 (pc' := 7) (L' := [qr 16, qi v1, qi v2, qi 0, qu]) (S' := []) (H' := (c0 :: c1 :: c2 :: c3 :: c4 :: c5 :: c6 :: c7 :: c8 :: c9 :: c10 :: c11 :: c12 :: c13 :: c14 :: c15 :: bk1 zd zg zr zu zn zm zi zc zs zp zq ze zh zf zl zk zj zt za zo 0 po)) rfl ?_
  exact ok_gatherLevel_7_1 100000 h
theorem ok_sortLevel_73_1 {zd zg zr zu zn : List Int32} {zm : List Int64} {zi zc zs zp zq zh zf : List Int32} {zl zk zj : Int32} {zt : Int64} {za zo zb : Int32} {c0 c1 c2 c3 c4 c5 c6 c7 c8 c9 c10 c11 c12 c13 c14 c15 : ACell} {po : List ACell} {kb : List Int32 → Int32 → Option (List Int32)} (hkb : ∀ {ze : List Int32} {v1 : Int32} {d2 d3 d4 d5 : Slot} {w_o_lvlIds : List Int32}, kb ze v1 = some w_o_lvlIds → OEnds own_P 30 2 [qr 16, qi v1, d2, d3, d4, d5] [] (c0 :: c1 :: c2 :: c3 :: c4 :: c5 :: c6 :: c7 :: c8 :: c9 :: c10 :: c11 :: c12 :: c13 :: c14 :: c15 :: bk1 zd zg zr zu zn zm zi zc zs zp zq ze zh zf zl zk zj zt za zo zb po) (none, (c0 :: c1 :: c2 :: c3 :: c4 :: c5 :: c6 :: c7 :: c8 :: c9 :: c10 :: c11 :: c12 :: c13 :: c14 :: c15 :: bk1 zd zg zr zu zn zm zi zc zs zp zq w_o_lvlIds zh zf zl zk zj zt za zo zb po), 0, 0)) : ∀ {ze : List Int32} {v1 v2 v5 : Int32} {d3 d4 : Slot} {w_o_lvlIds : List Int32}, f_sortLevel_73 kb zm zb ze v1 v2 v5 = some w_o_lvlIds → OEnds own_P 30 73 [qr 16, qi v1, qi v2, d3, d4, qi v5] [] (c0 :: c1 :: c2 :: c3 :: c4 :: c5 :: c6 :: c7 :: c8 :: c9 :: c10 :: c11 :: c12 :: c13 :: c14 :: c15 :: bk1 zd zg zr zu zn zm zi zc zs zp zq ze zh zf zl zk zj zt za zo zb po) (none, (c0 :: c1 :: c2 :: c3 :: c4 :: c5 :: c6 :: c7 :: c8 :: c9 :: c10 :: c11 :: c12 :: c13 :: c14 :: c15 :: bk1 zd zg zr zu zn zm zi zc zs zp zq w_o_lvlIds zh zf zl zk zj zt za zo zb po), 0, 0) := by
  intro ze v1 v2 v5 d3 d4 w_o_lvlIds h
  unfold f_sortLevel_73 at h
  refine OEnds.adv hm_30 4 (pc' := 80) (L' := [qr 16, qi v1, qi v2, qu, qu, qi v5]) (S' := [.int v2, .int v5, .ref 28]) (H' := (c0 :: c1 :: c2 :: c3 :: c4 :: c5 :: c6 :: c7 :: c8 :: c9 :: c10 :: c11 :: c12 :: c13 :: c14 :: c15 :: bk1 zd zg zr zu zn zm zi zc zs zp zq ze zh zf zl zk zj zt za zo zb po)) rfl ?_
  obtain ⟨A32, hA32, h⟩ := bnd h
  refine OEnds.plain hm_30 rfl rfl (x_iastore rfl (Nat.le_of_ble_eq_true rfl) hA32) ?_
  refine OEnds.adv hm_30 2 (pc' := 2) (L' := [qr 16, qi (v1 + (1 : Int32)), qi v2, qu, qu, qi v5]) (S' := []) (H' := (c0 :: c1 :: c2 :: c3 :: c4 :: c5 :: c6 :: c7 :: c8 :: c9 :: c10 :: c11 :: c12 :: c13 :: c14 :: c15 :: bk1 zd zg zr zu zn zm zi zc zs zp zq A32 zh zf zl zk zj zt za zo zb po)) rfl ?_
  exact hkb h
theorem ok_sortLevel_27_1 {zd zg zr zu zn : List Int32} {zm : List Int64} {zi zc zs zp zq zh zf : List Int32} {zl zk zj : Int32} {zt : Int64} {za zo zb : Int32} {c0 c1 c2 c3 c4 c5 c6 c7 c8 c9 c10 c11 c12 c13 c14 c15 : ACell} {po : List ACell} {k73 : List Int32 → Int32 → Int32 → Int32 → Option (List Int32)} (hk73 : ∀ {ze : List Int32} {v1 v2 v5 : Int32} {d3 d4 : Slot} {w_o_lvlIds : List Int32}, k73 ze v1 v2 v5 = some w_o_lvlIds → OEnds own_P 30 73 [qr 16, qi v1, qi v2, d3, d4, qi v5] [] (c0 :: c1 :: c2 :: c3 :: c4 :: c5 :: c6 :: c7 :: c8 :: c9 :: c10 :: c11 :: c12 :: c13 :: c14 :: c15 :: bk1 zd zg zr zu zn zm zi zc zs zp zq ze zh zf zl zk zj zt za zo zb po) (none, (c0 :: c1 :: c2 :: c3 :: c4 :: c5 :: c6 :: c7 :: c8 :: c9 :: c10 :: c11 :: c12 :: c13 :: c14 :: c15 :: bk1 zd zg zr zu zn zm zi zc zs zp zq w_o_lvlIds zh zf zl zk zj zt za zo zb po), 0, 0)) : ∀ (n : Nat), ∀ {ze : List Int32} {v1 v2 : Int32} {v3 : Int64} {v5 : Int32} {w_o_lvlIds : List Int32}, f_sortLevel_27 k73 zm zb n ze v1 v2 v3 v5 = some w_o_lvlIds → OEnds own_P 30 27 [qr 16, qi v1, qi v2, ql v3, qw, qi v5] [] (c0 :: c1 :: c2 :: c3 :: c4 :: c5 :: c6 :: c7 :: c8 :: c9 :: c10 :: c11 :: c12 :: c13 :: c14 :: c15 :: bk1 zd zg zr zu zn zm zi zc zs zp zq ze zh zf zl zk zj zt za zo zb po) (none, (c0 :: c1 :: c2 :: c3 :: c4 :: c5 :: c6 :: c7 :: c8 :: c9 :: c10 :: c11 :: c12 :: c13 :: c14 :: c15 :: bk1 zd zg zr zu zn zm zi zc zs zp zq w_o_lvlIds zh zf zl zk zj zt za zo zb po), 0, 0) := by
  intro n
  induction n with
  | zero => intro ze v1 v2 v3 v5 w_o_lvlIds h; cases h
  | succ n ih =>
    intro ze v1 v2 v3 v5 w_o_lvlIds h
    unfold f_sortLevel_27 at h
    refine OEnds.adv hm_30 1 (pc' := 29) (L' := [qr 16, qi v1, qi v2, ql v3, qw, qi v5]) (S' := [.int v5]) (H' := (c0 :: c1 :: c2 :: c3 :: c4 :: c5 :: c6 :: c7 :: c8 :: c9 :: c10 :: c11 :: c12 :: c13 :: c14 :: c15 :: bk1 zd zg zr zu zn zm zi zc zs zp zq ze zh zf zl zk zj zt za zo zb po)) rfl ?_
    by_cases hc136 : (0 : Int32) < v5
    · simp only [if_pos hc136] at h
      refine OEnds.ifF hm_30 rfl ((tlt hc136).2.2.2) ?_
      refine OEnds.adv hm_30 7 (pc' := 44) (L' := [qr 16, qi v1, qi v2, ql v3, qw, qi v5]) (S' := [.int (v5 - (1 : Int32)), .ref 28, .ref 22]) (H' := (c0 :: c1 :: c2 :: c3 :: c4 :: c5 :: c6 :: c7 :: c8 :: c9 :: c10 :: c11 :: c12 :: c13 :: c14 :: c15 :: bk1 zd zg zr zu zn zm zi zc zs zp zq ze zh zf zl zk zj zt za zo zb po)) rfl ?_
      obtain ⟨x28, hx28, h⟩ := bnd h
      refine OEnds.plain hm_30 rfl rfl (x_iaload rfl hx28) ?_
      show OEnds own_P 30 45 [qr 16, qi v1, qi v2, ql v3, qw, qi v5] [.int x28, .ref 22] (c0 :: c1 :: c2 :: c3 :: c4 :: c5 :: c6 :: c7 :: c8 :: c9 :: c10 :: c11 :: c12 :: c13 :: c14 :: c15 :: bk1 zd zg zr zu zn zm zi zc zs zp zq ze zh zf zl zk zj zt za zo zb po) _
      obtain ⟨x29, hx29, h⟩ := bnd h
      refine OEnds.plain hm_30 rfl rfl (x_laload rfl hx29) ?_
      refine OEnds.adv hm_30 2 (pc' := 48) (L' := [qr 16, qi v1, qi v2, ql v3, qw, qi v5]) (S' := [.int (XT.cmpL x29 v3)]) (H' := (c0 :: c1 :: c2 :: c3 :: c4 :: c5 :: c6 :: c7 :: c8 :: c9 :: c10 :: c11 :: c12 :: c13 :: c14 :: c15 :: bk1 zd zg zr zu zn zm zi zc zs zp zq ze zh zf zl zk zj zt za zo zb po)) rfl ?_
      by_cases hc137 : v3 < x29
      · simp only [if_pos hc137] at h
        refine OEnds.ifF hm_30 rfl ((tlt (c_gt.mpr hc137)).2.2.2) ?_
        refine OEnds.adv hm_30 8 (pc' := 65) (L' := [qr 16, qi v1, qi v2, ql v3, qw, qi v5]) (S' := [.int (v5 - (1 : Int32)), .ref 28, .int v5, .ref 28]) (H' := (c0 :: c1 :: c2 :: c3 :: c4 :: c5 :: c6 :: c7 :: c8 :: c9 :: c10 :: c11 :: c12 :: c13 :: c14 :: c15 :: bk1 zd zg zr zu zn zm zi zc zs zp zq ze zh zf zl zk zj zt za zo zb po)) rfl ?_
        obtain ⟨x30, hx30, h⟩ := bnd h
        refine OEnds.plain hm_30 rfl rfl (x_iaload rfl hx30) ?_
        show OEnds own_P 30 66 [qr 16, qi v1, qi v2, ql v3, qw, qi v5] [.int x30, .int v5, .ref 28] (c0 :: c1 :: c2 :: c3 :: c4 :: c5 :: c6 :: c7 :: c8 :: c9 :: c10 :: c11 :: c12 :: c13 :: c14 :: c15 :: bk1 zd zg zr zu zn zm zi zc zs zp zq ze zh zf zl zk zj zt za zo zb po) _
        obtain ⟨A31, hA31, h⟩ := bnd h
        refine OEnds.plain hm_30 rfl rfl (x_iastore rfl (Nat.le_of_ble_eq_true rfl) hA31) ?_
        refine OEnds.adv hm_30 2 (pc' := 27) (L' := [qr 16, qi v1, qi v2, ql v3, qw, qi (v5 + (-1 : Int32))]) (S' := []) (H' := (c0 :: c1 :: c2 :: c3 :: c4 :: c5 :: c6 :: c7 :: c8 :: c9 :: c10 :: c11 :: c12 :: c13 :: c14 :: c15 :: bk1 zd zg zr zu zn zm zi zc zs zp zq A31 zh zf zl zk zj zt za zo zb po)) rfl ?_
        exact ih h
      · simp only [if_neg hc137] at h
        refine OEnds.ifT hm_30 rfl (q := 73) rfl ((flt (mt c_gt.mp hc137)).2.2.2) ?_
        show OEnds own_P 30 73 [qr 16, qi v1, qi v2, ql v3, qw, qi v5] [] (c0 :: c1 :: c2 :: c3 :: c4 :: c5 :: c6 :: c7 :: c8 :: c9 :: c10 :: c11 :: c12 :: c13 :: c14 :: c15 :: bk1 zd zg zr zu zn zm zi zc zs zp zq ze zh zf zl zk zj zt za zo zb po) _
        exact hk73 h
    · simp only [if_neg hc136] at h
      refine OEnds.ifT hm_30 rfl (q := 73) rfl ((flt hc136).2.2.2) ?_
      show OEnds own_P 30 73 [qr 16, qi v1, qi v2, ql v3, qw, qi v5] [] (c0 :: c1 :: c2 :: c3 :: c4 :: c5 :: c6 :: c7 :: c8 :: c9 :: c10 :: c11 :: c12 :: c13 :: c14 :: c15 :: bk1 zd zg zr zu zn zm zi zc zs zp zq ze zh zf zl zk zj zt za zo zb po) _
      exact hk73 h
theorem ok_sortLevel_2_1 {zd zg zr zu zn : List Int32} {zm : List Int64} {zi zc zs zp zq zh zf : List Int32} {zl zk zj : Int32} {zt : Int64} {za zo zb : Int32} {c0 c1 c2 c3 c4 c5 c6 c7 c8 c9 c10 c11 c12 c13 c14 c15 : ACell} {po : List ACell} : ∀ (n : Nat), ∀ {ze : List Int32} {v1 : Int32} {d2 d3 d4 d5 : Slot} {w_o_lvlIds : List Int32}, f_sortLevel_2 zm zb n ze v1 = some w_o_lvlIds → OEnds own_P 30 2 [qr 16, qi v1, d2, d3, d4, d5] [] (c0 :: c1 :: c2 :: c3 :: c4 :: c5 :: c6 :: c7 :: c8 :: c9 :: c10 :: c11 :: c12 :: c13 :: c14 :: c15 :: bk1 zd zg zr zu zn zm zi zc zs zp zq ze zh zf zl zk zj zt za zo zb po) (none, (c0 :: c1 :: c2 :: c3 :: c4 :: c5 :: c6 :: c7 :: c8 :: c9 :: c10 :: c11 :: c12 :: c13 :: c14 :: c15 :: bk1 zd zg zr zu zn zm zi zc zs zp zq w_o_lvlIds zh zf zl zk zj zt za zo zb po), 0, 0) := by
  intro n
  induction n with
  | zero => intro ze v1 d2 d3 d4 d5 w_o_lvlIds h; cases h
  | succ n ih =>
    intro ze v1 d2 d3 d4 d5 w_o_lvlIds h
    unfold f_sortLevel_2 at h
    refine OEnds.adv hm_30 3 (pc' := 7) (L' := [qr 16, qi v1, qu, qu, qu, qu]) (S' := [.int zb, .int v1]) (H' := (c0 :: c1 :: c2 :: c3 :: c4 :: c5 :: c6 :: c7 :: c8 :: c9 :: c10 :: c11 :: c12 :: c13 :: c14 :: c15 :: bk1 zd zg zr zu zn zm zi zc zs zp zq ze zh zf zl zk zj zt za zo zb po)) rfl ?_
    by_cases hc138 : v1 < zb
    · simp only [if_pos hc138] at h
      refine OEnds.icmpF hm_30 rfl ((tlt hc138).2.1) ?_
      refine OEnds.adv hm_30 3 (pc' := 15) (L' := [qr 16, qi v1, qu, qu, qu, qu]) (S' := [.int v1, .ref 28]) (H' := (c0 :: c1 :: c2 :: c3 :: c4 :: c5 :: c6 :: c7 :: c8 :: c9 :: c10 :: c11 :: c12 :: c13 :: c14 :: c15 :: bk1 zd zg zr zu zn zm zi zc zs zp zq ze zh zf zl zk zj zt za zo zb po)) rfl ?_
      obtain ⟨x26, hx26, h⟩ := bnd h
      refine OEnds.plain hm_30 rfl rfl (x_iaload rfl hx26) ?_
      refine OEnds.adv hm_30 4 (pc' := 22) (L' := [qr 16, qi v1, qi x26, qu, qu, qu]) (S' := [.int x26, .ref 22]) (H' := (c0 :: c1 :: c2 :: c3 :: c4 :: c5 :: c6 :: c7 :: c8 :: c9 :: c10 :: c11 :: c12 :: c13 :: c14 :: c15 :: bk1 zd zg zr zu zn zm zi zc zs zp zq ze zh zf zl zk zj zt za zo zb po)) rfl ?_
      obtain ⟨x27, hx27, h⟩ := bnd h
      refine OEnds.plain hm_30 rfl rfl (x_laload rfl hx27) ?_
      refine OEnds.adv hm_30 3 (pc' := 27) (L' := [qr 16, qi v1, qi x26, ql x27, qw, qi v1]) (S' := []) (H' := (c0 :: c1 :: c2 :: c3 :: c4 :: c5 :: c6 :: c7 :: c8 :: c9 :: c10 :: c11 :: c12 :: c13 :: c14 :: c15 :: bk1 zd zg zr zu zn zm zi zc zs zp zq ze zh zf zl zk zj zt za zo zb po)) rfl ?_
      exact ok_sortLevel_27_1 (k73 := f_sortLevel_73 (f_sortLevel_2 zm zb n) zm zb) (ok_sortLevel_73_1 ih) 100000 h
    · simp only [if_neg hc138] at h
      refine OEnds.icmpT hm_30 rfl (q := 87) rfl ((flt hc138).2.1) ?_
      show OEnds own_P 30 87 [qr 16, qi v1, qu, qu, qu, qu] [] (c0 :: c1 :: c2 :: c3 :: c4 :: c5 :: c6 :: c7 :: c8 :: c9 :: c10 :: c11 :: c12 :: c13 :: c14 :: c15 :: bk1 zd zg zr zu zn zm zi zc zs zp zq ze zh zf zl zk zj zt za zo zb po) _
      cases h
      exact OEnds.vret hm_30 rfl rfl
theorem ok_sortLevel_1 {zd zg zr zu zn : List Int32} {zm : List Int64} {zi zc zs zp zq zh zf : List Int32} {zl zk zj : Int32} {zt : Int64} {za zo zb : Int32} {c0 c1 c2 c3 c4 c5 c6 c7 c8 c9 c10 c11 c12 c13 c14 c15 : ACell} {po : List ACell} {ze w_o_lvlIds : List Int32} (h : f_sortLevel zm zb ze = some w_o_lvlIds) : OEnds own_P 30 0 [qr 16, qu, qu, qu, qu, qu] [] (c0 :: c1 :: c2 :: c3 :: c4 :: c5 :: c6 :: c7 :: c8 :: c9 :: c10 :: c11 :: c12 :: c13 :: c14 :: c15 :: bk1 zd zg zr zu zn zm zi zc zs zp zq ze zh zf zl zk zj zt za zo zb po) (none, (c0 :: c1 :: c2 :: c3 :: c4 :: c5 :: c6 :: c7 :: c8 :: c9 :: c10 :: c11 :: c12 :: c13 :: c14 :: c15 :: bk1 zd zg zr zu zn zm zi zc zs zp zq w_o_lvlIds zh zf zl zk zj zt za zo zb po), 0, 0) := by
  unfold f_sortLevel at h
  refine OEnds.adv hm_30 2 (pc' := 2) (L' := [qr 16, qi 1, qu, qu, qu, qu]) (S' := []) (H' := (c0 :: c1 :: c2 :: c3 :: c4 :: c5 :: c6 :: c7 :: c8 :: c9 :: c10 :: c11 :: c12 :: c13 :: c14 :: c15 :: bk1 zd zg zr zu zn zm zi zc zs zp zq ze zh zf zl zk zj zt za zo zb po)) rfl ?_
  exact ok_sortLevel_2_1 100000 h
theorem ok_topStep_80_1 {zd zg zr zu zn : List Int32} {zm : List Int64} {zi zc zs zp zq ze zh : List Int32} {zl zk zj : Int32} {zt : Int64} {za zo zb : Int32} {c0 c1 c2 c3 c4 c5 c6 c7 c8 c9 c10 c11 c12 c13 c14 c15 : ACell} {po : List ACell} : ∀ {zf : List Int32} {v2 v4 : Int32} {d1 d3 : Slot} {res : Int32} {w_o_lvlA : List Int32}, f_topStep_80 zi ze zh zk zb zf v2 v4 = some (res, w_o_lvlA) → OEnds own_P 32 80 [qr 16, d1, qi v2, d3, qi v4] [] (c0 :: c1 :: c2 :: c3 :: c4 :: c5 :: c6 :: c7 :: c8 :: c9 :: c10 :: c11 :: c12 :: c13 :: c14 :: c15 :: bk1 zd zg zr zu zn zm zi zc zs zp zq ze zh zf zl zk zj zt za zo zb po) (some (.int res), (c0 :: c1 :: c2 :: c3 :: c4 :: c5 :: c6 :: c7 :: c8 :: c9 :: c10 :: c11 :: c12 :: c13 :: c14 :: c15 :: bk1 zd zg zr zu zn zm zi zc zs zp zq ze zh w_o_lvlA zl zk zj zt za zo zb po), 0, 0) := by
  intro zf v2 v4 d1 d3 res w_o_lvlA h
  unfold f_topStep_80 at h
  refine OEnds.adv hm_32 4 (pc' := 86) (L' := [qr 16, qu, qi v2, qu, qi v4]) (S' := [.int v2, .ref 30, .int v2, .ref 30]) (H' := (c0 :: c1 :: c2 :: c3 :: c4 :: c5 :: c6 :: c7 :: c8 :: c9 :: c10 :: c11 :: c12 :: c13 :: c14 :: c15 :: bk1 zd zg zr zu zn zm zi zc zs zp zq ze zh zf zl zk zj zt za zo zb po)) rfl ?_
  obtain ⟨x37, hx37, h⟩ := bnd h
  refine OEnds.plain hm_32 rfl rfl (x_iaload rfl hx37) ?_
  refine OEnds.adv hm_32 2 (pc' := 90) (L' := [qr 16, qu, qi v2, qu, qi v4]) (S' := [.int (x37 + v4), .int v2, .ref 30]) (H' := (c0 :: c1 :: c2 :: c3 :: c4 :: c5 :: c6 :: c7 :: c8 :: c9 :: c10 :: c11 :: c12 :: c13 :: c14 :: c15 :: bk1 zd zg zr zu zn zm zi zc zs zp zq ze zh zf zl zk zj zt za zo zb po)) rfl ?_
  obtain ⟨A38, hA38, h⟩ := bnd h
  refine OEnds.plain hm_32 rfl rfl (x_iastore rfl (Nat.le_of_ble_eq_true rfl) hA38) ?_
  refine OEnds.adv hm_32 1 (pc' := 93) (L' := [qr 16, qu, qi v2, qu, qi v4]) (S' := [.int v4]) (H' := (c0 :: c1 :: c2 :: c3 :: c4 :: c5 :: c6 :: c7 :: c8 :: c9 :: c10 :: c11 :: c12 :: c13 :: c14 :: c15 :: bk1 zd zg zr zu zn zm zi zc zs zp zq ze zh A38 zl zk zj zt za zo zb po)) rfl ?_
  cases h
  exact OEnds.iret hm_32 rfl rfl
theorem ok_topStep_72_1 {zd zg zr zu zn : List Int32} {zm : List Int64} {zi zc zs zp zq ze zh : List Int32} {zl zk zj : Int32} {zt : Int64} {za zo zb : Int32} {c0 c1 c2 c3 c4 c5 c6 c7 c8 c9 c10 c11 c12 c13 c14 c15 : ACell} {po : List ACell} : ∀ {zf : List Int32} {v2 v4 : Int32} {d1 d3 : Slot} {res : Int32} {w_o_lvlA : List Int32}, f_topStep_72 zi ze zh zk zb zf v2 v4 = some (res, w_o_lvlA) → OEnds own_P 32 72 [qr 16, d1, qi v2, d3, qi v4] [] (c0 :: c1 :: c2 :: c3 :: c4 :: c5 :: c6 :: c7 :: c8 :: c9 :: c10 :: c11 :: c12 :: c13 :: c14 :: c15 :: bk1 zd zg zr zu zn zm zi zc zs zp zq ze zh zf zl zk zj zt za zo zb po) (some (.int res), (c0 :: c1 :: c2 :: c3 :: c4 :: c5 :: c6 :: c7 :: c8 :: c9 :: c10 :: c11 :: c12 :: c13 :: c14 :: c15 :: bk1 zd zg zr zu zn zm zi zc zs zp zq ze zh w_o_lvlA zl zk zj zt za zo zb po), 0, 0) := by
  intro zf v2 v4 d1 d3 res w_o_lvlA h
  unfold f_topStep_72 at h
  refine OEnds.adv hm_32 1 (pc' := 74) (L' := [qr 16, qu, qi v2, qu, qi v4]) (S' := [.int v4]) (H' := (c0 :: c1 :: c2 :: c3 :: c4 :: c5 :: c6 :: c7 :: c8 :: c9 :: c10 :: c11 :: c12 :: c13 :: c14 :: c15 :: bk1 zd zg zr zu zn zm zi zc zs zp zq ze zh zf zl zk zj zt za zo zb po)) rfl ?_
  by_cases hc139 : v4 < (0 : Int32)
  · simp only [if_pos hc139] at h
    refine OEnds.ifF hm_32 rfl ((tlt hc139).2.1) ?_
    refine OEnds.adv hm_32 2 (pc' := 80) (L' := [qr 16, qu, qi v2, qu, qi 0]) (S' := []) (H' := (c0 :: c1 :: c2 :: c3 :: c4 :: c5 :: c6 :: c7 :: c8 :: c9 :: c10 :: c11 :: c12 :: c13 :: c14 :: c15 :: bk1 zd zg zr zu zn zm zi zc zs zp zq ze zh zf zl zk zj zt za zo zb po)) rfl ?_
    exact ok_topStep_80_1 h
  · simp only [if_neg hc139] at h
    refine OEnds.ifT hm_32 rfl (q := 80) rfl ((flt hc139).2.1) ?_
    show OEnds own_P 32 80 [qr 16, qu, qi v2, qu, qi v4] [] (c0 :: c1 :: c2 :: c3 :: c4 :: c5 :: c6 :: c7 :: c8 :: c9 :: c10 :: c11 :: c12 :: c13 :: c14 :: c15 :: bk1 zd zg zr zu zn zm zi zc zs zp zq ze zh zf zl zk zj zt za zo zb po) _
    exact ok_topStep_80_1 h
theorem ok_topStep_57_1 {zd zg zr zu zn : List Int32} {zm : List Int64} {zi zc zs zp zq ze zh : List Int32} {zl zk zj : Int32} {zt : Int64} {za zo zb : Int32} {c0 c1 c2 c3 c4 c5 c6 c7 c8 c9 c10 c11 c12 c13 c14 c15 : ACell} {po : List ACell} : ∀ {zf : List Int32} {v2 v4 : Int32} {d1 d3 : Slot} {res : Int32} {w_o_lvlA : List Int32}, f_topStep_57 zi ze zh zk zb zf v2 v4 = some (res, w_o_lvlA) → OEnds own_P 32 57 [qr 16, d1, qi v2, d3, qi v4] [] (c0 :: c1 :: c2 :: c3 :: c4 :: c5 :: c6 :: c7 :: c8 :: c9 :: c10 :: c11 :: c12 :: c13 :: c14 :: c15 :: bk1 zd zg zr zu zn zm zi zc zs zp zq ze zh zf zl zk zj zt za zo zb po) (some (.int res), (c0 :: c1 :: c2 :: c3 :: c4 :: c5 :: c6 :: c7 :: c8 :: c9 :: c10 :: c11 :: c12 :: c13 :: c14 :: c15 :: bk1 zd zg zr zu zn zm zi zc zs zp zq ze zh w_o_lvlA zl zk zj zt za zo zb po), 0, 0) := by
  intro zf v2 v4 d1 d3 res w_o_lvlA h
  unfold f_topStep_57 at h
  refine OEnds.adv hm_32 3 (pc' := 63) (L' := [qr 16, qu, qi v2, qu, qi v4]) (S' := [.int v4, .int zk]) (H' := (c0 :: c1 :: c2 :: c3 :: c4 :: c5 :: c6 :: c7 :: c8 :: c9 :: c10 :: c11 :: c12 :: c13 :: c14 :: c15 :: bk1 zd zg zr zu zn zm zi zc zs zp zq ze zh zf zl zk zj zt za zo zb po)) rfl ?_
  by_cases hc140 : zk < v4
  · simp only [if_pos hc140] at h
    refine OEnds.icmpF hm_32 rfl ((tlt hc140).2.1) ?_
    refine OEnds.adv hm_32 3 (pc' := 72) (L' := [qr 16, qu, qi v2, qu, qi zk]) (S' := []) (H' := (c0 :: c1 :: c2 :: c3 :: c4 :: c5 :: c6 :: c7 :: c8 :: c9 :: c10 :: c11 :: c12 :: c13 :: c14 :: c15 :: bk1 zd zg zr zu zn zm zi zc zs zp zq ze zh zf zl zk zj zt za zo zb po)) rfl ?_
    exact ok_topStep_72_1 h
  · simp only [if_neg hc140] at h
    refine OEnds.icmpT hm_32 rfl (q := 72) rfl ((flt hc140).2.1) ?_
    show OEnds own_P 32 72 [qr 16, qu, qi v2, qu, qi v4] [] (c0 :: c1 :: c2 :: c3 :: c4 :: c5 :: c6 :: c7 :: c8 :: c9 :: c10 :: c11 :: c12 :: c13 :: c14 :: c15 :: bk1 zd zg zr zu zn zm zi zc zs zp zq ze zh zf zl zk zj zt za zo zb po) _
    exact ok_topStep_72_1 h
theorem ok_topStep_35_1 {zd zg zr zu zn : List Int32} {zm : List Int64} {zi zc zs zp zq ze zh : List Int32} {zl zk zj : Int32} {zt : Int64} {za zo zb : Int32} {c0 c1 c2 c3 c4 c5 c6 c7 c8 c9 c10 c11 c12 c13 c14 c15 : ACell} {po : List ACell} : ∀ {zf : List Int32} {v1 v2 : Int32} {d3 d4 : Slot} {res : Int32} {w_o_lvlA : List Int32}, f_topStep_35 zi ze zh zk zb zf v1 v2 = some (res, w_o_lvlA) → OEnds own_P 32 35 [qr 16, qi v1, qi v2, d3, d4] [] (c0 :: c1 :: c2 :: c3 :: c4 :: c5 :: c6 :: c7 :: c8 :: c9 :: c10 :: c11 :: c12 :: c13 :: c14 :: c15 :: bk1 zd zg zr zu zn zm zi zc zs zp zq ze zh zf zl zk zj zt za zo zb po) (some (.int res), (c0 :: c1 :: c2 :: c3 :: c4 :: c5 :: c6 :: c7 :: c8 :: c9 :: c10 :: c11 :: c12 :: c13 :: c14 :: c15 :: bk1 zd zg zr zu zn zm zi zc zs zp zq ze zh w_o_lvlA zl zk zj zt za zo zb po), 0, 0) := by
  intro zf v1 v2 d3 d4 res w_o_lvlA h
  unfold f_topStep_35 at h
  refine OEnds.adv hm_32 5 (pc' := 43) (L' := [qr 16, qi v1, qi v2, qu, qi v1]) (S' := [.int v2, .ref 29]) (H' := (c0 :: c1 :: c2 :: c3 :: c4 :: c5 :: c6 :: c7 :: c8 :: c9 :: c10 :: c11 :: c12 :: c13 :: c14 :: c15 :: bk1 zd zg zr zu zn zm zi zc zs zp zq ze zh zf zl zk zj zt za zo zb po)) rfl ?_
  obtain ⟨x35, hx35, h⟩ := bnd h
  refine OEnds.plain hm_32 rfl rfl (x_iaload rfl hx35) ?_
  refine OEnds.adv hm_32 1 (pc' := 46) (L' := [qr 16, qi v1, qi v2, qu, qi v1]) (S' := [.int v1, .int x35]) (H' := (c0 :: c1 :: c2 :: c3 :: c4 :: c5 :: c6 :: c7 :: c8 :: c9 :: c10 :: c11 :: c12 :: c13 :: c14 :: c15 :: bk1 zd zg zr zu zn zm zi zc zs zp zq ze zh zf zl zk zj zt za zo zb po)) rfl ?_
  by_cases hc141 : x35 < v1
  · simp only [if_pos hc141] at h
    refine OEnds.icmpF hm_32 rfl ((tlt hc141).2.1) ?_
    refine OEnds.adv hm_32 3 (pc' := 54) (L' := [qr 16, qi v1, qi v2, qu, qi v1]) (S' := [.int v2, .ref 29]) (H' := (c0 :: c1 :: c2 :: c3 :: c4 :: c5 :: c6 :: c7 :: c8 :: c9 :: c10 :: c11 :: c12 :: c13 :: c14 :: c15 :: bk1 zd zg zr zu zn zm zi zc zs zp zq ze zh zf zl zk zj zt za zo zb po)) rfl ?_
    obtain ⟨x36, hx36, h⟩ := bnd h
    refine OEnds.plain hm_32 rfl rfl (x_iaload rfl hx36) ?_
    refine OEnds.adv hm_32 1 (pc' := 57) (L' := [qr 16, qi v1, qi v2, qu, qi x36]) (S' := []) (H' := (c0 :: c1 :: c2 :: c3 :: c4 :: c5 :: c6 :: c7 :: c8 :: c9 :: c10 :: c11 :: c12 :: c13 :: c14 :: c15 :: bk1 zd zg zr zu zn zm zi zc zs zp zq ze zh zf zl zk zj zt za zo zb po)) rfl ?_
    exact ok_topStep_57_1 h
  · simp only [if_neg hc141] at h
    refine OEnds.icmpT hm_32 rfl (q := 57) rfl ((flt hc141).2.1) ?_
    show OEnds own_P 32 57 [qr 16, qi v1, qi v2, qu, qi v1] [] (c0 :: c1 :: c2 :: c3 :: c4 :: c5 :: c6 :: c7 :: c8 :: c9 :: c10 :: c11 :: c12 :: c13 :: c14 :: c15 :: bk1 zd zg zr zu zn zm zi zc zs zp zq ze zh zf zl zk zj zt za zo zb po) _
    exact ok_topStep_57_1 h
theorem ok_topStep_11_1 {zd zg zr zu zn : List Int32} {zm : List Int64} {zi zc zs zp zq ze zh : List Int32} {zl zk zj : Int32} {zt : Int64} {za zo zb : Int32} {c0 c1 c2 c3 c4 c5 c6 c7 c8 c9 c10 c11 c12 c13 c14 c15 : ACell} {po : List ACell} {k35 : List Int32 → Int32 → Int32 → Option (Int32 × List Int32)} (hk35 : ∀ {zf : List Int32} {v1 v2 : Int32} {d3 d4 : Slot} {res : Int32} {w_o_lvlA : List Int32}, k35 zf v1 v2 = some (res, w_o_lvlA) → OEnds own_P 32 35 [qr 16, qi v1, qi v2, d3, d4] [] (c0 :: c1 :: c2 :: c3 :: c4 :: c5 :: c6 :: c7 :: c8 :: c9 :: c10 :: c11 :: c12 :: c13 :: c14 :: c15 :: bk1 zd zg zr zu zn zm zi zc zs zp zq ze zh zf zl zk zj zt za zo zb po) (some (.int res), (c0 :: c1 :: c2 :: c3 :: c4 :: c5 :: c6 :: c7 :: c8 :: c9 :: c10 :: c11 :: c12 :: c13 :: c14 :: c15 :: bk1 zd zg zr zu zn zm zi zc zs zp zq ze zh w_o_lvlA zl zk zj zt za zo zb po), 0, 0)) : ∀ (n : Nat), ∀ {zf : List Int32} {v1 v2 : Int32} {d3 d4 : Slot} {res : Int32} {w_o_lvlA : List Int32}, f_topStep_11 k35 zi ze zh zk zb n zf v1 v2 = some (res, w_o_lvlA) → OEnds own_P 32 11 [qr 16, qi v1, qi v2, d3, d4] [] (c0 :: c1 :: c2 :: c3 :: c4 :: c5 :: c6 :: c7 :: c8 :: c9 :: c10 :: c11 :: c12 :: c13 :: c14 :: c15 :: bk1 zd zg zr zu zn zm zi zc zs zp zq ze zh zf zl zk zj zt za zo zb po) (some (.int res), (c0 :: c1 :: c2 :: c3 :: c4 :: c5 :: c6 :: c7 :: c8 :: c9 :: c10 :: c11 :: c12 :: c13 :: c14 :: c15 :: bk1 zd zg zr zu zn zm zi zc zs zp zq ze zh w_o_lvlA zl zk zj zt za zo zb po), 0, 0) := by
  intro n
  induction n with
  | zero => intro zf v1 v2 d3 d4 res w_o_lvlA h; cases h
  | succ n ih =>
    intro zf v1 v2 d3 d4 res w_o_lvlA h
    unfold f_topStep_11 at h
    refine OEnds.adv hm_32 3 (pc' := 16) (L' := [qr 16, qi v1, qi v2, qu, qu]) (S' := [.int zb, .int v2]) (H' := (c0 :: c1 :: c2 :: c3 :: c4 :: c5 :: c6 :: c7 :: c8 :: c9 :: c10 :: c11 :: c12 :: c13 :: c14 :: c15 :: bk1 zd zg zr zu zn zm zi zc zs zp zq ze zh zf zl zk zj zt za zo zb po)) rfl ?_
    by_cases hc142 : v2 < zb
    · simp only [if_pos hc142] at h
      refine OEnds.icmpF hm_32 rfl ((tlt hc142).2.1) ?_
      refine OEnds.adv hm_32 3 (pc' := 24) (L' := [qr 16, qi v1, qi v2, qu, qu]) (S' := [.int v2, .ref 28]) (H' := (c0 :: c1 :: c2 :: c3 :: c4 :: c5 :: c6 :: c7 :: c8 :: c9 :: c10 :: c11 :: c12 :: c13 :: c14 :: c15 :: bk1 zd zg zr zu zn zm zi zc zs zp zq ze zh zf zl zk zj zt za zo zb po)) rfl ?_
      obtain ⟨x33, hx33, h⟩ := bnd h
      refine OEnds.plain hm_32 rfl rfl (x_iaload rfl hx33) ?_
      refine OEnds.adv hm_32 4 (pc' := 31) (L' := [qr 16, qi v1, qi v2, qi x33, qu]) (S' := [.int x33, .ref 23]) (H' := (c0 :: c1 :: c2 :: c3 :: c4 :: c5 :: c6 :: c7 :: c8 :: c9 :: c10 :: c11 :: c12 :: c13 :: c14 :: c15 :: bk1 zd zg zr zu zn zm zi zc zs zp zq ze zh zf zl zk zj zt za zo zb po)) rfl ?_
      obtain ⟨x34, hx34, h⟩ := bnd h
      refine OEnds.plain hm_32 rfl rfl (x_baload rfl hx34) ?_
      show OEnds own_P 32 32 [qr 16, qi v1, qi v2, qi x33, qu] [.int x34] (c0 :: c1 :: c2 :: c3 :: c4 :: c5 :: c6 :: c7 :: c8 :: c9 :: c10 :: c11 :: c12 :: c13 :: c14 :: c15 :: bk1 zd zg zr zu zn zm zi zc zs zp zq ze zh zf zl zk zj zt za zo zb po) _
      by_cases hc143 : x34 = (0 : Int32)
      · simp only [if_pos hc143] at h
        refine OEnds.ifT hm_32 rfl (q := 94) rfl ((teq hc143).1) ?_
        refine OEnds.adv hm_32 2 (pc' := 11) (L' := [qr 16, qi v1, qi (v2 + (1 : Int32)), qi x33, qu]) (S' := []) (H' := (c0 :: c1 :: c2 :: c3 :: c4 :: c5 :: c6 :: c7 :: c8 :: c9 :: c10 :: c11 :: c12 :: c13 :: c14 :: c15 :: bk1 zd zg zr zu zn zm zi zc zs zp zq ze zh zf zl zk zj zt za zo zb po)) rfl ?_
        exact ih h
      · simp only [if_neg hc143] at h
        refine OEnds.ifF hm_32 rfl ((feq hc143).1) ?_
        show OEnds own_P 32 35 [qr 16, qi v1, qi v2, qi x33, qu] [] (c0 :: c1 :: c2 :: c3 :: c4 :: c5 :: c6 :: c7 :: c8 :: c9 :: c10 :: c11 :: c12 :: c13 :: c14 :: c15 :: bk1 zd zg zr zu zn zm zi zc zs zp zq ze zh zf zl zk zj zt za zo zb po) _
        exact hk35 h
    · simp only [if_neg hc142] at h
      refine OEnds.icmpT hm_32 rfl (q := 100) rfl ((flt hc142).2.1) ?_
      refine OEnds.adv hm_32 1 (pc' := 101) (L' := [qr 16, qi v1, qi v2, qu, qu]) (S' := [.int 0]) (H' := (c0 :: c1 :: c2 :: c3 :: c4 :: c5 :: c6 :: c7 :: c8 :: c9 :: c10 :: c11 :: c12 :: c13 :: c14 :: c15 :: bk1 zd zg zr zu zn zm zi zc zs zp zq ze zh zf zl zk zj zt za zo zb po)) rfl ?_
      cases h
      exact OEnds.iret hm_32 rfl rfl
theorem ok_topStep_1 {zd zg zr zu zn : List Int32} {zm : List Int64} {zi zc zs zp zq ze zh : List Int32} {zl zk zj : Int32} {zt : Int64} {za zo zb : Int32} {c0 c1 c2 c3 c4 c5 c6 c7 c8 c9 c10 c11 c12 c13 c14 c15 : ACell} {po : List ACell} {zf : List Int32} {v1 res : Int32} {w_o_lvlA : List Int32} (h : f_topStep zi ze zh zk zb zf v1 = some (res, w_o_lvlA)) : OEnds own_P 32 0 [qr 16, qi v1, qu, qu, qu] [] (c0 :: c1 :: c2 :: c3 :: c4 :: c5 :: c6 :: c7 :: c8 :: c9 :: c10 :: c11 :: c12 :: c13 :: c14 :: c15 :: bk1 zd zg zr zu zn zm zi zc zs zp zq ze zh zf zl zk zj zt za zo zb po) (some (.int res), (c0 :: c1 :: c2 :: c3 :: c4 :: c5 :: c6 :: c7 :: c8 :: c9 :: c10 :: c11 :: c12 :: c13 :: c14 :: c15 :: bk1 zd zg zr zu zn zm zi zc zs zp zq ze zh w_o_lvlA zl zk zj zt za zo zb po), 0, 0) := by
  unfold f_topStep at h
  refine OEnds.adv hm_32 2 (pc' := 4) (L' := [qr 16, qi v1, qu, qu, qu]) (S' := [.int zk]) (H' := (c0 :: c1 :: c2 :: c3 :: c4 :: c5 :: c6 :: c7 :: c8 :: c9 :: c10 :: c11 :: c12 :: c13 :: c14 :: c15 :: bk1 zd zg zr zu zn zm zi zc zs zp zq ze zh zf zl zk zj zt za zo zb po)) rfl ?_
  by_cases hc144 : (0 : Int32) < zk
  · simp only [if_pos hc144] at h
    refine OEnds.ifT hm_32 rfl (q := 9) rfl ((tlt hc144).2.2.1) ?_
    refine OEnds.adv hm_32 2 (pc' := 11) (L' := [qr 16, qi v1, qi 0, qu, qu]) (S' := []) (H' := (c0 :: c1 :: c2 :: c3 :: c4 :: c5 :: c6 :: c7 :: c8 :: c9 :: c10 :: c11 :: c12 :: c13 :: c14 :: c15 :: bk1 zd zg zr zu zn zm zi zc zs zp zq ze zh zf zl zk zj zt za zo zb po)) rfl ?_
    exact ok_topStep_11_1 (k35 := f_topStep_35 zi ze zh zk zb) ok_topStep_35_1 100000 h
  · simp only [if_neg hc144] at h
    refine OEnds.ifF hm_32 rfl ((flt hc144).2.2.1) ?_
    refine OEnds.adv hm_32 1 (pc' := 8) (L' := [qr 16, qi v1, qu, qu, qu]) (S' := [.int 0]) (H' := (c0 :: c1 :: c2 :: c3 :: c4 :: c5 :: c6 :: c7 :: c8 :: c9 :: c10 :: c11 :: c12 :: c13 :: c14 :: c15 :: bk1 zd zg zr zu zn zm zi zc zs zp zq ze zh zf zl zk zj zt za zo zb po)) rfl ?_
    cases h
    exact OEnds.iret hm_32 rfl rfl
theorem ok_proRataStep_102_1 {zd zg zr zu zn : List Int32} {zm : List Int64} {zi zc zs zp zq ze zh : List Int32} {zl zk zj : Int32} {zt : Int64} {za zo zb : Int32} {c0 c1 c2 c3 c4 c5 c6 c7 c8 c9 c10 c11 c12 c13 c14 c15 : ACell} {po : List ACell} {kb : List Int32 → Int32 → Int64 → Int32 → Int32 → Option (Int32 × List Int32)} (hkb : ∀ {zf : List Int32} {v1 : Int32} {v2 : Int64} {v4 v5 : Int32} {d6 d7 d8 : Slot} {res : Int32} {w_o_lvlA : List Int32}, kb zf v1 v2 v4 v5 = some (res, w_o_lvlA) → OEnds own_P 35 53 [qr 16, qi v1, ql v2, qw, qi v4, qi v5, d6, d7, d8] [] (c0 :: c1 :: c2 :: c3 :: c4 :: c5 :: c6 :: c7 :: c8 :: c9 :: c10 :: c11 :: c12 :: c13 :: c14 :: c15 :: bk1 zd zg zr zu zn zm zi zc zs zp zq ze zh zf zl zk zj zt za zo zb po) (some (.int res), (c0 :: c1 :: c2 :: c3 :: c4 :: c5 :: c6 :: c7 :: c8 :: c9 :: c10 :: c11 :: c12 :: c13 :: c14 :: c15 :: bk1 zd zg zr zu zn zm zi zc zs zp zq ze zh w_o_lvlA zl zk zj zt za zo zb po), 0, 0)) : ∀ {zf : List Int32} {v1 : Int32} {v2 : Int64} {v4 v5 v8 : Int32} {d6 d7 : Slot} {res : Int32} {w_o_lvlA : List Int32}, f_proRataStep_102 kb zh zl zb zf v1 v2 v4 v5 v8 = some (res, w_o_lvlA) → OEnds own_P 35 102 [qr 16, qi v1, ql v2, qw, qi v4, qi v5, d6, d7, qi v8] [] (c0 :: c1 :: c2 :: c3 :: c4 :: c5 :: c6 :: c7 :: c8 :: c9 :: c10 :: c11 :: c12 :: c13 :: c14 :: c15 :: bk1 zd zg zr zu zn zm zi zc zs zp zq ze zh zf zl zk zj zt za zo zb po) (some (.int res), (c0 :: c1 :: c2 :: c3 :: c4 :: c5 :: c6 :: c7 :: c8 :: c9 :: c10 :: c11 :: c12 :: c13 :: c14 :: c15 :: bk1 zd zg zr zu zn zm zi zc zs zp zq ze zh w_o_lvlA zl zk zj zt za zo zb po), 0, 0) := by
  intro zf v1 v2 v4 v5 v8 d6 d7 res w_o_lvlA h
  unfold f_proRataStep_102 at h
  refine OEnds.adv hm_35 4 (pc' := 109) (L' := [qr 16, qi v1, ql v2, qw, qi v4, qi v5, qu, qu, qi v8]) (S' := [.int v5, .ref 30, .int v5, .ref 30]) (H' := (c0 :: c1 :: c2 :: c3 :: c4 :: c5 :: c6 :: c7 :: c8 :: c9 :: c10 :: c11 :: c12 :: c13 :: c14 :: c15 :: bk1 zd zg zr zu zn zm zi zc zs zp zq ze zh zf zl zk zj zt za zo zb po)) rfl ?_
  obtain ⟨x43, hx43, h⟩ := bnd h
  refine OEnds.plain hm_35 rfl rfl (x_iaload rfl hx43) ?_
  refine OEnds.adv hm_35 2 (pc' := 113) (L' := [qr 16, qi v1, ql v2, qw, qi v4, qi v5, qu, qu, qi v8]) (S' := [.int (x43 + v8), .int v5, .ref 30]) (H' := (c0 :: c1 :: c2 :: c3 :: c4 :: c5 :: c6 :: c7 :: c8 :: c9 :: c10 :: c11 :: c12 :: c13 :: c14 :: c15 :: bk1 zd zg zr zu zn zm zi zc zs zp zq ze zh zf zl zk zj zt za zo zb po)) rfl ?_
  obtain ⟨A44, hA44, h⟩ := bnd h
  refine OEnds.plain hm_35 rfl rfl (x_iastore rfl (Nat.le_of_ble_eq_true rfl) hA44) ?_
  refine OEnds.adv hm_35 6 (pc' := 53) (L' := [qr 16, qi v1, ql v2, qw, qi (v4 + v8), qi (v5 + (1 : Int32)), qu, qu, qi v8]) (S' := []) (H' := (c0 :: c1 :: c2 :: c3 :: c4 :: c5 :: c6 :: c7 :: c8 :: c9 :: c10 :: c11 :: c12 :: c13 :: c14 :: c15 :: bk1 zd zg zr zu zn zm zi zc zs zp zq ze zh A44 zl zk zj zt za zo zb po)) rfl ?_
  exact hkb h
theorem ok_proRataStep_53_1 {zd zg zr zu zn : List Int32} {zm : List Int64} {zi zc zs zp zq ze zh : List Int32} {zl zk zj : Int32} {zt : Int64} {za zo zb : Int32} {c0 c1 c2 c3 c4 c5 c6 c7 c8 c9 c10 c11 c12 c13 c14 c15 : ACell} {po : List ACell} : ∀ (n : Nat), ∀ {zf : List Int32} {v1 : Int32} {v2 : Int64} {v4 v5 : Int32} {d6 d7 d8 : Slot} {res : Int32} {w_o_lvlA : List Int32}, f_proRataStep_53 zh zl zb n zf v1 v2 v4 v5 = some (res, w_o_lvlA) → OEnds own_P 35 53 [qr 16, qi v1, ql v2, qw, qi v4, qi v5, d6, d7, d8] [] (c0 :: c1 :: c2 :: c3 :: c4 :: c5 :: c6 :: c7 :: c8 :: c9 :: c10 :: c11 :: c12 :: c13 :: c14 :: c15 :: bk1 zd zg zr zu zn zm zi zc zs zp zq ze zh zf zl zk zj zt za zo zb po) (some (.int res), (c0 :: c1 :: c2 :: c3 :: c4 :: c5 :: c6 :: c7 :: c8 :: c9 :: c10 :: c11 :: c12 :: c13 :: c14 :: c15 :: bk1 zd zg zr zu zn zm zi zc zs zp zq ze zh w_o_lvlA zl zk zj zt za zo zb po), 0, 0) := by
  intro n
  induction n with
  | zero => intro zf v1 v2 v4 v5 d6 d7 d8 res w_o_lvlA h; cases h
  | succ n ih =>
    intro zf v1 v2 v4 v5 d6 d7 d8 res w_o_lvlA h
    unfold f_proRataStep_53 at h
    refine OEnds.adv hm_35 3 (pc' := 59) (L' := [qr 16, qi v1, ql v2, qw, qi v4, qi v5, qu, qu, qu]) (S' := [.int zb, .int v5]) (H' := (c0 :: c1 :: c2 :: c3 :: c4 :: c5 :: c6 :: c7 :: c8 :: c9 :: c10 :: c11 :: c12 :: c13 :: c14 :: c15 :: bk1 zd zg zr zu zn zm zi zc zs zp zq ze zh zf zl zk zj zt za zo zb po)) rfl ?_
    by_cases hc145 : v5 < zb
    · simp only [if_pos hc145] at h
      refine OEnds.icmpF hm_35 rfl ((tlt hc145).2.1) ?_
      refine OEnds.adv hm_35 3 (pc' := 68) (L' := [qr 16, qi v1, ql v2, qw, qi v4, qi v5, qu, qu, qu]) (S' := [.int v5, .ref 29]) (H' := (c0 :: c1 :: c2 :: c3 :: c4 :: c5 :: c6 :: c7 :: c8 :: c9 :: c10 :: c11 :: c12 :: c13 :: c14 :: c15 :: bk1 zd zg zr zu zn zm zi zc zs zp zq ze zh zf zl zk zj zt za zo zb po)) rfl ?_
      obtain ⟨x41, hx41, h⟩ := bnd h
      refine OEnds.plain hm_35 rfl rfl (x_iaload rfl hx41) ?_
      refine OEnds.adv hm_35 3 (pc' := 75) (L' := [qr 16, qi v1, ql v2, qw, qi v4, qi v5, qu, qu, qu]) (S' := [.int v5, .ref 30, .int x41]) (H' := (c0 :: c1 :: c2 :: c3 :: c4 :: c5 :: c6 :: c7 :: c8 :: c9 :: c10 :: c11 :: c12 :: c13 :: c14 :: c15 :: bk1 zd zg zr zu zn zm zi zc zs zp zq ze zh zf zl zk zj zt za zo zb po)) rfl ?_
      obtain ⟨x42, hx42, h⟩ := bnd h
      refine OEnds.plain hm_35 rfl rfl (x_iaload rfl hx42) ?_
      refine OEnds.adv hm_35 8 (pc' := 86) (L' := [qr 16, qi v1, ql v2, qw, qi v4, qi v5, ql (x41 - x42).toInt64, qw, qu]) (S' := [.long v2, .long (v1.toInt64 * (x41 - x42).toInt64)]) (H' := (c0 :: c1 :: c2 :: c3 :: c4 :: c5 :: c6 :: c7 :: c8 :: c9 :: c10 :: c11 :: c12 :: c13 :: c14 :: c15 :: bk1 zd zg zr zu zn zm zi zc zs zp zq ze zh zf zl zk zj zt za zo zb po)) rfl ?_
      by_cases hz146 : v2 = 0
      · simp only [if_pos hz146] at h
        cases h
      simp only [if_neg hz146] at h
      refine OEnds.plain hm_35 rfl rfl (x_ldiv hz146) ?_
      refine OEnds.adv hm_35 5 (pc' := 96) (L' := [qr 16, qi v1, ql v2, qw, qi v4, qi v5, ql (x41 - x42).toInt64, qw, qi ((v1.toInt64 * (x41 - x42).toInt64) / v2).toInt32]) (S' := [.int zl, .int ((v1.toInt64 * (x41 - x42).toInt64) / v2).toInt32]) (H' := (c0 :: c1 :: c2 :: c3 :: c4 :: c5 :: c6 :: c7 :: c8 :: c9 :: c10 :: c11 :: c12 :: c13 :: c14 :: c15 :: bk1 zd zg zr zu zn zm zi zc zs zp zq ze zh zf zl zk zj zt za zo zb po)) rfl ?_
      by_cases hc147 : ((v1.toInt64 * (x41 - x42).toInt64) / v2).toInt32 < zl
      · simp only [if_pos hc147] at h
        refine OEnds.icmpF hm_35 rfl ((tlt hc147).2.1) ?_
        refine OEnds.adv hm_35 2 (pc' := 102) (L' := [qr 16, qi v1, ql v2, qw, qi v4, qi v5, ql (x41 - x42).toInt64, qw, qi 0]) (S' := []) (H' := (c0 :: c1 :: c2 :: c3 :: c4 :: c5 :: c6 :: c7 :: c8 :: c9 :: c10 :: c11 :: c12 :: c13 :: c14 :: c15 :: bk1 zd zg zr zu zn zm zi zc zs zp zq ze zh zf zl zk zj zt za zo zb po)) rfl ?_
        exact ok_proRataStep_102_1 ih h
      · simp only [if_neg hc147] at h
        refine OEnds.icmpT hm_35 rfl (q := 102) rfl ((flt hc147).2.1) ?_
        show OEnds own_P 35 102 [qr 16, qi v1, ql v2, qw, qi v4, qi v5, ql (x41 - x42).toInt64, qw, qi ((v1.toInt64 * (x41 - x42).toInt64) / v2).toInt32] [] (c0 :: c1 :: c2 :: c3 :: c4 :: c5 :: c6 :: c7 :: c8 :: c9 :: c10 :: c11 :: c12 :: c13 :: c14 :: c15 :: bk1 zd zg zr zu zn zm zi zc zs zp zq ze zh zf zl zk zj zt za zo zb po) _
        exact ok_proRataStep_102_1 ih h
    · simp only [if_neg hc145] at h
      refine OEnds.icmpT hm_35 rfl (q := 127) rfl ((flt hc145).2.1) ?_
      refine OEnds.adv hm_35 1 (pc' := 129) (L' := [qr 16, qi v1, ql v2, qw, qi v4, qi v5, qu, qu, qu]) (S' := [.int v4]) (H' := (c0 :: c1 :: c2 :: c3 :: c4 :: c5 :: c6 :: c7 :: c8 :: c9 :: c10 :: c11 :: c12 :: c13 :: c14 :: c15 :: bk1 zd zg zr zu zn zm zi zc zs zp zq ze zh zf zl zk zj zt za zo zb po)) rfl ?_
      cases h
      exact OEnds.iret hm_35 rfl rfl
theorem ok_proRataStep_39_1 {zd zg zr zu zn : List Int32} {zm : List Int64} {zi zc zs zp zq ze zh : List Int32} {zl zk zj : Int32} {zt : Int64} {za zo zb : Int32} {c0 c1 c2 c3 c4 c5 c6 c7 c8 c9 c10 c11 c12 c13 c14 c15 : ACell} {po : List ACell} : ∀ {zf : List Int32} {v1 : Int32} {v2 : Int64} {d4 d5 d6 d7 d8 : Slot} {res : Int32} {w_o_lvlA : List Int32}, f_proRataStep_39 zh zl zb zf v1 v2 = some (res, w_o_lvlA) → OEnds own_P 35 39 [qr 16, qi v1, ql v2, qw, d4, d5, d6, d7, d8] [] (c0 :: c1 :: c2 :: c3 :: c4 :: c5 :: c6 :: c7 :: c8 :: c9 :: c10 :: c11 :: c12 :: c13 :: c14 :: c15 :: bk1 zd zg zr zu zn zm zi zc zs zp zq ze zh zf zl zk zj zt za zo zb po) (some (.int res), (c0 :: c1 :: c2 :: c3 :: c4 :: c5 :: c6 :: c7 :: c8 :: c9 :: c10 :: c11 :: c12 :: c13 :: c14 :: c15 :: bk1 zd zg zr zu zn zm zi zc zs zp zq ze zh w_o_lvlA zl zk zj zt za zo zb po), 0, 0) := by
  intro zf v1 v2 d4 d5 d6 d7 d8 res w_o_lvlA h
  unfold f_proRataStep_39 at h
  refine OEnds.adv hm_35 3 (pc' := 42) (L' := [qr 16, qi v1, ql v2, qw, qu, qu, qu, qu, qu]) (S' := [.int (XT.cmpL v2 (0 : Int64))]) (H' := (c0 :: c1 :: c2 :: c3 :: c4 :: c5 :: c6 :: c7 :: c8 :: c9 :: c10 :: c11 :: c12 :: c13 :: c14 :: c15 :: bk1 zd zg zr zu zn zm zi zc zs zp zq ze zh zf zl zk zj zt za zo zb po)) rfl ?_
  by_cases hc148 : (0 : Int64) < v2
  · simp only [if_pos hc148] at h
    refine OEnds.ifT hm_35 rfl (q := 47) rfl ((tlt (c_gt.mpr hc148)).2.2.1) ?_
    refine OEnds.adv hm_35 4 (pc' := 53) (L' := [qr 16, qi v1, ql v2, qw, qi 0, qi 0, qu, qu, qu]) (S' := []) (H' := (c0 :: c1 :: c2 :: c3 :: c4 :: c5 :: c6 :: c7 :: c8 :: c9 :: c10 :: c11 :: c12 :: c13 :: c14 :: c15 :: bk1 zd zg zr zu zn zm zi zc zs zp zq ze zh zf zl zk zj zt za zo zb po)) rfl ?_
    exact ok_proRataStep_53_1 100000 h
  · simp only [if_neg hc148] at h
    refine OEnds.ifF hm_35 rfl ((flt (mt c_gt.mp hc148)).2.2.1) ?_
    refine OEnds.adv hm_35 1 (pc' := 46) (L' := [qr 16, qi v1, ql v2, qw, qu, qu, qu, qu, qu]) (S' := [.int 0]) (H' := (c0 :: c1 :: c2 :: c3 :: c4 :: c5 :: c6 :: c7 :: c8 :: c9 :: c10 :: c11 :: c12 :: c13 :: c14 :: c15 :: bk1 zd zg zr zu zn zm zi zc zs zp zq ze zh zf zl zk zj zt za zo zb po)) rfl ?_
    cases h
    exact OEnds.iret hm_35 rfl rfl
theorem ok_proRataStep_5_1 {zd zg zr zu zn : List Int32} {zm : List Int64} {zi zc zs zp zq ze zh : List Int32} {zl zk zj : Int32} {zt : Int64} {za zo zb : Int32} {c0 c1 c2 c3 c4 c5 c6 c7 c8 c9 c10 c11 c12 c13 c14 c15 : ACell} {po : List ACell} {k39 : List Int32 → Int32 → Int64 → Option (Int32 × List Int32)} (hk39 : ∀ {zf : List Int32} {v1 : Int32} {v2 : Int64} {d4 d5 d6 d7 d8 : Slot} {res : Int32} {w_o_lvlA : List Int32}, k39 zf v1 v2 = some (res, w_o_lvlA) → OEnds own_P 35 39 [qr 16, qi v1, ql v2, qw, d4, d5, d6, d7, d8] [] (c0 :: c1 :: c2 :: c3 :: c4 :: c5 :: c6 :: c7 :: c8 :: c9 :: c10 :: c11 :: c12 :: c13 :: c14 :: c15 :: bk1 zd zg zr zu zn zm zi zc zs zp zq ze zh zf zl zk zj zt za zo zb po) (some (.int res), (c0 :: c1 :: c2 :: c3 :: c4 :: c5 :: c6 :: c7 :: c8 :: c9 :: c10 :: c11 :: c12 :: c13 :: c14 :: c15 :: bk1 zd zg zr zu zn zm zi zc zs zp zq ze zh w_o_lvlA zl zk zj zt za zo zb po), 0, 0)) : ∀ (n : Nat), ∀ {zf : List Int32} {v1 : Int32} {v2 : Int64} {v4 : Int32} {d5 d6 d7 d8 : Slot} {res : Int32} {w_o_lvlA : List Int32}, f_proRataStep_5 k39 zh zl zb n zf v1 v2 v4 = some (res, w_o_lvlA) → OEnds own_P 35 5 [qr 16, qi v1, ql v2, qw, qi v4, d5, d6, d7, d8] [] (c0 :: c1 :: c2 :: c3 :: c4 :: c5 :: c6 :: c7 :: c8 :: c9 :: c10 :: c11 :: c12 :: c13 :: c14 :: c15 :: bk1 zd zg zr zu zn zm zi zc zs zp zq ze zh zf zl zk zj zt za zo zb po) (some (.int res), (c0 :: c1 :: c2 :: c3 :: c4 :: c5 :: c6 :: c7 :: c8 :: c9 :: c10 :: c11 :: c12 :: c13 :: c14 :: c15 :: bk1 zd zg zr zu zn zm zi zc zs zp zq ze zh w_o_lvlA zl zk zj zt za zo zb po), 0, 0) := by
  intro n
  induction n with
  | zero => intro zf v1 v2 v4 d5 d6 d7 d8 res w_o_lvlA h; cases h
  | succ n ih =>
    intro zf v1 v2 v4 d5 d6 d7 d8 res w_o_lvlA h
    unfold f_proRataStep_5 at h
    refine OEnds.adv hm_35 3 (pc' := 11) (L' := [qr 16, qi v1, ql v2, qw, qi v4, qu, qu, qu, qu]) (S' := [.int zb, .int v4]) (H' := (c0 :: c1 :: c2 :: c3 :: c4 :: c5 :: c6 :: c7 :: c8 :: c9 :: c10 :: c11 :: c12 :: c13 :: c14 :: c15 :: bk1 zd zg zr zu zn zm zi zc zs zp zq ze zh zf zl zk zj zt za zo zb po)) rfl ?_
    by_cases hc149 : v4 < zb
    · simp only [if_pos hc149] at h
      refine OEnds.icmpF hm_35 rfl ((tlt hc149).2.1) ?_
      refine OEnds.adv hm_35 4 (pc' := 21) (L' := [qr 16, qi v1, ql v2, qw, qi v4, qu, qu, qu, qu]) (S' := [.int v4, .ref 29, .long v2]) (H' := (c0 :: c1 :: c2 :: c3 :: c4 :: c5 :: c6 :: c7 :: c8 :: c9 :: c10 :: c11 :: c12 :: c13 :: c14 :: c15 :: bk1 zd zg zr zu zn zm zi zc zs zp zq ze zh zf zl zk zj zt za zo zb po)) rfl ?_
      obtain ⟨x39, hx39, h⟩ := bnd h
      refine OEnds.plain hm_35 rfl rfl (x_iaload rfl hx39) ?_
      refine OEnds.adv hm_35 3 (pc' := 28) (L' := [qr 16, qi v1, ql v2, qw, qi v4, qu, qu, qu, qu]) (S' := [.int v4, .ref 30, .int x39, .long v2]) (H' := (c0 :: c1 :: c2 :: c3 :: c4 :: c5 :: c6 :: c7 :: c8 :: c9 :: c10 :: c11 :: c12 :: c13 :: c14 :: c15 :: bk1 zd zg zr zu zn zm zi zc zs zp zq ze zh zf zl zk zj zt za zo zb po)) rfl ?_
      obtain ⟨x40, hx40, h⟩ := bnd h
      refine OEnds.plain hm_35 rfl rfl (x_iaload rfl hx40) ?_
      refine OEnds.adv hm_35 6 (pc' := 5) (L' := [qr 16, qi v1, ql (v2 + (x39 - x40).toInt64), qw, qi (v4 + (1 : Int32)), qu, qu, qu, qu]) (S' := []) (H' := (c0 :: c1 :: c2 :: c3 :: c4 :: c5 :: c6 :: c7 :: c8 :: c9 :: c10 :: c11 :: c12 :: c13 :: c14 :: c15 :: bk1 zd zg zr zu zn zm zi zc zs zp zq ze zh zf zl zk zj zt za zo zb po)) rfl ?_
      exact ih h
    · simp only [if_neg hc149] at h
      refine OEnds.icmpT hm_35 rfl (q := 39) rfl ((flt hc149).2.1) ?_
      show OEnds own_P 35 39 [qr 16, qi v1, ql v2, qw, qi v4, qu, qu, qu, qu] [] (c0 :: c1 :: c2 :: c3 :: c4 :: c5 :: c6 :: c7 :: c8 :: c9 :: c10 :: c11 :: c12 :: c13 :: c14 :: c15 :: bk1 zd zg zr zu zn zm zi zc zs zp zq ze zh zf zl zk zj zt za zo zb po) _
      exact hk39 h
theorem ok_proRataStep_1 {zd zg zr zu zn : List Int32} {zm : List Int64} {zi zc zs zp zq ze zh : List Int32} {zl zk zj : Int32} {zt : Int64} {za zo zb : Int32} {c0 c1 c2 c3 c4 c5 c6 c7 c8 c9 c10 c11 c12 c13 c14 c15 : ACell} {po : List ACell} {zf : List Int32} {v1 res : Int32} {w_o_lvlA : List Int32} (h : f_proRataStep zh zl zb zf v1 = some (res, w_o_lvlA)) : OEnds own_P 35 0 [qr 16, qi v1, qu, qu, qu, qu, qu, qu, qu] [] (c0 :: c1 :: c2 :: c3 :: c4 :: c5 :: c6 :: c7 :: c8 :: c9 :: c10 :: c11 :: c12 :: c13 :: c14 :: c15 :: bk1 zd zg zr zu zn zm zi zc zs zp zq ze zh zf zl zk zj zt za zo zb po) (some (.int res), (c0 :: c1 :: c2 :: c3 :: c4 :: c5 :: c6 :: c7 :: c8 :: c9 :: c10 :: c11 :: c12 :: c13 :: c14 :: c15 :: bk1 zd zg zr zu zn zm zi zc zs zp zq ze zh w_o_lvlA zl zk zj zt za zo zb po), 0, 0) := by
  unfold f_proRataStep at h
  refine OEnds.adv hm_35 4 (pc' := 5) (L' := [qr 16, qi v1, ql 0, qw, qi 0, qu, qu, qu, qu]) (S' := []) (H' := (c0 :: c1 :: c2 :: c3 :: c4 :: c5 :: c6 :: c7 :: c8 :: c9 :: c10 :: c11 :: c12 :: c13 :: c14 :: c15 :: bk1 zd zg zr zu zn zm zi zc zs zp zq ze zh zf zl zk zj zt za zo zb po)) rfl ?_
  exact ok_proRataStep_5_1 (k39 := f_proRataStep_39 zh zl zb) ok_proRataStep_39_1 100000 h
theorem ok_timeStep_43_1 {zd zg zr zu zn : List Int32} {zm : List Int64} {zi zc zs zp zq ze zh : List Int32} {zl zk zj : Int32} {zt : Int64} {za zo zb : Int32} {c0 c1 c2 c3 c4 c5 c6 c7 c8 c9 c10 c11 c12 c13 c14 c15 : ACell} {po : List ACell} {kb : List Int32 → Int32 → Int32 → Option (List Int32)} (hkb : ∀ {zf : List Int32} {v2 v3 : Int32} {d1 d4 d5 : Slot} {w_o_lvlA : List Int32}, kb zf v2 v3 = some w_o_lvlA → OEnds own_P 33 4 [qr 16, d1, qi v2, qi v3, d4, d5] [] (c0 :: c1 :: c2 :: c3 :: c4 :: c5 :: c6 :: c7 :: c8 :: c9 :: c10 :: c11 :: c12 :: c13 :: c14 :: c15 :: bk1 zd zg zr zu zn zm zi zc zs zp zq ze zh zf zl zk zj zt za zo zb po) (none, (c0 :: c1 :: c2 :: c3 :: c4 :: c5 :: c6 :: c7 :: c8 :: c9 :: c10 :: c11 :: c12 :: c13 :: c14 :: c15 :: bk1 zd zg zr zu zn zm zi zc zs zp zq ze zh w_o_lvlA zl zk zj zt za zo zb po), 0, 0)) : ∀ {zf : List Int32} {v2 v3 t0 : Int32} {d1 d4 d5 : Slot} {w_o_lvlA : List Int32}, f_timeStep_43 kb zh zb zf v2 v3 t0 = some w_o_lvlA → OEnds own_P 33 43 [qr 16, d1, qi v2, qi v3, d4, d5] [.int t0] (c0 :: c1 :: c2 :: c3 :: c4 :: c5 :: c6 :: c7 :: c8 :: c9 :: c10 :: c11 :: c12 :: c13 :: c14 :: c15 :: bk1 zd zg zr zu zn zm zi zc zs zp zq ze zh zf zl zk zj zt za zo zb po) (none, (c0 :: c1 :: c2 :: c3 :: c4 :: c5 :: c6 :: c7 :: c8 :: c9 :: c10 :: c11 :: c12 :: c13 :: c14 :: c15 :: bk1 zd zg zr zu zn zm zi zc zs zp zq ze zh w_o_lvlA zl zk zj zt za zo zb po), 0, 0) := by
  intro zf v2 v3 t0 d1 d4 d5 w_o_lvlA h
  unfold f_timeStep_43 at h
  refine OEnds.adv hm_33 2 (pc' := 47) (L' := [qr 16, qu, qi v2, qi v3, qu, qi t0]) (S' := [.int t0]) (H' := (c0 :: c1 :: c2 :: c3 :: c4 :: c5 :: c6 :: c7 :: c8 :: c9 :: c10 :: c11 :: c12 :: c13 :: c14 :: c15 :: bk1 zd zg zr zu zn zm zi zc zs zp zq ze zh zf zl zk zj zt za zo zb po)) rfl ?_
  by_cases hc150 : (0 : Int32) < t0
  · simp only [if_pos hc150] at h
    refine OEnds.ifF hm_33 rfl ((tlt hc150).2.2.2) ?_
    refine OEnds.adv hm_33 4 (pc' := 56) (L' := [qr 16, qu, qi v2, qi v3, qu, qi t0]) (S' := [.int v3, .ref 30, .int v3, .ref 30]) (H' := (c0 :: c1 :: c2 :: c3 :: c4 :: c5 :: c6 :: c7 :: c8 :: c9 :: c10 :: c11 :: c12 :: c13 :: c14 :: c15 :: bk1 zd zg zr zu zn zm zi zc zs zp zq ze zh zf zl zk zj zt za zo zb po)) rfl ?_
    obtain ⟨x47, hx47, h⟩ := bnd h
    refine OEnds.plain hm_33 rfl rfl (x_iaload rfl hx47) ?_
    refine OEnds.adv hm_33 2 (pc' := 60) (L' := [qr 16, qu, qi v2, qi v3, qu, qi t0]) (S' := [.int (x47 + t0), .int v3, .ref 30]) (H' := (c0 :: c1 :: c2 :: c3 :: c4 :: c5 :: c6 :: c7 :: c8 :: c9 :: c10 :: c11 :: c12 :: c13 :: c14 :: c15 :: bk1 zd zg zr zu zn zm zi zc zs zp zq ze zh zf zl zk zj zt za zo zb po)) rfl ?_
    obtain ⟨A48, hA48, h⟩ := bnd h
    refine OEnds.plain hm_33 rfl rfl (x_iastore rfl (Nat.le_of_ble_eq_true rfl) hA48) ?_
    refine OEnds.adv hm_33 6 (pc' := 4) (L' := [qr 16, qu, qi (v2 - t0), qi (v3 + (1 : Int32)), qu, qi t0]) (S' := []) (H' := (c0 :: c1 :: c2 :: c3 :: c4 :: c5 :: c6 :: c7 :: c8 :: c9 :: c10 :: c11 :: c12 :: c13 :: c14 :: c15 :: bk1 zd zg zr zu zn zm zi zc zs zp zq ze zh A48 zl zk zj zt za zo zb po)) rfl ?_
    exact hkb h
  · simp only [if_neg hc150] at h
    refine OEnds.ifT hm_33 rfl (q := 66) rfl ((flt hc150).2.2.2) ?_
    refine OEnds.adv hm_33 2 (pc' := 4) (L' := [qr 16, qu, qi v2, qi (v3 + (1 : Int32)), qu, qi t0]) (S' := []) (H' := (c0 :: c1 :: c2 :: c3 :: c4 :: c5 :: c6 :: c7 :: c8 :: c9 :: c10 :: c11 :: c12 :: c13 :: c14 :: c15 :: bk1 zd zg zr zu zn zm zi zc zs zp zq ze zh zf zl zk zj zt za zo zb po)) rfl ?_
    exact hkb h
theorem ok_timeStep_4_1 {zd zg zr zu zn : List Int32} {zm : List Int64} {zi zc zs zp zq ze zh : List Int32} {zl zk zj : Int32} {zt : Int64} {za zo zb : Int32} {c0 c1 c2 c3 c4 c5 c6 c7 c8 c9 c10 c11 c12 c13 c14 c15 : ACell} {po : List ACell} : ∀ (n : Nat), ∀ {zf : List Int32} {v2 v3 : Int32} {d1 d4 d5 : Slot} {w_o_lvlA : List Int32}, f_timeStep_4 zh zb n zf v2 v3 = some w_o_lvlA → OEnds own_P 33 4 [qr 16, d1, qi v2, qi v3, d4, d5] [] (c0 :: c1 :: c2 :: c3 :: c4 :: c5 :: c6 :: c7 :: c8 :: c9 :: c10 :: c11 :: c12 :: c13 :: c14 :: c15 :: bk1 zd zg zr zu zn zm zi zc zs zp zq ze zh zf zl zk zj zt za zo zb po) (none, (c0 :: c1 :: c2 :: c3 :: c4 :: c5 :: c6 :: c7 :: c8 :: c9 :: c10 :: c11 :: c12 :: c13 :: c14 :: c15 :: bk1 zd zg zr zu zn zm zi zc zs zp zq ze zh w_o_lvlA zl zk zj zt za zo zb po), 0, 0) := by
  intro n
  induction n with
  | zero => intro zf v2 v3 d1 d4 d5 w_o_lvlA h; cases h
  | succ n ih =>
    intro zf v2 v3 d1 d4 d5 w_o_lvlA h
    unfold f_timeStep_4 at h
    refine OEnds.adv hm_33 3 (pc' := 9) (L' := [qr 16, qu, qi v2, qi v3, qu, qu]) (S' := [.int zb, .int v3]) (H' := (c0 :: c1 :: c2 :: c3 :: c4 :: c5 :: c6 :: c7 :: c8 :: c9 :: c10 :: c11 :: c12 :: c13 :: c14 :: c15 :: bk1 zd zg zr zu zn zm zi zc zs zp zq ze zh zf zl zk zj zt za zo zb po)) rfl ?_
    by_cases hc151 : v3 < zb
    · simp only [if_pos hc151] at h
      refine OEnds.icmpF hm_33 rfl ((tlt hc151).2.1) ?_
      refine OEnds.adv hm_33 1 (pc' := 13) (L' := [qr 16, qu, qi v2, qi v3, qu, qu]) (S' := [.int v2]) (H' := (c0 :: c1 :: c2 :: c3 :: c4 :: c5 :: c6 :: c7 :: c8 :: c9 :: c10 :: c11 :: c12 :: c13 :: c14 :: c15 :: bk1 zd zg zr zu zn zm zi zc zs zp zq ze zh zf zl zk zj zt za zo zb po)) rfl ?_
      by_cases hc152 : (0 : Int32) < v2
      · simp only [if_pos hc152] at h
        refine OEnds.ifF hm_33 rfl ((tlt hc152).2.2.2) ?_
        refine OEnds.adv hm_33 3 (pc' := 21) (L' := [qr 16, qu, qi v2, qi v3, qu, qu]) (S' := [.int v3, .ref 29]) (H' := (c0 :: c1 :: c2 :: c3 :: c4 :: c5 :: c6 :: c7 :: c8 :: c9 :: c10 :: c11 :: c12 :: c13 :: c14 :: c15 :: bk1 zd zg zr zu zn zm zi zc zs zp zq ze zh zf zl zk zj zt za zo zb po)) rfl ?_
        obtain ⟨x45, hx45, h⟩ := bnd h
        refine OEnds.plain hm_33 rfl rfl (x_iaload rfl hx45) ?_
        refine OEnds.adv hm_33 3 (pc' := 27) (L' := [qr 16, qu, qi v2, qi v3, qu, qu]) (S' := [.int v3, .ref 30, .int x45]) (H' := (c0 :: c1 :: c2 :: c3 :: c4 :: c5 :: c6 :: c7 :: c8 :: c9 :: c10 :: c11 :: c12 :: c13 :: c14 :: c15 :: bk1 zd zg zr zu zn zm zi zc zs zp zq ze zh zf zl zk zj zt za zo zb po)) rfl ?_
        obtain ⟨x46, hx46, h⟩ := bnd h
        refine OEnds.plain hm_33 rfl rfl (x_iaload rfl hx46) ?_
        refine OEnds.adv hm_33 4 (pc' := 34) (L' := [qr 16, qu, qi v2, qi v3, qi (x45 - x46), qu]) (S' := [.int (x45 - x46), .int v2]) (H' := (c0 :: c1 :: c2 :: c3 :: c4 :: c5 :: c6 :: c7 :: c8 :: c9 :: c10 :: c11 :: c12 :: c13 :: c14 :: c15 :: bk1 zd zg zr zu zn zm zi zc zs zp zq ze zh zf zl zk zj zt za zo zb po)) rfl ?_
        by_cases hc153 : v2 < (x45 - x46)
        · simp only [if_pos hc153] at h
          refine OEnds.icmpF hm_33 rfl ((tlt hc153).2.1) ?_
          refine OEnds.adv hm_33 2 (pc' := 43) (L' := [qr 16, qu, qi v2, qi v3, qi (x45 - x46), qu]) (S' := [.int v2]) (H' := (c0 :: c1 :: c2 :: c3 :: c4 :: c5 :: c6 :: c7 :: c8 :: c9 :: c10 :: c11 :: c12 :: c13 :: c14 :: c15 :: bk1 zd zg zr zu zn zm zi zc zs zp zq ze zh zf zl zk zj zt za zo zb po)) rfl ?_
          exact ok_timeStep_43_1 ih h
        · simp only [if_neg hc153] at h
          refine OEnds.icmpT hm_33 rfl (q := 41) rfl ((flt hc153).2.1) ?_
          refine OEnds.adv hm_33 1 (pc' := 43) (L' := [qr 16, qu, qi v2, qi v3, qi (x45 - x46), qu]) (S' := [.int (x45 - x46)]) (H' := (c0 :: c1 :: c2 :: c3 :: c4 :: c5 :: c6 :: c7 :: c8 :: c9 :: c10 :: c11 :: c12 :: c13 :: c14 :: c15 :: bk1 zd zg zr zu zn zm zi zc zs zp zq ze zh zf zl zk zj zt za zo zb po)) rfl ?_
          exact ok_timeStep_43_1 ih h
      · simp only [if_neg hc152] at h
        refine OEnds.ifT hm_33 rfl (q := 72) rfl ((flt hc152).2.2.2) ?_
        show OEnds own_P 33 72 [qr 16, qu, qi v2, qi v3, qu, qu] [] (c0 :: c1 :: c2 :: c3 :: c4 :: c5 :: c6 :: c7 :: c8 :: c9 :: c10 :: c11 :: c12 :: c13 :: c14 :: c15 :: bk1 zd zg zr zu zn zm zi zc zs zp zq ze zh zf zl zk zj zt za zo zb po) _
        cases h
        exact OEnds.vret hm_33 rfl rfl
    · simp only [if_neg hc151] at h
      refine OEnds.icmpT hm_33 rfl (q := 72) rfl ((flt hc151).2.1) ?_
      show OEnds own_P 33 72 [qr 16, qu, qi v2, qi v3, qu, qu] [] (c0 :: c1 :: c2 :: c3 :: c4 :: c5 :: c6 :: c7 :: c8 :: c9 :: c10 :: c11 :: c12 :: c13 :: c14 :: c15 :: bk1 zd zg zr zu zn zm zi zc zs zp zq ze zh zf zl zk zj zt za zo zb po) _
      cases h
      exact OEnds.vret hm_33 rfl rfl
theorem ok_timeStep_1 {zd zg zr zu zn : List Int32} {zm : List Int64} {zi zc zs zp zq ze zh : List Int32} {zl zk zj : Int32} {zt : Int64} {za zo zb : Int32} {c0 c1 c2 c3 c4 c5 c6 c7 c8 c9 c10 c11 c12 c13 c14 c15 : ACell} {po : List ACell} {zf : List Int32} {v1 : Int32} {w_o_lvlA : List Int32} (h : f_timeStep zh zb zf v1 = some w_o_lvlA) : OEnds own_P 33 0 [qr 16, qi v1, qu, qu, qu, qu] [] (c0 :: c1 :: c2 :: c3 :: c4 :: c5 :: c6 :: c7 :: c8 :: c9 :: c10 :: c11 :: c12 :: c13 :: c14 :: c15 :: bk1 zd zg zr zu zn zm zi zc zs zp zq ze zh zf zl zk zj zt za zo zb po) (none, (c0 :: c1 :: c2 :: c3 :: c4 :: c5 :: c6 :: c7 :: c8 :: c9 :: c10 :: c11 :: c12 :: c13 :: c14 :: c15 :: bk1 zd zg zr zu zn zm zi zc zs zp zq ze zh w_o_lvlA zl zk zj zt za zo zb po), 0, 0) := by
  unfold f_timeStep at h
  refine OEnds.adv hm_33 4 (pc' := 4) (L' := [qr 16, qi v1, qi v1, qi 0, qu, qu]) (S' := []) (H' := (c0 :: c1 :: c2 :: c3 :: c4 :: c5 :: c6 :: c7 :: c8 :: c9 :: c10 :: c11 :: c12 :: c13 :: c14 :: c15 :: bk1 zd zg zr zu zn zm zi zc zs zp zq ze zh zf zl zk zj zt za zo zb po)) rfl ?_
  exact ok_timeStep_4_1 100000 h
theorem ok_allocate_67_1 {zd zg zr zu zn : List Int32} {zm : List Int64} {zi zc zs zp zq ze zh : List Int32} {zl zk zj : Int32} {zt : Int64} {za zo zb : Int32} {c0 c1 c2 c3 c4 c5 c6 c7 c8 c9 c10 c11 c12 c13 c14 c15 : ACell} {po : List ACell} : ∀ {zf : List Int32} {v3 v5 v6 : Int32} {d1 d2 d4 : Slot} {res : Int32} {w_o_lvlA : List Int32}, f_allocate_67 zi ze zh zl zk zb zf v3 v5 v6 = some (res, w_o_lvlA) → OEnds own_P 31 67 [qr 16, d1, d2, qi v3, d4, qi v5, qi v6] [] (c0 :: c1 :: c2 :: c3 :: c4 :: c5 :: c6 :: c7 :: c8 :: c9 :: c10 :: c11 :: c12 :: c13 :: c14 :: c15 :: bk1 zd zg zr zu zn zm zi zc zs zp zq ze zh zf zl zk zj zt za zo zb po) (some (.int res), (c0 :: c1 :: c2 :: c3 :: c4 :: c5 :: c6 :: c7 :: c8 :: c9 :: c10 :: c11 :: c12 :: c13 :: c14 :: c15 :: bk1 zd zg zr zu zn zm zi zc zs zp zq ze zh w_o_lvlA zl zk zj zt za zo zb po), 0, 0) := by
  intro zf v3 v5 v6 d1 d2 d4 res w_o_lvlA h
  unfold f_allocate_67 at h
  refine OEnds.adv hm_31 4 (pc' := 73) (L' := [qr 16, qu, qu, qi v3, qu, qi v5, qi v6]) (S' := [.int (v5 - v6), .ref 16]) (H' := (c0 :: c1 :: c2 :: c3 :: c4 :: c5 :: c6 :: c7 :: c8 :: c9 :: c10 :: c11 :: c12 :: c13 :: c14 :: c15 :: bk1 zd zg zr zu zn zm zi zc zs zp zq ze zh zf zl zk zj zt za zo zb po)) rfl ?_
  obtain ⟨s54, hq154, h⟩ := bnd h
  refine OEnds.call0 hm_31 rfl rfl (by decide) rfl (as := [.ref 16, .int (v5 - v6)]) (rest := []) rfl rfl (ok_timeStep_1 hq154) ?_
  refine OEnds.adv hm_31 1 (pc' := 77) (L' := [qr 16, qu, qu, qi v3, qu, qi v5, qi v6]) (S' := [.int v3]) (H' := (c0 :: c1 :: c2 :: c3 :: c4 :: c5 :: c6 :: c7 :: c8 :: c9 :: c10 :: c11 :: c12 :: c13 :: c14 :: c15 :: bk1 zd zg zr zu zn zm zi zc zs zp zq ze zh s54 zl zk zj zt za zo zb po)) rfl ?_
  cases h
  exact OEnds.iret hm_31 rfl rfl
theorem ok_allocate_37_1 {zd zg zr zu zn : List Int32} {zm : List Int64} {zi zc zs zp zq ze zh : List Int32} {zl zk zj : Int32} {zt : Int64} {za zo zb : Int32} {c0 c1 c2 c3 c4 c5 c6 c7 c8 c9 c10 c11 c12 c13 c14 c15 : ACell} {po : List ACell} : ∀ {zf : List Int32} {t0 : Int32} {d1 d2 d3 d4 d5 d6 : Slot} {res : Int32} {w_o_lvlA : List Int32}, f_allocate_37 zi ze zh zl zk zb zf t0 = some (res, w_o_lvlA) → OEnds own_P 31 37 [qr 16, d1, d2, d3, d4, d5, d6] [.int t0] (c0 :: c1 :: c2 :: c3 :: c4 :: c5 :: c6 :: c7 :: c8 :: c9 :: c10 :: c11 :: c12 :: c13 :: c14 :: c15 :: bk1 zd zg zr zu zn zm zi zc zs zp zq ze zh zf zl zk zj zt za zo zb po) (some (.int res), (c0 :: c1 :: c2 :: c3 :: c4 :: c5 :: c6 :: c7 :: c8 :: c9 :: c10 :: c11 :: c12 :: c13 :: c14 :: c15 :: bk1 zd zg zr zu zn zm zi zc zs zp zq ze zh w_o_lvlA zl zk zj zt za zo zb po), 0, 0) := by
  intro zf t0 d1 d2 d3 d4 d5 d6 res w_o_lvlA h
  unfold f_allocate_37 at h
  refine OEnds.adv hm_31 3 (pc' := 40) (L' := [qr 16, qu, qu, qi t0, qu, qu, qu]) (S' := [.int t0, .ref 16]) (H' := (c0 :: c1 :: c2 :: c3 :: c4 :: c5 :: c6 :: c7 :: c8 :: c9 :: c10 :: c11 :: c12 :: c13 :: c14 :: c15 :: bk1 zd zg zr zu zn zm zi zc zs zp zq ze zh zf zl zk zj zt za zo zb po)) rfl ?_
  obtain ⟨⟨r50, s51⟩, hq155, h⟩ := bnd h
  refine OEnds.call0 hm_31 rfl rfl (by decide) rfl (as := [.ref 16, .int t0]) (rest := []) rfl rfl (ok_topStep_1 hq155) ?_
  refine OEnds.adv hm_31 8 (pc' := 56) (L' := [qr 16, qu, qu, qi t0, qi r50, qi (t0 - r50), qi 0]) (S' := [.int (t0 - r50)]) (H' := (c0 :: c1 :: c2 :: c3 :: c4 :: c5 :: c6 :: c7 :: c8 :: c9 :: c10 :: c11 :: c12 :: c13 :: c14 :: c15 :: bk1 zd zg zr zu zn zm zi zc zs zp zq ze zh s51 zl zk zj zt za zo zb po)) rfl ?_
  by_cases hc156 : (0 : Int32) < (t0 - r50)
  · simp only [if_pos hc156] at h
    refine OEnds.ifF hm_31 rfl ((tlt hc156).2.2.2) ?_
    refine OEnds.adv hm_31 2 (pc' := 62) (L' := [qr 16, qu, qu, qi t0, qi r50, qi (t0 - r50), qi 0]) (S' := [.int (t0 - r50), .ref 16]) (H' := (c0 :: c1 :: c2 :: c3 :: c4 :: c5 :: c6 :: c7 :: c8 :: c9 :: c10 :: c11 :: c12 :: c13 :: c14 :: c15 :: bk1 zd zg zr zu zn zm zi zc zs zp zq ze zh s51 zl zk zj zt za zo zb po)) rfl ?_
    obtain ⟨⟨r52, s53⟩, hq157, h⟩ := bnd h
    refine OEnds.call0 hm_31 rfl rfl (by decide) rfl (as := [.ref 16, .int (t0 - r50)]) (rest := []) rfl rfl (ok_proRataStep_1 hq157) ?_
    refine OEnds.adv hm_31 1 (pc' := 67) (L' := [qr 16, qu, qu, qi t0, qi r50, qi (t0 - r50), qi r52]) (S' := []) (H' := (c0 :: c1 :: c2 :: c3 :: c4 :: c5 :: c6 :: c7 :: c8 :: c9 :: c10 :: c11 :: c12 :: c13 :: c14 :: c15 :: bk1 zd zg zr zu zn zm zi zc zs zp zq ze zh s53 zl zk zj zt za zo zb po)) rfl ?_
    exact ok_allocate_67_1 h
  · simp only [if_neg hc156] at h
    refine OEnds.ifT hm_31 rfl (q := 67) rfl ((flt hc156).2.2.2) ?_
    show OEnds own_P 31 67 [qr 16, qu, qu, qi t0, qi r50, qi (t0 - r50), qi 0] [] (c0 :: c1 :: c2 :: c3 :: c4 :: c5 :: c6 :: c7 :: c8 :: c9 :: c10 :: c11 :: c12 :: c13 :: c14 :: c15 :: bk1 zd zg zr zu zn zm zi zc zs zp zq ze zh s51 zl zk zj zt za zo zb po) _
    exact ok_allocate_67_1 h
theorem ok_allocate_27_1 {zd zg zr zu zn : List Int32} {zm : List Int64} {zi zc zs zp zq ze zh : List Int32} {zl zk zj : Int32} {zt : Int64} {za zo zb : Int32} {c0 c1 c2 c3 c4 c5 c6 c7 c8 c9 c10 c11 c12 c13 c14 c15 : ACell} {po : List ACell} : ∀ {zf : List Int32} {v1 v2 : Int32} {d3 d4 d5 d6 : Slot} {res : Int32} {w_o_lvlA : List Int32}, f_allocate_27 zi ze zh zl zk zb zf v1 v2 = some (res, w_o_lvlA) → OEnds own_P 31 27 [qr 16, qi v1, qi v2, d3, d4, d5, d6] [] (c0 :: c1 :: c2 :: c3 :: c4 :: c5 :: c6 :: c7 :: c8 :: c9 :: c10 :: c11 :: c12 :: c13 :: c14 :: c15 :: bk1 zd zg zr zu zn zm zi zc zs zp zq ze zh zf zl zk zj zt za zo zb po) (some (.int res), (c0 :: c1 :: c2 :: c3 :: c4 :: c5 :: c6 :: c7 :: c8 :: c9 :: c10 :: c11 :: c12 :: c13 :: c14 :: c15 :: bk1 zd zg zr zu zn zm zi zc zs zp zq ze zh w_o_lvlA zl zk zj zt za zo zb po), 0, 0) := by
  intro zf v1 v2 d3 d4 d5 d6 res w_o_lvlA h
  unfold f_allocate_27 at h
  refine OEnds.adv hm_31 2 (pc' := 29) (L' := [qr 16, qi v1, qi v2, qu, qu, qu, qu]) (S' := [.int v2, .int v1]) (H' := (c0 :: c1 :: c2 :: c3 :: c4 :: c5 :: c6 :: c7 :: c8 :: c9 :: c10 :: c11 :: c12 :: c13 :: c14 :: c15 :: bk1 zd zg zr zu zn zm zi zc zs zp zq ze zh zf zl zk zj zt za zo zb po)) rfl ?_
  by_cases hc158 : v1 < v2
  · simp only [if_pos hc158] at h
    refine OEnds.icmpF hm_31 rfl ((tlt hc158).2.1) ?_
    refine OEnds.adv hm_31 2 (pc' := 37) (L' := [qr 16, qi v1, qi v2, qu, qu, qu, qu]) (S' := [.int v1]) (H' := (c0 :: c1 :: c2 :: c3 :: c4 :: c5 :: c6 :: c7 :: c8 :: c9 :: c10 :: c11 :: c12 :: c13 :: c14 :: c15 :: bk1 zd zg zr zu zn zm zi zc zs zp zq ze zh zf zl zk zj zt za zo zb po)) rfl ?_
    exact ok_allocate_37_1 h
  · simp only [if_neg hc158] at h
    refine OEnds.icmpT hm_31 rfl (q := 36) rfl ((flt hc158).2.1) ?_
    refine OEnds.adv hm_31 1 (pc' := 37) (L' := [qr 16, qi v1, qi v2, qu, qu, qu, qu]) (S' := [.int v2]) (H' := (c0 :: c1 :: c2 :: c3 :: c4 :: c5 :: c6 :: c7 :: c8 :: c9 :: c10 :: c11 :: c12 :: c13 :: c14 :: c15 :: bk1 zd zg zr zu zn zm zi zc zs zp zq ze zh zf zl zk zj zt za zo zb po)) rfl ?_
    exact ok_allocate_37_1 h
theorem ok_allocate_4_1 {zd zg zr zu zn : List Int32} {zm : List Int64} {zi zc zs zp zq ze zh : List Int32} {zl zk zj : Int32} {zt : Int64} {za zo zb : Int32} {c0 c1 c2 c3 c4 c5 c6 c7 c8 c9 c10 c11 c12 c13 c14 c15 : ACell} {po : List ACell} {k27 : List Int32 → Int32 → Int32 → Option (Int32 × List Int32)} (hk27 : ∀ {zf : List Int32} {v1 v2 : Int32} {d3 d4 d5 d6 : Slot} {res : Int32} {w_o_lvlA : List Int32}, k27 zf v1 v2 = some (res, w_o_lvlA) → OEnds own_P 31 27 [qr 16, qi v1, qi v2, d3, d4, d5, d6] [] (c0 :: c1 :: c2 :: c3 :: c4 :: c5 :: c6 :: c7 :: c8 :: c9 :: c10 :: c11 :: c12 :: c13 :: c14 :: c15 :: bk1 zd zg zr zu zn zm zi zc zs zp zq ze zh zf zl zk zj zt za zo zb po) (some (.int res), (c0 :: c1 :: c2 :: c3 :: c4 :: c5 :: c6 :: c7 :: c8 :: c9 :: c10 :: c11 :: c12 :: c13 :: c14 :: c15 :: bk1 zd zg zr zu zn zm zi zc zs zp zq ze zh w_o_lvlA zl zk zj zt za zo zb po), 0, 0)) : ∀ (n : Nat), ∀ {zf : List Int32} {v1 v2 v3 : Int32} {d4 d5 d6 : Slot} {res : Int32} {w_o_lvlA : List Int32}, f_allocate_4 k27 zi ze zh zl zk zb n zf v1 v2 v3 = some (res, w_o_lvlA) → OEnds own_P 31 4 [qr 16, qi v1, qi v2, qi v3, d4, d5, d6] [] (c0 :: c1 :: c2 :: c3 :: c4 :: c5 :: c6 :: c7 :: c8 :: c9 :: c10 :: c11 :: c12 :: c13 :: c14 :: c15 :: bk1 zd zg zr zu zn zm zi zc zs zp zq ze zh zf zl zk zj zt za zo zb po) (some (.int res), (c0 :: c1 :: c2 :: c3 :: c4 :: c5 :: c6 :: c7 :: c8 :: c9 :: c10 :: c11 :: c12 :: c13 :: c14 :: c15 :: bk1 zd zg zr zu zn zm zi zc zs zp zq ze zh w_o_lvlA zl zk zj zt za zo zb po), 0, 0) := by
  intro n
  induction n with
  | zero => intro zf v1 v2 v3 d4 d5 d6 res w_o_lvlA h; cases h
  | succ n ih =>
    intro zf v1 v2 v3 d4 d5 d6 res w_o_lvlA h
    unfold f_allocate_4 at h
    refine OEnds.adv hm_31 3 (pc' := 9) (L' := [qr 16, qi v1, qi v2, qi v3, qu, qu, qu]) (S' := [.int zb, .int v3]) (H' := (c0 :: c1 :: c2 :: c3 :: c4 :: c5 :: c6 :: c7 :: c8 :: c9 :: c10 :: c11 :: c12 :: c13 :: c14 :: c15 :: bk1 zd zg zr zu zn zm zi zc zs zp zq ze zh zf zl zk zj zt za zo zb po)) rfl ?_
    by_cases hc159 : v3 < zb
    · simp only [if_pos hc159] at h
      refine OEnds.icmpF hm_31 rfl ((tlt hc159).2.1) ?_
      refine OEnds.adv hm_31 4 (pc' := 18) (L' := [qr 16, qi v1, qi v2, qi v3, qu, qu, qu]) (S' := [.int v3, .ref 29, .int v2]) (H' := (c0 :: c1 :: c2 :: c3 :: c4 :: c5 :: c6 :: c7 :: c8 :: c9 :: c10 :: c11 :: c12 :: c13 :: c14 :: c15 :: bk1 zd zg zr zu zn zm zi zc zs zp zq ze zh zf zl zk zj zt za zo zb po)) rfl ?_
      obtain ⟨x49, hx49, h⟩ := bnd h
      refine OEnds.plain hm_31 rfl rfl (x_iaload rfl hx49) ?_
      refine OEnds.adv hm_31 4 (pc' := 4) (L' := [qr 16, qi v1, qi (v2 + x49), qi (v3 + (1 : Int32)), qu, qu, qu]) (S' := []) (H' := (c0 :: c1 :: c2 :: c3 :: c4 :: c5 :: c6 :: c7 :: c8 :: c9 :: c10 :: c11 :: c12 :: c13 :: c14 :: c15 :: bk1 zd zg zr zu zn zm zi zc zs zp zq ze zh zf zl zk zj zt za zo zb po)) rfl ?_
      exact ih h
    · simp only [if_neg hc159] at h
      refine OEnds.icmpT hm_31 rfl (q := 27) rfl ((flt hc159).2.1) ?_
      show OEnds own_P 31 27 [qr 16, qi v1, qi v2, qi v3, qu, qu, qu] [] (c0 :: c1 :: c2 :: c3 :: c4 :: c5 :: c6 :: c7 :: c8 :: c9 :: c10 :: c11 :: c12 :: c13 :: c14 :: c15 :: bk1 zd zg zr zu zn zm zi zc zs zp zq ze zh zf zl zk zj zt za zo zb po) _
      exact hk27 h
theorem ok_allocate_1 {zd zg zr zu zn : List Int32} {zm : List Int64} {zi zc zs zp zq ze zh : List Int32} {zl zk zj : Int32} {zt : Int64} {za zo zb : Int32} {c0 c1 c2 c3 c4 c5 c6 c7 c8 c9 c10 c11 c12 c13 c14 c15 : ACell} {po : List ACell} {zf : List Int32} {v1 res : Int32} {w_o_lvlA : List Int32} (h : f_allocate zi ze zh zl zk zb zf v1 = some (res, w_o_lvlA)) : OEnds own_P 31 0 [qr 16, qi v1, qu, qu, qu, qu, qu] [] (c0 :: c1 :: c2 :: c3 :: c4 :: c5 :: c6 :: c7 :: c8 :: c9 :: c10 :: c11 :: c12 :: c13 :: c14 :: c15 :: bk1 zd zg zr zu zn zm zi zc zs zp zq ze zh zf zl zk zj zt za zo zb po) (some (.int res), (c0 :: c1 :: c2 :: c3 :: c4 :: c5 :: c6 :: c7 :: c8 :: c9 :: c10 :: c11 :: c12 :: c13 :: c14 :: c15 :: bk1 zd zg zr zu zn zm zi zc zs zp zq ze zh w_o_lvlA zl zk zj zt za zo zb po), 0, 0) := by
  unfold f_allocate at h
  refine OEnds.adv hm_31 4 (pc' := 4) (L' := [qr 16, qi v1, qi 0, qi 0, qu, qu, qu]) (S' := []) (H' := (c0 :: c1 :: c2 :: c3 :: c4 :: c5 :: c6 :: c7 :: c8 :: c9 :: c10 :: c11 :: c12 :: c13 :: c14 :: c15 :: bk1 zd zg zr zu zn zm zi zc zs zp zq ze zh zf zl zk zj zt za zo zb po)) rfl ?_
  exact ok_allocate_4_1 (k27 := f_allocate_27 zi ze zh zl zk zb) ok_allocate_27_1 100000 h
theorem ok_applyLevel_82_1 {zd zg : List Int32} {zm : List Int64} {ze zh zf : List Int32} {zl zk zj : Int32} {zt : Int64} {zb : Int32} {c0 c1 c2 c3 c4 c5 c6 c7 c8 c9 c10 c11 c12 c13 c14 c15 : ACell} {po : List ACell} {kb : List Int32 → List Int32 → List Int32 → List Int32 → List Int32 → List Int32 → List Int32 → List Int32 → Int32 → Int32 → Int32 → Int32 → Option (List Int32 × List Int32 × List Int32 × List Int32 × List Int32 × List Int32 × List Int32 × List Int32 × Int32 × Int32)} (hkb : ∀ {zr zu zn zi zc zs zp zq : List Int32} {za zo v1 v2 : Int32} {d3 d4 : Slot} {w_o_oRem w_o_oFilled w_o_oStatus w_o_oTop w_o_restIds w_o_fIds w_o_fQty w_o_fPrice : List Int32} {w_o_restN : Int32} {w_o_fN : Int32}, kb zr zu zn zi zc zs zp zq za zo v1 v2 = some (w_o_oRem, w_o_oFilled, w_o_oStatus, w_o_oTop, w_o_restIds, w_o_fIds, w_o_fQty, w_o_fPrice, w_o_restN, w_o_fN) → OEnds own_P 34 2 [qr 16, qi v1, qi v2, d3, d4] [] (c0 :: c1 :: c2 :: c3 :: c4 :: c5 :: c6 :: c7 :: c8 :: c9 :: c10 :: c11 :: c12 :: c13 :: c14 :: c15 :: bk1 zd zg zr zu zn zm zi zc zs zp zq ze zh zf zl zk zj zt za zo zb po) (none, (c0 :: c1 :: c2 :: c3 :: c4 :: c5 :: c6 :: c7 :: c8 :: c9 :: c10 :: c11 :: c12 :: c13 :: c14 :: c15 :: bk1 zd zg w_o_oRem w_o_oFilled w_o_oStatus zm w_o_oTop w_o_restIds w_o_fIds w_o_fQty w_o_fPrice ze zh zf zl zk zj zt w_o_restN w_o_fN zb po), 0, 0)) : ∀ {zr zu zn zi zc zs zp zq : List Int32} {za zo v1 v2 v3 v4 : Int32} {w_o_oRem w_o_oFilled w_o_oStatus w_o_oTop w_o_restIds w_o_fIds w_o_fQty w_o_fPrice : List Int32} {w_o_restN : Int32} {w_o_fN : Int32}, f_applyLevel_82 kb ze zf zb zr zu zn zi zc zs zp zq za zo v1 v2 v3 v4 = some (w_o_oRem, w_o_oFilled, w_o_oStatus, w_o_oTop, w_o_restIds, w_o_fIds, w_o_fQty, w_o_fPrice, w_o_restN, w_o_fN) → OEnds own_P 34 82 [qr 16, qi v1, qi v2, qi v3, qi v4] [] (c0 :: c1 :: c2 :: c3 :: c4 :: c5 :: c6 :: c7 :: c8 :: c9 :: c10 :: c11 :: c12 :: c13 :: c14 :: c15 :: bk1 zd zg zr zu zn zm zi zc zs zp zq ze zh zf zl zk zj zt za zo zb po) (none, (c0 :: c1 :: c2 :: c3 :: c4 :: c5 :: c6 :: c7 :: c8 :: c9 :: c10 :: c11 :: c12 :: c13 :: c14 :: c15 :: bk1 zd zg w_o_oRem w_o_oFilled w_o_oStatus zm w_o_oTop w_o_restIds w_o_fIds w_o_fQty w_o_fPrice ze zh zf zl zk zj zt w_o_restN w_o_fN zb po), 0, 0) := by
  intro zr zu zn zi zc zs zp zq za zo v1 v2 v3 v4 w_o_oRem w_o_oFilled w_o_oStatus w_o_oTop w_o_restIds w_o_fIds w_o_fQty w_o_fPrice w_o_restN w_o_fN h
  unfold f_applyLevel_82 at h
  refine OEnds.adv hm_34 4 (pc' := 89) (L' := [qr 16, qi v1, qi v2, qi v3, qi v4]) (S' := [.int v4, .ref 19, .int v4, .ref 19]) (H' := (c0 :: c1 :: c2 :: c3 :: c4 :: c5 :: c6 :: c7 :: c8 :: c9 :: c10 :: c11 :: c12 :: c13 :: c14 :: c15 :: bk1 zd zg zr zu zn zm zi zc zs zp zq ze zh zf zl zk zj zt za zo zb po)) rfl ?_
  obtain ⟨x60, hx60, h⟩ := bnd h
  refine OEnds.plain hm_34 rfl rfl (x_iaload rfl hx60) ?_
  refine OEnds.adv hm_34 2 (pc' := 92) (L' := [qr 16, qi v1, qi v2, qi v3, qi v4]) (S' := [.int (x60 - v3), .int v4, .ref 19]) (H' := (c0 :: c1 :: c2 :: c3 :: c4 :: c5 :: c6 :: c7 :: c8 :: c9 :: c10 :: c11 :: c12 :: c13 :: c14 :: c15 :: bk1 zd zg zr zu zn zm zi zc zs zp zq ze zh zf zl zk zj zt za zo zb po)) rfl ?_
  obtain ⟨A61, hA61, h⟩ := bnd h
  refine OEnds.plain hm_34 rfl rfl (x_iastore rfl (Nat.le_of_ble_eq_true rfl) hA61) ?_
  refine OEnds.adv hm_34 4 (pc' := 100) (L' := [qr 16, qi v1, qi v2, qi v3, qi v4]) (S' := [.int v4, .ref 20, .int v4, .ref 20]) (H' := (c0 :: c1 :: c2 :: c3 :: c4 :: c5 :: c6 :: c7 :: c8 :: c9 :: c10 :: c11 :: c12 :: c13 :: c14 :: c15 :: bk1 zd zg A61 zu zn zm zi zc zs zp zq ze zh zf zl zk zj zt za zo zb po)) rfl ?_
  obtain ⟨x62, hx62, h⟩ := bnd h
  refine OEnds.plain hm_34 rfl rfl (x_iaload rfl hx62) ?_
  refine OEnds.adv hm_34 2 (pc' := 103) (L' := [qr 16, qi v1, qi v2, qi v3, qi v4]) (S' := [.int (x62 + v3), .int v4, .ref 20]) (H' := (c0 :: c1 :: c2 :: c3 :: c4 :: c5 :: c6 :: c7 :: c8 :: c9 :: c10 :: c11 :: c12 :: c13 :: c14 :: c15 :: bk1 zd zg A61 zu zn zm zi zc zs zp zq ze zh zf zl zk zj zt za zo zb po)) rfl ?_
  obtain ⟨A63, hA63, h⟩ := bnd h
  refine OEnds.plain hm_34 rfl rfl (x_iastore rfl (Nat.le_of_ble_eq_true rfl) hA63) ?_
  refine OEnds.adv hm_34 3 (pc' := 110) (L' := [qr 16, qi v1, qi v2, qi v3, qi v4]) (S' := [.int v4, .ref 19]) (H' := (c0 :: c1 :: c2 :: c3 :: c4 :: c5 :: c6 :: c7 :: c8 :: c9 :: c10 :: c11 :: c12 :: c13 :: c14 :: c15 :: bk1 zd zg A61 A63 zn zm zi zc zs zp zq ze zh zf zl zk zj zt za zo zb po)) rfl ?_
  obtain ⟨x64, hx64, h⟩ := bnd h
  refine OEnds.plain hm_34 rfl rfl (x_iaload rfl hx64) ?_
  show OEnds own_P 34 111 [qr 16, qi v1, qi v2, qi v3, qi v4] [.int x64] (c0 :: c1 :: c2 :: c3 :: c4 :: c5 :: c6 :: c7 :: c8 :: c9 :: c10 :: c11 :: c12 :: c13 :: c14 :: c15 :: bk1 zd zg A61 A63 zn zm zi zc zs zp zq ze zh zf zl zk zj zt za zo zb po) _
  by_cases hc160 : (0 : Int32) < x64
  · simp only [if_pos hc160] at h
    refine OEnds.ifT hm_34 rfl (q := 144) rfl ((tlt hc160).2.2.1) ?_
    refine OEnds.adv hm_34 2 (pc' := 2) (L' := [qr 16, qi v1, qi (v2 + (1 : Int32)), qi v3, qi v4]) (S' := []) (H' := (c0 :: c1 :: c2 :: c3 :: c4 :: c5 :: c6 :: c7 :: c8 :: c9 :: c10 :: c11 :: c12 :: c13 :: c14 :: c15 :: bk1 zd zg A61 A63 zn zm zi zc zs zp zq ze zh zf zl zk zj zt za zo zb po)) rfl ?_
    exact hkb h
  · simp only [if_neg hc160] at h
    refine OEnds.ifF hm_34 rfl ((flt hc160).2.2.1) ?_
    refine OEnds.adv hm_34 4 (pc' := 121) (L' := [qr 16, qi v1, qi v2, qi v3, qi v4]) (S' := [.int 0, .int v4, .ref 19]) (H' := (c0 :: c1 :: c2 :: c3 :: c4 :: c5 :: c6 :: c7 :: c8 :: c9 :: c10 :: c11 :: c12 :: c13 :: c14 :: c15 :: bk1 zd zg A61 A63 zn zm zi zc zs zp zq ze zh zf zl zk zj zt za zo zb po)) rfl ?_
    obtain ⟨A65, hA65, h⟩ := bnd h
    refine OEnds.plain hm_34 rfl rfl (x_iastore rfl (Nat.le_of_ble_eq_true rfl) hA65) ?_
    refine OEnds.adv hm_34 4 (pc' := 129) (L' := [qr 16, qi v1, qi v2, qi v3, qi v4]) (S' := [.int 2, .int v4, .ref 21]) (H' := (c0 :: c1 :: c2 :: c3 :: c4 :: c5 :: c6 :: c7 :: c8 :: c9 :: c10 :: c11 :: c12 :: c13 :: c14 :: c15 :: bk1 zd zg A65 A63 zn zm zi zc zs zp zq ze zh zf zl zk zj zt za zo zb po)) rfl ?_
    obtain ⟨A66, hA66, h⟩ := bnd h
    refine OEnds.plain hm_34 rfl rfl (x_iastore rfl (Nat.le_of_ble_eq_true rfl) hA66) ?_
    refine OEnds.adv hm_34 4 (pc' := 137) (L' := [qr 16, qi v1, qi v2, qi v3, qi v4]) (S' := [.int 0, .int v4, .ref 23]) (H' := (c0 :: c1 :: c2 :: c3 :: c4 :: c5 :: c6 :: c7 :: c8 :: c9 :: c10 :: c11 :: c12 :: c13 :: c14 :: c15 :: bk1 zd zg A65 A63 A66 zm zi zc zs zp zq ze zh zf zl zk zj zt za zo zb po)) rfl ?_
    obtain ⟨A67, hA67, h⟩ := bnd h
    refine OEnds.plain hm_34 rfl rfl (x_bastore rfl (Nat.le_of_ble_eq_true rfl) hA67) ?_
    refine OEnds.adv hm_34 2 (pc' := 141) (L' := [qr 16, qi v1, qi v2, qi v3, qi v4]) (S' := [.int v4, .ref 16]) (H' := (c0 :: c1 :: c2 :: c3 :: c4 :: c5 :: c6 :: c7 :: c8 :: c9 :: c10 :: c11 :: c12 :: c13 :: c14 :: c15 :: bk1 zd zg A65 A63 A66 zm A67 zc zs zp zq ze zh zf zl zk zj zt za zo zb po)) rfl ?_
    obtain ⟨⟨s68, s69⟩, hq161, h⟩ := bnd h
    refine OEnds.call0 hm_34 rfl rfl (by decide) rfl (as := [.ref 16, .int v4]) (rest := []) rfl rfl (ok_removeResting_1 hq161) ?_
    refine OEnds.adv hm_34 2 (pc' := 2) (L' := [qr 16, qi v1, qi (v2 + (1 : Int32)), qi v3, qi v4]) (S' := []) (H' := (c0 :: c1 :: c2 :: c3 :: c4 :: c5 :: c6 :: c7 :: c8 :: c9 :: c10 :: c11 :: c12 :: c13 :: c14 :: c15 :: bk1 zd zg A65 A63 A66 zm A67 s68 zs zp zq ze zh zf zl zk zj zt s69 zo zb po)) rfl ?_
    exact hkb h
theorem ok_applyLevel_2_1 {zd zg : List Int32} {zm : List Int64} {ze zh zf : List Int32} {zl zk zj : Int32} {zt : Int64} {zb : Int32} {c0 c1 c2 c3 c4 c5 c6 c7 c8 c9 c10 c11 c12 c13 c14 c15 : ACell} {po : List ACell} : ∀ (n : Nat), ∀ {zr zu zn zi zc zs zp zq : List Int32} {za zo v1 v2 : Int32} {d3 d4 : Slot} {w_o_oRem w_o_oFilled w_o_oStatus w_o_oTop w_o_restIds w_o_fIds w_o_fQty w_o_fPrice : List Int32} {w_o_restN : Int32} {w_o_fN : Int32}, f_applyLevel_2 ze zf zb n zr zu zn zi zc zs zp zq za zo v1 v2 = some (w_o_oRem, w_o_oFilled, w_o_oStatus, w_o_oTop, w_o_restIds, w_o_fIds, w_o_fQty, w_o_fPrice, w_o_restN, w_o_fN) → OEnds own_P 34 2 [qr 16, qi v1, qi v2, d3, d4] [] (c0 :: c1 :: c2 :: c3 :: c4 :: c5 :: c6 :: c7 :: c8 :: c9 :: c10 :: c11 :: c12 :: c13 :: c14 :: c15 :: bk1 zd zg zr zu zn zm zi zc zs zp zq ze zh zf zl zk zj zt za zo zb po) (none, (c0 :: c1 :: c2 :: c3 :: c4 :: c5 :: c6 :: c7 :: c8 :: c9 :: c10 :: c11 :: c12 :: c13 :: c14 :: c15 :: bk1 zd zg w_o_oRem w_o_oFilled w_o_oStatus zm w_o_oTop w_o_restIds w_o_fIds w_o_fQty w_o_fPrice ze zh zf zl zk zj zt w_o_restN w_o_fN zb po), 0, 0) := by
  intro n
  induction n with
  | zero => intro zr zu zn zi zc zs zp zq za zo v1 v2 d3 d4 w_o_oRem w_o_oFilled w_o_oStatus w_o_oTop w_o_restIds w_o_fIds w_o_fQty w_o_fPrice w_o_restN w_o_fN h; cases h
  | succ n ih =>
    intro zr zu zn zi zc zs zp zq za zo v1 v2 d3 d4 w_o_oRem w_o_oFilled w_o_oStatus w_o_oTop w_o_restIds w_o_fIds w_o_fQty w_o_fPrice w_o_restN w_o_fN h
    unfold f_applyLevel_2 at h
    refine OEnds.adv hm_34 3 (pc' := 7) (L' := [qr 16, qi v1, qi v2, qu, qu]) (S' := [.int zb, .int v2]) (H' := (c0 :: c1 :: c2 :: c3 :: c4 :: c5 :: c6 :: c7 :: c8 :: c9 :: c10 :: c11 :: c12 :: c13 :: c14 :: c15 :: bk1 zd zg zr zu zn zm zi zc zs zp zq ze zh zf zl zk zj zt za zo zb po)) rfl ?_
    by_cases hc162 : v2 < zb
    · simp only [if_pos hc162] at h
      refine OEnds.icmpF hm_34 rfl ((tlt hc162).2.1) ?_
      refine OEnds.adv hm_34 3 (pc' := 15) (L' := [qr 16, qi v1, qi v2, qu, qu]) (S' := [.int v2, .ref 30]) (H' := (c0 :: c1 :: c2 :: c3 :: c4 :: c5 :: c6 :: c7 :: c8 :: c9 :: c10 :: c11 :: c12 :: c13 :: c14 :: c15 :: bk1 zd zg zr zu zn zm zi zc zs zp zq ze zh zf zl zk zj zt za zo zb po)) rfl ?_
      obtain ⟨x55, hx55, h⟩ := bnd h
      refine OEnds.plain hm_34 rfl rfl (x_iaload rfl hx55) ?_
      refine OEnds.adv hm_34 2 (pc' := 18) (L' := [qr 16, qi v1, qi v2, qi x55, qu]) (S' := [.int x55]) (H' := (c0 :: c1 :: c2 :: c3 :: c4 :: c5 :: c6 :: c7 :: c8 :: c9 :: c10 :: c11 :: c12 :: c13 :: c14 :: c15 :: bk1 zd zg zr zu zn zm zi zc zs zp zq ze zh zf zl zk zj zt za zo zb po)) rfl ?_
      by_cases hc163 : (0 : Int32) < x55
      · simp only [if_pos hc163] at h
        refine OEnds.ifT hm_34 rfl (q := 24) rfl ((tlt hc163).2.2.1) ?_
        refine OEnds.adv hm_34 3 (pc' := 29) (L' := [qr 16, qi v1, qi v2, qi x55, qu]) (S' := [.int v2, .ref 28]) (H' := (c0 :: c1 :: c2 :: c3 :: c4 :: c5 :: c6 :: c7 :: c8 :: c9 :: c10 :: c11 :: c12 :: c13 :: c14 :: c15 :: bk1 zd zg zr zu zn zm zi zc zs zp zq ze zh zf zl zk zj zt za zo zb po)) rfl ?_
        obtain ⟨x56, hx56, h⟩ := bnd h
        refine OEnds.plain hm_34 rfl rfl (x_iaload rfl hx56) ?_
        refine OEnds.adv hm_34 4 (pc' := 38) (L' := [qr 16, qi v1, qi v2, qi x55, qi x56]) (S' := [.int 64, .int zo]) (H' := (c0 :: c1 :: c2 :: c3 :: c4 :: c5 :: c6 :: c7 :: c8 :: c9 :: c10 :: c11 :: c12 :: c13 :: c14 :: c15 :: bk1 zd zg zr zu zn zm zi zc zs zp zq ze zh zf zl zk zj zt za zo zb po)) rfl ?_
        by_cases hc164 : zo < (64 : Int32)
        · simp only [if_pos hc164] at h
          refine OEnds.icmpF hm_34 rfl ((tlt hc164).2.1) ?_
          refine OEnds.adv hm_34 5 (pc' := 51) (L' := [qr 16, qi v1, qi v2, qi x55, qi x56]) (S' := [.int x56, .int zo, .ref 25]) (H' := (c0 :: c1 :: c2 :: c3 :: c4 :: c5 :: c6 :: c7 :: c8 :: c9 :: c10 :: c11 :: c12 :: c13 :: c14 :: c15 :: bk1 zd zg zr zu zn zm zi zc zs zp zq ze zh zf zl zk zj zt za zo zb po)) rfl ?_
          obtain ⟨A57, hA57, h⟩ := bnd h
          refine OEnds.plain hm_34 rfl rfl (x_iastore rfl (Nat.le_of_ble_eq_true rfl) hA57) ?_
          refine OEnds.adv hm_34 5 (pc' := 61) (L' := [qr 16, qi v1, qi v2, qi x55, qi x56]) (S' := [.int v1, .int zo, .ref 27]) (H' := (c0 :: c1 :: c2 :: c3 :: c4 :: c5 :: c6 :: c7 :: c8 :: c9 :: c10 :: c11 :: c12 :: c13 :: c14 :: c15 :: bk1 zd zg zr zu zn zm zi zc A57 zp zq ze zh zf zl zk zj zt za zo zb po)) rfl ?_
          obtain ⟨A58, hA58, h⟩ := bnd h
          refine OEnds.plain hm_34 rfl rfl (x_iastore rfl (Nat.le_of_ble_eq_true rfl) hA58) ?_
          refine OEnds.adv hm_34 5 (pc' := 71) (L' := [qr 16, qi v1, qi v2, qi x55, qi x56]) (S' := [.int x55, .int zo, .ref 26]) (H' := (c0 :: c1 :: c2 :: c3 :: c4 :: c5 :: c6 :: c7 :: c8 :: c9 :: c10 :: c11 :: c12 :: c13 :: c14 :: c15 :: bk1 zd zg zr zu zn zm zi zc A57 zp A58 ze zh zf zl zk zj zt za zo zb po)) rfl ?_
          obtain ⟨A59, hA59, h⟩ := bnd h
          refine OEnds.plain hm_34 rfl rfl (x_iastore rfl (Nat.le_of_ble_eq_true rfl) hA59) ?_
          refine OEnds.adv hm_34 6 (pc' := 82) (L' := [qr 16, qi v1, qi v2, qi x55, qi x56]) (S' := []) (H' := (c0 :: c1 :: c2 :: c3 :: c4 :: c5 :: c6 :: c7 :: c8 :: c9 :: c10 :: c11 :: c12 :: c13 :: c14 :: c15 :: bk1 zd zg zr zu zn zm zi zc A57 A59 A58 ze zh zf zl zk zj zt za (zo + (1 : Int32)) zb po)) rfl ?_
          exact ok_applyLevel_82_1 ih h
        · simp only [if_neg hc164] at h
          refine OEnds.icmpT hm_34 rfl (q := 82) rfl ((flt hc164).2.1) ?_
          show OEnds own_P 34 82 [qr 16, qi v1, qi v2, qi x55, qi x56] [] (c0 :: c1 :: c2 :: c3 :: c4 :: c5 :: c6 :: c7 :: c8 :: c9 :: c10 :: c11 :: c12 :: c13 :: c14 :: c15 :: bk1 zd zg zr zu zn zm zi zc zs zp zq ze zh zf zl zk zj zt za zo zb po) _
          exact ok_applyLevel_82_1 ih h
      · simp only [if_neg hc163] at h
        refine OEnds.ifF hm_34 rfl ((flt hc163).2.2.1) ?_
        refine OEnds.adv hm_34 3 (pc' := 2) (L' := [qr 16, qi v1, qi (v2 + (1 : Int32)), qi x55, qu]) (S' := []) (H' := (c0 :: c1 :: c2 :: c3 :: c4 :: c5 :: c6 :: c7 :: c8 :: c9 :: c10 :: c11 :: c12 :: c13 :: c14 :: c15 :: bk1 zd zg zr zu zn zm zi zc zs zp zq ze zh zf zl zk zj zt za zo zb po)) rfl ?_
        exact ih h
    · simp only [if_neg hc162] at h
      refine OEnds.icmpT hm_34 rfl (q := 150) rfl ((flt hc162).2.1) ?_
      show OEnds own_P 34 150 [qr 16, qi v1, qi v2, qu, qu] [] (c0 :: c1 :: c2 :: c3 :: c4 :: c5 :: c6 :: c7 :: c8 :: c9 :: c10 :: c11 :: c12 :: c13 :: c14 :: c15 :: bk1 zd zg zr zu zn zm zi zc zs zp zq ze zh zf zl zk zj zt za zo zb po) _
      cases h
      exact OEnds.vret hm_34 rfl rfl
theorem ok_applyLevel_1 {zd zg : List Int32} {zm : List Int64} {ze zh zf : List Int32} {zl zk zj : Int32} {zt : Int64} {zb : Int32} {c0 c1 c2 c3 c4 c5 c6 c7 c8 c9 c10 c11 c12 c13 c14 c15 : ACell} {po : List ACell} {zr zu zn zi zc zs zp zq : List Int32} {za zo v1 : Int32} {w_o_oRem w_o_oFilled w_o_oStatus w_o_oTop w_o_restIds w_o_fIds w_o_fQty w_o_fPrice : List Int32} {w_o_restN w_o_fN : Int32} (h : f_applyLevel ze zf zb zr zu zn zi zc zs zp zq za zo v1 = some (w_o_oRem, w_o_oFilled, w_o_oStatus, w_o_oTop, w_o_restIds, w_o_fIds, w_o_fQty, w_o_fPrice, w_o_restN, w_o_fN)) : OEnds own_P 34 0 [qr 16, qi v1, qu, qu, qu] [] (c0 :: c1 :: c2 :: c3 :: c4 :: c5 :: c6 :: c7 :: c8 :: c9 :: c10 :: c11 :: c12 :: c13 :: c14 :: c15 :: bk1 zd zg zr zu zn zm zi zc zs zp zq ze zh zf zl zk zj zt za zo zb po) (none, (c0 :: c1 :: c2 :: c3 :: c4 :: c5 :: c6 :: c7 :: c8 :: c9 :: c10 :: c11 :: c12 :: c13 :: c14 :: c15 :: bk1 zd zg w_o_oRem w_o_oFilled w_o_oStatus zm w_o_oTop w_o_restIds w_o_fIds w_o_fQty w_o_fPrice ze zh zf zl zk zj zt w_o_restN w_o_fN zb po), 0, 0) := by
  unfold f_applyLevel at h
  refine OEnds.adv hm_34 2 (pc' := 2) (L' := [qr 16, qi v1, qi 0, qu, qu]) (S' := []) (H' := (c0 :: c1 :: c2 :: c3 :: c4 :: c5 :: c6 :: c7 :: c8 :: c9 :: c10 :: c11 :: c12 :: c13 :: c14 :: c15 :: bk1 zd zg zr zu zn zm zi zc zs zp zq ze zh zf zl zk zj zt za zo zb po)) rfl ?_
  exact ok_applyLevel_2_1 100000 h
theorem ok_matchLevel_59_1 {zd zg : List Int32} {zm : List Int64} {zl zk zj : Int32} {zt : Int64} {c0 c1 c2 c3 c4 c5 c6 c7 c8 c9 c10 c11 c12 c13 c14 c15 : ACell} {po : List ACell} : ∀ {zr zu zn zi zc zs zp zq ze zh zf : List Int32} {za zo zb v2 v3 : Int32} {d1 d4 d5 : Slot} {res : Int32} {w_o_oRem w_o_oFilled w_o_oStatus w_o_oTop w_o_restIds w_o_fIds w_o_fQty w_o_fPrice w_o_lvlIds w_o_lvlR w_o_lvlA : List Int32} {w_o_restN w_o_fN : Int32} {w_o_lvlN : Int32}, f_matchLevel_59 zd zg zm zl zk zr zu zn zi zc zs zp zq ze zh zf za zo zb v2 v3 = some (res, w_o_oRem, w_o_oFilled, w_o_oStatus, w_o_oTop, w_o_restIds, w_o_fIds, w_o_fQty, w_o_fPrice, w_o_lvlIds, w_o_lvlR, w_o_lvlA, w_o_restN, w_o_fN, w_o_lvlN) → OEnds own_P 28 59 [qr 16, d1, qi v2, qi v3, d4, d5] [] (c0 :: c1 :: c2 :: c3 :: c4 :: c5 :: c6 :: c7 :: c8 :: c9 :: c10 :: c11 :: c12 :: c13 :: c14 :: c15 :: bk1 zd zg zr zu zn zm zi zc zs zp zq ze zh zf zl zk zj zt za zo zb po) (some (.int res), (c0 :: c1 :: c2 :: c3 :: c4 :: c5 :: c6 :: c7 :: c8 :: c9 :: c10 :: c11 :: c12 :: c13 :: c14 :: c15 :: bk1 zd zg w_o_oRem w_o_oFilled w_o_oStatus zm w_o_oTop w_o_restIds w_o_fIds w_o_fQty w_o_fPrice w_o_lvlIds w_o_lvlR w_o_lvlA zl zk zj zt w_o_restN w_o_fN w_o_lvlN po), 0, 0) := by
  intro zr zu zn zi zc zs zp zq ze zh zf za zo zb v2 v3 d1 d4 d5 res w_o_oRem w_o_oFilled w_o_oStatus w_o_oTop w_o_restIds w_o_fIds w_o_fQty w_o_fPrice w_o_lvlIds w_o_lvlR w_o_lvlA w_o_restN w_o_fN w_o_lvlN h
  unfold f_matchLevel_59 at h
  refine OEnds.adv hm_28 2 (pc' := 61) (L' := [qr 16, qu, qi v2, qi v3, qu, qu]) (S' := [.int v3, .ref 16]) (H' := (c0 :: c1 :: c2 :: c3 :: c4 :: c5 :: c6 :: c7 :: c8 :: c9 :: c10 :: c11 :: c12 :: c13 :: c14 :: c15 :: bk1 zd zg zr zu zn zm zi zc zs zp zq ze zh zf zl zk zj zt za zo zb po)) rfl ?_
  obtain ⟨⟨r77, s78⟩, hq165, h⟩ := bnd h
  refine OEnds.call0 hm_28 rfl rfl (by decide) rfl (as := [.ref 16, .int v3]) (rest := []) rfl rfl (ok_allocate_1 hq165) ?_
  refine OEnds.adv hm_28 3 (pc' := 68) (L' := [qr 16, qu, qi v2, qi v3, qi r77, qu]) (S' := [.int v2, .ref 16]) (H' := (c0 :: c1 :: c2 :: c3 :: c4 :: c5 :: c6 :: c7 :: c8 :: c9 :: c10 :: c11 :: c12 :: c13 :: c14 :: c15 :: bk1 zd zg zr zu zn zm zi zc zs zp zq ze zh s78 zl zk zj zt za zo zb po)) rfl ?_
  obtain ⟨⟨s79, s80, s81, s82, s83, s84, s85, s86, s87, s88⟩, hq166, h⟩ := bnd h
  refine OEnds.call0 hm_28 rfl rfl (by decide) rfl (as := [.ref 16, .int v2]) (rest := []) rfl rfl (ok_applyLevel_1 hq166) ?_
  refine OEnds.adv hm_28 1 (pc' := 73) (L' := [qr 16, qu, qi v2, qi v3, qi r77, qu]) (S' := [.int r77]) (H' := (c0 :: c1 :: c2 :: c3 :: c4 :: c5 :: c6 :: c7 :: c8 :: c9 :: c10 :: c11 :: c12 :: c13 :: c14 :: c15 :: bk1 zd zg s79 s80 s81 zm s82 s83 s84 s85 s86 ze zh s78 zl zk zj zt s87 s88 zb po)) rfl ?_
  cases h
  exact OEnds.iret hm_28 rfl rfl
theorem ok_matchLevel_13_1 {zd zg : List Int32} {zm : List Int64} {zl zk zj : Int32} {zt : Int64} {c0 c1 c2 c3 c4 c5 c6 c7 c8 c9 c10 c11 c12 c13 c14 c15 : ACell} {po : List ACell} {k59 : List Int32 → List Int32 → List Int32 → List Int32 → List Int32 → List Int32 → List Int32 → List Int32 → List Int32 → List Int32 → List Int32 → Int32 → Int32 → Int32 → Int32 → Int32 → Option (Int32 × List Int32 × List Int32 × List Int32 × List Int32 × List Int32 × List Int32 × List Int32 × List Int32 × List Int32 × List Int32 × List Int32 × Int32 × Int32 × Int32)} (hk59 : ∀ {zr zu zn zi zc zs zp zq ze zh zf : List Int32} {za zo zb v2 v3 : Int32} {d1 d4 d5 : Slot} {res : Int32} {w_o_oRem w_o_oFilled w_o_oStatus w_o_oTop w_o_restIds w_o_fIds w_o_fQty w_o_fPrice w_o_lvlIds w_o_lvlR w_o_lvlA : List Int32} {w_o_restN w_o_fN : Int32} {w_o_lvlN : Int32}, k59 zr zu zn zi zc zs zp zq ze zh zf za zo zb v2 v3 = some (res, w_o_oRem, w_o_oFilled, w_o_oStatus, w_o_oTop, w_o_restIds, w_o_fIds, w_o_fQty, w_o_fPrice, w_o_lvlIds, w_o_lvlR, w_o_lvlA, w_o_restN, w_o_fN, w_o_lvlN) → OEnds own_P 28 59 [qr 16, d1, qi v2, qi v3, d4, d5] [] (c0 :: c1 :: c2 :: c3 :: c4 :: c5 :: c6 :: c7 :: c8 :: c9 :: c10 :: c11 :: c12 :: c13 :: c14 :: c15 :: bk1 zd zg zr zu zn zm zi zc zs zp zq ze zh zf zl zk zj zt za zo zb po) (some (.int res), (c0 :: c1 :: c2 :: c3 :: c4 :: c5 :: c6 :: c7 :: c8 :: c9 :: c10 :: c11 :: c12 :: c13 :: c14 :: c15 :: bk1 zd zg w_o_oRem w_o_oFilled w_o_oStatus zm w_o_oTop w_o_restIds w_o_fIds w_o_fQty w_o_fPrice w_o_lvlIds w_o_lvlR w_o_lvlA zl zk zj zt w_o_restN w_o_fN w_o_lvlN po), 0, 0)) : ∀ (n : Nat), ∀ {zr zu zn zi zc zs zp zq ze zh zf : List Int32} {za zo zb v2 v3 v4 : Int32} {d1 d5 : Slot} {res : Int32} {w_o_oRem w_o_oFilled w_o_oStatus w_o_oTop w_o_restIds w_o_fIds w_o_fQty w_o_fPrice w_o_lvlIds w_o_lvlR w_o_lvlA : List Int32} {w_o_restN w_o_fN : Int32} {w_o_lvlN : Int32}, f_matchLevel_13 k59 zd zg zm zl zk n zr zu zn zi zc zs zp zq ze zh zf za zo zb v2 v3 v4 = some (res, w_o_oRem, w_o_oFilled, w_o_oStatus, w_o_oTop, w_o_restIds, w_o_fIds, w_o_fQty, w_o_fPrice, w_o_lvlIds, w_o_lvlR, w_o_lvlA, w_o_restN, w_o_fN, w_o_lvlN) → OEnds own_P 28 13 [qr 16, d1, qi v2, qi v3, qi v4, d5] [] (c0 :: c1 :: c2 :: c3 :: c4 :: c5 :: c6 :: c7 :: c8 :: c9 :: c10 :: c11 :: c12 :: c13 :: c14 :: c15 :: bk1 zd zg zr zu zn zm zi zc zs zp zq ze zh zf zl zk zj zt za zo zb po) (some (.int res), (c0 :: c1 :: c2 :: c3 :: c4 :: c5 :: c6 :: c7 :: c8 :: c9 :: c10 :: c11 :: c12 :: c13 :: c14 :: c15 :: bk1 zd zg w_o_oRem w_o_oFilled w_o_oStatus zm w_o_oTop w_o_restIds w_o_fIds w_o_fQty w_o_fPrice w_o_lvlIds w_o_lvlR w_o_lvlA zl zk zj zt w_o_restN w_o_fN w_o_lvlN po), 0, 0) := by
  intro n
  induction n with
  | zero => intro zr zu zn zi zc zs zp zq ze zh zf za zo zb v2 v3 v4 d1 d5 res w_o_oRem w_o_oFilled w_o_oStatus w_o_oTop w_o_restIds w_o_fIds w_o_fQty w_o_fPrice w_o_lvlIds w_o_lvlR w_o_lvlA w_o_restN w_o_fN w_o_lvlN h; cases h
  | succ n ih =>
    intro zr zu zn zi zc zs zp zq ze zh zf za zo zb v2 v3 v4 d1 d5 res w_o_oRem w_o_oFilled w_o_oStatus w_o_oTop w_o_restIds w_o_fIds w_o_fQty w_o_fPrice w_o_lvlIds w_o_lvlR w_o_lvlA w_o_restN w_o_fN w_o_lvlN h
    unfold f_matchLevel_13 at h
    refine OEnds.adv hm_28 3 (pc' := 19) (L' := [qr 16, qu, qi v2, qi v3, qi v4, qu]) (S' := [.int zb, .int v4]) (H' := (c0 :: c1 :: c2 :: c3 :: c4 :: c5 :: c6 :: c7 :: c8 :: c9 :: c10 :: c11 :: c12 :: c13 :: c14 :: c15 :: bk1 zd zg zr zu zn zm zi zc zs zp zq ze zh zf zl zk zj zt za zo zb po)) rfl ?_
    by_cases hc167 : v4 < zb
    · simp only [if_pos hc167] at h
      refine OEnds.icmpF hm_28 rfl ((tlt hc167).2.1) ?_
      refine OEnds.adv hm_28 3 (pc' := 28) (L' := [qr 16, qu, qi v2, qi v3, qi v4, qu]) (S' := [.int v4, .ref 28]) (H' := (c0 :: c1 :: c2 :: c3 :: c4 :: c5 :: c6 :: c7 :: c8 :: c9 :: c10 :: c11 :: c12 :: c13 :: c14 :: c15 :: bk1 zd zg zr zu zn zm zi zc zs zp zq ze zh zf zl zk zj zt za zo zb po)) rfl ?_
      obtain ⟨x73, hx73, h⟩ := bnd h
      refine OEnds.plain hm_28 rfl rfl (x_iaload rfl hx73) ?_
      refine OEnds.adv hm_28 7 (pc' := 43) (L' := [qr 16, qu, qi v2, qi v3, qi v4, qi x73]) (S' := [.int x73, .ref 19, .int v4, .ref 29]) (H' := (c0 :: c1 :: c2 :: c3 :: c4 :: c5 :: c6 :: c7 :: c8 :: c9 :: c10 :: c11 :: c12 :: c13 :: c14 :: c15 :: bk1 zd zg zr zu zn zm zi zc zs zp zq ze zh zf zl zk zj zt za zo zb po)) rfl ?_
      obtain ⟨x74, hx74, h⟩ := bnd h
      refine OEnds.plain hm_28 rfl rfl (x_iaload rfl hx74) ?_
      show OEnds own_P 28 44 [qr 16, qu, qi v2, qi v3, qi v4, qi x73] [.int x74, .int v4, .ref 29] (c0 :: c1 :: c2 :: c3 :: c4 :: c5 :: c6 :: c7 :: c8 :: c9 :: c10 :: c11 :: c12 :: c13 :: c14 :: c15 :: bk1 zd zg zr zu zn zm zi zc zs zp zq ze zh zf zl zk zj zt za zo zb po) _
      obtain ⟨A75, hA75, h⟩ := bnd h
      refine OEnds.plain hm_28 rfl rfl (x_iastore rfl (Nat.le_of_ble_eq_true rfl) hA75) ?_
      refine OEnds.adv hm_28 4 (pc' := 52) (L' := [qr 16, qu, qi v2, qi v3, qi v4, qi x73]) (S' := [.int 0, .int v4, .ref 30]) (H' := (c0 :: c1 :: c2 :: c3 :: c4 :: c5 :: c6 :: c7 :: c8 :: c9 :: c10 :: c11 :: c12 :: c13 :: c14 :: c15 :: bk1 zd zg zr zu zn zm zi zc zs zp zq ze A75 zf zl zk zj zt za zo zb po)) rfl ?_
      obtain ⟨A76, hA76, h⟩ := bnd h
      refine OEnds.plain hm_28 rfl rfl (x_iastore rfl (Nat.le_of_ble_eq_true rfl) hA76) ?_
      refine OEnds.adv hm_28 2 (pc' := 13) (L' := [qr 16, qu, qi v2, qi v3, qi (v4 + (1 : Int32)), qi x73]) (S' := []) (H' := (c0 :: c1 :: c2 :: c3 :: c4 :: c5 :: c6 :: c7 :: c8 :: c9 :: c10 :: c11 :: c12 :: c13 :: c14 :: c15 :: bk1 zd zg zr zu zn zm zi zc zs zp zq ze A75 A76 zl zk zj zt za zo zb po)) rfl ?_
      exact ih h
    · simp only [if_neg hc167] at h
      refine OEnds.icmpT hm_28 rfl (q := 59) rfl ((flt hc167).2.1) ?_
      show OEnds own_P 28 59 [qr 16, qu, qi v2, qi v3, qi v4, qu] [] (c0 :: c1 :: c2 :: c3 :: c4 :: c5 :: c6 :: c7 :: c8 :: c9 :: c10 :: c11 :: c12 :: c13 :: c14 :: c15 :: bk1 zd zg zr zu zn zm zi zc zs zp zq ze zh zf zl zk zj zt za zo zb po) _
      exact hk59 h
theorem ok_matchLevel_1 {zd zg : List Int32} {zm : List Int64} {zl zk zj : Int32} {zt : Int64} {c0 c1 c2 c3 c4 c5 c6 c7 c8 c9 c10 c11 c12 c13 c14 c15 : ACell} {po : List ACell} {zr zu zn zi zc zs zp zq ze zh zf : List Int32} {za zo zb v1 v2 v3 res : Int32} {w_o_oRem w_o_oFilled w_o_oStatus w_o_oTop w_o_restIds w_o_fIds w_o_fQty w_o_fPrice w_o_lvlIds w_o_lvlR w_o_lvlA : List Int32} {w_o_restN w_o_fN w_o_lvlN : Int32} (h : f_matchLevel zd zg zm zl zk zr zu zn zi zc zs zp zq ze zh zf za zo zb v1 v2 v3 = some (res, w_o_oRem, w_o_oFilled, w_o_oStatus, w_o_oTop, w_o_restIds, w_o_fIds, w_o_fQty, w_o_fPrice, w_o_lvlIds, w_o_lvlR, w_o_lvlA, w_o_restN, w_o_fN, w_o_lvlN)) : OEnds own_P 28 0 [qr 16, qi v1, qi v2, qi v3, qu, qu] [] (c0 :: c1 :: c2 :: c3 :: c4 :: c5 :: c6 :: c7 :: c8 :: c9 :: c10 :: c11 :: c12 :: c13 :: c14 :: c15 :: bk1 zd zg zr zu zn zm zi zc zs zp zq ze zh zf zl zk zj zt za zo zb po) (some (.int res), (c0 :: c1 :: c2 :: c3 :: c4 :: c5 :: c6 :: c7 :: c8 :: c9 :: c10 :: c11 :: c12 :: c13 :: c14 :: c15 :: bk1 zd zg w_o_oRem w_o_oFilled w_o_oStatus zm w_o_oTop w_o_restIds w_o_fIds w_o_fQty w_o_fPrice w_o_lvlIds w_o_lvlR w_o_lvlA zl zk zj zt w_o_restN w_o_fN w_o_lvlN po), 0, 0) := by
  unfold f_matchLevel at h
  refine OEnds.adv hm_28 3 (pc' := 3) (L' := [qr 16, qi v1, qi v2, qi v3, qu, qu]) (S' := [.int v2, .int v1, .ref 16]) (H' := (c0 :: c1 :: c2 :: c3 :: c4 :: c5 :: c6 :: c7 :: c8 :: c9 :: c10 :: c11 :: c12 :: c13 :: c14 :: c15 :: bk1 zd zg zr zu zn zm zi zc zs zp zq ze zh zf zl zk zj zt za zo zb po)) rfl ?_
  obtain ⟨⟨s70, s71⟩, hq168, h⟩ := bnd h
  refine OEnds.call0 hm_28 rfl rfl (by decide) rfl (as := [.ref 16, .int v1, .int v2]) (rest := []) rfl rfl (ok_gatherLevel_1 hq168) ?_
  refine OEnds.adv hm_28 1 (pc' := 7) (L' := [qr 16, qi v1, qi v2, qi v3, qu, qu]) (S' := [.ref 16]) (H' := (c0 :: c1 :: c2 :: c3 :: c4 :: c5 :: c6 :: c7 :: c8 :: c9 :: c10 :: c11 :: c12 :: c13 :: c14 :: c15 :: bk1 zd zg zr zu zn zm zi zc zs zp zq s70 zh zf zl zk zj zt za zo s71 po)) rfl ?_
  obtain ⟨s72, hq169, h⟩ := bnd h
  refine OEnds.call0 hm_28 rfl rfl (by decide) rfl (as := [.ref 16]) (rest := []) rfl rfl (ok_sortLevel_1 hq169) ?_
  refine OEnds.adv hm_28 2 (pc' := 13) (L' := [qr 16, qi v1, qi v2, qi v3, qi 0, qu]) (S' := []) (H' := (c0 :: c1 :: c2 :: c3 :: c4 :: c5 :: c6 :: c7 :: c8 :: c9 :: c10 :: c11 :: c12 :: c13 :: c14 :: c15 :: bk1 zd zg zr zu zn zm zi zc zs zp zq s72 zh zf zl zk zj zt za zo s71 po)) rfl ?_
  exact ok_matchLevel_13_1 (k59 := f_matchLevel_59 zd zg zm zl zk) ok_matchLevel_59_1 100000 h
theorem ok_matchIncoming_12_1 {zd zg : List Int32} {zm : List Int64} {zl zk zj : Int32} {zt : Int64} {c0 c1 c2 c3 c4 c5 c6 c7 c8 c9 c10 c11 c12 c13 c14 c15 : ACell} {po : List ACell} : ∀ (n : Nat), ∀ {zr zu zn zi zc zs zp zq ze zh zf : List Int32} {za zo zb v1 v2 v3 v5 v6 v7 : Int32} {d4 d8 d9 : Slot} {res : Int32} {w_o_oRem w_o_oFilled w_o_oStatus w_o_oTop w_o_restIds w_o_fIds w_o_fQty w_o_fPrice w_o_lvlIds w_o_lvlR w_o_lvlA : List Int32} {w_o_restN w_o_fN : Int32} {w_o_lvlN : Int32}, f_matchIncoming_12 zd zg zm zl zk n zr zu zn zi zc zs zp zq ze zh zf za zo zb v1 v2 v3 v5 v6 v7 = some (res, w_o_oRem, w_o_oFilled, w_o_oStatus, w_o_oTop, w_o_restIds, w_o_fIds, w_o_fQty, w_o_fPrice, w_o_lvlIds, w_o_lvlR, w_o_lvlA, w_o_restN, w_o_fN, w_o_lvlN) → OEnds own_P 7 12 [qr 16, qi v1, qi v2, qi v3, d4, qi v5, qi v6, qi v7, d8, d9] [] (c0 :: c1 :: c2 :: c3 :: c4 :: c5 :: c6 :: c7 :: c8 :: c9 :: c10 :: c11 :: c12 :: c13 :: c14 :: c15 :: bk1 zd zg zr zu zn zm zi zc zs zp zq ze zh zf zl zk zj zt za zo zb po) (some (.int res), (c0 :: c1 :: c2 :: c3 :: c4 :: c5 :: c6 :: c7 :: c8 :: c9 :: c10 :: c11 :: c12 :: c13 :: c14 :: c15 :: bk1 zd zg w_o_oRem w_o_oFilled w_o_oStatus zm w_o_oTop w_o_restIds w_o_fIds w_o_fQty w_o_fPrice w_o_lvlIds w_o_lvlR w_o_lvlA zl zk zj zt w_o_restN w_o_fN w_o_lvlN po), 0, 0) := by
  intro n
  induction n with
  | zero => intro zr zu zn zi zc zs zp zq ze zh zf za zo zb v1 v2 v3 v5 v6 v7 d4 d8 d9 res w_o_oRem w_o_oFilled w_o_oStatus w_o_oTop w_o_restIds w_o_fIds w_o_fQty w_o_fPrice w_o_lvlIds w_o_lvlR w_o_lvlA w_o_restN w_o_fN w_o_lvlN h; cases h
  | succ n ih =>
    intro zr zu zn zi zc zs zp zq ze zh zf za zo zb v1 v2 v3 v5 v6 v7 d4 d8 d9 res w_o_oRem w_o_oFilled w_o_oStatus w_o_oTop w_o_restIds w_o_fIds w_o_fQty w_o_fPrice w_o_lvlIds w_o_lvlR w_o_lvlA w_o_restN w_o_fN w_o_lvlN h
    unfold f_matchIncoming_12 at h
    refine OEnds.adv hm_7 2 (pc' := 16) (L' := [qr 16, qi v1, qi v2, qi v3, qu, qi v5, qi v6, qi v7, qu, qu]) (S' := [.int 64, .int v7]) (H' := (c0 :: c1 :: c2 :: c3 :: c4 :: c5 :: c6 :: c7 :: c8 :: c9 :: c10 :: c11 :: c12 :: c13 :: c14 :: c15 :: bk1 zd zg zr zu zn zm zi zc zs zp zq ze zh zf zl zk zj zt za zo zb po)) rfl ?_
    by_cases hc170 : (64 : Int32) < v7
    · simp only [if_pos hc170] at h
      refine OEnds.icmpT hm_7 rfl (q := 98) rfl ((tlt hc170).2.2.1) ?_
      refine OEnds.adv hm_7 1 (pc' := 100) (L' := [qr 16, qi v1, qi v2, qi v3, qu, qi v5, qi v6, qi v7, qu, qu]) (S' := [.int v5]) (H' := (c0 :: c1 :: c2 :: c3 :: c4 :: c5 :: c6 :: c7 :: c8 :: c9 :: c10 :: c11 :: c12 :: c13 :: c14 :: c15 :: bk1 zd zg zr zu zn zm zi zc zs zp zq ze zh zf zl zk zj zt za zo zb po)) rfl ?_
      cases h
      exact OEnds.iret hm_7 rfl rfl
    · simp only [if_neg hc170] at h
      refine OEnds.icmpF hm_7 rfl ((flt hc170).2.2.1) ?_
      refine OEnds.adv hm_7 1 (pc' := 21) (L' := [qr 16, qi v1, qi v2, qi v3, qu, qi v5, qi v6, qi v7, qu, qu]) (S' := [.int v5]) (H' := (c0 :: c1 :: c2 :: c3 :: c4 :: c5 :: c6 :: c7 :: c8 :: c9 :: c10 :: c11 :: c12 :: c13 :: c14 :: c15 :: bk1 zd zg zr zu zn zm zi zc zs zp zq ze zh zf zl zk zj zt za zo zb po)) rfl ?_
      by_cases hc171 : (0 : Int32) < v5
      · simp only [if_pos hc171] at h
        refine OEnds.ifF hm_7 rfl ((tlt hc171).2.2.2) ?_
        refine OEnds.adv hm_7 2 (pc' := 27) (L' := [qr 16, qi v1, qi v2, qi v3, qu, qi v5, qi v6, qi v7, qu, qu]) (S' := [.int v6, .ref 16]) (H' := (c0 :: c1 :: c2 :: c3 :: c4 :: c5 :: c6 :: c7 :: c8 :: c9 :: c10 :: c11 :: c12 :: c13 :: c14 :: c15 :: bk1 zd zg zr zu zn zm zi zc zs zp zq ze zh zf zl zk zj zt za zo zb po)) rfl ?_
        obtain ⟨r89, hq172, h⟩ := bnd h
        refine OEnds.call0 hm_7 rfl rfl (by decide) rfl (as := [.ref 16, .int v6]) (rest := []) rfl rfl (ok_bestOf_1 hq172) ?_
        refine OEnds.adv hm_7 2 (pc' := 34) (L' := [qr 16, qi v1, qi v2, qi v3, qu, qi v5, qi v6, qi v7, qi r89, qu]) (S' := [.int r89]) (H' := (c0 :: c1 :: c2 :: c3 :: c4 :: c5 :: c6 :: c7 :: c8 :: c9 :: c10 :: c11 :: c12 :: c13 :: c14 :: c15 :: bk1 zd zg zr zu zn zm zi zc zs zp zq ze zh zf zl zk zj zt za zo zb po)) rfl ?_
        by_cases hc173 : r89 = (0 : Int32)
        · simp only [if_pos hc173] at h
          refine OEnds.ifF hm_7 rfl ((teq hc173).2) ?_
          refine OEnds.adv hm_7 2 (pc' := 100) (L' := [qr 16, qi v1, qi v2, qi v3, qu, qi v5, qi v6, qi v7, qi r89, qu]) (S' := [.int v5]) (H' := (c0 :: c1 :: c2 :: c3 :: c4 :: c5 :: c6 :: c7 :: c8 :: c9 :: c10 :: c11 :: c12 :: c13 :: c14 :: c15 :: bk1 zd zg zr zu zn zm zi zc zs zp zq ze zh zf zl zk zj zt za zo zb po)) rfl ?_
          cases h
          exact OEnds.iret hm_7 rfl rfl
        · simp only [if_neg hc173] at h
          refine OEnds.ifT hm_7 rfl (q := 40) rfl ((feq hc173).2) ?_
          refine OEnds.adv hm_7 4 (pc' := 45) (L' := [qr 16, qi v1, qi v2, qi v3, qu, qi v5, qi v6, qi v7, qi r89, qu]) (S' := [.int r89, .int v3, .int v2, .ref 16]) (H' := (c0 :: c1 :: c2 :: c3 :: c4 :: c5 :: c6 :: c7 :: c8 :: c9 :: c10 :: c11 :: c12 :: c13 :: c14 :: c15 :: bk1 zd zg zr zu zn zm zi zc zs zp zq ze zh zf zl zk zj zt za zo zb po)) rfl ?_
          obtain ⟨r90, hq174, h⟩ := bnd h
          refine OEnds.call0 hm_7 rfl rfl (by decide) rfl (as := [.ref 16, .int v2, .int v3, .int r89]) (rest := []) rfl rfl (ok_crosses_1 hq174) ?_
          show OEnds own_P 7 48 [qr 16, qi v1, qi v2, qi v3, qu, qi v5, qi v6, qi v7, qi r89, qu] [.int r90] (c0 :: c1 :: c2 :: c3 :: c4 :: c5 :: c6 :: c7 :: c8 :: c9 :: c10 :: c11 :: c12 :: c13 :: c14 :: c15 :: bk1 zd zg zr zu zn zm zi zc zs zp zq ze zh zf zl zk zj zt za zo zb po) _
          by_cases hc175 : r90 = (0 : Int32)
          · simp only [if_pos hc175] at h
            refine OEnds.ifF hm_7 rfl ((teq hc175).2) ?_
            refine OEnds.adv hm_7 2 (pc' := 100) (L' := [qr 16, qi v1, qi v2, qi v3, qu, qi v5, qi v6, qi v7, qi r89, qu]) (S' := [.int v5]) (H' := (c0 :: c1 :: c2 :: c3 :: c4 :: c5 :: c6 :: c7 :: c8 :: c9 :: c10 :: c11 :: c12 :: c13 :: c14 :: c15 :: bk1 zd zg zr zu zn zm zi zc zs zp zq ze zh zf zl zk zj zt za zo zb po)) rfl ?_
            cases h
            exact OEnds.iret hm_7 rfl rfl
          · simp only [if_neg hc175] at h
            refine OEnds.ifT hm_7 rfl (q := 54) rfl ((feq hc175).2) ?_
            refine OEnds.adv hm_7 4 (pc' := 61) (L' := [qr 16, qi v1, qi v2, qi v3, qu, qi v5, qi v6, qi v7, qi r89, qu]) (S' := [.int v5, .int r89, .int v6, .ref 16]) (H' := (c0 :: c1 :: c2 :: c3 :: c4 :: c5 :: c6 :: c7 :: c8 :: c9 :: c10 :: c11 :: c12 :: c13 :: c14 :: c15 :: bk1 zd zg zr zu zn zm zi zc zs zp zq ze zh zf zl zk zj zt za zo zb po)) rfl ?_
            obtain ⟨⟨r91, s92, s93, s94, s95, s96, s97, s98, s99, s100, s101, s102, s103, s104, s105⟩, hq176, h⟩ := bnd h
            refine OEnds.call0 hm_7 rfl rfl (by decide) rfl (as := [.ref 16, .int v6, .int r89, .int v5]) (rest := []) rfl rfl (ok_matchLevel_1 hq176) ?_
            refine OEnds.adv hm_7 2 (pc' := 68) (L' := [qr 16, qi v1, qi v2, qi v3, qu, qi v5, qi v6, qi v7, qi r89, qi r91]) (S' := [.int r91]) (H' := (c0 :: c1 :: c2 :: c3 :: c4 :: c5 :: c6 :: c7 :: c8 :: c9 :: c10 :: c11 :: c12 :: c13 :: c14 :: c15 :: bk1 zd zg s92 s93 s94 zm s95 s96 s97 s98 s99 s100 s101 s102 zl zk zj zt s103 s104 s105 po)) rfl ?_
            by_cases hc177 : (0 : Int32) < r91
            · simp only [if_pos hc177] at h
              refine OEnds.ifT hm_7 rfl (q := 74) rfl ((tlt hc177).2.2.1) ?_
              refine OEnds.adv hm_7 8 (pc' := 87) (L' := [qr 16, qi v1, qi v2, qi v3, qu, qi (v5 - r91), qi v6, qi v7, qi r89, qi r91]) (S' := [.int v1, .ref 20, .int v1, .ref 20]) (H' := (c0 :: c1 :: c2 :: c3 :: c4 :: c5 :: c6 :: c7 :: c8 :: c9 :: c10 :: c11 :: c12 :: c13 :: c14 :: c15 :: bk1 zd zg s92 s93 s94 zm s95 s96 s97 s98 s99 s100 s101 s102 zl zk zj zt s103 s104 s105 po)) rfl ?_
              obtain ⟨x106, hx106, h⟩ := bnd h
              refine OEnds.plain hm_7 rfl rfl (x_iaload rfl hx106) ?_
              refine OEnds.adv hm_7 2 (pc' := 91) (L' := [qr 16, qi v1, qi v2, qi v3, qu, qi (v5 - r91), qi v6, qi v7, qi r89, qi r91]) (S' := [.int (x106 + r91), .int v1, .ref 20]) (H' := (c0 :: c1 :: c2 :: c3 :: c4 :: c5 :: c6 :: c7 :: c8 :: c9 :: c10 :: c11 :: c12 :: c13 :: c14 :: c15 :: bk1 zd zg s92 s93 s94 zm s95 s96 s97 s98 s99 s100 s101 s102 zl zk zj zt s103 s104 s105 po)) rfl ?_
              obtain ⟨A107, hA107, h⟩ := bnd h
              refine OEnds.plain hm_7 rfl rfl (x_iastore rfl (Nat.le_of_ble_eq_true rfl) hA107) ?_
              refine OEnds.adv hm_7 2 (pc' := 12) (L' := [qr 16, qi v1, qi v2, qi v3, qu, qi (v5 - r91), qi v6, qi (v7 + (1 : Int32)), qi r89, qi r91]) (S' := []) (H' := (c0 :: c1 :: c2 :: c3 :: c4 :: c5 :: c6 :: c7 :: c8 :: c9 :: c10 :: c11 :: c12 :: c13 :: c14 :: c15 :: bk1 zd zg s92 A107 s94 zm s95 s96 s97 s98 s99 s100 s101 s102 zl zk zj zt s103 s104 s105 po)) rfl ?_
              exact ih h
            · simp only [if_neg hc177] at h
              refine OEnds.ifF hm_7 rfl ((flt hc177).2.2.1) ?_
              refine OEnds.adv hm_7 2 (pc' := 100) (L' := [qr 16, qi v1, qi v2, qi v3, qu, qi v5, qi v6, qi v7, qi r89, qi r91]) (S' := [.int v5]) (H' := (c0 :: c1 :: c2 :: c3 :: c4 :: c5 :: c6 :: c7 :: c8 :: c9 :: c10 :: c11 :: c12 :: c13 :: c14 :: c15 :: bk1 zd zg s92 s93 s94 zm s95 s96 s97 s98 s99 s100 s101 s102 zl zk zj zt s103 s104 s105 po)) rfl ?_
              cases h
              exact OEnds.iret hm_7 rfl rfl
      · simp only [if_neg hc171] at h
        refine OEnds.ifT hm_7 rfl (q := 98) rfl ((flt hc171).2.2.2) ?_
        refine OEnds.adv hm_7 1 (pc' := 100) (L' := [qr 16, qi v1, qi v2, qi v3, qu, qi v5, qi v6, qi v7, qu, qu]) (S' := [.int v5]) (H' := (c0 :: c1 :: c2 :: c3 :: c4 :: c5 :: c6 :: c7 :: c8 :: c9 :: c10 :: c11 :: c12 :: c13 :: c14 :: c15 :: bk1 zd zg zr zu zn zm zi zc zs zp zq ze zh zf zl zk zj zt za zo zb po)) rfl ?_
        cases h
        exact OEnds.iret hm_7 rfl rfl
theorem ok_matchIncoming_1 {zd zg : List Int32} {zm : List Int64} {zl zk zj : Int32} {zt : Int64} {c0 c1 c2 c3 c4 c5 c6 c7 c8 c9 c10 c11 c12 c13 c14 c15 : ACell} {po : List ACell} {zr zu zn zi zc zs zp zq ze zh zf : List Int32} {za zo zb v1 v2 v3 v4 res : Int32} {w_o_oRem w_o_oFilled w_o_oStatus w_o_oTop w_o_restIds w_o_fIds w_o_fQty w_o_fPrice w_o_lvlIds w_o_lvlR w_o_lvlA : List Int32} {w_o_restN w_o_fN w_o_lvlN : Int32} (h : f_matchIncoming zd zg zm zl zk zr zu zn zi zc zs zp zq ze zh zf za zo zb v1 v2 v3 v4 = some (res, w_o_oRem, w_o_oFilled, w_o_oStatus, w_o_oTop, w_o_restIds, w_o_fIds, w_o_fQty, w_o_fPrice, w_o_lvlIds, w_o_lvlR, w_o_lvlA, w_o_restN, w_o_fN, w_o_lvlN)) : OEnds own_P 7 0 [qr 16, qi v1, qi v2, qi v3, qi v4, qu, qu, qu, qu, qu] [] (c0 :: c1 :: c2 :: c3 :: c4 :: c5 :: c6 :: c7 :: c8 :: c9 :: c10 :: c11 :: c12 :: c13 :: c14 :: c15 :: bk1 zd zg zr zu zn zm zi zc zs zp zq ze zh zf zl zk zj zt za zo zb po) (some (.int res), (c0 :: c1 :: c2 :: c3 :: c4 :: c5 :: c6 :: c7 :: c8 :: c9 :: c10 :: c11 :: c12 :: c13 :: c14 :: c15 :: bk1 zd zg w_o_oRem w_o_oFilled w_o_oStatus zm w_o_oTop w_o_restIds w_o_fIds w_o_fQty w_o_fPrice w_o_lvlIds w_o_lvlR w_o_lvlA zl zk zj zt w_o_restN w_o_fN w_o_lvlN po), 0, 0) := by
  unfold f_matchIncoming at h
  refine OEnds.adv hm_7 8 (pc' := 12) (L' := [qr 16, qi v1, qi v2, qi v3, qi v4, qi v4, qi ((1 : Int32) - v2), qi 0, qu, qu]) (S' := []) (H' := (c0 :: c1 :: c2 :: c3 :: c4 :: c5 :: c6 :: c7 :: c8 :: c9 :: c10 :: c11 :: c12 :: c13 :: c14 :: c15 :: bk1 zd zg zr zu zn zm zi zc zs zp zq ze zh zf zl zk zj zt za zo zb po)) rfl ?_
  exact ok_matchIncoming_12_1 100000 h
theorem ok_clearFlags_2_1 {zd zg zr zu zn : List Int32} {zm : List Int64} {zc zs zp zq ze zh zf : List Int32} {zl zk zj : Int32} {zt : Int64} {za zo zb : Int32} {c0 c1 c2 c3 c4 c5 c6 c7 c8 c9 c10 c11 c12 c13 c14 c15 : ACell} {po : List ACell} : ∀ (n : Nat), ∀ {zi : List Int32} {v1 v2 : Int32} {d3 : Slot} {w_o_oTop : List Int32}, f_clearFlags_2 zd zc za n zi v1 v2 = some w_o_oTop → OEnds own_P 24 2 [qr 16, qi v1, qi v2, d3] [] (c0 :: c1 :: c2 :: c3 :: c4 :: c5 :: c6 :: c7 :: c8 :: c9 :: c10 :: c11 :: c12 :: c13 :: c14 :: c15 :: bk1 zd zg zr zu zn zm zi zc zs zp zq ze zh zf zl zk zj zt za zo zb po) (none, (c0 :: c1 :: c2 :: c3 :: c4 :: c5 :: c6 :: c7 :: c8 :: c9 :: c10 :: c11 :: c12 :: c13 :: c14 :: c15 :: bk1 zd zg zr zu zn zm w_o_oTop zc zs zp zq ze zh zf zl zk zj zt za zo zb po), 0, 0) := by
  intro n
  induction n with
  | zero => intro zi v1 v2 d3 w_o_oTop h; cases h
  | succ n ih =>
    intro zi v1 v2 d3 w_o_oTop h
    unfold f_clearFlags_2 at h
    refine OEnds.adv hm_24 3 (pc' := 7) (L' := [qr 16, qi v1, qi v2, qu]) (S' := [.int za, .int v2]) (H' := (c0 :: c1 :: c2 :: c3 :: c4 :: c5 :: c6 :: c7 :: c8 :: c9 :: c10 :: c11 :: c12 :: c13 :: c14 :: c15 :: bk1 zd zg zr zu zn zm zi zc zs zp zq ze zh zf zl zk zj zt za zo zb po)) rfl ?_
    by_cases hc178 : v2 < za
    · simp only [if_pos hc178] at h
      refine OEnds.icmpF hm_24 rfl ((tlt hc178).2.1) ?_
      refine OEnds.adv hm_24 3 (pc' := 15) (L' := [qr 16, qi v1, qi v2, qu]) (S' := [.int v2, .ref 24]) (H' := (c0 :: c1 :: c2 :: c3 :: c4 :: c5 :: c6 :: c7 :: c8 :: c9 :: c10 :: c11 :: c12 :: c13 :: c14 :: c15 :: bk1 zd zg zr zu zn zm zi zc zs zp zq ze zh zf zl zk zj zt za zo zb po)) rfl ?_
      obtain ⟨x108, hx108, h⟩ := bnd h
      refine OEnds.plain hm_24 rfl rfl (x_iaload rfl hx108) ?_
      refine OEnds.adv hm_24 4 (pc' := 22) (L' := [qr 16, qi v1, qi v2, qi x108]) (S' := [.int x108, .ref 17]) (H' := (c0 :: c1 :: c2 :: c3 :: c4 :: c5 :: c6 :: c7 :: c8 :: c9 :: c10 :: c11 :: c12 :: c13 :: c14 :: c15 :: bk1 zd zg zr zu zn zm zi zc zs zp zq ze zh zf zl zk zj zt za zo zb po)) rfl ?_
      obtain ⟨x109, hx109, h⟩ := bnd h
      refine OEnds.plain hm_24 rfl rfl (x_iaload rfl hx109) ?_
      refine OEnds.adv hm_24 1 (pc' := 24) (L' := [qr 16, qi v1, qi v2, qi x108]) (S' := [.int v1, .int x109]) (H' := (c0 :: c1 :: c2 :: c3 :: c4 :: c5 :: c6 :: c7 :: c8 :: c9 :: c10 :: c11 :: c12 :: c13 :: c14 :: c15 :: bk1 zd zg zr zu zn zm zi zc zs zp zq ze zh zf zl zk zj zt za zo zb po)) rfl ?_
      by_cases hc179 : x109 = v1
      · simp only [if_pos hc179] at h
        refine OEnds.icmpF hm_24 rfl ((teq hc179).2) ?_
        refine OEnds.adv hm_24 4 (pc' := 33) (L' := [qr 16, qi v1, qi v2, qi x108]) (S' := [.int 0, .int x108, .ref 23]) (H' := (c0 :: c1 :: c2 :: c3 :: c4 :: c5 :: c6 :: c7 :: c8 :: c9 :: c10 :: c11 :: c12 :: c13 :: c14 :: c15 :: bk1 zd zg zr zu zn zm zi zc zs zp zq ze zh zf zl zk zj zt za zo zb po)) rfl ?_
        obtain ⟨A110, hA110, h⟩ := bnd h
        refine OEnds.plain hm_24 rfl rfl (x_bastore rfl (Nat.le_of_ble_eq_true rfl) hA110) ?_
        refine OEnds.adv hm_24 2 (pc' := 2) (L' := [qr 16, qi v1, qi (v2 + (1 : Int32)), qi x108]) (S' := []) (H' := (c0 :: c1 :: c2 :: c3 :: c4 :: c5 :: c6 :: c7 :: c8 :: c9 :: c10 :: c11 :: c12 :: c13 :: c14 :: c15 :: bk1 zd zg zr zu zn zm A110 zc zs zp zq ze zh zf zl zk zj zt za zo zb po)) rfl ?_
        exact ih h
      · simp only [if_neg hc179] at h
        refine OEnds.icmpT hm_24 rfl (q := 34) rfl ((feq hc179).2) ?_
        refine OEnds.adv hm_24 2 (pc' := 2) (L' := [qr 16, qi v1, qi (v2 + (1 : Int32)), qi x108]) (S' := []) (H' := (c0 :: c1 :: c2 :: c3 :: c4 :: c5 :: c6 :: c7 :: c8 :: c9 :: c10 :: c11 :: c12 :: c13 :: c14 :: c15 :: bk1 zd zg zr zu zn zm zi zc zs zp zq ze zh zf zl zk zj zt za zo zb po)) rfl ?_
        exact ih h
    · simp only [if_neg hc178] at h
      refine OEnds.icmpT hm_24 rfl (q := 40) rfl ((flt hc178).2.1) ?_
      show OEnds own_P 24 40 [qr 16, qi v1, qi v2, qu] [] (c0 :: c1 :: c2 :: c3 :: c4 :: c5 :: c6 :: c7 :: c8 :: c9 :: c10 :: c11 :: c12 :: c13 :: c14 :: c15 :: bk1 zd zg zr zu zn zm zi zc zs zp zq ze zh zf zl zk zj zt za zo zb po) _
      cases h
      exact OEnds.vret hm_24 rfl rfl
theorem ok_clearFlags_1 {zd zg zr zu zn : List Int32} {zm : List Int64} {zc zs zp zq ze zh zf : List Int32} {zl zk zj : Int32} {zt : Int64} {za zo zb : Int32} {c0 c1 c2 c3 c4 c5 c6 c7 c8 c9 c10 c11 c12 c13 c14 c15 : ACell} {po : List ACell} {zi : List Int32} {v1 : Int32} {w_o_oTop : List Int32} (h : f_clearFlags zd zc za zi v1 = some w_o_oTop) : OEnds own_P 24 0 [qr 16, qi v1, qu, qu] [] (c0 :: c1 :: c2 :: c3 :: c4 :: c5 :: c6 :: c7 :: c8 :: c9 :: c10 :: c11 :: c12 :: c13 :: c14 :: c15 :: bk1 zd zg zr zu zn zm zi zc zs zp zq ze zh zf zl zk zj zt za zo zb po) (none, (c0 :: c1 :: c2 :: c3 :: c4 :: c5 :: c6 :: c7 :: c8 :: c9 :: c10 :: c11 :: c12 :: c13 :: c14 :: c15 :: bk1 zd zg zr zu zn zm w_o_oTop zc zs zp zq ze zh zf zl zk zj zt za zo zb po), 0, 0) := by
  unfold f_clearFlags at h
  refine OEnds.adv hm_24 2 (pc' := 2) (L' := [qr 16, qi v1, qi 0, qu]) (S' := []) (H' := (c0 :: c1 :: c2 :: c3 :: c4 :: c5 :: c6 :: c7 :: c8 :: c9 :: c10 :: c11 :: c12 :: c13 :: c14 :: c15 :: bk1 zd zg zr zu zn zm zi zc zs zp zq ze zh zf zl zk zj zt za zo zb po)) rfl ?_
  exact ok_clearFlags_2_1 100000 h
theorem ok_finishIncoming_90_1 {zd zg zu zs zp zq ze zh zf : List Int32} {zl zk zj zo zb : Int32} {c0 c1 c2 c3 c4 c5 c6 c7 c8 c9 c10 c11 c12 c13 c14 c15 : ACell} {po : List ACell} : ∀ {zr zn : List Int32} {zm : List Int64} {zi zc : List Int32} {zt : Int64} {za v1 v4 v7 : Int32} {d2 d3 d5 d6 : Slot} {w_o_oRem w_o_oStatus : List Int32} {w_o_oStamp : List Int64} {w_o_oTop w_o_restIds : List Int32} {w_o_stampCounter : Int64} {w_o_restN : Int32}, f_finishIncoming_90 zd zg zr zn zm zi zc zt za v1 v4 v7 = some (w_o_oRem, w_o_oStatus, w_o_oStamp, w_o_oTop, w_o_restIds, w_o_stampCounter, w_o_restN) → OEnds own_P 9 90 [qr 16, qi v1, d2, d3, qi v4, d5, d6, qi v7] [] (c0 :: c1 :: c2 :: c3 :: c4 :: c5 :: c6 :: c7 :: c8 :: c9 :: c10 :: c11 :: c12 :: c13 :: c14 :: c15 :: bk1 zd zg zr zu zn zm zi zc zs zp zq ze zh zf zl zk zj zt za zo zb po) (none, (c0 :: c1 :: c2 :: c3 :: c4 :: c5 :: c6 :: c7 :: c8 :: c9 :: c10 :: c11 :: c12 :: c13 :: c14 :: c15 :: bk1 zd zg w_o_oRem zu w_o_oStatus w_o_oStamp w_o_oTop w_o_restIds zs zp zq ze zh zf zl zk zj w_o_stampCounter w_o_restN zo zb po), 0, 0) := by
  intro zr zn zm zi zc zt za v1 v4 v7 d2 d3 d5 d6 w_o_oRem w_o_oStatus w_o_oStamp w_o_oTop w_o_restIds w_o_stampCounter w_o_restN h
  unfold f_finishIncoming_90 at h
  refine OEnds.adv hm_9 11 (pc' := 109) (L' := [qr 16, qi v1, qu, qu, qi v4, qu, qu, qi v7]) (S' := [.long (zt + (1 : Int64)), .int v1, .ref 22]) (H' := (c0 :: c1 :: c2 :: c3 :: c4 :: c5 :: c6 :: c7 :: c8 :: c9 :: c10 :: c11 :: c12 :: c13 :: c14 :: c15 :: bk1 zd zg zr zu zn zm zi zc zs zp zq ze zh zf zl zk zj (zt + (1 : Int64)) za zo zb po)) rfl ?_
  obtain ⟨A116, hA116, h⟩ := bnd h
  refine OEnds.plain hm_9 rfl rfl (x_lastore rfl (Nat.le_of_ble_eq_true rfl) hA116) ?_
  refine OEnds.adv hm_9 4 (pc' := 117) (L' := [qr 16, qi v1, qu, qu, qi v4, qu, qu, qi v7]) (S' := [.int v4, .int v1, .ref 19]) (H' := (c0 :: c1 :: c2 :: c3 :: c4 :: c5 :: c6 :: c7 :: c8 :: c9 :: c10 :: c11 :: c12 :: c13 :: c14 :: c15 :: bk1 zd zg zr zu zn A116 zi zc zs zp zq ze zh zf zl zk zj (zt + (1 : Int64)) za zo zb po)) rfl ?_
  obtain ⟨A117, hA117, h⟩ := bnd h
  refine OEnds.plain hm_9 rfl rfl (x_iastore rfl (Nat.le_of_ble_eq_true rfl) hA117) ?_
  refine OEnds.adv hm_9 4 (pc' := 124) (L' := [qr 16, qi v1, qu, qu, qi v4, qu, qu, qi v7]) (S' := [.int 1, .int v1, .ref 21]) (H' := (c0 :: c1 :: c2 :: c3 :: c4 :: c5 :: c6 :: c7 :: c8 :: c9 :: c10 :: c11 :: c12 :: c13 :: c14 :: c15 :: bk1 zd zg A117 zu zn A116 zi zc zs zp zq ze zh zf zl zk zj (zt + (1 : Int64)) za zo zb po)) rfl ?_
  obtain ⟨A118, hA118, h⟩ := bnd h
  refine OEnds.plain hm_9 rfl rfl (x_iastore rfl (Nat.le_of_ble_eq_true rfl) hA118) ?_
  refine OEnds.adv hm_9 4 (pc' := 132) (L' := [qr 16, qi v1, qu, qu, qi v4, qu, qu, qi v7]) (S' := [.int v7, .int v1, .ref 23]) (H' := (c0 :: c1 :: c2 :: c3 :: c4 :: c5 :: c6 :: c7 :: c8 :: c9 :: c10 :: c11 :: c12 :: c13 :: c14 :: c15 :: bk1 zd zg A117 zu A118 A116 zi zc zs zp zq ze zh zf zl zk zj (zt + (1 : Int64)) za zo zb po)) rfl ?_
  obtain ⟨A119, hA119, h⟩ := bnd h
  refine OEnds.plain hm_9 rfl rfl (x_bastore rfl (Nat.le_of_ble_eq_true rfl) hA119) ?_
  refine OEnds.adv hm_9 5 (pc' := 142) (L' := [qr 16, qi v1, qu, qu, qi v4, qu, qu, qi v7]) (S' := [.int v1, .int za, .ref 24]) (H' := (c0 :: c1 :: c2 :: c3 :: c4 :: c5 :: c6 :: c7 :: c8 :: c9 :: c10 :: c11 :: c12 :: c13 :: c14 :: c15 :: bk1 zd zg A117 zu A118 A116 A119 zc zs zp zq ze zh zf zl zk zj (zt + (1 : Int64)) za zo zb po)) rfl ?_
  obtain ⟨A120, hA120, h⟩ := bnd h
  refine OEnds.plain hm_9 rfl rfl (x_iastore rfl (Nat.le_of_ble_eq_true rfl) hA120) ?_
  refine OEnds.adv hm_9 6 (pc' := 153) (L' := [qr 16, qi v1, qu, qu, qi v4, qu, qu, qi v7]) (S' := []) (H' := (c0 :: c1 :: c2 :: c3 :: c4 :: c5 :: c6 :: c7 :: c8 :: c9 :: c10 :: c11 :: c12 :: c13 :: c14 :: c15 :: bk1 zd zg A117 zu A118 A116 A119 A120 zs zp zq ze zh zf zl zk zj (zt + (1 : Int64)) (za + (1 : Int32)) zo zb po)) rfl ?_
  cases h
  exact OEnds.vret hm_9 rfl rfl
theorem ok_finishIncoming_78_1 {zd zg zu zs zp zq ze zh zf : List Int32} {zl zk zj zo zb : Int32} {c0 c1 c2 c3 c4 c5 c6 c7 c8 c9 c10 c11 c12 c13 c14 c15 : ACell} {po : List ACell} : ∀ {zr zn : List Int32} {zm : List Int64} {zi zc : List Int32} {zt : Int64} {za v1 v2 v4 t0 : Int32} {d3 d5 d6 d7 : Slot} {w_o_oRem w_o_oStatus : List Int32} {w_o_oStamp : List Int64} {w_o_oTop w_o_restIds : List Int32} {w_o_stampCounter : Int64} {w_o_restN : Int32}, f_finishIncoming_78 zd zg zr zn zm zi zc zt za v1 v2 v4 t0 = some (w_o_oRem, w_o_oStatus, w_o_oStamp, w_o_oTop, w_o_restIds, w_o_stampCounter, w_o_restN) → OEnds own_P 9 78 [qr 16, qi v1, qi v2, d3, qi v4, d5, d6, d7] [.int t0] (c0 :: c1 :: c2 :: c3 :: c4 :: c5 :: c6 :: c7 :: c8 :: c9 :: c10 :: c11 :: c12 :: c13 :: c14 :: c15 :: bk1 zd zg zr zu zn zm zi zc zs zp zq ze zh zf zl zk zj zt za zo zb po) (none, (c0 :: c1 :: c2 :: c3 :: c4 :: c5 :: c6 :: c7 :: c8 :: c9 :: c10 :: c11 :: c12 :: c13 :: c14 :: c15 :: bk1 zd zg w_o_oRem zu w_o_oStatus w_o_oStamp w_o_oTop w_o_restIds zs zp zq ze zh zf zl zk zj w_o_stampCounter w_o_restN zo zb po), 0, 0) := by
  intro zr zn zm zi zc zt za v1 v2 v4 t0 d3 d5 d6 d7 w_o_oRem w_o_oStatus w_o_oStamp w_o_oTop w_o_restIds w_o_stampCounter w_o_restN h
  unfold f_finishIncoming_78 at h
  refine OEnds.adv hm_9 2 (pc' := 82) (L' := [qr 16, qi v1, qi v2, qu, qi v4, qu, qu, qi t0]) (S' := [.int t0]) (H' := (c0 :: c1 :: c2 :: c3 :: c4 :: c5 :: c6 :: c7 :: c8 :: c9 :: c10 :: c11 :: c12 :: c13 :: c14 :: c15 :: bk1 zd zg zr zu zn zm zi zc zs zp zq ze zh zf zl zk zj zt za zo zb po)) rfl ?_
  by_cases hc180 : t0 = (0 : Int32)
  · simp only [if_pos hc180] at h
    refine OEnds.ifT hm_9 rfl (q := 90) rfl ((teq hc180).1) ?_
    show OEnds own_P 9 90 [qr 16, qi v1, qi v2, qu, qi v4, qu, qu, qi t0] [] (c0 :: c1 :: c2 :: c3 :: c4 :: c5 :: c6 :: c7 :: c8 :: c9 :: c10 :: c11 :: c12 :: c13 :: c14 :: c15 :: bk1 zd zg zr zu zn zm zi zc zs zp zq ze zh zf zl zk zj zt za zo zb po) _
    exact ok_finishIncoming_90_1 h
  · simp only [if_neg hc180] at h
    refine OEnds.ifF hm_9 rfl ((feq hc180).1) ?_
    refine OEnds.adv hm_9 2 (pc' := 87) (L' := [qr 16, qi v1, qi v2, qu, qi v4, qu, qu, qi t0]) (S' := [.int v2, .ref 16]) (H' := (c0 :: c1 :: c2 :: c3 :: c4 :: c5 :: c6 :: c7 :: c8 :: c9 :: c10 :: c11 :: c12 :: c13 :: c14 :: c15 :: bk1 zd zg zr zu zn zm zi zc zs zp zq ze zh zf zl zk zj zt za zo zb po)) rfl ?_
    obtain ⟨s115, hq181, h⟩ := bnd h
    refine OEnds.call0 hm_9 rfl rfl (by decide) rfl (as := [.ref 16, .int v2]) (rest := []) rfl rfl (ok_clearFlags_1 hq181) ?_
    show OEnds own_P 9 90 [qr 16, qi v1, qi v2, qu, qi v4, qu, qu, qi t0] [] (c0 :: c1 :: c2 :: c3 :: c4 :: c5 :: c6 :: c7 :: c8 :: c9 :: c10 :: c11 :: c12 :: c13 :: c14 :: c15 :: bk1 zd zg zr zu zn zm s115 zc zs zp zq ze zh zf zl zk zj zt za zo zb po) _
    exact ok_finishIncoming_90_1 h
theorem ok_finishIncoming_35_1 {zd zg zu zs zp zq ze zh zf : List Int32} {zl zk zj zo zb : Int32} {c0 c1 c2 c3 c4 c5 c6 c7 c8 c9 c10 c11 c12 c13 c14 c15 : ACell} {po : List ACell} : ∀ {zr zn : List Int32} {zm : List Int64} {zi zc : List Int32} {zt : Int64} {za v1 : Int32} {d2 d3 d4 d5 d6 d7 : Slot} {w_o_oRem w_o_oStatus : List Int32} {w_o_oStamp : List Int64} {w_o_oTop w_o_restIds : List Int32} {w_o_stampCounter : Int64} {w_o_restN : Int32}, f_finishIncoming_35 zd zg zr zn zm zi zc zt za v1 = some (w_o_oRem, w_o_oStatus, w_o_oStamp, w_o_oTop, w_o_restIds, w_o_stampCounter, w_o_restN) → OEnds own_P 9 35 [qr 16, qi v1, d2, d3, d4, d5, d6, d7] [] (c0 :: c1 :: c2 :: c3 :: c4 :: c5 :: c6 :: c7 :: c8 :: c9 :: c10 :: c11 :: c12 :: c13 :: c14 :: c15 :: bk1 zd zg zr zu zn zm zi zc zs zp zq ze zh zf zl zk zj zt za zo zb po) (none, (c0 :: c1 :: c2 :: c3 :: c4 :: c5 :: c6 :: c7 :: c8 :: c9 :: c10 :: c11 :: c12 :: c13 :: c14 :: c15 :: bk1 zd zg w_o_oRem zu w_o_oStatus w_o_oStamp w_o_oTop w_o_restIds zs zp zq ze zh zf zl zk zj w_o_stampCounter w_o_restN zo zb po), 0, 0) := by
  intro zr zn zm zi zc zt za v1 d2 d3 d4 d5 d6 d7 w_o_oRem w_o_oStatus w_o_oStamp w_o_oTop w_o_restIds w_o_stampCounter w_o_restN h
  unfold f_finishIncoming_35 at h
  refine OEnds.adv hm_9 4 (pc' := 41) (L' := [qr 16, qi v1, qu, qu, qu, qu, qu, qu]) (S' := [.int 4, .int v1, .ref 21]) (H' := (c0 :: c1 :: c2 :: c3 :: c4 :: c5 :: c6 :: c7 :: c8 :: c9 :: c10 :: c11 :: c12 :: c13 :: c14 :: c15 :: bk1 zd zg zr zu zn zm zi zc zs zp zq ze zh zf zl zk zj zt za zo zb po)) rfl ?_
  obtain ⟨A121, hA121, h⟩ := bnd h
  refine OEnds.plain hm_9 rfl rfl (x_iastore rfl (Nat.le_of_ble_eq_true rfl) hA121) ?_
  refine OEnds.adv hm_9 4 (pc' := 48) (L' := [qr 16, qi v1, qu, qu, qu, qu, qu, qu]) (S' := [.int 0, .int v1, .ref 19]) (H' := (c0 :: c1 :: c2 :: c3 :: c4 :: c5 :: c6 :: c7 :: c8 :: c9 :: c10 :: c11 :: c12 :: c13 :: c14 :: c15 :: bk1 zd zg zr zu A121 zm zi zc zs zp zq ze zh zf zl zk zj zt za zo zb po)) rfl ?_
  obtain ⟨A122, hA122, h⟩ := bnd h
  refine OEnds.plain hm_9 rfl rfl (x_iastore rfl (Nat.le_of_ble_eq_true rfl) hA122) ?_
  show OEnds own_P 9 49 [qr 16, qi v1, qu, qu, qu, qu, qu, qu] [] (c0 :: c1 :: c2 :: c3 :: c4 :: c5 :: c6 :: c7 :: c8 :: c9 :: c10 :: c11 :: c12 :: c13 :: c14 :: c15 :: bk1 zd zg A122 zu A121 zm zi zc zs zp zq ze zh zf zl zk zj zt za zo zb po) _
  cases h
  exact OEnds.vret hm_9 rfl rfl
theorem ok_finishIncoming_1 {zd zg zu zs zp zq ze zh zf : List Int32} {zl zk zj zo zb : Int32} {c0 c1 c2 c3 c4 c5 c6 c7 c8 c9 c10 c11 c12 c13 c14 c15 : ACell} {po : List ACell} {zr zn : List Int32} {zm : List Int64} {zi zc : List Int32} {zt : Int64} {za v1 v2 v3 v4 v5 : Int32} {w_o_oRem w_o_oStatus : List Int32} {w_o_oStamp : List Int64} {w_o_oTop w_o_restIds : List Int32} {w_o_stampCounter : Int64} {w_o_restN : Int32} (h : f_finishIncoming zd zg zr zn zm zi zc zt za v1 v2 v3 v4 v5 = some (w_o_oRem, w_o_oStatus, w_o_oStamp, w_o_oTop, w_o_restIds, w_o_stampCounter, w_o_restN)) : OEnds own_P 9 0 [qr 16, qi v1, qi v2, qi v3, qi v4, qi v5, qu, qu] [] (c0 :: c1 :: c2 :: c3 :: c4 :: c5 :: c6 :: c7 :: c8 :: c9 :: c10 :: c11 :: c12 :: c13 :: c14 :: c15 :: bk1 zd zg zr zu zn zm zi zc zs zp zq ze zh zf zl zk zj zt za zo zb po) (none, (c0 :: c1 :: c2 :: c3 :: c4 :: c5 :: c6 :: c7 :: c8 :: c9 :: c10 :: c11 :: c12 :: c13 :: c14 :: c15 :: bk1 zd zg w_o_oRem zu w_o_oStatus w_o_oStamp w_o_oTop w_o_restIds zs zp zq ze zh zf zl zk zj w_o_stampCounter w_o_restN zo zb po), 0, 0) := by
  unfold f_finishIncoming at h
  refine OEnds.adv hm_9 1 (pc' := 2) (L' := [qr 16, qi v1, qi v2, qi v3, qi v4, qi v5, qu, qu]) (S' := [.int v4]) (H' := (c0 :: c1 :: c2 :: c3 :: c4 :: c5 :: c6 :: c7 :: c8 :: c9 :: c10 :: c11 :: c12 :: c13 :: c14 :: c15 :: bk1 zd zg zr zu zn zm zi zc zs zp zq ze zh zf zl zk zj zt za zo zb po)) rfl ?_
  by_cases hc182 : v4 = (0 : Int32)
  · simp only [if_pos hc182] at h
    refine OEnds.ifF hm_9 rfl ((teq hc182).2) ?_
    refine OEnds.adv hm_9 4 (pc' := 11) (L' := [qr 16, qi v1, qi v2, qi v3, qi v4, qi v5, qu, qu]) (S' := [.int 2, .int v1, .ref 21]) (H' := (c0 :: c1 :: c2 :: c3 :: c4 :: c5 :: c6 :: c7 :: c8 :: c9 :: c10 :: c11 :: c12 :: c13 :: c14 :: c15 :: bk1 zd zg zr zu zn zm zi zc zs zp zq ze zh zf zl zk zj zt za zo zb po)) rfl ?_
    obtain ⟨A113, hA113, h⟩ := bnd h
    refine OEnds.plain hm_9 rfl rfl (x_iastore rfl (Nat.le_of_ble_eq_true rfl) hA113) ?_
    refine OEnds.adv hm_9 4 (pc' := 18) (L' := [qr 16, qi v1, qi v2, qi v3, qi v4, qi v5, qu, qu]) (S' := [.int 0, .int v1, .ref 19]) (H' := (c0 :: c1 :: c2 :: c3 :: c4 :: c5 :: c6 :: c7 :: c8 :: c9 :: c10 :: c11 :: c12 :: c13 :: c14 :: c15 :: bk1 zd zg zr zu A113 zm zi zc zs zp zq ze zh zf zl zk zj zt za zo zb po)) rfl ?_
    obtain ⟨A114, hA114, h⟩ := bnd h
    refine OEnds.plain hm_9 rfl rfl (x_iastore rfl (Nat.le_of_ble_eq_true rfl) hA114) ?_
    show OEnds own_P 9 19 [qr 16, qi v1, qi v2, qi v3, qi v4, qi v5, qu, qu] [] (c0 :: c1 :: c2 :: c3 :: c4 :: c5 :: c6 :: c7 :: c8 :: c9 :: c10 :: c11 :: c12 :: c13 :: c14 :: c15 :: bk1 zd zg A114 zu A113 zm zi zc zs zp zq ze zh zf zl zk zj zt za zo zb po) _
    cases h
    exact OEnds.vret hm_9 rfl rfl
  · simp only [if_neg hc182] at h
    refine OEnds.ifT hm_9 rfl (q := 20) rfl ((feq hc182).2) ?_
    refine OEnds.adv hm_9 2 (pc' := 23) (L' := [qr 16, qi v1, qi v2, qi v3, qi v4, qi v5, qu, qu]) (S' := [.int 1, .int v5]) (H' := (c0 :: c1 :: c2 :: c3 :: c4 :: c5 :: c6 :: c7 :: c8 :: c9 :: c10 :: c11 :: c12 :: c13 :: c14 :: c15 :: bk1 zd zg zr zu zn zm zi zc zs zp zq ze zh zf zl zk zj zt za zo zb po)) rfl ?_
    by_cases hc183 : v5 = (1 : Int32)
    · simp only [if_pos hc183] at h
      refine OEnds.icmpT hm_9 rfl (q := 35) rfl ((teq hc183).1) ?_
      show OEnds own_P 9 35 [qr 16, qi v1, qi v2, qi v3, qi v4, qi v5, qu, qu] [] (c0 :: c1 :: c2 :: c3 :: c4 :: c5 :: c6 :: c7 :: c8 :: c9 :: c10 :: c11 :: c12 :: c13 :: c14 :: c15 :: bk1 zd zg zr zu zn zm zi zc zs zp zq ze zh zf zl zk zj zt za zo zb po) _
      exact ok_finishIncoming_35_1 h
    · simp only [if_neg hc183] at h
      refine OEnds.icmpF hm_9 rfl ((feq hc183).1) ?_
      refine OEnds.adv hm_9 3 (pc' := 32) (L' := [qr 16, qi v1, qi v2, qi v3, qi v4, qi v5, qu, qu]) (S' := [.int 64, .int za]) (H' := (c0 :: c1 :: c2 :: c3 :: c4 :: c5 :: c6 :: c7 :: c8 :: c9 :: c10 :: c11 :: c12 :: c13 :: c14 :: c15 :: bk1 zd zg zr zu zn zm zi zc zs zp zq ze zh zf zl zk zj zt za zo zb po)) rfl ?_
      by_cases hc184 : za < (64 : Int32)
      · simp only [if_pos hc184] at h
        refine OEnds.icmpT hm_9 rfl (q := 50) rfl ((tlt hc184).1) ?_
        refine OEnds.adv hm_9 2 (pc' := 52) (L' := [qr 16, qi v1, qi v2, qi v3, qi v4, qi v5, qu, qu]) (S' := [.int v2, .ref 16]) (H' := (c0 :: c1 :: c2 :: c3 :: c4 :: c5 :: c6 :: c7 :: c8 :: c9 :: c10 :: c11 :: c12 :: c13 :: c14 :: c15 :: bk1 zd zg zr zu zn zm zi zc zs zp zq ze zh zf zl zk zj zt za zo zb po)) rfl ?_
        obtain ⟨r111, hq185, h⟩ := bnd h
        refine OEnds.call0 hm_9 rfl rfl (by decide) rfl (as := [.ref 16, .int v2]) (rest := []) rfl rfl (ok_bestOf_1 hq185) ?_
        refine OEnds.adv hm_9 2 (pc' := 59) (L' := [qr 16, qi v1, qi v2, qi v3, qi v4, qi v5, qi r111, qu]) (S' := [.int r111]) (H' := (c0 :: c1 :: c2 :: c3 :: c4 :: c5 :: c6 :: c7 :: c8 :: c9 :: c10 :: c11 :: c12 :: c13 :: c14 :: c15 :: bk1 zd zg zr zu zn zm zi zc zs zp zq ze zh zf zl zk zj zt za zo zb po)) rfl ?_
        by_cases hc186 : r111 = (0 : Int32)
        · simp only [if_pos hc186] at h
          refine OEnds.ifT hm_9 rfl (q := 73) rfl ((teq hc186).1) ?_
          refine OEnds.adv hm_9 2 (pc' := 78) (L' := [qr 16, qi v1, qi v2, qi v3, qi v4, qi v5, qi r111, qu]) (S' := [.int 1]) (H' := (c0 :: c1 :: c2 :: c3 :: c4 :: c5 :: c6 :: c7 :: c8 :: c9 :: c10 :: c11 :: c12 :: c13 :: c14 :: c15 :: bk1 zd zg zr zu zn zm zi zc zs zp zq ze zh zf zl zk zj zt za zo zb po)) rfl ?_
          exact ok_finishIncoming_78_1 h
        · simp only [if_neg hc186] at h
          refine OEnds.ifF hm_9 rfl ((feq hc186).1) ?_
          refine OEnds.adv hm_9 4 (pc' := 67) (L' := [qr 16, qi v1, qi v2, qi v3, qi v4, qi v5, qi r111, qu]) (S' := [.int r111, .int v3, .int v2, .ref 16]) (H' := (c0 :: c1 :: c2 :: c3 :: c4 :: c5 :: c6 :: c7 :: c8 :: c9 :: c10 :: c11 :: c12 :: c13 :: c14 :: c15 :: bk1 zd zg zr zu zn zm zi zc zs zp zq ze zh zf zl zk zj zt za zo zb po)) rfl ?_
          obtain ⟨r112, hq187, h⟩ := bnd h
          refine OEnds.call0 hm_9 rfl rfl (by decide) rfl (as := [.ref 16, .int v2, .int v3, .int r111]) (rest := []) rfl rfl (ok_better_1 hq187) ?_
          show OEnds own_P 9 70 [qr 16, qi v1, qi v2, qi v3, qi v4, qi v5, qi r111, qu] [.int r112] (c0 :: c1 :: c2 :: c3 :: c4 :: c5 :: c6 :: c7 :: c8 :: c9 :: c10 :: c11 :: c12 :: c13 :: c14 :: c15 :: bk1 zd zg zr zu zn zm zi zc zs zp zq ze zh zf zl zk zj zt za zo zb po) _
          by_cases hc188 : r112 = (0 : Int32)
          · simp only [if_pos hc188] at h
            refine OEnds.ifT hm_9 rfl (q := 77) rfl ((teq hc188).1) ?_
            refine OEnds.adv hm_9 1 (pc' := 78) (L' := [qr 16, qi v1, qi v2, qi v3, qi v4, qi v5, qi r111, qu]) (S' := [.int 0]) (H' := (c0 :: c1 :: c2 :: c3 :: c4 :: c5 :: c6 :: c7 :: c8 :: c9 :: c10 :: c11 :: c12 :: c13 :: c14 :: c15 :: bk1 zd zg zr zu zn zm zi zc zs zp zq ze zh zf zl zk zj zt za zo zb po)) rfl ?_
            exact ok_finishIncoming_78_1 h
          · simp only [if_neg hc188] at h
            refine OEnds.ifF hm_9 rfl ((feq hc188).1) ?_
            refine OEnds.adv hm_9 2 (pc' := 78) (L' := [qr 16, qi v1, qi v2, qi v3, qi v4, qi v5, qi r111, qu]) (S' := [.int 1]) (H' := (c0 :: c1 :: c2 :: c3 :: c4 :: c5 :: c6 :: c7 :: c8 :: c9 :: c10 :: c11 :: c12 :: c13 :: c14 :: c15 :: bk1 zd zg zr zu zn zm zi zc zs zp zq ze zh zf zl zk zj zt za zo zb po)) rfl ?_
            exact ok_finishIncoming_78_1 h
      · simp only [if_neg hc184] at h
        refine OEnds.icmpF hm_9 rfl ((flt hc184).1) ?_
        show OEnds own_P 9 35 [qr 16, qi v1, qi v2, qi v3, qi v4, qi v5, qu, qu] [] (c0 :: c1 :: c2 :: c3 :: c4 :: c5 :: c6 :: c7 :: c8 :: c9 :: c10 :: c11 :: c12 :: c13 :: c14 :: c15 :: bk1 zd zg zr zu zn zm zi zc zs zp zq ze zh zf zl zk zj zt za zo zb po) _
        exact ok_finishIncoming_35_1 h
theorem ok_submit_55_1 {zl zk : Int32} {c0 c1 c2 c3 c4 c5 c6 c7 c8 c9 c10 c11 c12 c13 c14 c15 : ACell} {po : List ACell} : ∀ {zd zg zr zu zn : List Int32} {zm : List Int64} {zi zc zs zp zq ze zh zf : List Int32} {zj : Int32} {zt : Int64} {za zo zb v1 v2 v3 v4 : Int32} {d5 d6 : Slot} {res : Int32} {w_o_oSide w_o_oPrice w_o_oRem w_o_oFilled w_o_oStatus : List Int32} {w_o_oStamp : List Int64} {w_o_oTop w_o_restIds w_o_fIds w_o_fQty w_o_fPrice w_o_lvlIds w_o_lvlR w_o_lvlA : List Int32} {w_o_accepted : Int32} {w_o_stampCounter : Int64} {w_o_restN w_o_fN : Int32} {w_o_lvlN : Int32}, f_submit_55 zl zk zd zg zr zu zn zm zi zc zs zp zq ze zh zf zj zt za zo zb v1 v2 v3 v4 = some (res, w_o_oSide, w_o_oPrice, w_o_oRem, w_o_oFilled, w_o_oStatus, w_o_oStamp, w_o_oTop, w_o_restIds, w_o_fIds, w_o_fQty, w_o_fPrice, w_o_lvlIds, w_o_lvlR, w_o_lvlA, w_o_accepted, w_o_stampCounter, w_o_restN, w_o_fN, w_o_lvlN) → OEnds own_P 3 55 [qr 16, qi v1, qi v2, qi v3, qi v4, d5, d6] [] (c0 :: c1 :: c2 :: c3 :: c4 :: c5 :: c6 :: c7 :: c8 :: c9 :: c10 :: c11 :: c12 :: c13 :: c14 :: c15 :: bk1 zd zg zr zu zn zm zi zc zs zp zq ze zh zf zl zk zj zt za zo zb po) (some (.int res), (c0 :: c1 :: c2 :: c3 :: c4 :: c5 :: c6 :: c7 :: c8 :: c9 :: c10 :: c11 :: c12 :: c13 :: c14 :: c15 :: bk1 w_o_oSide w_o_oPrice w_o_oRem w_o_oFilled w_o_oStatus w_o_oStamp w_o_oTop w_o_restIds w_o_fIds w_o_fQty w_o_fPrice w_o_lvlIds w_o_lvlR w_o_lvlA zl zk w_o_accepted w_o_stampCounter w_o_restN w_o_fN w_o_lvlN po), 0, 0) := by
  intro zd zg zr zu zn zm zi zc zs zp zq ze zh zf zj zt za zo zb v1 v2 v3 v4 d5 d6 res w_o_oSide w_o_oPrice w_o_oRem w_o_oFilled w_o_oStatus w_o_oStamp w_o_oTop w_o_restIds w_o_fIds w_o_fQty w_o_fPrice w_o_lvlIds w_o_lvlR w_o_lvlA w_o_accepted w_o_stampCounter w_o_restN w_o_fN w_o_lvlN h
  unfold f_submit_55 at h
  refine OEnds.adv hm_3 3 (pc' := 62) (L' := [qr 16, qi v1, qi v2, qi v3, qi v4, qu, qu]) (S' := [.int 255, .int zj]) (H' := (c0 :: c1 :: c2 :: c3 :: c4 :: c5 :: c6 :: c7 :: c8 :: c9 :: c10 :: c11 :: c12 :: c13 :: c14 :: c15 :: bk1 zd zg zr zu zn zm zi zc zs zp zq ze zh zf zl zk zj zt za zo zb po)) rfl ?_
  by_cases hc189 : zj < (255 : Int32)
  · simp only [if_pos hc189] at h
    refine OEnds.icmpT hm_3 rfl (q := 68) rfl ((tlt hc189).1) ?_
    refine OEnds.adv hm_3 16 (pc' := 96) (L' := [qr 16, qi v1, qi v2, qi v3, qi v4, qi (zj + (1 : Int32)), qu]) (S' := [.int v1, .int (zj + (1 : Int32)), .ref 17]) (H' := (c0 :: c1 :: c2 :: c3 :: c4 :: c5 :: c6 :: c7 :: c8 :: c9 :: c10 :: c11 :: c12 :: c13 :: c14 :: c15 :: bk1 zd zg zr zu zn zm zi zc zs zp zq ze zh zf zl zk (zj + (1 : Int32)) zt za 0 zb po)) rfl ?_
    obtain ⟨A123, hA123, h⟩ := bnd h
    refine OEnds.plain hm_3 rfl rfl (x_iastore rfl (Nat.le_of_ble_eq_true rfl) hA123) ?_
    refine OEnds.adv hm_3 4 (pc' := 104) (L' := [qr 16, qi v1, qi v2, qi v3, qi v4, qi (zj + (1 : Int32)), qu]) (S' := [.int v2, .int (zj + (1 : Int32)), .ref 18]) (H' := (c0 :: c1 :: c2 :: c3 :: c4 :: c5 :: c6 :: c7 :: c8 :: c9 :: c10 :: c11 :: c12 :: c13 :: c14 :: c15 :: bk1 A123 zg zr zu zn zm zi zc zs zp zq ze zh zf zl zk (zj + (1 : Int32)) zt za 0 zb po)) rfl ?_
    obtain ⟨A124, hA124, h⟩ := bnd h
    refine OEnds.plain hm_3 rfl rfl (x_iastore rfl (Nat.le_of_ble_eq_true rfl) hA124) ?_
    refine OEnds.adv hm_3 4 (pc' := 112) (L' := [qr 16, qi v1, qi v2, qi v3, qi v4, qi (zj + (1 : Int32)), qu]) (S' := [.int 0, .int (zj + (1 : Int32)), .ref 19]) (H' := (c0 :: c1 :: c2 :: c3 :: c4 :: c5 :: c6 :: c7 :: c8 :: c9 :: c10 :: c11 :: c12 :: c13 :: c14 :: c15 :: bk1 A123 A124 zr zu zn zm zi zc zs zp zq ze zh zf zl zk (zj + (1 : Int32)) zt za 0 zb po)) rfl ?_
    obtain ⟨A125, hA125, h⟩ := bnd h
    refine OEnds.plain hm_3 rfl rfl (x_iastore rfl (Nat.le_of_ble_eq_true rfl) hA125) ?_
    refine OEnds.adv hm_3 4 (pc' := 120) (L' := [qr 16, qi v1, qi v2, qi v3, qi v4, qi (zj + (1 : Int32)), qu]) (S' := [.int 0, .int (zj + (1 : Int32)), .ref 20]) (H' := (c0 :: c1 :: c2 :: c3 :: c4 :: c5 :: c6 :: c7 :: c8 :: c9 :: c10 :: c11 :: c12 :: c13 :: c14 :: c15 :: bk1 A123 A124 A125 zu zn zm zi zc zs zp zq ze zh zf zl zk (zj + (1 : Int32)) zt za 0 zb po)) rfl ?_
    obtain ⟨A126, hA126, h⟩ := bnd h
    refine OEnds.plain hm_3 rfl rfl (x_iastore rfl (Nat.le_of_ble_eq_true rfl) hA126) ?_
    refine OEnds.adv hm_3 4 (pc' := 128) (L' := [qr 16, qi v1, qi v2, qi v3, qi v4, qi (zj + (1 : Int32)), qu]) (S' := [.int 0, .int (zj + (1 : Int32)), .ref 23]) (H' := (c0 :: c1 :: c2 :: c3 :: c4 :: c5 :: c6 :: c7 :: c8 :: c9 :: c10 :: c11 :: c12 :: c13 :: c14 :: c15 :: bk1 A123 A124 A125 A126 zn zm zi zc zs zp zq ze zh zf zl zk (zj + (1 : Int32)) zt za 0 zb po)) rfl ?_
    obtain ⟨A127, hA127, h⟩ := bnd h
    refine OEnds.plain hm_3 rfl rfl (x_bastore rfl (Nat.le_of_ble_eq_true rfl) hA127) ?_
    refine OEnds.adv hm_3 4 (pc' := 136) (L' := [qr 16, qi v1, qi v2, qi v3, qi v4, qi (zj + (1 : Int32)), qu]) (S' := [.long 0, .int (zj + (1 : Int32)), .ref 22]) (H' := (c0 :: c1 :: c2 :: c3 :: c4 :: c5 :: c6 :: c7 :: c8 :: c9 :: c10 :: c11 :: c12 :: c13 :: c14 :: c15 :: bk1 A123 A124 A125 A126 zn zm A127 zc zs zp zq ze zh zf zl zk (zj + (1 : Int32)) zt za 0 zb po)) rfl ?_
    obtain ⟨A128, hA128, h⟩ := bnd h
    refine OEnds.plain hm_3 rfl rfl (x_lastore rfl (Nat.le_of_ble_eq_true rfl) hA128) ?_
    refine OEnds.adv hm_3 5 (pc' := 143) (L' := [qr 16, qi v1, qi v2, qi v3, qi v4, qi (zj + (1 : Int32)), qu]) (S' := [.int v3, .int v2, .int v1, .int (zj + (1 : Int32)), .ref 16]) (H' := (c0 :: c1 :: c2 :: c3 :: c4 :: c5 :: c6 :: c7 :: c8 :: c9 :: c10 :: c11 :: c12 :: c13 :: c14 :: c15 :: bk1 A123 A124 A125 A126 zn A128 A127 zc zs zp zq ze zh zf zl zk (zj + (1 : Int32)) zt za 0 zb po)) rfl ?_
    obtain ⟨⟨r129, s130, s131, s132, s133, s134, s135, s136, s137, s138, s139, s140, s141, s142, s143⟩, hq190, h⟩ := bnd h
    refine OEnds.call0 hm_3 rfl rfl (by decide) rfl (as := [.ref 16, .int (zj + (1 : Int32)), .int v1, .int v2, .int v3]) (rest := []) rfl rfl (ok_matchIncoming_1 hq190) ?_
    refine OEnds.adv hm_3 7 (pc' := 157) (L' := [qr 16, qi v1, qi v2, qi v3, qi v4, qi (zj + (1 : Int32)), qi r129]) (S' := [.int v4, .int r129, .int v2, .int v1, .int (zj + (1 : Int32)), .ref 16]) (H' := (c0 :: c1 :: c2 :: c3 :: c4 :: c5 :: c6 :: c7 :: c8 :: c9 :: c10 :: c11 :: c12 :: c13 :: c14 :: c15 :: bk1 A123 A124 s130 s131 s132 A128 s133 s134 s135 s136 s137 s138 s139 s140 zl zk (zj + (1 : Int32)) zt s141 s142 s143 po)) rfl ?_
    obtain ⟨⟨s144, s145, s146, s147, s148, s149, s150⟩, hq191, h⟩ := bnd h
    refine OEnds.call0 hm_3 rfl rfl (by decide) rfl (as := [.ref 16, .int (zj + (1 : Int32)), .int v1, .int v2, .int r129, .int v4]) (rest := []) rfl rfl (ok_finishIncoming_1 hq191) ?_
    refine OEnds.adv hm_3 1 (pc' := 162) (L' := [qr 16, qi v1, qi v2, qi v3, qi v4, qi (zj + (1 : Int32)), qi r129]) (S' := [.int (zj + (1 : Int32))]) (H' := (c0 :: c1 :: c2 :: c3 :: c4 :: c5 :: c6 :: c7 :: c8 :: c9 :: c10 :: c11 :: c12 :: c13 :: c14 :: c15 :: bk1 A123 A124 s144 s131 s145 s146 s147 s148 s135 s136 s137 s138 s139 s140 zl zk (zj + (1 : Int32)) s149 s150 s142 s143 po)) rfl ?_
    cases h
    exact OEnds.iret hm_3 rfl rfl
  · simp only [if_neg hc189] at h
    refine OEnds.icmpF hm_3 rfl ((flt hc189).1) ?_
    refine OEnds.adv hm_3 1 (pc' := 67) (L' := [qr 16, qi v1, qi v2, qi v3, qi v4, qu, qu]) (S' := [.int (-5)]) (H' := (c0 :: c1 :: c2 :: c3 :: c4 :: c5 :: c6 :: c7 :: c8 :: c9 :: c10 :: c11 :: c12 :: c13 :: c14 :: c15 :: bk1 zd zg zr zu zn zm zi zc zs zp zq ze zh zf zl zk zj zt za zo zb po)) rfl ?_
    cases h
    exact OEnds.iret hm_3 rfl rfl
theorem ok_submit_11_1 {zl zk : Int32} {c0 c1 c2 c3 c4 c5 c6 c7 c8 c9 c10 c11 c12 c13 c14 c15 : ACell} {po : List ACell} : ∀ {zd zg zr zu zn : List Int32} {zm : List Int64} {zi zc zs zp zq ze zh zf : List Int32} {zj : Int32} {zt : Int64} {za zo zb v1 v2 v3 v4 : Int32} {d5 d6 : Slot} {res : Int32} {w_o_oSide w_o_oPrice w_o_oRem w_o_oFilled w_o_oStatus : List Int32} {w_o_oStamp : List Int64} {w_o_oTop w_o_restIds w_o_fIds w_o_fQty w_o_fPrice w_o_lvlIds w_o_lvlR w_o_lvlA : List Int32} {w_o_accepted : Int32} {w_o_stampCounter : Int64} {w_o_restN w_o_fN : Int32} {w_o_lvlN : Int32}, f_submit_11 zl zk zd zg zr zu zn zm zi zc zs zp zq ze zh zf zj zt za zo zb v1 v2 v3 v4 = some (res, w_o_oSide, w_o_oPrice, w_o_oRem, w_o_oFilled, w_o_oStatus, w_o_oStamp, w_o_oTop, w_o_restIds, w_o_fIds, w_o_fQty, w_o_fPrice, w_o_lvlIds, w_o_lvlR, w_o_lvlA, w_o_accepted, w_o_stampCounter, w_o_restN, w_o_fN, w_o_lvlN) → OEnds own_P 3 11 [qr 16, qi v1, qi v2, qi v3, qi v4, d5, d6] [] (c0 :: c1 :: c2 :: c3 :: c4 :: c5 :: c6 :: c7 :: c8 :: c9 :: c10 :: c11 :: c12 :: c13 :: c14 :: c15 :: bk1 zd zg zr zu zn zm zi zc zs zp zq ze zh zf zl zk zj zt za zo zb po) (some (.int res), (c0 :: c1 :: c2 :: c3 :: c4 :: c5 :: c6 :: c7 :: c8 :: c9 :: c10 :: c11 :: c12 :: c13 :: c14 :: c15 :: bk1 w_o_oSide w_o_oPrice w_o_oRem w_o_oFilled w_o_oStatus w_o_oStamp w_o_oTop w_o_restIds w_o_fIds w_o_fQty w_o_fPrice w_o_lvlIds w_o_lvlR w_o_lvlA zl zk w_o_accepted w_o_stampCounter w_o_restN w_o_fN w_o_lvlN po), 0, 0) := by
  intro zd zg zr zu zn zm zi zc zs zp zq ze zh zf zj zt za zo zb v1 v2 v3 v4 d5 d6 res w_o_oSide w_o_oPrice w_o_oRem w_o_oFilled w_o_oStatus w_o_oStamp w_o_oTop w_o_restIds w_o_fIds w_o_fQty w_o_fPrice w_o_lvlIds w_o_lvlR w_o_lvlA w_o_accepted w_o_stampCounter w_o_restN w_o_fN w_o_lvlN h
  unfold f_submit_11 at h
  refine OEnds.adv hm_3 2 (pc' := 13) (L' := [qr 16, qi v1, qi v2, qi v3, qi v4, qu, qu]) (S' := [.int 1, .int v2]) (H' := (c0 :: c1 :: c2 :: c3 :: c4 :: c5 :: c6 :: c7 :: c8 :: c9 :: c10 :: c11 :: c12 :: c13 :: c14 :: c15 :: bk1 zd zg zr zu zn zm zi zc zs zp zq ze zh zf zl zk zj zt za zo zb po)) rfl ?_
  by_cases hc192 : v2 < (1 : Int32)
  · simp only [if_pos hc192] at h
    refine OEnds.icmpT hm_3 rfl (q := 23) rfl ((tlt hc192).1) ?_
    refine OEnds.adv hm_3 1 (pc' := 25) (L' := [qr 16, qi v1, qi v2, qi v3, qi v4, qu, qu]) (S' := [.int (-2)]) (H' := (c0 :: c1 :: c2 :: c3 :: c4 :: c5 :: c6 :: c7 :: c8 :: c9 :: c10 :: c11 :: c12 :: c13 :: c14 :: c15 :: bk1 zd zg zr zu zn zm zi zc zs zp zq ze zh zf zl zk zj zt za zo zb po)) rfl ?_
    cases h
    exact OEnds.iret hm_3 rfl rfl
  · simp only [if_neg hc192] at h
    refine OEnds.icmpF hm_3 rfl ((flt hc192).1) ?_
    refine OEnds.adv hm_3 2 (pc' := 20) (L' := [qr 16, qi v1, qi v2, qi v3, qi v4, qu, qu]) (S' := [.int 1000, .int v2]) (H' := (c0 :: c1 :: c2 :: c3 :: c4 :: c5 :: c6 :: c7 :: c8 :: c9 :: c10 :: c11 :: c12 :: c13 :: c14 :: c15 :: bk1 zd zg zr zu zn zm zi zc zs zp zq ze zh zf zl zk zj zt za zo zb po)) rfl ?_
    by_cases hc193 : (1000 : Int32) < v2
    · simp only [if_pos hc193] at h
      refine OEnds.icmpF hm_3 rfl ((tlt hc193).2.2.2) ?_
      refine OEnds.adv hm_3 1 (pc' := 25) (L' := [qr 16, qi v1, qi v2, qi v3, qi v4, qu, qu]) (S' := [.int (-2)]) (H' := (c0 :: c1 :: c2 :: c3 :: c4 :: c5 :: c6 :: c7 :: c8 :: c9 :: c10 :: c11 :: c12 :: c13 :: c14 :: c15 :: bk1 zd zg zr zu zn zm zi zc zs zp zq ze zh zf zl zk zj zt za zo zb po)) rfl ?_
      cases h
      exact OEnds.iret hm_3 rfl rfl
    · simp only [if_neg hc193] at h
      refine OEnds.icmpT hm_3 rfl (q := 26) rfl ((flt hc193).2.2.2) ?_
      refine OEnds.adv hm_3 2 (pc' := 28) (L' := [qr 16, qi v1, qi v2, qi v3, qi v4, qu, qu]) (S' := [.int 1, .int v3]) (H' := (c0 :: c1 :: c2 :: c3 :: c4 :: c5 :: c6 :: c7 :: c8 :: c9 :: c10 :: c11 :: c12 :: c13 :: c14 :: c15 :: bk1 zd zg zr zu zn zm zi zc zs zp zq ze zh zf zl zk zj zt za zo zb po)) rfl ?_
      by_cases hc194 : v3 < (1 : Int32)
      · simp only [if_pos hc194] at h
        refine OEnds.icmpT hm_3 rfl (q := 38) rfl ((tlt hc194).1) ?_
        refine OEnds.adv hm_3 1 (pc' := 40) (L' := [qr 16, qi v1, qi v2, qi v3, qi v4, qu, qu]) (S' := [.int (-3)]) (H' := (c0 :: c1 :: c2 :: c3 :: c4 :: c5 :: c6 :: c7 :: c8 :: c9 :: c10 :: c11 :: c12 :: c13 :: c14 :: c15 :: bk1 zd zg zr zu zn zm zi zc zs zp zq ze zh zf zl zk zj zt za zo zb po)) rfl ?_
        cases h
        exact OEnds.iret hm_3 rfl rfl
      · simp only [if_neg hc194] at h
        refine OEnds.icmpF hm_3 rfl ((flt hc194).1) ?_
        refine OEnds.adv hm_3 2 (pc' := 35) (L' := [qr 16, qi v1, qi v2, qi v3, qi v4, qu, qu]) (S' := [.int 10000, .int v3]) (H' := (c0 :: c1 :: c2 :: c3 :: c4 :: c5 :: c6 :: c7 :: c8 :: c9 :: c10 :: c11 :: c12 :: c13 :: c14 :: c15 :: bk1 zd zg zr zu zn zm zi zc zs zp zq ze zh zf zl zk zj zt za zo zb po)) rfl ?_
        by_cases hc195 : (10000 : Int32) < v3
        · simp only [if_pos hc195] at h
          refine OEnds.icmpF hm_3 rfl ((tlt hc195).2.2.2) ?_
          refine OEnds.adv hm_3 1 (pc' := 40) (L' := [qr 16, qi v1, qi v2, qi v3, qi v4, qu, qu]) (S' := [.int (-3)]) (H' := (c0 :: c1 :: c2 :: c3 :: c4 :: c5 :: c6 :: c7 :: c8 :: c9 :: c10 :: c11 :: c12 :: c13 :: c14 :: c15 :: bk1 zd zg zr zu zn zm zi zc zs zp zq ze zh zf zl zk zj zt za zo zb po)) rfl ?_
          cases h
          exact OEnds.iret hm_3 rfl rfl
        · simp only [if_neg hc195] at h
          refine OEnds.icmpT hm_3 rfl (q := 41) rfl ((flt hc195).2.2.2) ?_
          refine OEnds.adv hm_3 1 (pc' := 43) (L' := [qr 16, qi v1, qi v2, qi v3, qi v4, qu, qu]) (S' := [.int v4]) (H' := (c0 :: c1 :: c2 :: c3 :: c4 :: c5 :: c6 :: c7 :: c8 :: c9 :: c10 :: c11 :: c12 :: c13 :: c14 :: c15 :: bk1 zd zg zr zu zn zm zi zc zs zp zq ze zh zf zl zk zj zt za zo zb po)) rfl ?_
          by_cases hc196 : v4 = (0 : Int32)
          · simp only [if_pos hc196] at h
            refine OEnds.ifT hm_3 rfl (q := 55) rfl ((teq hc196).1) ?_
            show OEnds own_P 3 55 [qr 16, qi v1, qi v2, qi v3, qi v4, qu, qu] [] (c0 :: c1 :: c2 :: c3 :: c4 :: c5 :: c6 :: c7 :: c8 :: c9 :: c10 :: c11 :: c12 :: c13 :: c14 :: c15 :: bk1 zd zg zr zu zn zm zi zc zs zp zq ze zh zf zl zk zj zt za zo zb po) _
            exact ok_submit_55_1 h
          · simp only [if_neg hc196] at h
            refine OEnds.ifF hm_3 rfl ((feq hc196).1) ?_
            refine OEnds.adv hm_3 2 (pc' := 49) (L' := [qr 16, qi v1, qi v2, qi v3, qi v4, qu, qu]) (S' := [.int 1, .int v4]) (H' := (c0 :: c1 :: c2 :: c3 :: c4 :: c5 :: c6 :: c7 :: c8 :: c9 :: c10 :: c11 :: c12 :: c13 :: c14 :: c15 :: bk1 zd zg zr zu zn zm zi zc zs zp zq ze zh zf zl zk zj zt za zo zb po)) rfl ?_
            by_cases hc197 : v4 = (1 : Int32)
            · simp only [if_pos hc197] at h
              refine OEnds.icmpT hm_3 rfl (q := 55) rfl ((teq hc197).1) ?_
              show OEnds own_P 3 55 [qr 16, qi v1, qi v2, qi v3, qi v4, qu, qu] [] (c0 :: c1 :: c2 :: c3 :: c4 :: c5 :: c6 :: c7 :: c8 :: c9 :: c10 :: c11 :: c12 :: c13 :: c14 :: c15 :: bk1 zd zg zr zu zn zm zi zc zs zp zq ze zh zf zl zk zj zt za zo zb po) _
              exact ok_submit_55_1 h
            · simp only [if_neg hc197] at h
              refine OEnds.icmpF hm_3 rfl ((feq hc197).1) ?_
              refine OEnds.adv hm_3 1 (pc' := 54) (L' := [qr 16, qi v1, qi v2, qi v3, qi v4, qu, qu]) (S' := [.int (-4)]) (H' := (c0 :: c1 :: c2 :: c3 :: c4 :: c5 :: c6 :: c7 :: c8 :: c9 :: c10 :: c11 :: c12 :: c13 :: c14 :: c15 :: bk1 zd zg zr zu zn zm zi zc zs zp zq ze zh zf zl zk zj zt za zo zb po)) rfl ?_
              cases h
              exact OEnds.iret hm_3 rfl rfl
theorem ok_submit_1 {zl zk : Int32} {c0 c1 c2 c3 c4 c5 c6 c7 c8 c9 c10 c11 c12 c13 c14 c15 : ACell} {po : List ACell} {zd zg zr zu zn : List Int32} {zm : List Int64} {zi zc zs zp zq ze zh zf : List Int32} {zj : Int32} {zt : Int64} {za zo zb v1 v2 v3 v4 res : Int32} {w_o_oSide w_o_oPrice w_o_oRem w_o_oFilled w_o_oStatus : List Int32} {w_o_oStamp : List Int64} {w_o_oTop w_o_restIds w_o_fIds w_o_fQty w_o_fPrice w_o_lvlIds w_o_lvlR w_o_lvlA : List Int32} {w_o_accepted : Int32} {w_o_stampCounter : Int64} {w_o_restN w_o_fN w_o_lvlN : Int32} (h : f_submit zl zk zd zg zr zu zn zm zi zc zs zp zq ze zh zf zj zt za zo zb v1 v2 v3 v4 = some (res, w_o_oSide, w_o_oPrice, w_o_oRem, w_o_oFilled, w_o_oStatus, w_o_oStamp, w_o_oTop, w_o_restIds, w_o_fIds, w_o_fQty, w_o_fPrice, w_o_lvlIds, w_o_lvlR, w_o_lvlA, w_o_accepted, w_o_stampCounter, w_o_restN, w_o_fN, w_o_lvlN)) : OEnds own_P 3 0 [qr 16, qi v1, qi v2, qi v3, qi v4, qu, qu] [] (c0 :: c1 :: c2 :: c3 :: c4 :: c5 :: c6 :: c7 :: c8 :: c9 :: c10 :: c11 :: c12 :: c13 :: c14 :: c15 :: bk1 zd zg zr zu zn zm zi zc zs zp zq ze zh zf zl zk zj zt za zo zb po) (some (.int res), (c0 :: c1 :: c2 :: c3 :: c4 :: c5 :: c6 :: c7 :: c8 :: c9 :: c10 :: c11 :: c12 :: c13 :: c14 :: c15 :: bk1 w_o_oSide w_o_oPrice w_o_oRem w_o_oFilled w_o_oStatus w_o_oStamp w_o_oTop w_o_restIds w_o_fIds w_o_fQty w_o_fPrice w_o_lvlIds w_o_lvlR w_o_lvlA zl zk w_o_accepted w_o_stampCounter w_o_restN w_o_fN w_o_lvlN po), 0, 0) := by
  unfold f_submit at h
  refine OEnds.adv hm_3 1 (pc' := 1) (L' := [qr 16, qi v1, qi v2, qi v3, qi v4, qu, qu]) (S' := [.int v1]) (H' := (c0 :: c1 :: c2 :: c3 :: c4 :: c5 :: c6 :: c7 :: c8 :: c9 :: c10 :: c11 :: c12 :: c13 :: c14 :: c15 :: bk1 zd zg zr zu zn zm zi zc zs zp zq ze zh zf zl zk zj zt za zo zb po)) rfl ?_
  by_cases hc198 : v1 = (0 : Int32)
  · simp only [if_pos hc198] at h
    refine OEnds.ifT hm_3 rfl (q := 11) rfl ((teq hc198).1) ?_
    show OEnds own_P 3 11 [qr 16, qi v1, qi v2, qi v3, qi v4, qu, qu] [] (c0 :: c1 :: c2 :: c3 :: c4 :: c5 :: c6 :: c7 :: c8 :: c9 :: c10 :: c11 :: c12 :: c13 :: c14 :: c15 :: bk1 zd zg zr zu zn zm zi zc zs zp zq ze zh zf zl zk zj zt za zo zb po) _
    exact ok_submit_11_1 h
  · simp only [if_neg hc198] at h
    refine OEnds.ifF hm_3 rfl ((feq hc198).1) ?_
    refine OEnds.adv hm_3 2 (pc' := 6) (L' := [qr 16, qi v1, qi v2, qi v3, qi v4, qu, qu]) (S' := [.int 1, .int v1]) (H' := (c0 :: c1 :: c2 :: c3 :: c4 :: c5 :: c6 :: c7 :: c8 :: c9 :: c10 :: c11 :: c12 :: c13 :: c14 :: c15 :: bk1 zd zg zr zu zn zm zi zc zs zp zq ze zh zf zl zk zj zt za zo zb po)) rfl ?_
    by_cases hc199 : v1 = (1 : Int32)
    · simp only [if_pos hc199] at h
      refine OEnds.icmpT hm_3 rfl (q := 11) rfl ((teq hc199).1) ?_
      show OEnds own_P 3 11 [qr 16, qi v1, qi v2, qi v3, qi v4, qu, qu] [] (c0 :: c1 :: c2 :: c3 :: c4 :: c5 :: c6 :: c7 :: c8 :: c9 :: c10 :: c11 :: c12 :: c13 :: c14 :: c15 :: bk1 zd zg zr zu zn zm zi zc zs zp zq ze zh zf zl zk zj zt za zo zb po) _
      exact ok_submit_11_1 h
    · simp only [if_neg hc199] at h
      refine OEnds.icmpF hm_3 rfl ((feq hc199).1) ?_
      refine OEnds.adv hm_3 1 (pc' := 10) (L' := [qr 16, qi v1, qi v2, qi v3, qi v4, qu, qu]) (S' := [.int (-1)]) (H' := (c0 :: c1 :: c2 :: c3 :: c4 :: c5 :: c6 :: c7 :: c8 :: c9 :: c10 :: c11 :: c12 :: c13 :: c14 :: c15 :: bk1 zd zg zr zu zn zm zi zc zs zp zq ze zh zf zl zk zj zt za zo zb po)) rfl ?_
      cases h
      exact OEnds.iret hm_3 rfl rfl
theorem ok_L_step_1 {zar zas : Int32} {c0 c1 c2 c3 c4 c5 c6 c7 c8 c9 c10 c11 c12 c13 c14 c15 : ACell} {po : List ACell} {zw zx zah zac zz : List Int32} {zag : List Int64} {zai zab zad zae zaf zaz zba zbb : List Int32} {zv : Int32} {zbd : Int64} {zaa zy zbc v1 v2 v3 v4 v5 : Int32} {w_p0_oSide w_p0_oPrice w_p0_oRem w_p0_oFilled w_p0_oStatus : List Int32} {w_p0_oStamp : List Int64} {w_p0_oTop w_p0_restIds w_p0_fIds w_p0_fQty w_p0_fPrice w_p0_lvlIds w_p0_lvlR w_p0_lvlA : List Int32} {w_p0_accepted : Int32} {w_p0_stampCounter : Int64} {w_p0_restN w_p0_fN w_p0_lvlN : Int32} (h : f_L_step zar zas zw zx zah zac zz zag zai zab zad zae zaf zaz zba zbb zv zbd zaa zy zbc v1 v2 v3 v4 v5 = some (w_p0_oSide, w_p0_oPrice, w_p0_oRem, w_p0_oFilled, w_p0_oStatus, w_p0_oStamp, w_p0_oTop, w_p0_restIds, w_p0_fIds, w_p0_fQty, w_p0_fPrice, w_p0_lvlIds, w_p0_lvlR, w_p0_lvlA, w_p0_accepted, w_p0_stampCounter, w_p0_restN, w_p0_fN, w_p0_lvlN)) : OEnds own_P 2 0 [qr 16, qi v1, qi v2, qi v3, qi v4, qi v5] [] (c0 :: c1 :: c2 :: c3 :: c4 :: c5 :: c6 :: c7 :: c8 :: c9 :: c10 :: c11 :: c12 :: c13 :: c14 :: c15 :: bk1 zw zx zah zac zz zag zai zab zad zae zaf zaz zba zbb zar zas zv zbd zaa zy zbc po) (none, (c0 :: c1 :: c2 :: c3 :: c4 :: c5 :: c6 :: c7 :: c8 :: c9 :: c10 :: c11 :: c12 :: c13 :: c14 :: c15 :: bk1 w_p0_oSide w_p0_oPrice w_p0_oRem w_p0_oFilled w_p0_oStatus w_p0_oStamp w_p0_oTop w_p0_restIds w_p0_fIds w_p0_fQty w_p0_fPrice w_p0_lvlIds w_p0_lvlR w_p0_lvlA zar zas w_p0_accepted w_p0_stampCounter w_p0_restN w_p0_fN w_p0_lvlN po), 0, 0) := by
  unfold f_L_step at h
  refine OEnds.adv hm_2 2 (pc' := 2) (L' := [qr 16, qi v1, qi v2, qi v3, qi v4, qi v5]) (S' := [.int 1, .int v1]) (H' := (c0 :: c1 :: c2 :: c3 :: c4 :: c5 :: c6 :: c7 :: c8 :: c9 :: c10 :: c11 :: c12 :: c13 :: c14 :: c15 :: bk1 zw zx zah zac zz zag zai zab zad zae zaf zaz zba zbb zar zas zv zbd zaa zy zbc po)) rfl ?_
  by_cases hc200 : v1 = (1 : Int32)
  · simp only [if_pos hc200] at h
    refine OEnds.icmpF hm_2 rfl ((teq hc200).2) ?_
    refine OEnds.adv hm_2 2 (pc' := 7) (L' := [qr 16, qi v1, qi v2, qi v3, qi v4, qi v5]) (S' := [.int v2, .ref 16]) (H' := (c0 :: c1 :: c2 :: c3 :: c4 :: c5 :: c6 :: c7 :: c8 :: c9 :: c10 :: c11 :: c12 :: c13 :: c14 :: c15 :: bk1 zw zx zah zac zz zag zai zab zad zae zaf zaz zba zbb zar zas zv zbd zaa zy zbc po)) rfl ?_
    obtain ⟨⟨r176, s177, s178, s179, s180, s181⟩, hq201, h⟩ := bnd h
    refine OEnds.call0 hm_2 rfl rfl (by decide) rfl (as := [.ref 16, .int v2]) (rest := []) rfl rfl (ok_cancel_1 hq201) ?_
    refine OEnds.adv hm_2 2 (pc' := 40) (L' := [qr 16, qi v1, qi v2, qi v3, qi v4, qi v5]) (S' := []) (H' := (c0 :: c1 :: c2 :: c3 :: c4 :: c5 :: c6 :: c7 :: c8 :: c9 :: c10 :: c11 :: c12 :: c13 :: c14 :: c15 :: bk1 zw zx s177 zac s178 zag s179 s180 zad zae zaf zaz zba zbb zar zas zv zbd s181 zy zbc po)) rfl ?_
    cases h
    exact OEnds.vret hm_2 rfl rfl
  · simp only [if_neg hc200] at h
    refine OEnds.icmpT hm_2 rfl (q := 14) rfl ((feq hc200).2) ?_
    refine OEnds.adv hm_2 2 (pc' := 16) (L' := [qr 16, qi v1, qi v2, qi v3, qi v4, qi v5]) (S' := [.int 2, .int v1]) (H' := (c0 :: c1 :: c2 :: c3 :: c4 :: c5 :: c6 :: c7 :: c8 :: c9 :: c10 :: c11 :: c12 :: c13 :: c14 :: c15 :: bk1 zw zx zah zac zz zag zai zab zad zae zaf zaz zba zbb zar zas zv zbd zaa zy zbc po)) rfl ?_
    by_cases hc202 : v1 = (2 : Int32)
    · simp only [if_pos hc202] at h
      refine OEnds.icmpF hm_2 rfl ((teq hc202).2) ?_
      refine OEnds.adv hm_2 3 (pc' := 22) (L' := [qr 16, qi v1, qi v2, qi v3, qi v4, qi v5]) (S' := [.int v3, .int v2, .ref 16]) (H' := (c0 :: c1 :: c2 :: c3 :: c4 :: c5 :: c6 :: c7 :: c8 :: c9 :: c10 :: c11 :: c12 :: c13 :: c14 :: c15 :: bk1 zw zx zah zac zz zag zai zab zad zae zaf zaz zba zbb zar zas zv zbd zaa zy zbc po)) rfl ?_
      obtain ⟨⟨r171, s172, s173, s174, s175⟩, hq203, h⟩ := bnd h
      refine OEnds.call0 hm_2 rfl rfl (by decide) rfl (as := [.ref 16, .int v2, .int v3]) (rest := []) rfl rfl (ok_amend_1 hq203) ?_
      refine OEnds.adv hm_2 2 (pc' := 40) (L' := [qr 16, qi v1, qi v2, qi v3, qi v4, qi v5]) (S' := []) (H' := (c0 :: c1 :: c2 :: c3 :: c4 :: c5 :: c6 :: c7 :: c8 :: c9 :: c10 :: c11 :: c12 :: c13 :: c14 :: c15 :: bk1 zw zx s172 zac zz s173 s174 zab zad zae zaf zaz zba zbb zar zas zv s175 zaa zy zbc po)) rfl ?_
      cases h
      exact OEnds.vret hm_2 rfl rfl
    · simp only [if_neg hc202] at h
      refine OEnds.icmpT hm_2 rfl (q := 29) rfl ((feq hc202).2) ?_
      refine OEnds.adv hm_2 5 (pc' := 36) (L' := [qr 16, qi v1, qi v2, qi v3, qi v4, qi v5]) (S' := [.int v5, .int v4, .int v3, .int v2, .ref 16]) (H' := (c0 :: c1 :: c2 :: c3 :: c4 :: c5 :: c6 :: c7 :: c8 :: c9 :: c10 :: c11 :: c12 :: c13 :: c14 :: c15 :: bk1 zw zx zah zac zz zag zai zab zad zae zaf zaz zba zbb zar zas zv zbd zaa zy zbc po)) rfl ?_
      obtain ⟨⟨r151, s152, s153, s154, s155, s156, s157, s158, s159, s160, s161, s162, s163, s164, s165, s166, s167, s168, s169, s170⟩, hq204, h⟩ := bnd h
      refine OEnds.call0 hm_2 rfl rfl (by decide) rfl (as := [.ref 16, .int v2, .int v3, .int v4, .int v5]) (rest := []) rfl rfl (ok_submit_1 hq204) ?_
      refine OEnds.adv hm_2 1 (pc' := 40) (L' := [qr 16, qi v1, qi v2, qi v3, qi v4, qi v5]) (S' := []) (H' := (c0 :: c1 :: c2 :: c3 :: c4 :: c5 :: c6 :: c7 :: c8 :: c9 :: c10 :: c11 :: c12 :: c13 :: c14 :: c15 :: bk1 s152 s153 s154 s155 s156 s157 s158 s159 s160 s161 s162 s163 s164 s165 zar zas s166 s167 s168 s169 s170 po)) rfl ?_
      cases h
      exact OEnds.vret hm_2 rfl rfl
theorem ok_status_0 {zd zg zr zu zn : List Int32} {zm : List Int64} {zi zc zs zp zq ze zh zf : List Int32} {zl zk zj : Int32} {zt : Int64} {za zo zb : Int32} {c0 : ACell} {po : List ACell} {v1 res : Int32} (h : f_status zn zj v1 = some res) : OEnds own_P 11 0 [qr 1, qi v1] [] (c0 :: bk0 zd zg zr zu zn zm zi zc zs zp zq ze zh zf zl zk zj zt za zo zb po) (some (.int res), (c0 :: bk0 zd zg zr zu zn zm zi zc zs zp zq ze zh zf zl zk zj zt za zo zb po), 0, 0) := by
  unfold f_status at h
  refine OEnds.adv hm_11 2 (pc' := 2) (L' := [qr 1, qi v1]) (S' := [.int 1, .int v1]) (H' := (c0 :: bk0 zd zg zr zu zn zm zi zc zs zp zq ze zh zf zl zk zj zt za zo zb po)) rfl ?_
  by_cases hc205 : v1 < (1 : Int32)
  · simp only [if_pos hc205] at h
    refine OEnds.icmpT hm_11 rfl (q := 13) rfl ((tlt hc205).1) ?_
    refine OEnds.adv hm_11 1 (pc' := 14) (L' := [qr 1, qi v1]) (S' := [.int 0]) (H' := (c0 :: bk0 zd zg zr zu zn zm zi zc zs zp zq ze zh zf zl zk zj zt za zo zb po)) rfl ?_
    cases h
    exact OEnds.iret hm_11 rfl rfl
  · simp only [if_neg hc205] at h
    refine OEnds.icmpF hm_11 rfl ((flt hc205).1) ?_
    refine OEnds.adv hm_11 3 (pc' := 10) (L' := [qr 1, qi v1]) (S' := [.int zj, .int v1]) (H' := (c0 :: bk0 zd zg zr zu zn zm zi zc zs zp zq ze zh zf zl zk zj zt za zo zb po)) rfl ?_
    by_cases hc206 : zj < v1
    · simp only [if_pos hc206] at h
      refine OEnds.icmpF hm_11 rfl ((tlt hc206).2.2.2) ?_
      refine OEnds.adv hm_11 1 (pc' := 14) (L' := [qr 1, qi v1]) (S' := [.int 0]) (H' := (c0 :: bk0 zd zg zr zu zn zm zi zc zs zp zq ze zh zf zl zk zj zt za zo zb po)) rfl ?_
      cases h
      exact OEnds.iret hm_11 rfl rfl
    · simp only [if_neg hc206] at h
      refine OEnds.icmpT hm_11 rfl (q := 15) rfl ((flt hc206).2.2.2) ?_
      refine OEnds.adv hm_11 3 (pc' := 20) (L' := [qr 1, qi v1]) (S' := [.int v1, .ref 6]) (H' := (c0 :: bk0 zd zg zr zu zn zm zi zc zs zp zq ze zh zf zl zk zj zt za zo zb po)) rfl ?_
      obtain ⟨x182, hx182, h⟩ := bnd h
      refine OEnds.plain hm_11 rfl rfl (x_iaload rfl hx182) ?_
      show OEnds own_P 11 21 [qr 1, qi v1] [.int x182] (c0 :: bk0 zd zg zr zu zn zm zi zc zs zp zq ze zh zf zl zk zj zt za zo zb po) _
      cases h
      exact OEnds.iret hm_11 rfl rfl
theorem ok_status_1 {zd zg zr zu zn : List Int32} {zm : List Int64} {zi zc zs zp zq ze zh zf : List Int32} {zl zk zj : Int32} {zt : Int64} {za zo zb : Int32} {c0 c1 c2 c3 c4 c5 c6 c7 c8 c9 c10 c11 c12 c13 c14 c15 : ACell} {po : List ACell} {v1 res : Int32} (h : f_status zn zj v1 = some res) : OEnds own_P 11 0 [qr 16, qi v1] [] (c0 :: c1 :: c2 :: c3 :: c4 :: c5 :: c6 :: c7 :: c8 :: c9 :: c10 :: c11 :: c12 :: c13 :: c14 :: c15 :: bk1 zd zg zr zu zn zm zi zc zs zp zq ze zh zf zl zk zj zt za zo zb po) (some (.int res), (c0 :: c1 :: c2 :: c3 :: c4 :: c5 :: c6 :: c7 :: c8 :: c9 :: c10 :: c11 :: c12 :: c13 :: c14 :: c15 :: bk1 zd zg zr zu zn zm zi zc zs zp zq ze zh zf zl zk zj zt za zo zb po), 0, 0) := by
  unfold f_status at h
  refine OEnds.adv hm_11 2 (pc' := 2) (L' := [qr 16, qi v1]) (S' := [.int 1, .int v1]) (H' := (c0 :: c1 :: c2 :: c3 :: c4 :: c5 :: c6 :: c7 :: c8 :: c9 :: c10 :: c11 :: c12 :: c13 :: c14 :: c15 :: bk1 zd zg zr zu zn zm zi zc zs zp zq ze zh zf zl zk zj zt za zo zb po)) rfl ?_
  by_cases hc207 : v1 < (1 : Int32)
  · simp only [if_pos hc207] at h
    refine OEnds.icmpT hm_11 rfl (q := 13) rfl ((tlt hc207).1) ?_
    refine OEnds.adv hm_11 1 (pc' := 14) (L' := [qr 16, qi v1]) (S' := [.int 0]) (H' := (c0 :: c1 :: c2 :: c3 :: c4 :: c5 :: c6 :: c7 :: c8 :: c9 :: c10 :: c11 :: c12 :: c13 :: c14 :: c15 :: bk1 zd zg zr zu zn zm zi zc zs zp zq ze zh zf zl zk zj zt za zo zb po)) rfl ?_
    cases h
    exact OEnds.iret hm_11 rfl rfl
  · simp only [if_neg hc207] at h
    refine OEnds.icmpF hm_11 rfl ((flt hc207).1) ?_
    refine OEnds.adv hm_11 3 (pc' := 10) (L' := [qr 16, qi v1]) (S' := [.int zj, .int v1]) (H' := (c0 :: c1 :: c2 :: c3 :: c4 :: c5 :: c6 :: c7 :: c8 :: c9 :: c10 :: c11 :: c12 :: c13 :: c14 :: c15 :: bk1 zd zg zr zu zn zm zi zc zs zp zq ze zh zf zl zk zj zt za zo zb po)) rfl ?_
    by_cases hc208 : zj < v1
    · simp only [if_pos hc208] at h
      refine OEnds.icmpF hm_11 rfl ((tlt hc208).2.2.2) ?_
      refine OEnds.adv hm_11 1 (pc' := 14) (L' := [qr 16, qi v1]) (S' := [.int 0]) (H' := (c0 :: c1 :: c2 :: c3 :: c4 :: c5 :: c6 :: c7 :: c8 :: c9 :: c10 :: c11 :: c12 :: c13 :: c14 :: c15 :: bk1 zd zg zr zu zn zm zi zc zs zp zq ze zh zf zl zk zj zt za zo zb po)) rfl ?_
      cases h
      exact OEnds.iret hm_11 rfl rfl
    · simp only [if_neg hc208] at h
      refine OEnds.icmpT hm_11 rfl (q := 15) rfl ((flt hc208).2.2.2) ?_
      refine OEnds.adv hm_11 3 (pc' := 20) (L' := [qr 16, qi v1]) (S' := [.int v1, .ref 21]) (H' := (c0 :: c1 :: c2 :: c3 :: c4 :: c5 :: c6 :: c7 :: c8 :: c9 :: c10 :: c11 :: c12 :: c13 :: c14 :: c15 :: bk1 zd zg zr zu zn zm zi zc zs zp zq ze zh zf zl zk zj zt za zo zb po)) rfl ?_
      obtain ⟨x182, hx182, h⟩ := bnd h
      refine OEnds.plain hm_11 rfl rfl (x_iaload rfl hx182) ?_
      show OEnds own_P 11 21 [qr 16, qi v1] [.int x182] (c0 :: c1 :: c2 :: c3 :: c4 :: c5 :: c6 :: c7 :: c8 :: c9 :: c10 :: c11 :: c12 :: c13 :: c14 :: c15 :: bk1 zd zg zr zu zn zm zi zc zs zp zq ze zh zf zl zk zj zt za zo zb po) _
      cases h
      exact OEnds.iret hm_11 rfl rfl
theorem ok_remaining_0 {zd zg zr zu zn : List Int32} {zm : List Int64} {zi zc zs zp zq ze zh zf : List Int32} {zl zk zj : Int32} {zt : Int64} {za zo zb : Int32} {c0 : ACell} {po : List ACell} {v1 res : Int32} (h : f_remaining zr zn zj v1 = some res) : OEnds own_P 12 0 [qr 1, qi v1] [] (c0 :: bk0 zd zg zr zu zn zm zi zc zs zp zq ze zh zf zl zk zj zt za zo zb po) (some (.int res), (c0 :: bk0 zd zg zr zu zn zm zi zc zs zp zq ze zh zf zl zk zj zt za zo zb po), 0, 0) := by
  unfold f_remaining at h
  refine OEnds.adv hm_12 2 (pc' := 2) (L' := [qr 1, qi v1]) (S' := [.int v1, .ref 1]) (H' := (c0 :: bk0 zd zg zr zu zn zm zi zc zs zp zq ze zh zf zl zk zj zt za zo zb po)) rfl ?_
  obtain ⟨r183, hq209, h⟩ := bnd h
  refine OEnds.call0 hm_12 rfl rfl (by decide) rfl (as := [.ref 1, .int v1]) (rest := []) rfl rfl (ok_isResting_0 hq209) ?_
  show OEnds own_P 12 5 [qr 1, qi v1] [.int r183] (c0 :: bk0 zd zg zr zu zn zm zi zc zs zp zq ze zh zf zl zk zj zt za zo zb po) _
  by_cases hc210 : r183 = (0 : Int32)
  · simp only [if_pos hc210] at h
    refine OEnds.ifF hm_12 rfl ((teq hc210).2) ?_
    refine OEnds.adv hm_12 1 (pc' := 9) (L' := [qr 1, qi v1]) (S' := [.int 0]) (H' := (c0 :: bk0 zd zg zr zu zn zm zi zc zs zp zq ze zh zf zl zk zj zt za zo zb po)) rfl ?_
    cases h
    exact OEnds.iret hm_12 rfl rfl
  · simp only [if_neg hc210] at h
    refine OEnds.ifT hm_12 rfl (q := 10) rfl ((feq hc210).2) ?_
    refine OEnds.adv hm_12 3 (pc' := 15) (L' := [qr 1, qi v1]) (S' := [.int v1, .ref 4]) (H' := (c0 :: bk0 zd zg zr zu zn zm zi zc zs zp zq ze zh zf zl zk zj zt za zo zb po)) rfl ?_
    obtain ⟨x184, hx184, h⟩ := bnd h
    refine OEnds.plain hm_12 rfl rfl (x_iaload rfl hx184) ?_
    show OEnds own_P 12 16 [qr 1, qi v1] [.int x184] (c0 :: bk0 zd zg zr zu zn zm zi zc zs zp zq ze zh zf zl zk zj zt za zo zb po) _
    cases h
    exact OEnds.iret hm_12 rfl rfl
theorem ok_remaining_1 {zd zg zr zu zn : List Int32} {zm : List Int64} {zi zc zs zp zq ze zh zf : List Int32} {zl zk zj : Int32} {zt : Int64} {za zo zb : Int32} {c0 c1 c2 c3 c4 c5 c6 c7 c8 c9 c10 c11 c12 c13 c14 c15 : ACell} {po : List ACell} {v1 res : Int32} (h : f_remaining zr zn zj v1 = some res) : OEnds own_P 12 0 [qr 16, qi v1] [] (c0 :: c1 :: c2 :: c3 :: c4 :: c5 :: c6 :: c7 :: c8 :: c9 :: c10 :: c11 :: c12 :: c13 :: c14 :: c15 :: bk1 zd zg zr zu zn zm zi zc zs zp zq ze zh zf zl zk zj zt za zo zb po) (some (.int res), (c0 :: c1 :: c2 :: c3 :: c4 :: c5 :: c6 :: c7 :: c8 :: c9 :: c10 :: c11 :: c12 :: c13 :: c14 :: c15 :: bk1 zd zg zr zu zn zm zi zc zs zp zq ze zh zf zl zk zj zt za zo zb po), 0, 0) := by
  unfold f_remaining at h
  refine OEnds.adv hm_12 2 (pc' := 2) (L' := [qr 16, qi v1]) (S' := [.int v1, .ref 16]) (H' := (c0 :: c1 :: c2 :: c3 :: c4 :: c5 :: c6 :: c7 :: c8 :: c9 :: c10 :: c11 :: c12 :: c13 :: c14 :: c15 :: bk1 zd zg zr zu zn zm zi zc zs zp zq ze zh zf zl zk zj zt za zo zb po)) rfl ?_
  obtain ⟨r183, hq211, h⟩ := bnd h
  refine OEnds.call0 hm_12 rfl rfl (by decide) rfl (as := [.ref 16, .int v1]) (rest := []) rfl rfl (ok_isResting_1 hq211) ?_
  show OEnds own_P 12 5 [qr 16, qi v1] [.int r183] (c0 :: c1 :: c2 :: c3 :: c4 :: c5 :: c6 :: c7 :: c8 :: c9 :: c10 :: c11 :: c12 :: c13 :: c14 :: c15 :: bk1 zd zg zr zu zn zm zi zc zs zp zq ze zh zf zl zk zj zt za zo zb po) _
  by_cases hc212 : r183 = (0 : Int32)
  · simp only [if_pos hc212] at h
    refine OEnds.ifF hm_12 rfl ((teq hc212).2) ?_
    refine OEnds.adv hm_12 1 (pc' := 9) (L' := [qr 16, qi v1]) (S' := [.int 0]) (H' := (c0 :: c1 :: c2 :: c3 :: c4 :: c5 :: c6 :: c7 :: c8 :: c9 :: c10 :: c11 :: c12 :: c13 :: c14 :: c15 :: bk1 zd zg zr zu zn zm zi zc zs zp zq ze zh zf zl zk zj zt za zo zb po)) rfl ?_
    cases h
    exact OEnds.iret hm_12 rfl rfl
  · simp only [if_neg hc212] at h
    refine OEnds.ifT hm_12 rfl (q := 10) rfl ((feq hc212).2) ?_
    refine OEnds.adv hm_12 3 (pc' := 15) (L' := [qr 16, qi v1]) (S' := [.int v1, .ref 19]) (H' := (c0 :: c1 :: c2 :: c3 :: c4 :: c5 :: c6 :: c7 :: c8 :: c9 :: c10 :: c11 :: c12 :: c13 :: c14 :: c15 :: bk1 zd zg zr zu zn zm zi zc zs zp zq ze zh zf zl zk zj zt za zo zb po)) rfl ?_
    obtain ⟨x184, hx184, h⟩ := bnd h
    refine OEnds.plain hm_12 rfl rfl (x_iaload rfl hx184) ?_
    show OEnds own_P 12 16 [qr 16, qi v1] [.int x184] (c0 :: c1 :: c2 :: c3 :: c4 :: c5 :: c6 :: c7 :: c8 :: c9 :: c10 :: c11 :: c12 :: c13 :: c14 :: c15 :: bk1 zd zg zr zu zn zm zi zc zs zp zq ze zh zf zl zk zj zt za zo zb po) _
    cases h
    exact OEnds.iret hm_12 rfl rfl
theorem ok_filled_0 {zd zg zr zu zn : List Int32} {zm : List Int64} {zi zc zs zp zq ze zh zf : List Int32} {zl zk zj : Int32} {zt : Int64} {za zo zb : Int32} {c0 : ACell} {po : List ACell} {v1 res : Int32} (h : f_filled zu zj v1 = some res) : OEnds own_P 13 0 [qr 1, qi v1] [] (c0 :: bk0 zd zg zr zu zn zm zi zc zs zp zq ze zh zf zl zk zj zt za zo zb po) (some (.int res), (c0 :: bk0 zd zg zr zu zn zm zi zc zs zp zq ze zh zf zl zk zj zt za zo zb po), 0, 0) := by
  unfold f_filled at h
  refine OEnds.adv hm_13 2 (pc' := 2) (L' := [qr 1, qi v1]) (S' := [.int 1, .int v1]) (H' := (c0 :: bk0 zd zg zr zu zn zm zi zc zs zp zq ze zh zf zl zk zj zt za zo zb po)) rfl ?_
  by_cases hc213 : v1 < (1 : Int32)
  · simp only [if_pos hc213] at h
    refine OEnds.icmpT hm_13 rfl (q := 13) rfl ((tlt hc213).1) ?_
    refine OEnds.adv hm_13 1 (pc' := 14) (L' := [qr 1, qi v1]) (S' := [.int 0]) (H' := (c0 :: bk0 zd zg zr zu zn zm zi zc zs zp zq ze zh zf zl zk zj zt za zo zb po)) rfl ?_
    cases h
    exact OEnds.iret hm_13 rfl rfl
  · simp only [if_neg hc213] at h
    refine OEnds.icmpF hm_13 rfl ((flt hc213).1) ?_
    refine OEnds.adv hm_13 3 (pc' := 10) (L' := [qr 1, qi v1]) (S' := [.int zj, .int v1]) (H' := (c0 :: bk0 zd zg zr zu zn zm zi zc zs zp zq ze zh zf zl zk zj zt za zo zb po)) rfl ?_
    by_cases hc214 : zj < v1
    · simp only [if_pos hc214] at h
      refine OEnds.icmpF hm_13 rfl ((tlt hc214).2.2.2) ?_
      refine OEnds.adv hm_13 1 (pc' := 14) (L' := [qr 1, qi v1]) (S' := [.int 0]) (H' := (c0 :: bk0 zd zg zr zu zn zm zi zc zs zp zq ze zh zf zl zk zj zt za zo zb po)) rfl ?_
      cases h
      exact OEnds.iret hm_13 rfl rfl
    · simp only [if_neg hc214] at h
      refine OEnds.icmpT hm_13 rfl (q := 15) rfl ((flt hc214).2.2.2) ?_
      refine OEnds.adv hm_13 3 (pc' := 20) (L' := [qr 1, qi v1]) (S' := [.int v1, .ref 5]) (H' := (c0 :: bk0 zd zg zr zu zn zm zi zc zs zp zq ze zh zf zl zk zj zt za zo zb po)) rfl ?_
      obtain ⟨x185, hx185, h⟩ := bnd h
      refine OEnds.plain hm_13 rfl rfl (x_iaload rfl hx185) ?_
      show OEnds own_P 13 21 [qr 1, qi v1] [.int x185] (c0 :: bk0 zd zg zr zu zn zm zi zc zs zp zq ze zh zf zl zk zj zt za zo zb po) _
      cases h
      exact OEnds.iret hm_13 rfl rfl
theorem ok_filled_1 {zd zg zr zu zn : List Int32} {zm : List Int64} {zi zc zs zp zq ze zh zf : List Int32} {zl zk zj : Int32} {zt : Int64} {za zo zb : Int32} {c0 c1 c2 c3 c4 c5 c6 c7 c8 c9 c10 c11 c12 c13 c14 c15 : ACell} {po : List ACell} {v1 res : Int32} (h : f_filled zu zj v1 = some res) : OEnds own_P 13 0 [qr 16, qi v1] [] (c0 :: c1 :: c2 :: c3 :: c4 :: c5 :: c6 :: c7 :: c8 :: c9 :: c10 :: c11 :: c12 :: c13 :: c14 :: c15 :: bk1 zd zg zr zu zn zm zi zc zs zp zq ze zh zf zl zk zj zt za zo zb po) (some (.int res), (c0 :: c1 :: c2 :: c3 :: c4 :: c5 :: c6 :: c7 :: c8 :: c9 :: c10 :: c11 :: c12 :: c13 :: c14 :: c15 :: bk1 zd zg zr zu zn zm zi zc zs zp zq ze zh zf zl zk zj zt za zo zb po), 0, 0) := by
  unfold f_filled at h
  refine OEnds.adv hm_13 2 (pc' := 2) (L' := [qr 16, qi v1]) (S' := [.int 1, .int v1]) (H' := (c0 :: c1 :: c2 :: c3 :: c4 :: c5 :: c6 :: c7 :: c8 :: c9 :: c10 :: c11 :: c12 :: c13 :: c14 :: c15 :: bk1 zd zg zr zu zn zm zi zc zs zp zq ze zh zf zl zk zj zt za zo zb po)) rfl ?_
  by_cases hc215 : v1 < (1 : Int32)
  · simp only [if_pos hc215] at h
    refine OEnds.icmpT hm_13 rfl (q := 13) rfl ((tlt hc215).1) ?_
    refine OEnds.adv hm_13 1 (pc' := 14) (L' := [qr 16, qi v1]) (S' := [.int 0]) (H' := (c0 :: c1 :: c2 :: c3 :: c4 :: c5 :: c6 :: c7 :: c8 :: c9 :: c10 :: c11 :: c12 :: c13 :: c14 :: c15 :: bk1 zd zg zr zu zn zm zi zc zs zp zq ze zh zf zl zk zj zt za zo zb po)) rfl ?_
    cases h
    exact OEnds.iret hm_13 rfl rfl
  · simp only [if_neg hc215] at h
    refine OEnds.icmpF hm_13 rfl ((flt hc215).1) ?_
    refine OEnds.adv hm_13 3 (pc' := 10) (L' := [qr 16, qi v1]) (S' := [.int zj, .int v1]) (H' := (c0 :: c1 :: c2 :: c3 :: c4 :: c5 :: c6 :: c7 :: c8 :: c9 :: c10 :: c11 :: c12 :: c13 :: c14 :: c15 :: bk1 zd zg zr zu zn zm zi zc zs zp zq ze zh zf zl zk zj zt za zo zb po)) rfl ?_
    by_cases hc216 : zj < v1
    · simp only [if_pos hc216] at h
      refine OEnds.icmpF hm_13 rfl ((tlt hc216).2.2.2) ?_
      refine OEnds.adv hm_13 1 (pc' := 14) (L' := [qr 16, qi v1]) (S' := [.int 0]) (H' := (c0 :: c1 :: c2 :: c3 :: c4 :: c5 :: c6 :: c7 :: c8 :: c9 :: c10 :: c11 :: c12 :: c13 :: c14 :: c15 :: bk1 zd zg zr zu zn zm zi zc zs zp zq ze zh zf zl zk zj zt za zo zb po)) rfl ?_
      cases h
      exact OEnds.iret hm_13 rfl rfl
    · simp only [if_neg hc216] at h
      refine OEnds.icmpT hm_13 rfl (q := 15) rfl ((flt hc216).2.2.2) ?_
      refine OEnds.adv hm_13 3 (pc' := 20) (L' := [qr 16, qi v1]) (S' := [.int v1, .ref 20]) (H' := (c0 :: c1 :: c2 :: c3 :: c4 :: c5 :: c6 :: c7 :: c8 :: c9 :: c10 :: c11 :: c12 :: c13 :: c14 :: c15 :: bk1 zd zg zr zu zn zm zi zc zs zp zq ze zh zf zl zk zj zt za zo zb po)) rfl ?_
      obtain ⟨x185, hx185, h⟩ := bnd h
      refine OEnds.plain hm_13 rfl rfl (x_iaload rfl hx185) ?_
      show OEnds own_P 13 21 [qr 16, qi v1] [.int x185] (c0 :: c1 :: c2 :: c3 :: c4 :: c5 :: c6 :: c7 :: c8 :: c9 :: c10 :: c11 :: c12 :: c13 :: c14 :: c15 :: bk1 zd zg zr zu zn zm zi zc zs zp zq ze zh zf zl zk zj zt za zo zb po) _
      cases h
      exact OEnds.iret hm_13 rfl rfl
theorem ok_isTop_0 {zd zg zr zu zn : List Int32} {zm : List Int64} {zi zc zs zp zq ze zh zf : List Int32} {zl zk zj : Int32} {zt : Int64} {za zo zb : Int32} {c0 : ACell} {po : List ACell} {v1 res : Int32} (h : f_isTop zn zi zj v1 = some res) : OEnds own_P 14 0 [qr 1, qi v1] [] (c0 :: bk0 zd zg zr zu zn zm zi zc zs zp zq ze zh zf zl zk zj zt za zo zb po) (some (.int res), (c0 :: bk0 zd zg zr zu zn zm zi zc zs zp zq ze zh zf zl zk zj zt za zo zb po), 0, 0) := by
  unfold f_isTop at h
  refine OEnds.adv hm_14 2 (pc' := 2) (L' := [qr 1, qi v1]) (S' := [.int v1, .ref 1]) (H' := (c0 :: bk0 zd zg zr zu zn zm zi zc zs zp zq ze zh zf zl zk zj zt za zo zb po)) rfl ?_
  obtain ⟨r186, hq217, h⟩ := bnd h
  refine OEnds.call0 hm_14 rfl rfl (by decide) rfl (as := [.ref 1, .int v1]) (rest := []) rfl rfl (ok_isResting_0 hq217) ?_
  show OEnds own_P 14 5 [qr 1, qi v1] [.int r186] (c0 :: bk0 zd zg zr zu zn zm zi zc zs zp zq ze zh zf zl zk zj zt za zo zb po) _
  by_cases hc218 : r186 = (0 : Int32)
  · simp only [if_pos hc218] at h
    refine OEnds.ifT hm_14 rfl (q := 21) rfl ((teq hc218).1) ?_
    refine OEnds.adv hm_14 1 (pc' := 22) (L' := [qr 1, qi v1]) (S' := [.int 0]) (H' := (c0 :: bk0 zd zg zr zu zn zm zi zc zs zp zq ze zh zf zl zk zj zt za zo zb po)) rfl ?_
    cases h
    exact OEnds.iret hm_14 rfl rfl
  · simp only [if_neg hc218] at h
    refine OEnds.ifF hm_14 rfl ((feq hc218).1) ?_
    refine OEnds.adv hm_14 3 (pc' := 13) (L' := [qr 1, qi v1]) (S' := [.int v1, .ref 8]) (H' := (c0 :: bk0 zd zg zr zu zn zm zi zc zs zp zq ze zh zf zl zk zj zt za zo zb po)) rfl ?_
    obtain ⟨x187, hx187, h⟩ := bnd h
    refine OEnds.plain hm_14 rfl rfl (x_baload rfl hx187) ?_
    show OEnds own_P 14 14 [qr 1, qi v1] [.int x187] (c0 :: bk0 zd zg zr zu zn zm zi zc zs zp zq ze zh zf zl zk zj zt za zo zb po) _
    by_cases hc219 : x187 = (0 : Int32)
    · simp only [if_pos hc219] at h
      refine OEnds.ifT hm_14 rfl (q := 21) rfl ((teq hc219).1) ?_
      refine OEnds.adv hm_14 1 (pc' := 22) (L' := [qr 1, qi v1]) (S' := [.int 0]) (H' := (c0 :: bk0 zd zg zr zu zn zm zi zc zs zp zq ze zh zf zl zk zj zt za zo zb po)) rfl ?_
      cases h
      exact OEnds.iret hm_14 rfl rfl
    · simp only [if_neg hc219] at h
      refine OEnds.ifF hm_14 rfl ((feq hc219).1) ?_
      refine OEnds.adv hm_14 2 (pc' := 22) (L' := [qr 1, qi v1]) (S' := [.int 1]) (H' := (c0 :: bk0 zd zg zr zu zn zm zi zc zs zp zq ze zh zf zl zk zj zt za zo zb po)) rfl ?_
      cases h
      exact OEnds.iret hm_14 rfl rfl
theorem ok_isTop_1 {zd zg zr zu zn : List Int32} {zm : List Int64} {zi zc zs zp zq ze zh zf : List Int32} {zl zk zj : Int32} {zt : Int64} {za zo zb : Int32} {c0 c1 c2 c3 c4 c5 c6 c7 c8 c9 c10 c11 c12 c13 c14 c15 : ACell} {po : List ACell} {v1 res : Int32} (h : f_isTop zn zi zj v1 = some res) : OEnds own_P 14 0 [qr 16, qi v1] [] (c0 :: c1 :: c2 :: c3 :: c4 :: c5 :: c6 :: c7 :: c8 :: c9 :: c10 :: c11 :: c12 :: c13 :: c14 :: c15 :: bk1 zd zg zr zu zn zm zi zc zs zp zq ze zh zf zl zk zj zt za zo zb po) (some (.int res), (c0 :: c1 :: c2 :: c3 :: c4 :: c5 :: c6 :: c7 :: c8 :: c9 :: c10 :: c11 :: c12 :: c13 :: c14 :: c15 :: bk1 zd zg zr zu zn zm zi zc zs zp zq ze zh zf zl zk zj zt za zo zb po), 0, 0) := by
  unfold f_isTop at h
  refine OEnds.adv hm_14 2 (pc' := 2) (L' := [qr 16, qi v1]) (S' := [.int v1, .ref 16]) (H' := (c0 :: c1 :: c2 :: c3 :: c4 :: c5 :: c6 :: c7 :: c8 :: c9 :: c10 :: c11 :: c12 :: c13 :: c14 :: c15 :: bk1 zd zg zr zu zn zm zi zc zs zp zq ze zh zf zl zk zj zt za zo zb po)) rfl ?_
  obtain ⟨r186, hq220, h⟩ := bnd h
  refine OEnds.call0 hm_14 rfl rfl (by decide) rfl (as := [.ref 16, .int v1]) (rest := []) rfl rfl (ok_isResting_1 hq220) ?_
  show OEnds own_P 14 5 [qr 16, qi v1] [.int r186] (c0 :: c1 :: c2 :: c3 :: c4 :: c5 :: c6 :: c7 :: c8 :: c9 :: c10 :: c11 :: c12 :: c13 :: c14 :: c15 :: bk1 zd zg zr zu zn zm zi zc zs zp zq ze zh zf zl zk zj zt za zo zb po) _
  by_cases hc221 : r186 = (0 : Int32)
  · simp only [if_pos hc221] at h
    refine OEnds.ifT hm_14 rfl (q := 21) rfl ((teq hc221).1) ?_
    refine OEnds.adv hm_14 1 (pc' := 22) (L' := [qr 16, qi v1]) (S' := [.int 0]) (H' := (c0 :: c1 :: c2 :: c3 :: c4 :: c5 :: c6 :: c7 :: c8 :: c9 :: c10 :: c11 :: c12 :: c13 :: c14 :: c15 :: bk1 zd zg zr zu zn zm zi zc zs zp zq ze zh zf zl zk zj zt za zo zb po)) rfl ?_
    cases h
    exact OEnds.iret hm_14 rfl rfl
  · simp only [if_neg hc221] at h
    refine OEnds.ifF hm_14 rfl ((feq hc221).1) ?_
    refine OEnds.adv hm_14 3 (pc' := 13) (L' := [qr 16, qi v1]) (S' := [.int v1, .ref 23]) (H' := (c0 :: c1 :: c2 :: c3 :: c4 :: c5 :: c6 :: c7 :: c8 :: c9 :: c10 :: c11 :: c12 :: c13 :: c14 :: c15 :: bk1 zd zg zr zu zn zm zi zc zs zp zq ze zh zf zl zk zj zt za zo zb po)) rfl ?_
    obtain ⟨x187, hx187, h⟩ := bnd h
    refine OEnds.plain hm_14 rfl rfl (x_baload rfl hx187) ?_
    show OEnds own_P 14 14 [qr 16, qi v1] [.int x187] (c0 :: c1 :: c2 :: c3 :: c4 :: c5 :: c6 :: c7 :: c8 :: c9 :: c10 :: c11 :: c12 :: c13 :: c14 :: c15 :: bk1 zd zg zr zu zn zm zi zc zs zp zq ze zh zf zl zk zj zt za zo zb po) _
    by_cases hc222 : x187 = (0 : Int32)
    · simp only [if_pos hc222] at h
      refine OEnds.ifT hm_14 rfl (q := 21) rfl ((teq hc222).1) ?_
      refine OEnds.adv hm_14 1 (pc' := 22) (L' := [qr 16, qi v1]) (S' := [.int 0]) (H' := (c0 :: c1 :: c2 :: c3 :: c4 :: c5 :: c6 :: c7 :: c8 :: c9 :: c10 :: c11 :: c12 :: c13 :: c14 :: c15 :: bk1 zd zg zr zu zn zm zi zc zs zp zq ze zh zf zl zk zj zt za zo zb po)) rfl ?_
      cases h
      exact OEnds.iret hm_14 rfl rfl
    · simp only [if_neg hc222] at h
      refine OEnds.ifF hm_14 rfl ((feq hc222).1) ?_
      refine OEnds.adv hm_14 2 (pc' := 22) (L' := [qr 16, qi v1]) (S' := [.int 1]) (H' := (c0 :: c1 :: c2 :: c3 :: c4 :: c5 :: c6 :: c7 :: c8 :: c9 :: c10 :: c11 :: c12 :: c13 :: c14 :: c15 :: bk1 zd zg zr zu zn zm zi zc zs zp zq ze zh zf zl zk zj zt za zo zb po)) rfl ?_
      cases h
      exact OEnds.iret hm_14 rfl rfl
theorem ok_priorityRank_14_0 {zd zg zr zu zn : List Int32} {zm : List Int64} {zi zc zs zp zq ze zh zf : List Int32} {zl zk zj : Int32} {zt : Int64} {za zo zb : Int32} {c0 : ACell} {po : List ACell} : ∀ (n : Nat), ∀ {v1 v2 v3 : Int32} {d4 : Slot} {res : Int32}, f_priorityRank_14 zd zg zn zm zc zj za n v1 v2 v3 = some res → OEnds own_P 15 14 [qr 1, qi v1, qi v2, qi v3, d4] [] (c0 :: bk0 zd zg zr zu zn zm zi zc zs zp zq ze zh zf zl zk zj zt za zo zb po) (some (.int res), (c0 :: bk0 zd zg zr zu zn zm zi zc zs zp zq ze zh zf zl zk zj zt za zo zb po), 0, 0) := by
  intro n
  induction n with
  | zero => intro v1 v2 v3 d4 res h; cases h
  | succ n ih =>
    intro v1 v2 v3 d4 res h
    unfold f_priorityRank_14 at h
    refine OEnds.adv hm_15 3 (pc' := 19) (L' := [qr 1, qi v1, qi v2, qi v3, qu]) (S' := [.int za, .int v3]) (H' := (c0 :: bk0 zd zg zr zu zn zm zi zc zs zp zq ze zh zf zl zk zj zt za zo zb po)) rfl ?_
    by_cases hc223 : v3 < za
    · simp only [if_pos hc223] at h
      refine OEnds.icmpF hm_15 rfl ((tlt hc223).2.1) ?_
      refine OEnds.adv hm_15 3 (pc' := 27) (L' := [qr 1, qi v1, qi v2, qi v3, qu]) (S' := [.int v3, .ref 9]) (H' := (c0 :: bk0 zd zg zr zu zn zm zi zc zs zp zq ze zh zf zl zk zj zt za zo zb po)) rfl ?_
      obtain ⟨x189, hx189, h⟩ := bnd h
      refine OEnds.plain hm_15 rfl rfl (x_iaload rfl hx189) ?_
      refine OEnds.adv hm_15 4 (pc' := 36) (L' := [qr 1, qi v1, qi v2, qi v3, qi x189]) (S' := [.int x189, .ref 2]) (H' := (c0 :: bk0 zd zg zr zu zn zm zi zc zs zp zq ze zh zf zl zk zj zt za zo zb po)) rfl ?_
      obtain ⟨x190, hx190, h⟩ := bnd h
      refine OEnds.plain hm_15 rfl rfl (x_iaload rfl hx190) ?_
      refine OEnds.adv hm_15 3 (pc' := 42) (L' := [qr 1, qi v1, qi v2, qi v3, qi x189]) (S' := [.int v1, .ref 2, .int x190]) (H' := (c0 :: bk0 zd zg zr zu zn zm zi zc zs zp zq ze zh zf zl zk zj zt za zo zb po)) rfl ?_
      obtain ⟨x191, hx191, h⟩ := bnd h
      refine OEnds.plain hm_15 rfl rfl (x_iaload rfl hx191) ?_
      show OEnds own_P 15 43 [qr 1, qi v1, qi v2, qi v3, qi x189] [.int x191, .int x190] (c0 :: bk0 zd zg zr zu zn zm zi zc zs zp zq ze zh zf zl zk zj zt za zo zb po) _
      by_cases hc224 : x190 = x191
      · simp only [if_pos hc224] at h
        refine OEnds.icmpF hm_15 rfl ((teq hc224).2) ?_
        refine OEnds.adv hm_15 3 (pc' := 52) (L' := [qr 1, qi v1, qi v2, qi v3, qi x189]) (S' := [.int x189, .ref 3]) (H' := (c0 :: bk0 zd zg zr zu zn zm zi zc zs zp zq ze zh zf zl zk zj zt za zo zb po)) rfl ?_
        obtain ⟨x192, hx192, h⟩ := bnd h
        refine OEnds.plain hm_15 rfl rfl (x_iaload rfl hx192) ?_
        refine OEnds.adv hm_15 3 (pc' := 58) (L' := [qr 1, qi v1, qi v2, qi v3, qi x189]) (S' := [.int v1, .ref 3, .int x192]) (H' := (c0 :: bk0 zd zg zr zu zn zm zi zc zs zp zq ze zh zf zl zk zj zt za zo zb po)) rfl ?_
        obtain ⟨x193, hx193, h⟩ := bnd h
        refine OEnds.plain hm_15 rfl rfl (x_iaload rfl hx193) ?_
        show OEnds own_P 15 59 [qr 1, qi v1, qi v2, qi v3, qi x189] [.int x193, .int x192] (c0 :: bk0 zd zg zr zu zn zm zi zc zs zp zq ze zh zf zl zk zj zt za zo zb po) _
        by_cases hc225 : x192 = x193
        · simp only [if_pos hc225] at h
          refine OEnds.icmpF hm_15 rfl ((teq hc225).2) ?_
          refine OEnds.adv hm_15 3 (pc' := 68) (L' := [qr 1, qi v1, qi v2, qi v3, qi x189]) (S' := [.int x189, .ref 7]) (H' := (c0 :: bk0 zd zg zr zu zn zm zi zc zs zp zq ze zh zf zl zk zj zt za zo zb po)) rfl ?_
          obtain ⟨x194, hx194, h⟩ := bnd h
          refine OEnds.plain hm_15 rfl rfl (x_laload rfl hx194) ?_
          refine OEnds.adv hm_15 3 (pc' := 74) (L' := [qr 1, qi v1, qi v2, qi v3, qi x189]) (S' := [.int v1, .ref 7, .long x194]) (H' := (c0 :: bk0 zd zg zr zu zn zm zi zc zs zp zq ze zh zf zl zk zj zt za zo zb po)) rfl ?_
          obtain ⟨x195, hx195, h⟩ := bnd h
          refine OEnds.plain hm_15 rfl rfl (x_laload rfl hx195) ?_
          refine OEnds.adv hm_15 1 (pc' := 76) (L' := [qr 1, qi v1, qi v2, qi v3, qi x189]) (S' := [.int (XT.cmpL x194 x195)]) (H' := (c0 :: bk0 zd zg zr zu zn zm zi zc zs zp zq ze zh zf zl zk zj zt za zo zb po)) rfl ?_
          by_cases hc226 : x194 < x195
          · simp only [if_pos hc226] at h
            refine OEnds.ifF hm_15 rfl ((tlt (c_lt.mpr hc226)).2.1) ?_
            refine OEnds.adv hm_15 3 (pc' := 14) (L' := [qr 1, qi v1, qi (v2 + (1 : Int32)), qi (v3 + (1 : Int32)), qi x189]) (S' := []) (H' := (c0 :: bk0 zd zg zr zu zn zm zi zc zs zp zq ze zh zf zl zk zj zt za zo zb po)) rfl ?_
            exact ih h
          · simp only [if_neg hc226] at h
            refine OEnds.ifT hm_15 rfl (q := 82) rfl ((flt (mt c_lt.mp hc226)).2.1) ?_
            refine OEnds.adv hm_15 2 (pc' := 14) (L' := [qr 1, qi v1, qi v2, qi (v3 + (1 : Int32)), qi x189]) (S' := []) (H' := (c0 :: bk0 zd zg zr zu zn zm zi zc zs zp zq ze zh zf zl zk zj zt za zo zb po)) rfl ?_
            exact ih h
        · simp only [if_neg hc225] at h
          refine OEnds.icmpT hm_15 rfl (q := 82) rfl ((feq hc225).2) ?_
          refine OEnds.adv hm_15 2 (pc' := 14) (L' := [qr 1, qi v1, qi v2, qi (v3 + (1 : Int32)), qi x189]) (S' := []) (H' := (c0 :: bk0 zd zg zr zu zn zm zi zc zs zp zq ze zh zf zl zk zj zt za zo zb po)) rfl ?_
          exact ih h
      · simp only [if_neg hc224] at h
        refine OEnds.icmpT hm_15 rfl (q := 82) rfl ((feq hc224).2) ?_
        refine OEnds.adv hm_15 2 (pc' := 14) (L' := [qr 1, qi v1, qi v2, qi (v3 + (1 : Int32)), qi x189]) (S' := []) (H' := (c0 :: bk0 zd zg zr zu zn zm zi zc zs zp zq ze zh zf zl zk zj zt za zo zb po)) rfl ?_
        exact ih h
    · simp only [if_neg hc223] at h
      refine OEnds.icmpT hm_15 rfl (q := 88) rfl ((flt hc223).2.1) ?_
      refine OEnds.adv hm_15 1 (pc' := 89) (L' := [qr 1, qi v1, qi v2, qi v3, qu]) (S' := [.int v2]) (H' := (c0 :: bk0 zd zg zr zu zn zm zi zc zs zp zq ze zh zf zl zk zj zt za zo zb po)) rfl ?_
      cases h
      exact OEnds.iret hm_15 rfl rfl
theorem ok_priorityRank_0 {zd zg zr zu zn : List Int32} {zm : List Int64} {zi zc zs zp zq ze zh zf : List Int32} {zl zk zj : Int32} {zt : Int64} {za zo zb : Int32} {c0 : ACell} {po : List ACell} {v1 res : Int32} (h : f_priorityRank zd zg zn zm zc zj za v1 = some res) : OEnds own_P 15 0 [qr 1, qi v1, qu, qu, qu] [] (c0 :: bk0 zd zg zr zu zn zm zi zc zs zp zq ze zh zf zl zk zj zt za zo zb po) (some (.int res), (c0 :: bk0 zd zg zr zu zn zm zi zc zs zp zq ze zh zf zl zk zj zt za zo zb po), 0, 0) := by
  unfold f_priorityRank at h
  refine OEnds.adv hm_15 2 (pc' := 2) (L' := [qr 1, qi v1, qu, qu, qu]) (S' := [.int v1, .ref 1]) (H' := (c0 :: bk0 zd zg zr zu zn zm zi zc zs zp zq ze zh zf zl zk zj zt za zo zb po)) rfl ?_
  obtain ⟨r188, hq227, h⟩ := bnd h
  refine OEnds.call0 hm_15 rfl rfl (by decide) rfl (as := [.ref 1, .int v1]) (rest := []) rfl rfl (ok_isResting_0 hq227) ?_
  show OEnds own_P 15 5 [qr 1, qi v1, qu, qu, qu] [.int r188] (c0 :: bk0 zd zg zr zu zn zm zi zc zs zp zq ze zh zf zl zk zj zt za zo zb po) _
  by_cases hc228 : r188 = (0 : Int32)
  · simp only [if_pos hc228] at h
    refine OEnds.ifF hm_15 rfl ((teq hc228).2) ?_
    refine OEnds.adv hm_15 1 (pc' := 9) (L' := [qr 1, qi v1, qu, qu, qu]) (S' := [.int (-1)]) (H' := (c0 :: bk0 zd zg zr zu zn zm zi zc zs zp zq ze zh zf zl zk zj zt za zo zb po)) rfl ?_
    cases h
    exact OEnds.iret hm_15 rfl rfl
  · simp only [if_neg hc228] at h
    refine OEnds.ifT hm_15 rfl (q := 10) rfl ((feq hc228).2) ?_
    refine OEnds.adv hm_15 4 (pc' := 14) (L' := [qr 1, qi v1, qi 0, qi 0, qu]) (S' := []) (H' := (c0 :: bk0 zd zg zr zu zn zm zi zc zs zp zq ze zh zf zl zk zj zt za zo zb po)) rfl ?_
    exact ok_priorityRank_14_0 100000 h
theorem ok_priorityRank_14_1 {zd zg zr zu zn : List Int32} {zm : List Int64} {zi zc zs zp zq ze zh zf : List Int32} {zl zk zj : Int32} {zt : Int64} {za zo zb : Int32} {c0 c1 c2 c3 c4 c5 c6 c7 c8 c9 c10 c11 c12 c13 c14 c15 : ACell} {po : List ACell} : ∀ (n : Nat), ∀ {v1 v2 v3 : Int32} {d4 : Slot} {res : Int32}, f_priorityRank_14 zd zg zn zm zc zj za n v1 v2 v3 = some res → OEnds own_P 15 14 [qr 16, qi v1, qi v2, qi v3, d4] [] (c0 :: c1 :: c2 :: c3 :: c4 :: c5 :: c6 :: c7 :: c8 :: c9 :: c10 :: c11 :: c12 :: c13 :: c14 :: c15 :: bk1 zd zg zr zu zn zm zi zc zs zp zq ze zh zf zl zk zj zt za zo zb po) (some (.int res), (c0 :: c1 :: c2 :: c3 :: c4 :: c5 :: c6 :: c7 :: c8 :: c9 :: c10 :: c11 :: c12 :: c13 :: c14 :: c15 :: bk1 zd zg zr zu zn zm zi zc zs zp zq ze zh zf zl zk zj zt za zo zb po), 0, 0) := by
  intro n
  induction n with
  | zero => intro v1 v2 v3 d4 res h; cases h
  | succ n ih =>
    intro v1 v2 v3 d4 res h
    unfold f_priorityRank_14 at h
    refine OEnds.adv hm_15 3 (pc' := 19) (L' := [qr 16, qi v1, qi v2, qi v3, qu]) (S' := [.int za, .int v3]) (H' := (c0 :: c1 :: c2 :: c3 :: c4 :: c5 :: c6 :: c7 :: c8 :: c9 :: c10 :: c11 :: c12 :: c13 :: c14 :: c15 :: bk1 zd zg zr zu zn zm zi zc zs zp zq ze zh zf zl zk zj zt za zo zb po)) rfl ?_
    by_cases hc229 : v3 < za
    · simp only [if_pos hc229] at h
      refine OEnds.icmpF hm_15 rfl ((tlt hc229).2.1) ?_
      refine OEnds.adv hm_15 3 (pc' := 27) (L' := [qr 16, qi v1, qi v2, qi v3, qu]) (S' := [.int v3, .ref 24]) (H' := (c0 :: c1 :: c2 :: c3 :: c4 :: c5 :: c6 :: c7 :: c8 :: c9 :: c10 :: c11 :: c12 :: c13 :: c14 :: c15 :: bk1 zd zg zr zu zn zm zi zc zs zp zq ze zh zf zl zk zj zt za zo zb po)) rfl ?_
      obtain ⟨x189, hx189, h⟩ := bnd h
      refine OEnds.plain hm_15 rfl rfl (x_iaload rfl hx189) ?_
      refine OEnds.adv hm_15 4 (pc' := 36) (L' := [qr 16, qi v1, qi v2, qi v3, qi x189]) (S' := [.int x189, .ref 17]) (H' := (c0 :: c1 :: c2 :: c3 :: c4 :: c5 :: c6 :: c7 :: c8 :: c9 :: c10 :: c11 :: c12 :: c13 :: c14 :: c15 :: bk1 zd zg zr zu zn zm zi zc zs zp zq ze zh zf zl zk zj zt za zo zb po)) rfl ?_
      obtain ⟨x190, hx190, h⟩ := bnd h
      refine OEnds.plain hm_15 rfl rfl (x_iaload rfl hx190) ?_
      refine OEnds.adv hm_15 3 (pc' := 42) (L' := [qr 16, qi v1, qi v2, qi v3, qi x189]) (S' := [.int v1, .ref 17, .int x190]) (H' := (c0 :: c1 :: c2 :: c3 :: c4 :: c5 :: c6 :: c7 :: c8 :: c9 :: c10 :: c11 :: c12 :: c13 :: c14 :: c15 :: bk1 zd zg zr zu zn zm zi zc zs zp zq ze zh zf zl zk zj zt za zo zb po)) rfl ?_
      obtain ⟨x191, hx191, h⟩ := bnd h
      refine OEnds.plain hm_15 rfl rfl (x_iaload rfl hx191) ?_
      show OEnds own_P 15 43 [qr 16, qi v1, qi v2, qi v3, qi x189] [.int x191, .int x190] (c0 :: c1 :: c2 :: c3 :: c4 :: c5 :: c6 :: c7 :: c8 :: c9 :: c10 :: c11 :: c12 :: c13 :: c14 :: c15 :: bk1 zd zg zr zu zn zm zi zc zs zp zq ze zh zf zl zk zj zt za zo zb po) _
      by_cases hc230 : x190 = x191
      · simp only [if_pos hc230] at h
        refine OEnds.icmpF hm_15 rfl ((teq hc230).2) ?_
        refine OEnds.adv hm_15 3 (pc' := 52) (L' := [qr 16, qi v1, qi v2, qi v3, qi x189]) (S' := [.int x189, .ref 18]) (H' := (c0 :: c1 :: c2 :: c3 :: c4 :: c5 :: c6 :: c7 :: c8 :: c9 :: c10 :: c11 :: c12 :: c13 :: c14 :: c15 :: bk1 zd zg zr zu zn zm zi zc zs zp zq ze zh zf zl zk zj zt za zo zb po)) rfl ?_
        obtain ⟨x192, hx192, h⟩ := bnd h
        refine OEnds.plain hm_15 rfl rfl (x_iaload rfl hx192) ?_
        refine OEnds.adv hm_15 3 (pc' := 58) (L' := [qr 16, qi v1, qi v2, qi v3, qi x189]) (S' := [.int v1, .ref 18, .int x192]) (H' := (c0 :: c1 :: c2 :: c3 :: c4 :: c5 :: c6 :: c7 :: c8 :: c9 :: c10 :: c11 :: c12 :: c13 :: c14 :: c15 :: bk1 zd zg zr zu zn zm zi zc zs zp zq ze zh zf zl zk zj zt za zo zb po)) rfl ?_
        obtain ⟨x193, hx193, h⟩ := bnd h
        refine OEnds.plain hm_15 rfl rfl (x_iaload rfl hx193) ?_
        show OEnds own_P 15 59 [qr 16, qi v1, qi v2, qi v3, qi x189] [.int x193, .int x192] (c0 :: c1 :: c2 :: c3 :: c4 :: c5 :: c6 :: c7 :: c8 :: c9 :: c10 :: c11 :: c12 :: c13 :: c14 :: c15 :: bk1 zd zg zr zu zn zm zi zc zs zp zq ze zh zf zl zk zj zt za zo zb po) _
        by_cases hc231 : x192 = x193
        · simp only [if_pos hc231] at h
          refine OEnds.icmpF hm_15 rfl ((teq hc231).2) ?_
          refine OEnds.adv hm_15 3 (pc' := 68) (L' := [qr 16, qi v1, qi v2, qi v3, qi x189]) (S' := [.int x189, .ref 22]) (H' := (c0 :: c1 :: c2 :: c3 :: c4 :: c5 :: c6 :: c7 :: c8 :: c9 :: c10 :: c11 :: c12 :: c13 :: c14 :: c15 :: bk1 zd zg zr zu zn zm zi zc zs zp zq ze zh zf zl zk zj zt za zo zb po)) rfl ?_
          obtain ⟨x194, hx194, h⟩ := bnd h
          refine OEnds.plain hm_15 rfl rfl (x_laload rfl hx194) ?_
          refine OEnds.adv hm_15 3 (pc' := 74) (L' := [qr 16, qi v1, qi v2, qi v3, qi x189]) (S' := [.int v1, .ref 22, .long x194]) (H' := (c0 :: c1 :: c2 :: c3 :: c4 :: c5 :: c6 :: c7 :: c8 :: c9 :: c10 :: c11 :: c12 :: c13 :: c14 :: c15 :: bk1 zd zg zr zu zn zm zi zc zs zp zq ze zh zf zl zk zj zt za zo zb po)) rfl ?_
          obtain ⟨x195, hx195, h⟩ := bnd h
          refine OEnds.plain hm_15 rfl rfl (x_laload rfl hx195) ?_
          refine OEnds.adv hm_15 1 (pc' := 76) (L' := [qr 16, qi v1, qi v2, qi v3, qi x189]) (S' := [.int (XT.cmpL x194 x195)]) (H' := (c0 :: c1 :: c2 :: c3 :: c4 :: c5 :: c6 :: c7 :: c8 :: c9 :: c10 :: c11 :: c12 :: c13 :: c14 :: c15 :: bk1 zd zg zr zu zn zm zi zc zs zp zq ze zh zf zl zk zj zt za zo zb po)) rfl ?_
          by_cases hc232 : x194 < x195
          · simp only [if_pos hc232] at h
            refine OEnds.ifF hm_15 rfl ((tlt (c_lt.mpr hc232)).2.1) ?_
            refine OEnds.adv hm_15 3 (pc' := 14) (L' := [qr 16, qi v1, qi (v2 + (1 : Int32)), qi (v3 + (1 : Int32)), qi x189]) (S' := []) (H' := (c0 :: c1 :: c2 :: c3 :: c4 :: c5 :: c6 :: c7 :: c8 :: c9 :: c10 :: c11 :: c12 :: c13 :: c14 :: c15 :: bk1 zd zg zr zu zn zm zi zc zs zp zq ze zh zf zl zk zj zt za zo zb po)) rfl ?_
            exact ih h
          · simp only [if_neg hc232] at h
            refine OEnds.ifT hm_15 rfl (q := 82) rfl ((flt (mt c_lt.mp hc232)).2.1) ?_
            refine OEnds.adv hm_15 2 (pc' := 14) (L' := [qr 16, qi v1, qi v2, qi (v3 + (1 : Int32)), qi x189]) (S' := []) (H' := (c0 :: c1 :: c2 :: c3 :: c4 :: c5 :: c6 :: c7 :: c8 :: c9 :: c10 :: c11 :: c12 :: c13 :: c14 :: c15 :: bk1 zd zg zr zu zn zm zi zc zs zp zq ze zh zf zl zk zj zt za zo zb po)) rfl ?_
            exact ih h
        · simp only [if_neg hc231] at h
          refine OEnds.icmpT hm_15 rfl (q := 82) rfl ((feq hc231).2) ?_
          refine OEnds.adv hm_15 2 (pc' := 14) (L' := [qr 16, qi v1, qi v2, qi (v3 + (1 : Int32)), qi x189]) (S' := []) (H' := (c0 :: c1 :: c2 :: c3 :: c4 :: c5 :: c6 :: c7 :: c8 :: c9 :: c10 :: c11 :: c12 :: c13 :: c14 :: c15 :: bk1 zd zg zr zu zn zm zi zc zs zp zq ze zh zf zl zk zj zt za zo zb po)) rfl ?_
          exact ih h
      · simp only [if_neg hc230] at h
        refine OEnds.icmpT hm_15 rfl (q := 82) rfl ((feq hc230).2) ?_
        refine OEnds.adv hm_15 2 (pc' := 14) (L' := [qr 16, qi v1, qi v2, qi (v3 + (1 : Int32)), qi x189]) (S' := []) (H' := (c0 :: c1 :: c2 :: c3 :: c4 :: c5 :: c6 :: c7 :: c8 :: c9 :: c10 :: c11 :: c12 :: c13 :: c14 :: c15 :: bk1 zd zg zr zu zn zm zi zc zs zp zq ze zh zf zl zk zj zt za zo zb po)) rfl ?_
        exact ih h
    · simp only [if_neg hc229] at h
      refine OEnds.icmpT hm_15 rfl (q := 88) rfl ((flt hc229).2.1) ?_
      refine OEnds.adv hm_15 1 (pc' := 89) (L' := [qr 16, qi v1, qi v2, qi v3, qu]) (S' := [.int v2]) (H' := (c0 :: c1 :: c2 :: c3 :: c4 :: c5 :: c6 :: c7 :: c8 :: c9 :: c10 :: c11 :: c12 :: c13 :: c14 :: c15 :: bk1 zd zg zr zu zn zm zi zc zs zp zq ze zh zf zl zk zj zt za zo zb po)) rfl ?_
      cases h
      exact OEnds.iret hm_15 rfl rfl
theorem ok_priorityRank_1 {zd zg zr zu zn : List Int32} {zm : List Int64} {zi zc zs zp zq ze zh zf : List Int32} {zl zk zj : Int32} {zt : Int64} {za zo zb : Int32} {c0 c1 c2 c3 c4 c5 c6 c7 c8 c9 c10 c11 c12 c13 c14 c15 : ACell} {po : List ACell} {v1 res : Int32} (h : f_priorityRank zd zg zn zm zc zj za v1 = some res) : OEnds own_P 15 0 [qr 16, qi v1, qu, qu, qu] [] (c0 :: c1 :: c2 :: c3 :: c4 :: c5 :: c6 :: c7 :: c8 :: c9 :: c10 :: c11 :: c12 :: c13 :: c14 :: c15 :: bk1 zd zg zr zu zn zm zi zc zs zp zq ze zh zf zl zk zj zt za zo zb po) (some (.int res), (c0 :: c1 :: c2 :: c3 :: c4 :: c5 :: c6 :: c7 :: c8 :: c9 :: c10 :: c11 :: c12 :: c13 :: c14 :: c15 :: bk1 zd zg zr zu zn zm zi zc zs zp zq ze zh zf zl zk zj zt za zo zb po), 0, 0) := by
  unfold f_priorityRank at h
  refine OEnds.adv hm_15 2 (pc' := 2) (L' := [qr 16, qi v1, qu, qu, qu]) (S' := [.int v1, .ref 16]) (H' := (c0 :: c1 :: c2 :: c3 :: c4 :: c5 :: c6 :: c7 :: c8 :: c9 :: c10 :: c11 :: c12 :: c13 :: c14 :: c15 :: bk1 zd zg zr zu zn zm zi zc zs zp zq ze zh zf zl zk zj zt za zo zb po)) rfl ?_
  obtain ⟨r188, hq233, h⟩ := bnd h
  refine OEnds.call0 hm_15 rfl rfl (by decide) rfl (as := [.ref 16, .int v1]) (rest := []) rfl rfl (ok_isResting_1 hq233) ?_
  show OEnds own_P 15 5 [qr 16, qi v1, qu, qu, qu] [.int r188] (c0 :: c1 :: c2 :: c3 :: c4 :: c5 :: c6 :: c7 :: c8 :: c9 :: c10 :: c11 :: c12 :: c13 :: c14 :: c15 :: bk1 zd zg zr zu zn zm zi zc zs zp zq ze zh zf zl zk zj zt za zo zb po) _
  by_cases hc234 : r188 = (0 : Int32)
  · simp only [if_pos hc234] at h
    refine OEnds.ifF hm_15 rfl ((teq hc234).2) ?_
    refine OEnds.adv hm_15 1 (pc' := 9) (L' := [qr 16, qi v1, qu, qu, qu]) (S' := [.int (-1)]) (H' := (c0 :: c1 :: c2 :: c3 :: c4 :: c5 :: c6 :: c7 :: c8 :: c9 :: c10 :: c11 :: c12 :: c13 :: c14 :: c15 :: bk1 zd zg zr zu zn zm zi zc zs zp zq ze zh zf zl zk zj zt za zo zb po)) rfl ?_
    cases h
    exact OEnds.iret hm_15 rfl rfl
  · simp only [if_neg hc234] at h
    refine OEnds.ifT hm_15 rfl (q := 10) rfl ((feq hc234).2) ?_
    refine OEnds.adv hm_15 4 (pc' := 14) (L' := [qr 16, qi v1, qi 0, qi 0, qu]) (S' := []) (H' := (c0 :: c1 :: c2 :: c3 :: c4 :: c5 :: c6 :: c7 :: c8 :: c9 :: c10 :: c11 :: c12 :: c13 :: c14 :: c15 :: bk1 zd zg zr zu zn zm zi zc zs zp zq ze zh zf zl zk zj zt za zo zb po)) rfl ?_
    exact ok_priorityRank_14_1 100000 h
theorem ok_bestPrice_11_0 {zd zg zr zu zn : List Int32} {zm : List Int64} {zi zc zs zp zq ze zh zf : List Int32} {zl zk zj : Int32} {zt : Int64} {za zo zb : Int32} {c0 : ACell} {po : List ACell} : ∀ {v1 : Int32} {res : Int32}, f_bestPrice_11 zd zg zc za v1 = some res → OEnds own_P 16 11 [qr 1, qi v1] [] (c0 :: bk0 zd zg zr zu zn zm zi zc zs zp zq ze zh zf zl zk zj zt za zo zb po) (some (.int res), (c0 :: bk0 zd zg zr zu zn zm zi zc zs zp zq ze zh zf zl zk zj zt za zo zb po), 0, 0) := by
  intro v1 res h
  unfold f_bestPrice_11 at h
  refine OEnds.adv hm_16 2 (pc' := 13) (L' := [qr 1, qi v1]) (S' := [.int v1, .ref 1]) (H' := (c0 :: bk0 zd zg zr zu zn zm zi zc zs zp zq ze zh zf zl zk zj zt za zo zb po)) rfl ?_
  obtain ⟨r196, hq235, h⟩ := bnd h
  refine OEnds.call0 hm_16 rfl rfl (by decide) rfl (as := [.ref 1, .int v1]) (rest := []) rfl rfl (ok_bestOf_0 hq235) ?_
  show OEnds own_P 16 16 [qr 1, qi v1] [.int r196] (c0 :: bk0 zd zg zr zu zn zm zi zc zs zp zq ze zh zf zl zk zj zt za zo zb po) _
  cases h
  exact OEnds.iret hm_16 rfl rfl
theorem ok_bestPrice_0 {zd zg zr zu zn : List Int32} {zm : List Int64} {zi zc zs zp zq ze zh zf : List Int32} {zl zk zj : Int32} {zt : Int64} {za zo zb : Int32} {c0 : ACell} {po : List ACell} {v1 res : Int32} (h : f_bestPrice zd zg zc za v1 = some res) : OEnds own_P 16 0 [qr 1, qi v1] [] (c0 :: bk0 zd zg zr zu zn zm zi zc zs zp zq ze zh zf zl zk zj zt za zo zb po) (some (.int res), (c0 :: bk0 zd zg zr zu zn zm zi zc zs zp zq ze zh zf zl zk zj zt za zo zb po), 0, 0) := by
  unfold f_bestPrice at h
  refine OEnds.adv hm_16 1 (pc' := 1) (L' := [qr 1, qi v1]) (S' := [.int v1]) (H' := (c0 :: bk0 zd zg zr zu zn zm zi zc zs zp zq ze zh zf zl zk zj zt za zo zb po)) rfl ?_
  by_cases hc236 : v1 = (0 : Int32)
  · simp only [if_pos hc236] at h
    refine OEnds.ifT hm_16 rfl (q := 11) rfl ((teq hc236).1) ?_
    show OEnds own_P 16 11 [qr 1, qi v1] [] (c0 :: bk0 zd zg zr zu zn zm zi zc zs zp zq ze zh zf zl zk zj zt za zo zb po) _
    exact ok_bestPrice_11_0 h
  · simp only [if_neg hc236] at h
    refine OEnds.ifF hm_16 rfl ((feq hc236).1) ?_
    refine OEnds.adv hm_16 2 (pc' := 6) (L' := [qr 1, qi v1]) (S' := [.int 1, .int v1]) (H' := (c0 :: bk0 zd zg zr zu zn zm zi zc zs zp zq ze zh zf zl zk zj zt za zo zb po)) rfl ?_
    by_cases hc237 : v1 = (1 : Int32)
    · simp only [if_pos hc237] at h
      refine OEnds.icmpT hm_16 rfl (q := 11) rfl ((teq hc237).1) ?_
      show OEnds own_P 16 11 [qr 1, qi v1] [] (c0 :: bk0 zd zg zr zu zn zm zi zc zs zp zq ze zh zf zl zk zj zt za zo zb po) _
      exact ok_bestPrice_11_0 h
    · simp only [if_neg hc237] at h
      refine OEnds.icmpF hm_16 rfl ((feq hc237).1) ?_
      refine OEnds.adv hm_16 1 (pc' := 10) (L' := [qr 1, qi v1]) (S' := [.int 0]) (H' := (c0 :: bk0 zd zg zr zu zn zm zi zc zs zp zq ze zh zf zl zk zj zt za zo zb po)) rfl ?_
      cases h
      exact OEnds.iret hm_16 rfl rfl
theorem ok_bestPrice_11_1 {zd zg zr zu zn : List Int32} {zm : List Int64} {zi zc zs zp zq ze zh zf : List Int32} {zl zk zj : Int32} {zt : Int64} {za zo zb : Int32} {c0 c1 c2 c3 c4 c5 c6 c7 c8 c9 c10 c11 c12 c13 c14 c15 : ACell} {po : List ACell} : ∀ {v1 : Int32} {res : Int32}, f_bestPrice_11 zd zg zc za v1 = some res → OEnds own_P 16 11 [qr 16, qi v1] [] (c0 :: c1 :: c2 :: c3 :: c4 :: c5 :: c6 :: c7 :: c8 :: c9 :: c10 :: c11 :: c12 :: c13 :: c14 :: c15 :: bk1 zd zg zr zu zn zm zi zc zs zp zq ze zh zf zl zk zj zt za zo zb po) (some (.int res), (c0 :: c1 :: c2 :: c3 :: c4 :: c5 :: c6 :: c7 :: c8 :: c9 :: c10 :: c11 :: c12 :: c13 :: c14 :: c15 :: bk1 zd zg zr zu zn zm zi zc zs zp zq ze zh zf zl zk zj zt za zo zb po), 0, 0) := by
  intro v1 res h
  unfold f_bestPrice_11 at h
  refine OEnds.adv hm_16 2 (pc' := 13) (L' := [qr 16, qi v1]) (S' := [.int v1, .ref 16]) (H' := (c0 :: c1 :: c2 :: c3 :: c4 :: c5 :: c6 :: c7 :: c8 :: c9 :: c10 :: c11 :: c12 :: c13 :: c14 :: c15 :: bk1 zd zg zr zu zn zm zi zc zs zp zq ze zh zf zl zk zj zt za zo zb po)) rfl ?_
  obtain ⟨r196, hq238, h⟩ := bnd h
  refine OEnds.call0 hm_16 rfl rfl (by decide) rfl (as := [.ref 16, .int v1]) (rest := []) rfl rfl (ok_bestOf_1 hq238) ?_
  show OEnds own_P 16 16 [qr 16, qi v1] [.int r196] (c0 :: c1 :: c2 :: c3 :: c4 :: c5 :: c6 :: c7 :: c8 :: c9 :: c10 :: c11 :: c12 :: c13 :: c14 :: c15 :: bk1 zd zg zr zu zn zm zi zc zs zp zq ze zh zf zl zk zj zt za zo zb po) _
  cases h
  exact OEnds.iret hm_16 rfl rfl
theorem ok_bestPrice_1 {zd zg zr zu zn : List Int32} {zm : List Int64} {zi zc zs zp zq ze zh zf : List Int32} {zl zk zj : Int32} {zt : Int64} {za zo zb : Int32} {c0 c1 c2 c3 c4 c5 c6 c7 c8 c9 c10 c11 c12 c13 c14 c15 : ACell} {po : List ACell} {v1 res : Int32} (h : f_bestPrice zd zg zc za v1 = some res) : OEnds own_P 16 0 [qr 16, qi v1] [] (c0 :: c1 :: c2 :: c3 :: c4 :: c5 :: c6 :: c7 :: c8 :: c9 :: c10 :: c11 :: c12 :: c13 :: c14 :: c15 :: bk1 zd zg zr zu zn zm zi zc zs zp zq ze zh zf zl zk zj zt za zo zb po) (some (.int res), (c0 :: c1 :: c2 :: c3 :: c4 :: c5 :: c6 :: c7 :: c8 :: c9 :: c10 :: c11 :: c12 :: c13 :: c14 :: c15 :: bk1 zd zg zr zu zn zm zi zc zs zp zq ze zh zf zl zk zj zt za zo zb po), 0, 0) := by
  unfold f_bestPrice at h
  refine OEnds.adv hm_16 1 (pc' := 1) (L' := [qr 16, qi v1]) (S' := [.int v1]) (H' := (c0 :: c1 :: c2 :: c3 :: c4 :: c5 :: c6 :: c7 :: c8 :: c9 :: c10 :: c11 :: c12 :: c13 :: c14 :: c15 :: bk1 zd zg zr zu zn zm zi zc zs zp zq ze zh zf zl zk zj zt za zo zb po)) rfl ?_
  by_cases hc239 : v1 = (0 : Int32)
  · simp only [if_pos hc239] at h
    refine OEnds.ifT hm_16 rfl (q := 11) rfl ((teq hc239).1) ?_
    show OEnds own_P 16 11 [qr 16, qi v1] [] (c0 :: c1 :: c2 :: c3 :: c4 :: c5 :: c6 :: c7 :: c8 :: c9 :: c10 :: c11 :: c12 :: c13 :: c14 :: c15 :: bk1 zd zg zr zu zn zm zi zc zs zp zq ze zh zf zl zk zj zt za zo zb po) _
    exact ok_bestPrice_11_1 h
  · simp only [if_neg hc239] at h
    refine OEnds.ifF hm_16 rfl ((feq hc239).1) ?_
    refine OEnds.adv hm_16 2 (pc' := 6) (L' := [qr 16, qi v1]) (S' := [.int 1, .int v1]) (H' := (c0 :: c1 :: c2 :: c3 :: c4 :: c5 :: c6 :: c7 :: c8 :: c9 :: c10 :: c11 :: c12 :: c13 :: c14 :: c15 :: bk1 zd zg zr zu zn zm zi zc zs zp zq ze zh zf zl zk zj zt za zo zb po)) rfl ?_
    by_cases hc240 : v1 = (1 : Int32)
    · simp only [if_pos hc240] at h
      refine OEnds.icmpT hm_16 rfl (q := 11) rfl ((teq hc240).1) ?_
      show OEnds own_P 16 11 [qr 16, qi v1] [] (c0 :: c1 :: c2 :: c3 :: c4 :: c5 :: c6 :: c7 :: c8 :: c9 :: c10 :: c11 :: c12 :: c13 :: c14 :: c15 :: bk1 zd zg zr zu zn zm zi zc zs zp zq ze zh zf zl zk zj zt za zo zb po) _
      exact ok_bestPrice_11_1 h
    · simp only [if_neg hc240] at h
      refine OEnds.icmpF hm_16 rfl ((feq hc240).1) ?_
      refine OEnds.adv hm_16 1 (pc' := 10) (L' := [qr 16, qi v1]) (S' := [.int 0]) (H' := (c0 :: c1 :: c2 :: c3 :: c4 :: c5 :: c6 :: c7 :: c8 :: c9 :: c10 :: c11 :: c12 :: c13 :: c14 :: c15 :: bk1 zd zg zr zu zn zm zi zc zs zp zq ze zh zf zl zk zj zt za zo zb po)) rfl ?_
      cases h
      exact OEnds.iret hm_16 rfl rfl
theorem ok_depthAt_30_0 {zd zg zr zu zn : List Int32} {zm : List Int64} {zi zc zs zp zq ze zh zf : List Int32} {zl zk zj : Int32} {zt : Int64} {za zo zb : Int32} {c0 : ACell} {po : List ACell} : ∀ (n : Nat), ∀ {v1 v2 v3 v4 : Int32} {d5 : Slot} {res : Int32}, f_depthAt_30 zd zg zr zc za n v1 v2 v3 v4 = some res → OEnds own_P 17 30 [qr 1, qi v1, qi v2, qi v3, qi v4, d5] [] (c0 :: bk0 zd zg zr zu zn zm zi zc zs zp zq ze zh zf zl zk zj zt za zo zb po) (some (.int res), (c0 :: bk0 zd zg zr zu zn zm zi zc zs zp zq ze zh zf zl zk zj zt za zo zb po), 0, 0) := by
  intro n
  induction n with
  | zero => intro v1 v2 v3 v4 d5 res h; cases h
  | succ n ih =>
    intro v1 v2 v3 v4 d5 res h
    unfold f_depthAt_30 at h
    refine OEnds.adv hm_17 3 (pc' := 36) (L' := [qr 1, qi v1, qi v2, qi v3, qi v4, qu]) (S' := [.int za, .int v4]) (H' := (c0 :: bk0 zd zg zr zu zn zm zi zc zs zp zq ze zh zf zl zk zj zt za zo zb po)) rfl ?_
    by_cases hc241 : v4 < za
    · simp only [if_pos hc241] at h
      refine OEnds.icmpF hm_17 rfl ((tlt hc241).2.1) ?_
      refine OEnds.adv hm_17 3 (pc' := 45) (L' := [qr 1, qi v1, qi v2, qi v3, qi v4, qu]) (S' := [.int v4, .ref 9]) (H' := (c0 :: bk0 zd zg zr zu zn zm zi zc zs zp zq ze zh zf zl zk zj zt za zo zb po)) rfl ?_
      obtain ⟨x197, hx197, h⟩ := bnd h
      refine OEnds.plain hm_17 rfl rfl (x_iaload rfl hx197) ?_
      refine OEnds.adv hm_17 4 (pc' := 54) (L' := [qr 1, qi v1, qi v2, qi v3, qi v4, qi x197]) (S' := [.int x197, .ref 2]) (H' := (c0 :: bk0 zd zg zr zu zn zm zi zc zs zp zq ze zh zf zl zk zj zt za zo zb po)) rfl ?_
      obtain ⟨x198, hx198, h⟩ := bnd h
      refine OEnds.plain hm_17 rfl rfl (x_iaload rfl hx198) ?_
      refine OEnds.adv hm_17 1 (pc' := 56) (L' := [qr 1, qi v1, qi v2, qi v3, qi v4, qi x197]) (S' := [.int v1, .int x198]) (H' := (c0 :: bk0 zd zg zr zu zn zm zi zc zs zp zq ze zh zf zl zk zj zt za zo zb po)) rfl ?_
      by_cases hc242 : x198 = v1
      · simp only [if_pos hc242] at h
        refine OEnds.icmpF hm_17 rfl ((teq hc242).2) ?_
        refine OEnds.adv hm_17 3 (pc' := 65) (L' := [qr 1, qi v1, qi v2, qi v3, qi v4, qi x197]) (S' := [.int x197, .ref 3]) (H' := (c0 :: bk0 zd zg zr zu zn zm zi zc zs zp zq ze zh zf zl zk zj zt za zo zb po)) rfl ?_
        obtain ⟨x199, hx199, h⟩ := bnd h
        refine OEnds.plain hm_17 rfl rfl (x_iaload rfl hx199) ?_
        refine OEnds.adv hm_17 1 (pc' := 67) (L' := [qr 1, qi v1, qi v2, qi v3, qi v4, qi x197]) (S' := [.int v2, .int x199]) (H' := (c0 :: bk0 zd zg zr zu zn zm zi zc zs zp zq ze zh zf zl zk zj zt za zo zb po)) rfl ?_
        by_cases hc243 : x199 = v2
        · simp only [if_pos hc243] at h
          refine OEnds.icmpF hm_17 rfl ((teq hc243).2) ?_
          refine OEnds.adv hm_17 4 (pc' := 77) (L' := [qr 1, qi v1, qi v2, qi v3, qi v4, qi x197]) (S' := [.int x197, .ref 4, .int v3]) (H' := (c0 :: bk0 zd zg zr zu zn zm zi zc zs zp zq ze zh zf zl zk zj zt za zo zb po)) rfl ?_
          obtain ⟨x200, hx200, h⟩ := bnd h
          refine OEnds.plain hm_17 rfl rfl (x_iaload rfl hx200) ?_
          refine OEnds.adv hm_17 4 (pc' := 30) (L' := [qr 1, qi v1, qi v2, qi (v3 + x200), qi (v4 + (1 : Int32)), qi x197]) (S' := []) (H' := (c0 :: bk0 zd zg zr zu zn zm zi zc zs zp zq ze zh zf zl zk zj zt za zo zb po)) rfl ?_
          exact ih h
        · simp only [if_neg hc243] at h
          refine OEnds.icmpT hm_17 rfl (q := 80) rfl ((feq hc243).2) ?_
          refine OEnds.adv hm_17 2 (pc' := 30) (L' := [qr 1, qi v1, qi v2, qi v3, qi (v4 + (1 : Int32)), qi x197]) (S' := []) (H' := (c0 :: bk0 zd zg zr zu zn zm zi zc zs zp zq ze zh zf zl zk zj zt za zo zb po)) rfl ?_
          exact ih h
      · simp only [if_neg hc242] at h
        refine OEnds.icmpT hm_17 rfl (q := 80) rfl ((feq hc242).2) ?_
        refine OEnds.adv hm_17 2 (pc' := 30) (L' := [qr 1, qi v1, qi v2, qi v3, qi (v4 + (1 : Int32)), qi x197]) (S' := []) (H' := (c0 :: bk0 zd zg zr zu zn zm zi zc zs zp zq ze zh zf zl zk zj zt za zo zb po)) rfl ?_
        exact ih h
    · simp only [if_neg hc241] at h
      refine OEnds.icmpT hm_17 rfl (q := 86) rfl ((flt hc241).2.1) ?_
      refine OEnds.adv hm_17 1 (pc' := 87) (L' := [qr 1, qi v1, qi v2, qi v3, qi v4, qu]) (S' := [.int v3]) (H' := (c0 :: bk0 zd zg zr zu zn zm zi zc zs zp zq ze zh zf zl zk zj zt za zo zb po)) rfl ?_
      cases h
      exact OEnds.iret hm_17 rfl rfl
theorem ok_depthAt_11_0 {zd zg zr zu zn : List Int32} {zm : List Int64} {zi zc zs zp zq ze zh zf : List Int32} {zl zk zj : Int32} {zt : Int64} {za zo zb : Int32} {c0 : ACell} {po : List ACell} : ∀ {v1 v2 : Int32} {d3 d4 d5 : Slot} {res : Int32}, f_depthAt_11 zd zg zr zc za v1 v2 = some res → OEnds own_P 17 11 [qr 1, qi v1, qi v2, d3, d4, d5] [] (c0 :: bk0 zd zg zr zu zn zm zi zc zs zp zq ze zh zf zl zk zj zt za zo zb po) (some (.int res), (c0 :: bk0 zd zg zr zu zn zm zi zc zs zp zq ze zh zf zl zk zj zt za zo zb po), 0, 0) := by
  intro v1 v2 d3 d4 d5 res h
  unfold f_depthAt_11 at h
  refine OEnds.adv hm_17 2 (pc' := 13) (L' := [qr 1, qi v1, qi v2, qu, qu, qu]) (S' := [.int 1, .int v2]) (H' := (c0 :: bk0 zd zg zr zu zn zm zi zc zs zp zq ze zh zf zl zk zj zt za zo zb po)) rfl ?_
  by_cases hc244 : v2 < (1 : Int32)
  · simp only [if_pos hc244] at h
    refine OEnds.icmpT hm_17 rfl (q := 23) rfl ((tlt hc244).1) ?_
    refine OEnds.adv hm_17 1 (pc' := 24) (L' := [qr 1, qi v1, qi v2, qu, qu, qu]) (S' := [.int 0]) (H' := (c0 :: bk0 zd zg zr zu zn zm zi zc zs zp zq ze zh zf zl zk zj zt za zo zb po)) rfl ?_
    cases h
    exact OEnds.iret hm_17 rfl rfl
  · simp only [if_neg hc244] at h
    refine OEnds.icmpF hm_17 rfl ((flt hc244).1) ?_
    refine OEnds.adv hm_17 2 (pc' := 20) (L' := [qr 1, qi v1, qi v2, qu, qu, qu]) (S' := [.int 1000, .int v2]) (H' := (c0 :: bk0 zd zg zr zu zn zm zi zc zs zp zq ze zh zf zl zk zj zt za zo zb po)) rfl ?_
    by_cases hc245 : (1000 : Int32) < v2
    · simp only [if_pos hc245] at h
      refine OEnds.icmpF hm_17 rfl ((tlt hc245).2.2.2) ?_
      refine OEnds.adv hm_17 1 (pc' := 24) (L' := [qr 1, qi v1, qi v2, qu, qu, qu]) (S' := [.int 0]) (H' := (c0 :: bk0 zd zg zr zu zn zm zi zc zs zp zq ze zh zf zl zk zj zt za zo zb po)) rfl ?_
      cases h
      exact OEnds.iret hm_17 rfl rfl
    · simp only [if_neg hc245] at h
      refine OEnds.icmpT hm_17 rfl (q := 25) rfl ((flt hc245).2.2.2) ?_
      refine OEnds.adv hm_17 4 (pc' := 30) (L' := [qr 1, qi v1, qi v2, qi 0, qi 0, qu]) (S' := []) (H' := (c0 :: bk0 zd zg zr zu zn zm zi zc zs zp zq ze zh zf zl zk zj zt za zo zb po)) rfl ?_
      exact ok_depthAt_30_0 100000 h
theorem ok_depthAt_0 {zd zg zr zu zn : List Int32} {zm : List Int64} {zi zc zs zp zq ze zh zf : List Int32} {zl zk zj : Int32} {zt : Int64} {za zo zb : Int32} {c0 : ACell} {po : List ACell} {v1 v2 res : Int32} (h : f_depthAt zd zg zr zc za v1 v2 = some res) : OEnds own_P 17 0 [qr 1, qi v1, qi v2, qu, qu, qu] [] (c0 :: bk0 zd zg zr zu zn zm zi zc zs zp zq ze zh zf zl zk zj zt za zo zb po) (some (.int res), (c0 :: bk0 zd zg zr zu zn zm zi zc zs zp zq ze zh zf zl zk zj zt za zo zb po), 0, 0) := by
  unfold f_depthAt at h
  refine OEnds.adv hm_17 1 (pc' := 1) (L' := [qr 1, qi v1, qi v2, qu, qu, qu]) (S' := [.int v1]) (H' := (c0 :: bk0 zd zg zr zu zn zm zi zc zs zp zq ze zh zf zl zk zj zt za zo zb po)) rfl ?_
  by_cases hc246 : v1 = (0 : Int32)
  · simp only [if_pos hc246] at h
    refine OEnds.ifT hm_17 rfl (q := 11) rfl ((teq hc246).1) ?_
    show OEnds own_P 17 11 [qr 1, qi v1, qi v2, qu, qu, qu] [] (c0 :: bk0 zd zg zr zu zn zm zi zc zs zp zq ze zh zf zl zk zj zt za zo zb po) _
    exact ok_depthAt_11_0 h
  · simp only [if_neg hc246] at h
    refine OEnds.ifF hm_17 rfl ((feq hc246).1) ?_
    refine OEnds.adv hm_17 2 (pc' := 6) (L' := [qr 1, qi v1, qi v2, qu, qu, qu]) (S' := [.int 1, .int v1]) (H' := (c0 :: bk0 zd zg zr zu zn zm zi zc zs zp zq ze zh zf zl zk zj zt za zo zb po)) rfl ?_
    by_cases hc247 : v1 = (1 : Int32)
    · simp only [if_pos hc247] at h
      refine OEnds.icmpT hm_17 rfl (q := 11) rfl ((teq hc247).1) ?_
      show OEnds own_P 17 11 [qr 1, qi v1, qi v2, qu, qu, qu] [] (c0 :: bk0 zd zg zr zu zn zm zi zc zs zp zq ze zh zf zl zk zj zt za zo zb po) _
      exact ok_depthAt_11_0 h
    · simp only [if_neg hc247] at h
      refine OEnds.icmpF hm_17 rfl ((feq hc247).1) ?_
      refine OEnds.adv hm_17 1 (pc' := 10) (L' := [qr 1, qi v1, qi v2, qu, qu, qu]) (S' := [.int 0]) (H' := (c0 :: bk0 zd zg zr zu zn zm zi zc zs zp zq ze zh zf zl zk zj zt za zo zb po)) rfl ?_
      cases h
      exact OEnds.iret hm_17 rfl rfl
theorem ok_depthAt_30_1 {zd zg zr zu zn : List Int32} {zm : List Int64} {zi zc zs zp zq ze zh zf : List Int32} {zl zk zj : Int32} {zt : Int64} {za zo zb : Int32} {c0 c1 c2 c3 c4 c5 c6 c7 c8 c9 c10 c11 c12 c13 c14 c15 : ACell} {po : List ACell} : ∀ (n : Nat), ∀ {v1 v2 v3 v4 : Int32} {d5 : Slot} {res : Int32}, f_depthAt_30 zd zg zr zc za n v1 v2 v3 v4 = some res → OEnds own_P 17 30 [qr 16, qi v1, qi v2, qi v3, qi v4, d5] [] (c0 :: c1 :: c2 :: c3 :: c4 :: c5 :: c6 :: c7 :: c8 :: c9 :: c10 :: c11 :: c12 :: c13 :: c14 :: c15 :: bk1 zd zg zr zu zn zm zi zc zs zp zq ze zh zf zl zk zj zt za zo zb po) (some (.int res), (c0 :: c1 :: c2 :: c3 :: c4 :: c5 :: c6 :: c7 :: c8 :: c9 :: c10 :: c11 :: c12 :: c13 :: c14 :: c15 :: bk1 zd zg zr zu zn zm zi zc zs zp zq ze zh zf zl zk zj zt za zo zb po), 0, 0) := by
  intro n
  induction n with
  | zero => intro v1 v2 v3 v4 d5 res h; cases h
  | succ n ih =>
    intro v1 v2 v3 v4 d5 res h
    unfold f_depthAt_30 at h
    refine OEnds.adv hm_17 3 (pc' := 36) (L' := [qr 16, qi v1, qi v2, qi v3, qi v4, qu]) (S' := [.int za, .int v4]) (H' := (c0 :: c1 :: c2 :: c3 :: c4 :: c5 :: c6 :: c7 :: c8 :: c9 :: c10 :: c11 :: c12 :: c13 :: c14 :: c15 :: bk1 zd zg zr zu zn zm zi zc zs zp zq ze zh zf zl zk zj zt za zo zb po)) rfl ?_
    by_cases hc248 : v4 < za
    · simp only [if_pos hc248] at h
      refine OEnds.icmpF hm_17 rfl ((tlt hc248).2.1) ?_
      refine OEnds.adv hm_17 3 (pc' := 45) (L' := [qr 16, qi v1, qi v2, qi v3, qi v4, qu]) (S' := [.int v4, .ref 24]) (H' := (c0 :: c1 :: c2 :: c3 :: c4 :: c5 :: c6 :: c7 :: c8 :: c9 :: c10 :: c11 :: c12 :: c13 :: c14 :: c15 :: bk1 zd zg zr zu zn zm zi zc zs zp zq ze zh zf zl zk zj zt za zo zb po)) rfl ?_
      obtain ⟨x197, hx197, h⟩ := bnd h
      refine OEnds.plain hm_17 rfl rfl (x_iaload rfl hx197) ?_
      refine OEnds.adv hm_17 4 (pc' := 54) (L' := [qr 16, qi v1, qi v2, qi v3, qi v4, qi x197]) (S' := [.int x197, .ref 17]) (H' := (c0 :: c1 :: c2 :: c3 :: c4 :: c5 :: c6 :: c7 :: c8 :: c9 :: c10 :: c11 :: c12 :: c13 :: c14 :: c15 :: bk1 zd zg zr zu zn zm zi zc zs zp zq ze zh zf zl zk zj zt za zo zb po)) rfl ?_
      obtain ⟨x198, hx198, h⟩ := bnd h
      refine OEnds.plain hm_17 rfl rfl (x_iaload rfl hx198) ?_
      refine OEnds.adv hm_17 1 (pc' := 56) (L' := [qr 16, qi v1, qi v2, qi v3, qi v4, qi x197]) (S' := [.int v1, .int x198]) (H' := (c0 :: c1 :: c2 :: c3 :: c4 :: c5 :: c6 :: c7 :: c8 :: c9 :: c10 :: c11 :: c12 :: c13 :: c14 :: c15 :: bk1 zd zg zr zu zn zm zi zc zs zp zq ze zh zf zl zk zj zt za zo zb po)) rfl ?_
      by_cases hc249 : x198 = v1
      · simp only [if_pos hc249] at h
        refine OEnds.icmpF hm_17 rfl ((teq hc249).2) ?_
        refine OEnds.adv hm_17 3 (pc' := 65) (L' := [qr 16, qi v1, qi v2, qi v3, qi v4, qi x197]) (S' := [.int x197, .ref 18]) (H' := (c0 :: c1 :: c2 :: c3 :: c4 :: c5 :: c6 :: c7 :: c8 :: c9 :: c10 :: c11 :: c12 :: c13 :: c14 :: c15 :: bk1 zd zg zr zu zn zm zi zc zs zp zq ze zh zf zl zk zj zt za zo zb po)) rfl ?_
        obtain ⟨x199, hx199, h⟩ := bnd h
        refine OEnds.plain hm_17 rfl rfl (x_iaload rfl hx199) ?_
        refine OEnds.adv hm_17 1 (pc' := 67) (L' := [qr 16, qi v1, qi v2, qi v3, qi v4, qi x197]) (S' := [.int v2, .int x199]) (H' := (c0 :: c1 :: c2 :: c3 :: c4 :: c5 :: c6 :: c7 :: c8 :: c9 :: c10 :: c11 :: c12 :: c13 :: c14 :: c15 :: bk1 zd zg zr zu zn zm zi zc zs zp zq ze zh zf zl zk zj zt za zo zb po)) rfl ?_
        by_cases hc250 : x199 = v2
        · simp only [if_pos hc250] at h
          refine OEnds.icmpF hm_17 rfl ((teq hc250).2) ?_
          refine OEnds.adv hm_17 4 (pc' := 77) (L' := [qr 16, qi v1, qi v2, qi v3, qi v4, qi x197]) (S' := [.int x197, .ref 19, .int v3]) (H' := (c0 :: c1 :: c2 :: c3 :: c4 :: c5 :: c6 :: c7 :: c8 :: c9 :: c10 :: c11 :: c12 :: c13 :: c14 :: c15 :: bk1 zd zg zr zu zn zm zi zc zs zp zq ze zh zf zl zk zj zt za zo zb po)) rfl ?_
          obtain ⟨x200, hx200, h⟩ := bnd h
          refine OEnds.plain hm_17 rfl rfl (x_iaload rfl hx200) ?_
          refine OEnds.adv hm_17 4 (pc' := 30) (L' := [qr 16, qi v1, qi v2, qi (v3 + x200), qi (v4 + (1 : Int32)), qi x197]) (S' := []) (H' := (c0 :: c1 :: c2 :: c3 :: c4 :: c5 :: c6 :: c7 :: c8 :: c9 :: c10 :: c11 :: c12 :: c13 :: c14 :: c15 :: bk1 zd zg zr zu zn zm zi zc zs zp zq ze zh zf zl zk zj zt za zo zb po)) rfl ?_
          exact ih h
        · simp only [if_neg hc250] at h
          refine OEnds.icmpT hm_17 rfl (q := 80) rfl ((feq hc250).2) ?_
          refine OEnds.adv hm_17 2 (pc' := 30) (L' := [qr 16, qi v1, qi v2, qi v3, qi (v4 + (1 : Int32)), qi x197]) (S' := []) (H' := (c0 :: c1 :: c2 :: c3 :: c4 :: c5 :: c6 :: c7 :: c8 :: c9 :: c10 :: c11 :: c12 :: c13 :: c14 :: c15 :: bk1 zd zg zr zu zn zm zi zc zs zp zq ze zh zf zl zk zj zt za zo zb po)) rfl ?_
          exact ih h
      · simp only [if_neg hc249] at h
        refine OEnds.icmpT hm_17 rfl (q := 80) rfl ((feq hc249).2) ?_
        refine OEnds.adv hm_17 2 (pc' := 30) (L' := [qr 16, qi v1, qi v2, qi v3, qi (v4 + (1 : Int32)), qi x197]) (S' := []) (H' := (c0 :: c1 :: c2 :: c3 :: c4 :: c5 :: c6 :: c7 :: c8 :: c9 :: c10 :: c11 :: c12 :: c13 :: c14 :: c15 :: bk1 zd zg zr zu zn zm zi zc zs zp zq ze zh zf zl zk zj zt za zo zb po)) rfl ?_
        exact ih h
    · simp only [if_neg hc248] at h
      refine OEnds.icmpT hm_17 rfl (q := 86) rfl ((flt hc248).2.1) ?_
      refine OEnds.adv hm_17 1 (pc' := 87) (L' := [qr 16, qi v1, qi v2, qi v3, qi v4, qu]) (S' := [.int v3]) (H' := (c0 :: c1 :: c2 :: c3 :: c4 :: c5 :: c6 :: c7 :: c8 :: c9 :: c10 :: c11 :: c12 :: c13 :: c14 :: c15 :: bk1 zd zg zr zu zn zm zi zc zs zp zq ze zh zf zl zk zj zt za zo zb po)) rfl ?_
      cases h
      exact OEnds.iret hm_17 rfl rfl
theorem ok_depthAt_11_1 {zd zg zr zu zn : List Int32} {zm : List Int64} {zi zc zs zp zq ze zh zf : List Int32} {zl zk zj : Int32} {zt : Int64} {za zo zb : Int32} {c0 c1 c2 c3 c4 c5 c6 c7 c8 c9 c10 c11 c12 c13 c14 c15 : ACell} {po : List ACell} : ∀ {v1 v2 : Int32} {d3 d4 d5 : Slot} {res : Int32}, f_depthAt_11 zd zg zr zc za v1 v2 = some res → OEnds own_P 17 11 [qr 16, qi v1, qi v2, d3, d4, d5] [] (c0 :: c1 :: c2 :: c3 :: c4 :: c5 :: c6 :: c7 :: c8 :: c9 :: c10 :: c11 :: c12 :: c13 :: c14 :: c15 :: bk1 zd zg zr zu zn zm zi zc zs zp zq ze zh zf zl zk zj zt za zo zb po) (some (.int res), (c0 :: c1 :: c2 :: c3 :: c4 :: c5 :: c6 :: c7 :: c8 :: c9 :: c10 :: c11 :: c12 :: c13 :: c14 :: c15 :: bk1 zd zg zr zu zn zm zi zc zs zp zq ze zh zf zl zk zj zt za zo zb po), 0, 0) := by
  intro v1 v2 d3 d4 d5 res h
  unfold f_depthAt_11 at h
  refine OEnds.adv hm_17 2 (pc' := 13) (L' := [qr 16, qi v1, qi v2, qu, qu, qu]) (S' := [.int 1, .int v2]) (H' := (c0 :: c1 :: c2 :: c3 :: c4 :: c5 :: c6 :: c7 :: c8 :: c9 :: c10 :: c11 :: c12 :: c13 :: c14 :: c15 :: bk1 zd zg zr zu zn zm zi zc zs zp zq ze zh zf zl zk zj zt za zo zb po)) rfl ?_
  by_cases hc251 : v2 < (1 : Int32)
  · simp only [if_pos hc251] at h
    refine OEnds.icmpT hm_17 rfl (q := 23) rfl ((tlt hc251).1) ?_
    refine OEnds.adv hm_17 1 (pc' := 24) (L' := [qr 16, qi v1, qi v2, qu, qu, qu]) (S' := [.int 0]) (H' := (c0 :: c1 :: c2 :: c3 :: c4 :: c5 :: c6 :: c7 :: c8 :: c9 :: c10 :: c11 :: c12 :: c13 :: c14 :: c15 :: bk1 zd zg zr zu zn zm zi zc zs zp zq ze zh zf zl zk zj zt za zo zb po)) rfl ?_
    cases h
    exact OEnds.iret hm_17 rfl rfl
  · simp only [if_neg hc251] at h
    refine OEnds.icmpF hm_17 rfl ((flt hc251).1) ?_
    refine OEnds.adv hm_17 2 (pc' := 20) (L' := [qr 16, qi v1, qi v2, qu, qu, qu]) (S' := [.int 1000, .int v2]) (H' := (c0 :: c1 :: c2 :: c3 :: c4 :: c5 :: c6 :: c7 :: c8 :: c9 :: c10 :: c11 :: c12 :: c13 :: c14 :: c15 :: bk1 zd zg zr zu zn zm zi zc zs zp zq ze zh zf zl zk zj zt za zo zb po)) rfl ?_
    by_cases hc252 : (1000 : Int32) < v2
    · simp only [if_pos hc252] at h
      refine OEnds.icmpF hm_17 rfl ((tlt hc252).2.2.2) ?_
      refine OEnds.adv hm_17 1 (pc' := 24) (L' := [qr 16, qi v1, qi v2, qu, qu, qu]) (S' := [.int 0]) (H' := (c0 :: c1 :: c2 :: c3 :: c4 :: c5 :: c6 :: c7 :: c8 :: c9 :: c10 :: c11 :: c12 :: c13 :: c14 :: c15 :: bk1 zd zg zr zu zn zm zi zc zs zp zq ze zh zf zl zk zj zt za zo zb po)) rfl ?_
      cases h
      exact OEnds.iret hm_17 rfl rfl
    · simp only [if_neg hc252] at h
      refine OEnds.icmpT hm_17 rfl (q := 25) rfl ((flt hc252).2.2.2) ?_
      refine OEnds.adv hm_17 4 (pc' := 30) (L' := [qr 16, qi v1, qi v2, qi 0, qi 0, qu]) (S' := []) (H' := (c0 :: c1 :: c2 :: c3 :: c4 :: c5 :: c6 :: c7 :: c8 :: c9 :: c10 :: c11 :: c12 :: c13 :: c14 :: c15 :: bk1 zd zg zr zu zn zm zi zc zs zp zq ze zh zf zl zk zj zt za zo zb po)) rfl ?_
      exact ok_depthAt_30_1 100000 h
theorem ok_depthAt_1 {zd zg zr zu zn : List Int32} {zm : List Int64} {zi zc zs zp zq ze zh zf : List Int32} {zl zk zj : Int32} {zt : Int64} {za zo zb : Int32} {c0 c1 c2 c3 c4 c5 c6 c7 c8 c9 c10 c11 c12 c13 c14 c15 : ACell} {po : List ACell} {v1 v2 res : Int32} (h : f_depthAt zd zg zr zc za v1 v2 = some res) : OEnds own_P 17 0 [qr 16, qi v1, qi v2, qu, qu, qu] [] (c0 :: c1 :: c2 :: c3 :: c4 :: c5 :: c6 :: c7 :: c8 :: c9 :: c10 :: c11 :: c12 :: c13 :: c14 :: c15 :: bk1 zd zg zr zu zn zm zi zc zs zp zq ze zh zf zl zk zj zt za zo zb po) (some (.int res), (c0 :: c1 :: c2 :: c3 :: c4 :: c5 :: c6 :: c7 :: c8 :: c9 :: c10 :: c11 :: c12 :: c13 :: c14 :: c15 :: bk1 zd zg zr zu zn zm zi zc zs zp zq ze zh zf zl zk zj zt za zo zb po), 0, 0) := by
  unfold f_depthAt at h
  refine OEnds.adv hm_17 1 (pc' := 1) (L' := [qr 16, qi v1, qi v2, qu, qu, qu]) (S' := [.int v1]) (H' := (c0 :: c1 :: c2 :: c3 :: c4 :: c5 :: c6 :: c7 :: c8 :: c9 :: c10 :: c11 :: c12 :: c13 :: c14 :: c15 :: bk1 zd zg zr zu zn zm zi zc zs zp zq ze zh zf zl zk zj zt za zo zb po)) rfl ?_
  by_cases hc253 : v1 = (0 : Int32)
  · simp only [if_pos hc253] at h
    refine OEnds.ifT hm_17 rfl (q := 11) rfl ((teq hc253).1) ?_
    show OEnds own_P 17 11 [qr 16, qi v1, qi v2, qu, qu, qu] [] (c0 :: c1 :: c2 :: c3 :: c4 :: c5 :: c6 :: c7 :: c8 :: c9 :: c10 :: c11 :: c12 :: c13 :: c14 :: c15 :: bk1 zd zg zr zu zn zm zi zc zs zp zq ze zh zf zl zk zj zt za zo zb po) _
    exact ok_depthAt_11_1 h
  · simp only [if_neg hc253] at h
    refine OEnds.ifF hm_17 rfl ((feq hc253).1) ?_
    refine OEnds.adv hm_17 2 (pc' := 6) (L' := [qr 16, qi v1, qi v2, qu, qu, qu]) (S' := [.int 1, .int v1]) (H' := (c0 :: c1 :: c2 :: c3 :: c4 :: c5 :: c6 :: c7 :: c8 :: c9 :: c10 :: c11 :: c12 :: c13 :: c14 :: c15 :: bk1 zd zg zr zu zn zm zi zc zs zp zq ze zh zf zl zk zj zt za zo zb po)) rfl ?_
    by_cases hc254 : v1 = (1 : Int32)
    · simp only [if_pos hc254] at h
      refine OEnds.icmpT hm_17 rfl (q := 11) rfl ((teq hc254).1) ?_
      show OEnds own_P 17 11 [qr 16, qi v1, qi v2, qu, qu, qu] [] (c0 :: c1 :: c2 :: c3 :: c4 :: c5 :: c6 :: c7 :: c8 :: c9 :: c10 :: c11 :: c12 :: c13 :: c14 :: c15 :: bk1 zd zg zr zu zn zm zi zc zs zp zq ze zh zf zl zk zj zt za zo zb po) _
      exact ok_depthAt_11_1 h
    · simp only [if_neg hc254] at h
      refine OEnds.icmpF hm_17 rfl ((feq hc254).1) ?_
      refine OEnds.adv hm_17 1 (pc' := 10) (L' := [qr 16, qi v1, qi v2, qu, qu, qu]) (S' := [.int 0]) (H' := (c0 :: c1 :: c2 :: c3 :: c4 :: c5 :: c6 :: c7 :: c8 :: c9 :: c10 :: c11 :: c12 :: c13 :: c14 :: c15 :: bk1 zd zg zr zu zn zm zi zc zs zp zq ze zh zf zl zk zj zt za zo zb po)) rfl ?_
      cases h
      exact OEnds.iret hm_17 rfl rfl
theorem ok_ordersAt_30_0 {zd zg zr zu zn : List Int32} {zm : List Int64} {zi zc zs zp zq ze zh zf : List Int32} {zl zk zj : Int32} {zt : Int64} {za zo zb : Int32} {c0 : ACell} {po : List ACell} : ∀ (n : Nat), ∀ {v1 v2 v3 v4 : Int32} {d5 : Slot} {res : Int32}, f_ordersAt_30 zd zg zc za n v1 v2 v3 v4 = some res → OEnds own_P 18 30 [qr 1, qi v1, qi v2, qi v3, qi v4, d5] [] (c0 :: bk0 zd zg zr zu zn zm zi zc zs zp zq ze zh zf zl zk zj zt za zo zb po) (some (.int res), (c0 :: bk0 zd zg zr zu zn zm zi zc zs zp zq ze zh zf zl zk zj zt za zo zb po), 0, 0) := by
  intro n
  induction n with
  | zero => intro v1 v2 v3 v4 d5 res h; cases h
  | succ n ih =>
    intro v1 v2 v3 v4 d5 res h
    unfold f_ordersAt_30 at h
    refine OEnds.adv hm_18 3 (pc' := 36) (L' := [qr 1, qi v1, qi v2, qi v3, qi v4, qu]) (S' := [.int za, .int v4]) (H' := (c0 :: bk0 zd zg zr zu zn zm zi zc zs zp zq ze zh zf zl zk zj zt za zo zb po)) rfl ?_
    by_cases hc255 : v4 < za
    · simp only [if_pos hc255] at h
      refine OEnds.icmpF hm_18 rfl ((tlt hc255).2.1) ?_
      refine OEnds.adv hm_18 3 (pc' := 45) (L' := [qr 1, qi v1, qi v2, qi v3, qi v4, qu]) (S' := [.int v4, .ref 9]) (H' := (c0 :: bk0 zd zg zr zu zn zm zi zc zs zp zq ze zh zf zl zk zj zt za zo zb po)) rfl ?_
      obtain ⟨x201, hx201, h⟩ := bnd h
      refine OEnds.plain hm_18 rfl rfl (x_iaload rfl hx201) ?_
      refine OEnds.adv hm_18 4 (pc' := 54) (L' := [qr 1, qi v1, qi v2, qi v3, qi v4, qi x201]) (S' := [.int x201, .ref 2]) (H' := (c0 :: bk0 zd zg zr zu zn zm zi zc zs zp zq ze zh zf zl zk zj zt za zo zb po)) rfl ?_
      obtain ⟨x202, hx202, h⟩ := bnd h
      refine OEnds.plain hm_18 rfl rfl (x_iaload rfl hx202) ?_
      refine OEnds.adv hm_18 1 (pc' := 56) (L' := [qr 1, qi v1, qi v2, qi v3, qi v4, qi x201]) (S' := [.int v1, .int x202]) (H' := (c0 :: bk0 zd zg zr zu zn zm zi zc zs zp zq ze zh zf zl zk zj zt za zo zb po)) rfl ?_
      by_cases hc256 : x202 = v1
      · simp only [if_pos hc256] at h
        refine OEnds.icmpF hm_18 rfl ((teq hc256).2) ?_
        refine OEnds.adv hm_18 3 (pc' := 65) (L' := [qr 1, qi v1, qi v2, qi v3, qi v4, qi x201]) (S' := [.int x201, .ref 3]) (H' := (c0 :: bk0 zd zg zr zu zn zm zi zc zs zp zq ze zh zf zl zk zj zt za zo zb po)) rfl ?_
        obtain ⟨x203, hx203, h⟩ := bnd h
        refine OEnds.plain hm_18 rfl rfl (x_iaload rfl hx203) ?_
        refine OEnds.adv hm_18 1 (pc' := 67) (L' := [qr 1, qi v1, qi v2, qi v3, qi v4, qi x201]) (S' := [.int v2, .int x203]) (H' := (c0 :: bk0 zd zg zr zu zn zm zi zc zs zp zq ze zh zf zl zk zj zt za zo zb po)) rfl ?_
        by_cases hc257 : x203 = v2
        · simp only [if_pos hc257] at h
          refine OEnds.icmpF hm_18 rfl ((teq hc257).2) ?_
          refine OEnds.adv hm_18 3 (pc' := 30) (L' := [qr 1, qi v1, qi v2, qi (v3 + (1 : Int32)), qi (v4 + (1 : Int32)), qi x201]) (S' := []) (H' := (c0 :: bk0 zd zg zr zu zn zm zi zc zs zp zq ze zh zf zl zk zj zt za zo zb po)) rfl ?_
          exact ih h
        · simp only [if_neg hc257] at h
          refine OEnds.icmpT hm_18 rfl (q := 73) rfl ((feq hc257).2) ?_
          refine OEnds.adv hm_18 2 (pc' := 30) (L' := [qr 1, qi v1, qi v2, qi v3, qi (v4 + (1 : Int32)), qi x201]) (S' := []) (H' := (c0 :: bk0 zd zg zr zu zn zm zi zc zs zp zq ze zh zf zl zk zj zt za zo zb po)) rfl ?_
          exact ih h
      · simp only [if_neg hc256] at h
        refine OEnds.icmpT hm_18 rfl (q := 73) rfl ((feq hc256).2) ?_
        refine OEnds.adv hm_18 2 (pc' := 30) (L' := [qr 1, qi v1, qi v2, qi v3, qi (v4 + (1 : Int32)), qi x201]) (S' := []) (H' := (c0 :: bk0 zd zg zr zu zn zm zi zc zs zp zq ze zh zf zl zk zj zt za zo zb po)) rfl ?_
        exact ih h
    · simp only [if_neg hc255] at h
      refine OEnds.icmpT hm_18 rfl (q := 79) rfl ((flt hc255).2.1) ?_
      refine OEnds.adv hm_18 1 (pc' := 80) (L' := [qr 1, qi v1, qi v2, qi v3, qi v4, qu]) (S' := [.int v3]) (H' := (c0 :: bk0 zd zg zr zu zn zm zi zc zs zp zq ze zh zf zl zk zj zt za zo zb po)) rfl ?_
      cases h
      exact OEnds.iret hm_18 rfl rfl
theorem ok_ordersAt_11_0 {zd zg zr zu zn : List Int32} {zm : List Int64} {zi zc zs zp zq ze zh zf : List Int32} {zl zk zj : Int32} {zt : Int64} {za zo zb : Int32} {c0 : ACell} {po : List ACell} : ∀ {v1 v2 : Int32} {d3 d4 d5 : Slot} {res : Int32}, f_ordersAt_11 zd zg zc za v1 v2 = some res → OEnds own_P 18 11 [qr 1, qi v1, qi v2, d3, d4, d5] [] (c0 :: bk0 zd zg zr zu zn zm zi zc zs zp zq ze zh zf zl zk zj zt za zo zb po) (some (.int res), (c0 :: bk0 zd zg zr zu zn zm zi zc zs zp zq ze zh zf zl zk zj zt za zo zb po), 0, 0) := by
  intro v1 v2 d3 d4 d5 res h
  unfold f_ordersAt_11 at h
  refine OEnds.adv hm_18 2 (pc' := 13) (L' := [qr 1, qi v1, qi v2, qu, qu, qu]) (S' := [.int 1, .int v2]) (H' := (c0 :: bk0 zd zg zr zu zn zm zi zc zs zp zq ze zh zf zl zk zj zt za zo zb po)) rfl ?_
  by_cases hc258 : v2 < (1 : Int32)
  · simp only [if_pos hc258] at h
    refine OEnds.icmpT hm_18 rfl (q := 23) rfl ((tlt hc258).1) ?_
    refine OEnds.adv hm_18 1 (pc' := 24) (L' := [qr 1, qi v1, qi v2, qu, qu, qu]) (S' := [.int 0]) (H' := (c0 :: bk0 zd zg zr zu zn zm zi zc zs zp zq ze zh zf zl zk zj zt za zo zb po)) rfl ?_
    cases h
    exact OEnds.iret hm_18 rfl rfl
  · simp only [if_neg hc258] at h
    refine OEnds.icmpF hm_18 rfl ((flt hc258).1) ?_
    refine OEnds.adv hm_18 2 (pc' := 20) (L' := [qr 1, qi v1, qi v2, qu, qu, qu]) (S' := [.int 1000, .int v2]) (H' := (c0 :: bk0 zd zg zr zu zn zm zi zc zs zp zq ze zh zf zl zk zj zt za zo zb po)) rfl ?_
    by_cases hc259 : (1000 : Int32) < v2
    · simp only [if_pos hc259] at h
      refine OEnds.icmpF hm_18 rfl ((tlt hc259).2.2.2) ?_
      refine OEnds.adv hm_18 1 (pc' := 24) (L' := [qr 1, qi v1, qi v2, qu, qu, qu]) (S' := [.int 0]) (H' := (c0 :: bk0 zd zg zr zu zn zm zi zc zs zp zq ze zh zf zl zk zj zt za zo zb po)) rfl ?_
      cases h
      exact OEnds.iret hm_18 rfl rfl
    · simp only [if_neg hc259] at h
      refine OEnds.icmpT hm_18 rfl (q := 25) rfl ((flt hc259).2.2.2) ?_
      refine OEnds.adv hm_18 4 (pc' := 30) (L' := [qr 1, qi v1, qi v2, qi 0, qi 0, qu]) (S' := []) (H' := (c0 :: bk0 zd zg zr zu zn zm zi zc zs zp zq ze zh zf zl zk zj zt za zo zb po)) rfl ?_
      exact ok_ordersAt_30_0 100000 h
theorem ok_ordersAt_0 {zd zg zr zu zn : List Int32} {zm : List Int64} {zi zc zs zp zq ze zh zf : List Int32} {zl zk zj : Int32} {zt : Int64} {za zo zb : Int32} {c0 : ACell} {po : List ACell} {v1 v2 res : Int32} (h : f_ordersAt zd zg zc za v1 v2 = some res) : OEnds own_P 18 0 [qr 1, qi v1, qi v2, qu, qu, qu] [] (c0 :: bk0 zd zg zr zu zn zm zi zc zs zp zq ze zh zf zl zk zj zt za zo zb po) (some (.int res), (c0 :: bk0 zd zg zr zu zn zm zi zc zs zp zq ze zh zf zl zk zj zt za zo zb po), 0, 0) := by
  unfold f_ordersAt at h
  refine OEnds.adv hm_18 1 (pc' := 1) (L' := [qr 1, qi v1, qi v2, qu, qu, qu]) (S' := [.int v1]) (H' := (c0 :: bk0 zd zg zr zu zn zm zi zc zs zp zq ze zh zf zl zk zj zt za zo zb po)) rfl ?_
  by_cases hc260 : v1 = (0 : Int32)
  · simp only [if_pos hc260] at h
    refine OEnds.ifT hm_18 rfl (q := 11) rfl ((teq hc260).1) ?_
    show OEnds own_P 18 11 [qr 1, qi v1, qi v2, qu, qu, qu] [] (c0 :: bk0 zd zg zr zu zn zm zi zc zs zp zq ze zh zf zl zk zj zt za zo zb po) _
    exact ok_ordersAt_11_0 h
  · simp only [if_neg hc260] at h
    refine OEnds.ifF hm_18 rfl ((feq hc260).1) ?_
    refine OEnds.adv hm_18 2 (pc' := 6) (L' := [qr 1, qi v1, qi v2, qu, qu, qu]) (S' := [.int 1, .int v1]) (H' := (c0 :: bk0 zd zg zr zu zn zm zi zc zs zp zq ze zh zf zl zk zj zt za zo zb po)) rfl ?_
    by_cases hc261 : v1 = (1 : Int32)
    · simp only [if_pos hc261] at h
      refine OEnds.icmpT hm_18 rfl (q := 11) rfl ((teq hc261).1) ?_
      show OEnds own_P 18 11 [qr 1, qi v1, qi v2, qu, qu, qu] [] (c0 :: bk0 zd zg zr zu zn zm zi zc zs zp zq ze zh zf zl zk zj zt za zo zb po) _
      exact ok_ordersAt_11_0 h
    · simp only [if_neg hc261] at h
      refine OEnds.icmpF hm_18 rfl ((feq hc261).1) ?_
      refine OEnds.adv hm_18 1 (pc' := 10) (L' := [qr 1, qi v1, qi v2, qu, qu, qu]) (S' := [.int 0]) (H' := (c0 :: bk0 zd zg zr zu zn zm zi zc zs zp zq ze zh zf zl zk zj zt za zo zb po)) rfl ?_
      cases h
      exact OEnds.iret hm_18 rfl rfl
theorem ok_ordersAt_30_1 {zd zg zr zu zn : List Int32} {zm : List Int64} {zi zc zs zp zq ze zh zf : List Int32} {zl zk zj : Int32} {zt : Int64} {za zo zb : Int32} {c0 c1 c2 c3 c4 c5 c6 c7 c8 c9 c10 c11 c12 c13 c14 c15 : ACell} {po : List ACell} : ∀ (n : Nat), ∀ {v1 v2 v3 v4 : Int32} {d5 : Slot} {res : Int32}, f_ordersAt_30 zd zg zc za n v1 v2 v3 v4 = some res → OEnds own_P 18 30 [qr 16, qi v1, qi v2, qi v3, qi v4, d5] [] (c0 :: c1 :: c2 :: c3 :: c4 :: c5 :: c6 :: c7 :: c8 :: c9 :: c10 :: c11 :: c12 :: c13 :: c14 :: c15 :: bk1 zd zg zr zu zn zm zi zc zs zp zq ze zh zf zl zk zj zt za zo zb po) (some (.int res), (c0 :: c1 :: c2 :: c3 :: c4 :: c5 :: c6 :: c7 :: c8 :: c9 :: c10 :: c11 :: c12 :: c13 :: c14 :: c15 :: bk1 zd zg zr zu zn zm zi zc zs zp zq ze zh zf zl zk zj zt za zo zb po), 0, 0) := by
  intro n
  induction n with
  | zero => intro v1 v2 v3 v4 d5 res h; cases h
  | succ n ih =>
    intro v1 v2 v3 v4 d5 res h
    unfold f_ordersAt_30 at h
    refine OEnds.adv hm_18 3 (pc' := 36) (L' := [qr 16, qi v1, qi v2, qi v3, qi v4, qu]) (S' := [.int za, .int v4]) (H' := (c0 :: c1 :: c2 :: c3 :: c4 :: c5 :: c6 :: c7 :: c8 :: c9 :: c10 :: c11 :: c12 :: c13 :: c14 :: c15 :: bk1 zd zg zr zu zn zm zi zc zs zp zq ze zh zf zl zk zj zt za zo zb po)) rfl ?_
    by_cases hc262 : v4 < za
    · simp only [if_pos hc262] at h
      refine OEnds.icmpF hm_18 rfl ((tlt hc262).2.1) ?_
      refine OEnds.adv hm_18 3 (pc' := 45) (L' := [qr 16, qi v1, qi v2, qi v3, qi v4, qu]) (S' := [.int v4, .ref 24]) (H' := (c0 :: c1 :: c2 :: c3 :: c4 :: c5 :: c6 :: c7 :: c8 :: c9 :: c10 :: c11 :: c12 :: c13 :: c14 :: c15 :: bk1 zd zg zr zu zn zm zi zc zs zp zq ze zh zf zl zk zj zt za zo zb po)) rfl ?_
      obtain ⟨x201, hx201, h⟩ := bnd h
      refine OEnds.plain hm_18 rfl rfl (x_iaload rfl hx201) ?_
      refine OEnds.adv hm_18 4 (pc' := 54) (L' := [qr 16, qi v1, qi v2, qi v3, qi v4, qi x201]) (S' := [.int x201, .ref 17]) (H' := (c0 :: c1 :: c2 :: c3 :: c4 :: c5 :: c6 :: c7 :: c8 :: c9 :: c10 :: c11 :: c12 :: c13 :: c14 :: c15 :: bk1 zd zg zr zu zn zm zi zc zs zp zq ze zh zf zl zk zj zt za zo zb po)) rfl ?_
      obtain ⟨x202, hx202, h⟩ := bnd h
      refine OEnds.plain hm_18 rfl rfl (x_iaload rfl hx202) ?_
      refine OEnds.adv hm_18 1 (pc' := 56) (L' := [qr 16, qi v1, qi v2, qi v3, qi v4, qi x201]) (S' := [.int v1, .int x202]) (H' := (c0 :: c1 :: c2 :: c3 :: c4 :: c5 :: c6 :: c7 :: c8 :: c9 :: c10 :: c11 :: c12 :: c13 :: c14 :: c15 :: bk1 zd zg zr zu zn zm zi zc zs zp zq ze zh zf zl zk zj zt za zo zb po)) rfl ?_
      by_cases hc263 : x202 = v1
      · simp only [if_pos hc263] at h
        refine OEnds.icmpF hm_18 rfl ((teq hc263).2) ?_
        refine OEnds.adv hm_18 3 (pc' := 65) (L' := [qr 16, qi v1, qi v2, qi v3, qi v4, qi x201]) (S' := [.int x201, .ref 18]) (H' := (c0 :: c1 :: c2 :: c3 :: c4 :: c5 :: c6 :: c7 :: c8 :: c9 :: c10 :: c11 :: c12 :: c13 :: c14 :: c15 :: bk1 zd zg zr zu zn zm zi zc zs zp zq ze zh zf zl zk zj zt za zo zb po)) rfl ?_
        obtain ⟨x203, hx203, h⟩ := bnd h
        refine OEnds.plain hm_18 rfl rfl (x_iaload rfl hx203) ?_
        refine OEnds.adv hm_18 1 (pc' := 67) (L' := [qr 16, qi v1, qi v2, qi v3, qi v4, qi x201]) (S' := [.int v2, .int x203]) (H' := (c0 :: c1 :: c2 :: c3 :: c4 :: c5 :: c6 :: c7 :: c8 :: c9 :: c10 :: c11 :: c12 :: c13 :: c14 :: c15 :: bk1 zd zg zr zu zn zm zi zc zs zp zq ze zh zf zl zk zj zt za zo zb po)) rfl ?_
        by_cases hc264 : x203 = v2
        · simp only [if_pos hc264] at h
          refine OEnds.icmpF hm_18 rfl ((teq hc264).2) ?_
          refine OEnds.adv hm_18 3 (pc' := 30) (L' := [qr 16, qi v1, qi v2, qi (v3 + (1 : Int32)), qi (v4 + (1 : Int32)), qi x201]) (S' := []) (H' := (c0 :: c1 :: c2 :: c3 :: c4 :: c5 :: c6 :: c7 :: c8 :: c9 :: c10 :: c11 :: c12 :: c13 :: c14 :: c15 :: bk1 zd zg zr zu zn zm zi zc zs zp zq ze zh zf zl zk zj zt za zo zb po)) rfl ?_
          exact ih h
        · simp only [if_neg hc264] at h
          refine OEnds.icmpT hm_18 rfl (q := 73) rfl ((feq hc264).2) ?_
          refine OEnds.adv hm_18 2 (pc' := 30) (L' := [qr 16, qi v1, qi v2, qi v3, qi (v4 + (1 : Int32)), qi x201]) (S' := []) (H' := (c0 :: c1 :: c2 :: c3 :: c4 :: c5 :: c6 :: c7 :: c8 :: c9 :: c10 :: c11 :: c12 :: c13 :: c14 :: c15 :: bk1 zd zg zr zu zn zm zi zc zs zp zq ze zh zf zl zk zj zt za zo zb po)) rfl ?_
          exact ih h
      · simp only [if_neg hc263] at h
        refine OEnds.icmpT hm_18 rfl (q := 73) rfl ((feq hc263).2) ?_
        refine OEnds.adv hm_18 2 (pc' := 30) (L' := [qr 16, qi v1, qi v2, qi v3, qi (v4 + (1 : Int32)), qi x201]) (S' := []) (H' := (c0 :: c1 :: c2 :: c3 :: c4 :: c5 :: c6 :: c7 :: c8 :: c9 :: c10 :: c11 :: c12 :: c13 :: c14 :: c15 :: bk1 zd zg zr zu zn zm zi zc zs zp zq ze zh zf zl zk zj zt za zo zb po)) rfl ?_
        exact ih h
    · simp only [if_neg hc262] at h
      refine OEnds.icmpT hm_18 rfl (q := 79) rfl ((flt hc262).2.1) ?_
      refine OEnds.adv hm_18 1 (pc' := 80) (L' := [qr 16, qi v1, qi v2, qi v3, qi v4, qu]) (S' := [.int v3]) (H' := (c0 :: c1 :: c2 :: c3 :: c4 :: c5 :: c6 :: c7 :: c8 :: c9 :: c10 :: c11 :: c12 :: c13 :: c14 :: c15 :: bk1 zd zg zr zu zn zm zi zc zs zp zq ze zh zf zl zk zj zt za zo zb po)) rfl ?_
      cases h
      exact OEnds.iret hm_18 rfl rfl
theorem ok_ordersAt_11_1 {zd zg zr zu zn : List Int32} {zm : List Int64} {zi zc zs zp zq ze zh zf : List Int32} {zl zk zj : Int32} {zt : Int64} {za zo zb : Int32} {c0 c1 c2 c3 c4 c5 c6 c7 c8 c9 c10 c11 c12 c13 c14 c15 : ACell} {po : List ACell} : ∀ {v1 v2 : Int32} {d3 d4 d5 : Slot} {res : Int32}, f_ordersAt_11 zd zg zc za v1 v2 = some res → OEnds own_P 18 11 [qr 16, qi v1, qi v2, d3, d4, d5] [] (c0 :: c1 :: c2 :: c3 :: c4 :: c5 :: c6 :: c7 :: c8 :: c9 :: c10 :: c11 :: c12 :: c13 :: c14 :: c15 :: bk1 zd zg zr zu zn zm zi zc zs zp zq ze zh zf zl zk zj zt za zo zb po) (some (.int res), (c0 :: c1 :: c2 :: c3 :: c4 :: c5 :: c6 :: c7 :: c8 :: c9 :: c10 :: c11 :: c12 :: c13 :: c14 :: c15 :: bk1 zd zg zr zu zn zm zi zc zs zp zq ze zh zf zl zk zj zt za zo zb po), 0, 0) := by
  intro v1 v2 d3 d4 d5 res h
  unfold f_ordersAt_11 at h
  refine OEnds.adv hm_18 2 (pc' := 13) (L' := [qr 16, qi v1, qi v2, qu, qu, qu]) (S' := [.int 1, .int v2]) (H' := (c0 :: c1 :: c2 :: c3 :: c4 :: c5 :: c6 :: c7 :: c8 :: c9 :: c10 :: c11 :: c12 :: c13 :: c14 :: c15 :: bk1 zd zg zr zu zn zm zi zc zs zp zq ze zh zf zl zk zj zt za zo zb po)) rfl ?_
  by_cases hc265 : v2 < (1 : Int32)
  · simp only [if_pos hc265] at h
    refine OEnds.icmpT hm_18 rfl (q := 23) rfl ((tlt hc265).1) ?_
    refine OEnds.adv hm_18 1 (pc' := 24) (L' := [qr 16, qi v1, qi v2, qu, qu, qu]) (S' := [.int 0]) (H' := (c0 :: c1 :: c2 :: c3 :: c4 :: c5 :: c6 :: c7 :: c8 :: c9 :: c10 :: c11 :: c12 :: c13 :: c14 :: c15 :: bk1 zd zg zr zu zn zm zi zc zs zp zq ze zh zf zl zk zj zt za zo zb po)) rfl ?_
    cases h
    exact OEnds.iret hm_18 rfl rfl
  · simp only [if_neg hc265] at h
    refine OEnds.icmpF hm_18 rfl ((flt hc265).1) ?_
    refine OEnds.adv hm_18 2 (pc' := 20) (L' := [qr 16, qi v1, qi v2, qu, qu, qu]) (S' := [.int 1000, .int v2]) (H' := (c0 :: c1 :: c2 :: c3 :: c4 :: c5 :: c6 :: c7 :: c8 :: c9 :: c10 :: c11 :: c12 :: c13 :: c14 :: c15 :: bk1 zd zg zr zu zn zm zi zc zs zp zq ze zh zf zl zk zj zt za zo zb po)) rfl ?_
    by_cases hc266 : (1000 : Int32) < v2
    · simp only [if_pos hc266] at h
      refine OEnds.icmpF hm_18 rfl ((tlt hc266).2.2.2) ?_
      refine OEnds.adv hm_18 1 (pc' := 24) (L' := [qr 16, qi v1, qi v2, qu, qu, qu]) (S' := [.int 0]) (H' := (c0 :: c1 :: c2 :: c3 :: c4 :: c5 :: c6 :: c7 :: c8 :: c9 :: c10 :: c11 :: c12 :: c13 :: c14 :: c15 :: bk1 zd zg zr zu zn zm zi zc zs zp zq ze zh zf zl zk zj zt za zo zb po)) rfl ?_
      cases h
      exact OEnds.iret hm_18 rfl rfl
    · simp only [if_neg hc266] at h
      refine OEnds.icmpT hm_18 rfl (q := 25) rfl ((flt hc266).2.2.2) ?_
      refine OEnds.adv hm_18 4 (pc' := 30) (L' := [qr 16, qi v1, qi v2, qi 0, qi 0, qu]) (S' := []) (H' := (c0 :: c1 :: c2 :: c3 :: c4 :: c5 :: c6 :: c7 :: c8 :: c9 :: c10 :: c11 :: c12 :: c13 :: c14 :: c15 :: bk1 zd zg zr zu zn zm zi zc zs zp zq ze zh zf zl zk zj zt za zo zb po)) rfl ?_
      exact ok_ordersAt_30_1 100000 h
theorem ok_ordersAt_1 {zd zg zr zu zn : List Int32} {zm : List Int64} {zi zc zs zp zq ze zh zf : List Int32} {zl zk zj : Int32} {zt : Int64} {za zo zb : Int32} {c0 c1 c2 c3 c4 c5 c6 c7 c8 c9 c10 c11 c12 c13 c14 c15 : ACell} {po : List ACell} {v1 v2 res : Int32} (h : f_ordersAt zd zg zc za v1 v2 = some res) : OEnds own_P 18 0 [qr 16, qi v1, qi v2, qu, qu, qu] [] (c0 :: c1 :: c2 :: c3 :: c4 :: c5 :: c6 :: c7 :: c8 :: c9 :: c10 :: c11 :: c12 :: c13 :: c14 :: c15 :: bk1 zd zg zr zu zn zm zi zc zs zp zq ze zh zf zl zk zj zt za zo zb po) (some (.int res), (c0 :: c1 :: c2 :: c3 :: c4 :: c5 :: c6 :: c7 :: c8 :: c9 :: c10 :: c11 :: c12 :: c13 :: c14 :: c15 :: bk1 zd zg zr zu zn zm zi zc zs zp zq ze zh zf zl zk zj zt za zo zb po), 0, 0) := by
  unfold f_ordersAt at h
  refine OEnds.adv hm_18 1 (pc' := 1) (L' := [qr 16, qi v1, qi v2, qu, qu, qu]) (S' := [.int v1]) (H' := (c0 :: c1 :: c2 :: c3 :: c4 :: c5 :: c6 :: c7 :: c8 :: c9 :: c10 :: c11 :: c12 :: c13 :: c14 :: c15 :: bk1 zd zg zr zu zn zm zi zc zs zp zq ze zh zf zl zk zj zt za zo zb po)) rfl ?_
  by_cases hc267 : v1 = (0 : Int32)
  · simp only [if_pos hc267] at h
    refine OEnds.ifT hm_18 rfl (q := 11) rfl ((teq hc267).1) ?_
    show OEnds own_P 18 11 [qr 16, qi v1, qi v2, qu, qu, qu] [] (c0 :: c1 :: c2 :: c3 :: c4 :: c5 :: c6 :: c7 :: c8 :: c9 :: c10 :: c11 :: c12 :: c13 :: c14 :: c15 :: bk1 zd zg zr zu zn zm zi zc zs zp zq ze zh zf zl zk zj zt za zo zb po) _
    exact ok_ordersAt_11_1 h
  · simp only [if_neg hc267] at h
    refine OEnds.ifF hm_18 rfl ((feq hc267).1) ?_
    refine OEnds.adv hm_18 2 (pc' := 6) (L' := [qr 16, qi v1, qi v2, qu, qu, qu]) (S' := [.int 1, .int v1]) (H' := (c0 :: c1 :: c2 :: c3 :: c4 :: c5 :: c6 :: c7 :: c8 :: c9 :: c10 :: c11 :: c12 :: c13 :: c14 :: c15 :: bk1 zd zg zr zu zn zm zi zc zs zp zq ze zh zf zl zk zj zt za zo zb po)) rfl ?_
    by_cases hc268 : v1 = (1 : Int32)
    · simp only [if_pos hc268] at h
      refine OEnds.icmpT hm_18 rfl (q := 11) rfl ((teq hc268).1) ?_
      show OEnds own_P 18 11 [qr 16, qi v1, qi v2, qu, qu, qu] [] (c0 :: c1 :: c2 :: c3 :: c4 :: c5 :: c6 :: c7 :: c8 :: c9 :: c10 :: c11 :: c12 :: c13 :: c14 :: c15 :: bk1 zd zg zr zu zn zm zi zc zs zp zq ze zh zf zl zk zj zt za zo zb po) _
      exact ok_ordersAt_11_1 h
    · simp only [if_neg hc268] at h
      refine OEnds.icmpF hm_18 rfl ((feq hc268).1) ?_
      refine OEnds.adv hm_18 1 (pc' := 10) (L' := [qr 16, qi v1, qi v2, qu, qu, qu]) (S' := [.int 0]) (H' := (c0 :: c1 :: c2 :: c3 :: c4 :: c5 :: c6 :: c7 :: c8 :: c9 :: c10 :: c11 :: c12 :: c13 :: c14 :: c15 :: bk1 zd zg zr zu zn zm zi zc zs zp zq ze zh zf zl zk zj zt za zo zb po)) rfl ?_
      cases h
      exact OEnds.iret hm_18 rfl rfl
theorem ok_restingCount_0 {zd zg zr zu zn : List Int32} {zm : List Int64} {zi zc zs zp zq ze zh zf : List Int32} {zl zk zj : Int32} {zt : Int64} {za zo zb : Int32} {c0 : ACell} {po : List ACell} {res : Int32} (h : f_restingCount za = some res) : OEnds own_P 19 0 [qr 1] [] (c0 :: bk0 zd zg zr zu zn zm zi zc zs zp zq ze zh zf zl zk zj zt za zo zb po) (some (.int res), (c0 :: bk0 zd zg zr zu zn zm zi zc zs zp zq ze zh zf zl zk zj zt za zo zb po), 0, 0) := by
  unfold f_restingCount at h
  refine OEnds.adv hm_19 2 (pc' := 4) (L' := [qr 1]) (S' := [.int za]) (H' := (c0 :: bk0 zd zg zr zu zn zm zi zc zs zp zq ze zh zf zl zk zj zt za zo zb po)) rfl ?_
  cases h
  exact OEnds.iret hm_19 rfl rfl
theorem ok_restingCount_1 {zd zg zr zu zn : List Int32} {zm : List Int64} {zi zc zs zp zq ze zh zf : List Int32} {zl zk zj : Int32} {zt : Int64} {za zo zb : Int32} {c0 c1 c2 c3 c4 c5 c6 c7 c8 c9 c10 c11 c12 c13 c14 c15 : ACell} {po : List ACell} {res : Int32} (h : f_restingCount za = some res) : OEnds own_P 19 0 [qr 16] [] (c0 :: c1 :: c2 :: c3 :: c4 :: c5 :: c6 :: c7 :: c8 :: c9 :: c10 :: c11 :: c12 :: c13 :: c14 :: c15 :: bk1 zd zg zr zu zn zm zi zc zs zp zq ze zh zf zl zk zj zt za zo zb po) (some (.int res), (c0 :: c1 :: c2 :: c3 :: c4 :: c5 :: c6 :: c7 :: c8 :: c9 :: c10 :: c11 :: c12 :: c13 :: c14 :: c15 :: bk1 zd zg zr zu zn zm zi zc zs zp zq ze zh zf zl zk zj zt za zo zb po), 0, 0) := by
  unfold f_restingCount at h
  refine OEnds.adv hm_19 2 (pc' := 4) (L' := [qr 16]) (S' := [.int za]) (H' := (c0 :: c1 :: c2 :: c3 :: c4 :: c5 :: c6 :: c7 :: c8 :: c9 :: c10 :: c11 :: c12 :: c13 :: c14 :: c15 :: bk1 zd zg zr zu zn zm zi zc zs zp zq ze zh zf zl zk zj zt za zo zb po)) rfl ?_
  cases h
  exact OEnds.iret hm_19 rfl rfl
theorem ok_fillCount_0 {zd zg zr zu zn : List Int32} {zm : List Int64} {zi zc zs zp zq ze zh zf : List Int32} {zl zk zj : Int32} {zt : Int64} {za zo zb : Int32} {c0 : ACell} {po : List ACell} {res : Int32} (h : f_fillCount zo = some res) : OEnds own_P 20 0 [qr 1] [] (c0 :: bk0 zd zg zr zu zn zm zi zc zs zp zq ze zh zf zl zk zj zt za zo zb po) (some (.int res), (c0 :: bk0 zd zg zr zu zn zm zi zc zs zp zq ze zh zf zl zk zj zt za zo zb po), 0, 0) := by
  unfold f_fillCount at h
  refine OEnds.adv hm_20 2 (pc' := 4) (L' := [qr 1]) (S' := [.int zo]) (H' := (c0 :: bk0 zd zg zr zu zn zm zi zc zs zp zq ze zh zf zl zk zj zt za zo zb po)) rfl ?_
  cases h
  exact OEnds.iret hm_20 rfl rfl
theorem ok_fillCount_1 {zd zg zr zu zn : List Int32} {zm : List Int64} {zi zc zs zp zq ze zh zf : List Int32} {zl zk zj : Int32} {zt : Int64} {za zo zb : Int32} {c0 c1 c2 c3 c4 c5 c6 c7 c8 c9 c10 c11 c12 c13 c14 c15 : ACell} {po : List ACell} {res : Int32} (h : f_fillCount zo = some res) : OEnds own_P 20 0 [qr 16] [] (c0 :: c1 :: c2 :: c3 :: c4 :: c5 :: c6 :: c7 :: c8 :: c9 :: c10 :: c11 :: c12 :: c13 :: c14 :: c15 :: bk1 zd zg zr zu zn zm zi zc zs zp zq ze zh zf zl zk zj zt za zo zb po) (some (.int res), (c0 :: c1 :: c2 :: c3 :: c4 :: c5 :: c6 :: c7 :: c8 :: c9 :: c10 :: c11 :: c12 :: c13 :: c14 :: c15 :: bk1 zd zg zr zu zn zm zi zc zs zp zq ze zh zf zl zk zj zt za zo zb po), 0, 0) := by
  unfold f_fillCount at h
  refine OEnds.adv hm_20 2 (pc' := 4) (L' := [qr 16]) (S' := [.int zo]) (H' := (c0 :: c1 :: c2 :: c3 :: c4 :: c5 :: c6 :: c7 :: c8 :: c9 :: c10 :: c11 :: c12 :: c13 :: c14 :: c15 :: bk1 zd zg zr zu zn zm zi zc zs zp zq ze zh zf zl zk zj zt za zo zb po)) rfl ?_
  cases h
  exact OEnds.iret hm_20 rfl rfl
theorem ok_fillId_0 {zd zg zr zu zn : List Int32} {zm : List Int64} {zi zc zs zp zq ze zh zf : List Int32} {zl zk zj : Int32} {zt : Int64} {za zo zb : Int32} {c0 : ACell} {po : List ACell} {v1 res : Int32} (h : f_fillId zs zo v1 = some res) : OEnds own_P 21 0 [qr 1, qi v1] [] (c0 :: bk0 zd zg zr zu zn zm zi zc zs zp zq ze zh zf zl zk zj zt za zo zb po) (some (.int res), (c0 :: bk0 zd zg zr zu zn zm zi zc zs zp zq ze zh zf zl zk zj zt za zo zb po), 0, 0) := by
  unfold f_fillId at h
  refine OEnds.adv hm_21 1 (pc' := 1) (L' := [qr 1, qi v1]) (S' := [.int v1]) (H' := (c0 :: bk0 zd zg zr zu zn zm zi zc zs zp zq ze zh zf zl zk zj zt za zo zb po)) rfl ?_
  by_cases hc269 : v1 < (0 : Int32)
  · simp only [if_pos hc269] at h
    refine OEnds.ifT hm_21 rfl (q := 12) rfl ((tlt hc269).1) ?_
    refine OEnds.adv hm_21 1 (pc' := 13) (L' := [qr 1, qi v1]) (S' := [.int 0]) (H' := (c0 :: bk0 zd zg zr zu zn zm zi zc zs zp zq ze zh zf zl zk zj zt za zo zb po)) rfl ?_
    cases h
    exact OEnds.iret hm_21 rfl rfl
  · simp only [if_neg hc269] at h
    refine OEnds.ifF hm_21 rfl ((flt hc269).1) ?_
    refine OEnds.adv hm_21 3 (pc' := 9) (L' := [qr 1, qi v1]) (S' := [.int zo, .int v1]) (H' := (c0 :: bk0 zd zg zr zu zn zm zi zc zs zp zq ze zh zf zl zk zj zt za zo zb po)) rfl ?_
    by_cases hc270 : v1 < zo
    · simp only [if_pos hc270] at h
      refine OEnds.icmpT hm_21 rfl (q := 14) rfl ((tlt hc270).1) ?_
      refine OEnds.adv hm_21 3 (pc' := 19) (L' := [qr 1, qi v1]) (S' := [.int v1, .ref 10]) (H' := (c0 :: bk0 zd zg zr zu zn zm zi zc zs zp zq ze zh zf zl zk zj zt za zo zb po)) rfl ?_
      obtain ⟨x204, hx204, h⟩ := bnd h
      refine OEnds.plain hm_21 rfl rfl (x_iaload rfl hx204) ?_
      show OEnds own_P 21 20 [qr 1, qi v1] [.int x204] (c0 :: bk0 zd zg zr zu zn zm zi zc zs zp zq ze zh zf zl zk zj zt za zo zb po) _
      cases h
      exact OEnds.iret hm_21 rfl rfl
    · simp only [if_neg hc270] at h
      refine OEnds.icmpF hm_21 rfl ((flt hc270).1) ?_
      refine OEnds.adv hm_21 1 (pc' := 13) (L' := [qr 1, qi v1]) (S' := [.int 0]) (H' := (c0 :: bk0 zd zg zr zu zn zm zi zc zs zp zq ze zh zf zl zk zj zt za zo zb po)) rfl ?_
      cases h
      exact OEnds.iret hm_21 rfl rfl
theorem ok_fillId_1 {zd zg zr zu zn : List Int32} {zm : List Int64} {zi zc zs zp zq ze zh zf : List Int32} {zl zk zj : Int32} {zt : Int64} {za zo zb : Int32} {c0 c1 c2 c3 c4 c5 c6 c7 c8 c9 c10 c11 c12 c13 c14 c15 : ACell} {po : List ACell} {v1 res : Int32} (h : f_fillId zs zo v1 = some res) : OEnds own_P 21 0 [qr 16, qi v1] [] (c0 :: c1 :: c2 :: c3 :: c4 :: c5 :: c6 :: c7 :: c8 :: c9 :: c10 :: c11 :: c12 :: c13 :: c14 :: c15 :: bk1 zd zg zr zu zn zm zi zc zs zp zq ze zh zf zl zk zj zt za zo zb po) (some (.int res), (c0 :: c1 :: c2 :: c3 :: c4 :: c5 :: c6 :: c7 :: c8 :: c9 :: c10 :: c11 :: c12 :: c13 :: c14 :: c15 :: bk1 zd zg zr zu zn zm zi zc zs zp zq ze zh zf zl zk zj zt za zo zb po), 0, 0) := by
  unfold f_fillId at h
  refine OEnds.adv hm_21 1 (pc' := 1) (L' := [qr 16, qi v1]) (S' := [.int v1]) (H' := (c0 :: c1 :: c2 :: c3 :: c4 :: c5 :: c6 :: c7 :: c8 :: c9 :: c10 :: c11 :: c12 :: c13 :: c14 :: c15 :: bk1 zd zg zr zu zn zm zi zc zs zp zq ze zh zf zl zk zj zt za zo zb po)) rfl ?_
  by_cases hc271 : v1 < (0 : Int32)
  · simp only [if_pos hc271] at h
    refine OEnds.ifT hm_21 rfl (q := 12) rfl ((tlt hc271).1) ?_
    refine OEnds.adv hm_21 1 (pc' := 13) (L' := [qr 16, qi v1]) (S' := [.int 0]) (H' := (c0 :: c1 :: c2 :: c3 :: c4 :: c5 :: c6 :: c7 :: c8 :: c9 :: c10 :: c11 :: c12 :: c13 :: c14 :: c15 :: bk1 zd zg zr zu zn zm zi zc zs zp zq ze zh zf zl zk zj zt za zo zb po)) rfl ?_
    cases h
    exact OEnds.iret hm_21 rfl rfl
  · simp only [if_neg hc271] at h
    refine OEnds.ifF hm_21 rfl ((flt hc271).1) ?_
    refine OEnds.adv hm_21 3 (pc' := 9) (L' := [qr 16, qi v1]) (S' := [.int zo, .int v1]) (H' := (c0 :: c1 :: c2 :: c3 :: c4 :: c5 :: c6 :: c7 :: c8 :: c9 :: c10 :: c11 :: c12 :: c13 :: c14 :: c15 :: bk1 zd zg zr zu zn zm zi zc zs zp zq ze zh zf zl zk zj zt za zo zb po)) rfl ?_
    by_cases hc272 : v1 < zo
    · simp only [if_pos hc272] at h
      refine OEnds.icmpT hm_21 rfl (q := 14) rfl ((tlt hc272).1) ?_
      refine OEnds.adv hm_21 3 (pc' := 19) (L' := [qr 16, qi v1]) (S' := [.int v1, .ref 25]) (H' := (c0 :: c1 :: c2 :: c3 :: c4 :: c5 :: c6 :: c7 :: c8 :: c9 :: c10 :: c11 :: c12 :: c13 :: c14 :: c15 :: bk1 zd zg zr zu zn zm zi zc zs zp zq ze zh zf zl zk zj zt za zo zb po)) rfl ?_
      obtain ⟨x204, hx204, h⟩ := bnd h
      refine OEnds.plain hm_21 rfl rfl (x_iaload rfl hx204) ?_
      show OEnds own_P 21 20 [qr 16, qi v1] [.int x204] (c0 :: c1 :: c2 :: c3 :: c4 :: c5 :: c6 :: c7 :: c8 :: c9 :: c10 :: c11 :: c12 :: c13 :: c14 :: c15 :: bk1 zd zg zr zu zn zm zi zc zs zp zq ze zh zf zl zk zj zt za zo zb po) _
      cases h
      exact OEnds.iret hm_21 rfl rfl
    · simp only [if_neg hc272] at h
      refine OEnds.icmpF hm_21 rfl ((flt hc272).1) ?_
      refine OEnds.adv hm_21 1 (pc' := 13) (L' := [qr 16, qi v1]) (S' := [.int 0]) (H' := (c0 :: c1 :: c2 :: c3 :: c4 :: c5 :: c6 :: c7 :: c8 :: c9 :: c10 :: c11 :: c12 :: c13 :: c14 :: c15 :: bk1 zd zg zr zu zn zm zi zc zs zp zq ze zh zf zl zk zj zt za zo zb po)) rfl ?_
      cases h
      exact OEnds.iret hm_21 rfl rfl
theorem ok_fillQty_0 {zd zg zr zu zn : List Int32} {zm : List Int64} {zi zc zs zp zq ze zh zf : List Int32} {zl zk zj : Int32} {zt : Int64} {za zo zb : Int32} {c0 : ACell} {po : List ACell} {v1 res : Int32} (h : f_fillQty zp zo v1 = some res) : OEnds own_P 22 0 [qr 1, qi v1] [] (c0 :: bk0 zd zg zr zu zn zm zi zc zs zp zq ze zh zf zl zk zj zt za zo zb po) (some (.int res), (c0 :: bk0 zd zg zr zu zn zm zi zc zs zp zq ze zh zf zl zk zj zt za zo zb po), 0, 0) := by
  unfold f_fillQty at h
  refine OEnds.adv hm_22 1 (pc' := 1) (L' := [qr 1, qi v1]) (S' := [.int v1]) (H' := (c0 :: bk0 zd zg zr zu zn zm zi zc zs zp zq ze zh zf zl zk zj zt za zo zb po)) rfl ?_
  by_cases hc273 : v1 < (0 : Int32)
  · simp only [if_pos hc273] at h
    refine OEnds.ifT hm_22 rfl (q := 12) rfl ((tlt hc273).1) ?_
    refine OEnds.adv hm_22 1 (pc' := 13) (L' := [qr 1, qi v1]) (S' := [.int 0]) (H' := (c0 :: bk0 zd zg zr zu zn zm zi zc zs zp zq ze zh zf zl zk zj zt za zo zb po)) rfl ?_
    cases h
    exact OEnds.iret hm_22 rfl rfl
  · simp only [if_neg hc273] at h
    refine OEnds.ifF hm_22 rfl ((flt hc273).1) ?_
    refine OEnds.adv hm_22 3 (pc' := 9) (L' := [qr 1, qi v1]) (S' := [.int zo, .int v1]) (H' := (c0 :: bk0 zd zg zr zu zn zm zi zc zs zp zq ze zh zf zl zk zj zt za zo zb po)) rfl ?_
    by_cases hc274 : v1 < zo
    · simp only [if_pos hc274] at h
      refine OEnds.icmpT hm_22 rfl (q := 14) rfl ((tlt hc274).1) ?_
      refine OEnds.adv hm_22 3 (pc' := 19) (L' := [qr 1, qi v1]) (S' := [.int v1, .ref 11]) (H' := (c0 :: bk0 zd zg zr zu zn zm zi zc zs zp zq ze zh zf zl zk zj zt za zo zb po)) rfl ?_
      obtain ⟨x205, hx205, h⟩ := bnd h
      refine OEnds.plain hm_22 rfl rfl (x_iaload rfl hx205) ?_
      show OEnds own_P 22 20 [qr 1, qi v1] [.int x205] (c0 :: bk0 zd zg zr zu zn zm zi zc zs zp zq ze zh zf zl zk zj zt za zo zb po) _
      cases h
      exact OEnds.iret hm_22 rfl rfl
    · simp only [if_neg hc274] at h
      refine OEnds.icmpF hm_22 rfl ((flt hc274).1) ?_
      refine OEnds.adv hm_22 1 (pc' := 13) (L' := [qr 1, qi v1]) (S' := [.int 0]) (H' := (c0 :: bk0 zd zg zr zu zn zm zi zc zs zp zq ze zh zf zl zk zj zt za zo zb po)) rfl ?_
      cases h
      exact OEnds.iret hm_22 rfl rfl
theorem ok_fillQty_1 {zd zg zr zu zn : List Int32} {zm : List Int64} {zi zc zs zp zq ze zh zf : List Int32} {zl zk zj : Int32} {zt : Int64} {za zo zb : Int32} {c0 c1 c2 c3 c4 c5 c6 c7 c8 c9 c10 c11 c12 c13 c14 c15 : ACell} {po : List ACell} {v1 res : Int32} (h : f_fillQty zp zo v1 = some res) : OEnds own_P 22 0 [qr 16, qi v1] [] (c0 :: c1 :: c2 :: c3 :: c4 :: c5 :: c6 :: c7 :: c8 :: c9 :: c10 :: c11 :: c12 :: c13 :: c14 :: c15 :: bk1 zd zg zr zu zn zm zi zc zs zp zq ze zh zf zl zk zj zt za zo zb po) (some (.int res), (c0 :: c1 :: c2 :: c3 :: c4 :: c5 :: c6 :: c7 :: c8 :: c9 :: c10 :: c11 :: c12 :: c13 :: c14 :: c15 :: bk1 zd zg zr zu zn zm zi zc zs zp zq ze zh zf zl zk zj zt za zo zb po), 0, 0) := by
  unfold f_fillQty at h
  refine OEnds.adv hm_22 1 (pc' := 1) (L' := [qr 16, qi v1]) (S' := [.int v1]) (H' := (c0 :: c1 :: c2 :: c3 :: c4 :: c5 :: c6 :: c7 :: c8 :: c9 :: c10 :: c11 :: c12 :: c13 :: c14 :: c15 :: bk1 zd zg zr zu zn zm zi zc zs zp zq ze zh zf zl zk zj zt za zo zb po)) rfl ?_
  by_cases hc275 : v1 < (0 : Int32)
  · simp only [if_pos hc275] at h
    refine OEnds.ifT hm_22 rfl (q := 12) rfl ((tlt hc275).1) ?_
    refine OEnds.adv hm_22 1 (pc' := 13) (L' := [qr 16, qi v1]) (S' := [.int 0]) (H' := (c0 :: c1 :: c2 :: c3 :: c4 :: c5 :: c6 :: c7 :: c8 :: c9 :: c10 :: c11 :: c12 :: c13 :: c14 :: c15 :: bk1 zd zg zr zu zn zm zi zc zs zp zq ze zh zf zl zk zj zt za zo zb po)) rfl ?_
    cases h
    exact OEnds.iret hm_22 rfl rfl
  · simp only [if_neg hc275] at h
    refine OEnds.ifF hm_22 rfl ((flt hc275).1) ?_
    refine OEnds.adv hm_22 3 (pc' := 9) (L' := [qr 16, qi v1]) (S' := [.int zo, .int v1]) (H' := (c0 :: c1 :: c2 :: c3 :: c4 :: c5 :: c6 :: c7 :: c8 :: c9 :: c10 :: c11 :: c12 :: c13 :: c14 :: c15 :: bk1 zd zg zr zu zn zm zi zc zs zp zq ze zh zf zl zk zj zt za zo zb po)) rfl ?_
    by_cases hc276 : v1 < zo
    · simp only [if_pos hc276] at h
      refine OEnds.icmpT hm_22 rfl (q := 14) rfl ((tlt hc276).1) ?_
      refine OEnds.adv hm_22 3 (pc' := 19) (L' := [qr 16, qi v1]) (S' := [.int v1, .ref 26]) (H' := (c0 :: c1 :: c2 :: c3 :: c4 :: c5 :: c6 :: c7 :: c8 :: c9 :: c10 :: c11 :: c12 :: c13 :: c14 :: c15 :: bk1 zd zg zr zu zn zm zi zc zs zp zq ze zh zf zl zk zj zt za zo zb po)) rfl ?_
      obtain ⟨x205, hx205, h⟩ := bnd h
      refine OEnds.plain hm_22 rfl rfl (x_iaload rfl hx205) ?_
      show OEnds own_P 22 20 [qr 16, qi v1] [.int x205] (c0 :: c1 :: c2 :: c3 :: c4 :: c5 :: c6 :: c7 :: c8 :: c9 :: c10 :: c11 :: c12 :: c13 :: c14 :: c15 :: bk1 zd zg zr zu zn zm zi zc zs zp zq ze zh zf zl zk zj zt za zo zb po) _
      cases h
      exact OEnds.iret hm_22 rfl rfl
    · simp only [if_neg hc276] at h
      refine OEnds.icmpF hm_22 rfl ((flt hc276).1) ?_
      refine OEnds.adv hm_22 1 (pc' := 13) (L' := [qr 16, qi v1]) (S' := [.int 0]) (H' := (c0 :: c1 :: c2 :: c3 :: c4 :: c5 :: c6 :: c7 :: c8 :: c9 :: c10 :: c11 :: c12 :: c13 :: c14 :: c15 :: bk1 zd zg zr zu zn zm zi zc zs zp zq ze zh zf zl zk zj zt za zo zb po)) rfl ?_
      cases h
      exact OEnds.iret hm_22 rfl rfl
theorem ok_fillPrice_0 {zd zg zr zu zn : List Int32} {zm : List Int64} {zi zc zs zp zq ze zh zf : List Int32} {zl zk zj : Int32} {zt : Int64} {za zo zb : Int32} {c0 : ACell} {po : List ACell} {v1 res : Int32} (h : f_fillPrice zq zo v1 = some res) : OEnds own_P 23 0 [qr 1, qi v1] [] (c0 :: bk0 zd zg zr zu zn zm zi zc zs zp zq ze zh zf zl zk zj zt za zo zb po) (some (.int res), (c0 :: bk0 zd zg zr zu zn zm zi zc zs zp zq ze zh zf zl zk zj zt za zo zb po), 0, 0) := by
  unfold f_fillPrice at h
  refine OEnds.adv hm_23 1 (pc' := 1) (L' := [qr 1, qi v1]) (S' := [.int v1]) (H' := (c0 :: bk0 zd zg zr zu zn zm zi zc zs zp zq ze zh zf zl zk zj zt za zo zb po)) rfl ?_
  by_cases hc277 : v1 < (0 : Int32)
  · simp only [if_pos hc277] at h
    refine OEnds.ifT hm_23 rfl (q := 12) rfl ((tlt hc277).1) ?_
    refine OEnds.adv hm_23 1 (pc' := 13) (L' := [qr 1, qi v1]) (S' := [.int 0]) (H' := (c0 :: bk0 zd zg zr zu zn zm zi zc zs zp zq ze zh zf zl zk zj zt za zo zb po)) rfl ?_
    cases h
    exact OEnds.iret hm_23 rfl rfl
  · simp only [if_neg hc277] at h
    refine OEnds.ifF hm_23 rfl ((flt hc277).1) ?_
    refine OEnds.adv hm_23 3 (pc' := 9) (L' := [qr 1, qi v1]) (S' := [.int zo, .int v1]) (H' := (c0 :: bk0 zd zg zr zu zn zm zi zc zs zp zq ze zh zf zl zk zj zt za zo zb po)) rfl ?_
    by_cases hc278 : v1 < zo
    · simp only [if_pos hc278] at h
      refine OEnds.icmpT hm_23 rfl (q := 14) rfl ((tlt hc278).1) ?_
      refine OEnds.adv hm_23 3 (pc' := 19) (L' := [qr 1, qi v1]) (S' := [.int v1, .ref 12]) (H' := (c0 :: bk0 zd zg zr zu zn zm zi zc zs zp zq ze zh zf zl zk zj zt za zo zb po)) rfl ?_
      obtain ⟨x206, hx206, h⟩ := bnd h
      refine OEnds.plain hm_23 rfl rfl (x_iaload rfl hx206) ?_
      show OEnds own_P 23 20 [qr 1, qi v1] [.int x206] (c0 :: bk0 zd zg zr zu zn zm zi zc zs zp zq ze zh zf zl zk zj zt za zo zb po) _
      cases h
      exact OEnds.iret hm_23 rfl rfl
    · simp only [if_neg hc278] at h
      refine OEnds.icmpF hm_23 rfl ((flt hc278).1) ?_
      refine OEnds.adv hm_23 1 (pc' := 13) (L' := [qr 1, qi v1]) (S' := [.int 0]) (H' := (c0 :: bk0 zd zg zr zu zn zm zi zc zs zp zq ze zh zf zl zk zj zt za zo zb po)) rfl ?_
      cases h
      exact OEnds.iret hm_23 rfl rfl
theorem ok_fillPrice_1 {zd zg zr zu zn : List Int32} {zm : List Int64} {zi zc zs zp zq ze zh zf : List Int32} {zl zk zj : Int32} {zt : Int64} {za zo zb : Int32} {c0 c1 c2 c3 c4 c5 c6 c7 c8 c9 c10 c11 c12 c13 c14 c15 : ACell} {po : List ACell} {v1 res : Int32} (h : f_fillPrice zq zo v1 = some res) : OEnds own_P 23 0 [qr 16, qi v1] [] (c0 :: c1 :: c2 :: c3 :: c4 :: c5 :: c6 :: c7 :: c8 :: c9 :: c10 :: c11 :: c12 :: c13 :: c14 :: c15 :: bk1 zd zg zr zu zn zm zi zc zs zp zq ze zh zf zl zk zj zt za zo zb po) (some (.int res), (c0 :: c1 :: c2 :: c3 :: c4 :: c5 :: c6 :: c7 :: c8 :: c9 :: c10 :: c11 :: c12 :: c13 :: c14 :: c15 :: bk1 zd zg zr zu zn zm zi zc zs zp zq ze zh zf zl zk zj zt za zo zb po), 0, 0) := by
  unfold f_fillPrice at h
  refine OEnds.adv hm_23 1 (pc' := 1) (L' := [qr 16, qi v1]) (S' := [.int v1]) (H' := (c0 :: c1 :: c2 :: c3 :: c4 :: c5 :: c6 :: c7 :: c8 :: c9 :: c10 :: c11 :: c12 :: c13 :: c14 :: c15 :: bk1 zd zg zr zu zn zm zi zc zs zp zq ze zh zf zl zk zj zt za zo zb po)) rfl ?_
  by_cases hc279 : v1 < (0 : Int32)
  · simp only [if_pos hc279] at h
    refine OEnds.ifT hm_23 rfl (q := 12) rfl ((tlt hc279).1) ?_
    refine OEnds.adv hm_23 1 (pc' := 13) (L' := [qr 16, qi v1]) (S' := [.int 0]) (H' := (c0 :: c1 :: c2 :: c3 :: c4 :: c5 :: c6 :: c7 :: c8 :: c9 :: c10 :: c11 :: c12 :: c13 :: c14 :: c15 :: bk1 zd zg zr zu zn zm zi zc zs zp zq ze zh zf zl zk zj zt za zo zb po)) rfl ?_
    cases h
    exact OEnds.iret hm_23 rfl rfl
  · simp only [if_neg hc279] at h
    refine OEnds.ifF hm_23 rfl ((flt hc279).1) ?_
    refine OEnds.adv hm_23 3 (pc' := 9) (L' := [qr 16, qi v1]) (S' := [.int zo, .int v1]) (H' := (c0 :: c1 :: c2 :: c3 :: c4 :: c5 :: c6 :: c7 :: c8 :: c9 :: c10 :: c11 :: c12 :: c13 :: c14 :: c15 :: bk1 zd zg zr zu zn zm zi zc zs zp zq ze zh zf zl zk zj zt za zo zb po)) rfl ?_
    by_cases hc280 : v1 < zo
    · simp only [if_pos hc280] at h
      refine OEnds.icmpT hm_23 rfl (q := 14) rfl ((tlt hc280).1) ?_
      refine OEnds.adv hm_23 3 (pc' := 19) (L' := [qr 16, qi v1]) (S' := [.int v1, .ref 27]) (H' := (c0 :: c1 :: c2 :: c3 :: c4 :: c5 :: c6 :: c7 :: c8 :: c9 :: c10 :: c11 :: c12 :: c13 :: c14 :: c15 :: bk1 zd zg zr zu zn zm zi zc zs zp zq ze zh zf zl zk zj zt za zo zb po)) rfl ?_
      obtain ⟨x206, hx206, h⟩ := bnd h
      refine OEnds.plain hm_23 rfl rfl (x_iaload rfl hx206) ?_
      show OEnds own_P 23 20 [qr 16, qi v1] [.int x206] (c0 :: c1 :: c2 :: c3 :: c4 :: c5 :: c6 :: c7 :: c8 :: c9 :: c10 :: c11 :: c12 :: c13 :: c14 :: c15 :: bk1 zd zg zr zu zn zm zi zc zs zp zq ze zh zf zl zk zj zt za zo zb po) _
      cases h
      exact OEnds.iret hm_23 rfl rfl
    · simp only [if_neg hc280] at h
      refine OEnds.icmpF hm_23 rfl ((flt hc280).1) ?_
      refine OEnds.adv hm_23 1 (pc' := 13) (L' := [qr 16, qi v1]) (S' := [.int 0]) (H' := (c0 :: c1 :: c2 :: c3 :: c4 :: c5 :: c6 :: c7 :: c8 :: c9 :: c10 :: c11 :: c12 :: c13 :: c14 :: c15 :: bk1 zd zg zr zu zn zm zi zc zs zp zq ze zh zf zl zk zj zt za zo zb po)) rfl ?_
      cases h
      exact OEnds.iret hm_23 rfl rfl
theorem ok_L_same_189_0_1 {zw zx zah zac zz : List Int32} {zag : List Int64} {zai zab zad zae zaf zaz zba zbb : List Int32} {zar zas zv : Int32} {zbd : Int64} {zaa zy zbc : Int32} {zal zam zaq zat zan : List Int32} {zau : List Int64} {zav zao zaw zax zay zbe zbf zbg : List Int32} {zbh zbi zaj : Int32} {zbj : Int64} {zak zap zbk : Int32} {c0 : ACell} {po : List ACell} : ∀ (n : Nat), ∀ {v2 : Int32} {d3 : Slot} {res : Int32}, f_L_same_189 zw zx zah zac zz zag zai zab zad zae zaf zv zaa zy zal zam zaq zat zan zau zav zao zaw zax zay zaj zak zap n v2 = some res → OEnds own_P 10 189 [qr 1, qr 16, qi v2, d3] [] (c0 :: bk0 zw zx zah zac zz zag zai zab zad zae zaf zaz zba zbb zar zas zv zbd zaa zy zbc (bk1 zal zam zaq zat zan zau zav zao zaw zax zay zbe zbf zbg zbh zbi zaj zbj zak zap zbk po)) (some (.int res), (c0 :: bk0 zw zx zah zac zz zag zai zab zad zae zaf zaz zba zbb zar zas zv zbd zaa zy zbc (bk1 zal zam zaq zat zan zau zav zao zaw zax zay zbe zbf zbg zbh zbi zaj zbj zak zap zbk po)), 0, 0) := by
  intro n
  induction n with
  | zero => intro v2 d3 res h; cases h
  | succ n ih =>
    intro v2 d3 res h
    unfold f_L_same_189 at h
    refine OEnds.adv hm_10 2 (pc' := 192) (L' := [qr 1, qr 16, qi v2, qu]) (S' := [.int 64, .int v2]) (H' := (c0 :: bk0 zw zx zah zac zz zag zai zab zad zae zaf zaz zba zbb zar zas zv zbd zaa zy zbc (bk1 zal zam zaq zat zan zau zav zao zaw zax zay zbe zbf zbg zbh zbi zaj zbj zak zap zbk po))) rfl ?_
    by_cases hc281 : v2 < (64 : Int32)
    · simp only [if_pos hc281] at h
      refine OEnds.icmpF hm_10 rfl ((tlt hc281).2.1) ?_
      refine OEnds.adv hm_10 2 (pc' := 197) (L' := [qr 1, qr 16, qi v2, qu]) (S' := [.int v2, .ref 1]) (H' := (c0 :: bk0 zw zx zah zac zz zag zai zab zad zae zaf zaz zba zbb zar zas zv zbd zaa zy zbc (bk1 zal zam zaq zat zan zau zav zao zaw zax zay zbe zbf zbg zbh zbi zaj zbj zak zap zbk po))) rfl ?_
      obtain ⟨r227, hq282, h⟩ := bnd h
      refine OEnds.call0 hm_10 rfl rfl (by decide) rfl (as := [.ref 1, .int v2]) (rest := []) rfl rfl (ok_fillId_0 hq282) ?_
      refine OEnds.adv hm_10 2 (pc' := 202) (L' := [qr 1, qr 16, qi v2, qu]) (S' := [.int v2, .ref 16, .int r227]) (H' := (c0 :: bk0 zw zx zah zac zz zag zai zab zad zae zaf zaz zba zbb zar zas zv zbd zaa zy zbc (bk1 zal zam zaq zat zan zau zav zao zaw zax zay zbe zbf zbg zbh zbi zaj zbj zak zap zbk po))) rfl ?_
      obtain ⟨r228, hq283, h⟩ := bnd h
      refine OEnds.call0 hm_10 rfl rfl (by decide) rfl (as := [.ref 16, .int v2]) (rest := [.int r227]) rfl rfl (ok_fillId_1 hq283) ?_
      show OEnds own_P 10 205 [qr 1, qr 16, qi v2, qu] [.int r228, .int r227] (c0 :: bk0 zw zx zah zac zz zag zai zab zad zae zaf zaz zba zbb zar zas zv zbd zaa zy zbc (bk1 zal zam zaq zat zan zau zav zao zaw zax zay zbe zbf zbg zbh zbi zaj zbj zak zap zbk po)) _
      by_cases hc284 : r227 = r228
      · simp only [if_pos hc284] at h
        refine OEnds.icmpF hm_10 rfl ((teq hc284).2) ?_
        refine OEnds.adv hm_10 2 (pc' := 210) (L' := [qr 1, qr 16, qi v2, qu]) (S' := [.int v2, .ref 1]) (H' := (c0 :: bk0 zw zx zah zac zz zag zai zab zad zae zaf zaz zba zbb zar zas zv zbd zaa zy zbc (bk1 zal zam zaq zat zan zau zav zao zaw zax zay zbe zbf zbg zbh zbi zaj zbj zak zap zbk po))) rfl ?_
        obtain ⟨r229, hq285, h⟩ := bnd h
        refine OEnds.call0 hm_10 rfl rfl (by decide) rfl (as := [.ref 1, .int v2]) (rest := []) rfl rfl (ok_fillQty_0 hq285) ?_
        refine OEnds.adv hm_10 2 (pc' := 215) (L' := [qr 1, qr 16, qi v2, qu]) (S' := [.int v2, .ref 16, .int r229]) (H' := (c0 :: bk0 zw zx zah zac zz zag zai zab zad zae zaf zaz zba zbb zar zas zv zbd zaa zy zbc (bk1 zal zam zaq zat zan zau zav zao zaw zax zay zbe zbf zbg zbh zbi zaj zbj zak zap zbk po))) rfl ?_
        obtain ⟨r230, hq286, h⟩ := bnd h
        refine OEnds.call0 hm_10 rfl rfl (by decide) rfl (as := [.ref 16, .int v2]) (rest := [.int r229]) rfl rfl (ok_fillQty_1 hq286) ?_
        show OEnds own_P 10 218 [qr 1, qr 16, qi v2, qu] [.int r230, .int r229] (c0 :: bk0 zw zx zah zac zz zag zai zab zad zae zaf zaz zba zbb zar zas zv zbd zaa zy zbc (bk1 zal zam zaq zat zan zau zav zao zaw zax zay zbe zbf zbg zbh zbi zaj zbj zak zap zbk po)) _
        by_cases hc287 : r229 = r230
        · simp only [if_pos hc287] at h
          refine OEnds.icmpT hm_10 rfl (q := 223) rfl ((teq hc287).1) ?_
          refine OEnds.adv hm_10 2 (pc' := 225) (L' := [qr 1, qr 16, qi v2, qu]) (S' := [.int v2, .ref 1]) (H' := (c0 :: bk0 zw zx zah zac zz zag zai zab zad zae zaf zaz zba zbb zar zas zv zbd zaa zy zbc (bk1 zal zam zaq zat zan zau zav zao zaw zax zay zbe zbf zbg zbh zbi zaj zbj zak zap zbk po))) rfl ?_
          obtain ⟨r231, hq288, h⟩ := bnd h
          refine OEnds.call0 hm_10 rfl rfl (by decide) rfl (as := [.ref 1, .int v2]) (rest := []) rfl rfl (ok_fillPrice_0 hq288) ?_
          refine OEnds.adv hm_10 2 (pc' := 230) (L' := [qr 1, qr 16, qi v2, qu]) (S' := [.int v2, .ref 16, .int r231]) (H' := (c0 :: bk0 zw zx zah zac zz zag zai zab zad zae zaf zaz zba zbb zar zas zv zbd zaa zy zbc (bk1 zal zam zaq zat zan zau zav zao zaw zax zay zbe zbf zbg zbh zbi zaj zbj zak zap zbk po))) rfl ?_
          obtain ⟨r232, hq289, h⟩ := bnd h
          refine OEnds.call0 hm_10 rfl rfl (by decide) rfl (as := [.ref 16, .int v2]) (rest := [.int r231]) rfl rfl (ok_fillPrice_1 hq289) ?_
          show OEnds own_P 10 233 [qr 1, qr 16, qi v2, qu] [.int r232, .int r231] (c0 :: bk0 zw zx zah zac zz zag zai zab zad zae zaf zaz zba zbb zar zas zv zbd zaa zy zbc (bk1 zal zam zaq zat zan zau zav zao zaw zax zay zbe zbf zbg zbh zbi zaj zbj zak zap zbk po)) _
          by_cases hc290 : r231 = r232
          · simp only [if_pos hc290] at h
            refine OEnds.icmpT hm_10 rfl (q := 238) rfl ((teq hc290).1) ?_
            refine OEnds.adv hm_10 2 (pc' := 189) (L' := [qr 1, qr 16, qi (v2 + (1 : Int32)), qu]) (S' := []) (H' := (c0 :: bk0 zw zx zah zac zz zag zai zab zad zae zaf zaz zba zbb zar zas zv zbd zaa zy zbc (bk1 zal zam zaq zat zan zau zav zao zaw zax zay zbe zbf zbg zbh zbi zaj zbj zak zap zbk po))) rfl ?_
            exact ih h
          · simp only [if_neg hc290] at h
            refine OEnds.icmpF hm_10 rfl ((feq hc290).1) ?_
            refine OEnds.adv hm_10 1 (pc' := 237) (L' := [qr 1, qr 16, qi v2, qu]) (S' := [.int 0]) (H' := (c0 :: bk0 zw zx zah zac zz zag zai zab zad zae zaf zaz zba zbb zar zas zv zbd zaa zy zbc (bk1 zal zam zaq zat zan zau zav zao zaw zax zay zbe zbf zbg zbh zbi zaj zbj zak zap zbk po))) rfl ?_
            cases h
            exact OEnds.iret hm_10 rfl rfl
        · simp only [if_neg hc287] at h
          refine OEnds.icmpF hm_10 rfl ((feq hc287).1) ?_
          refine OEnds.adv hm_10 1 (pc' := 222) (L' := [qr 1, qr 16, qi v2, qu]) (S' := [.int 0]) (H' := (c0 :: bk0 zw zx zah zac zz zag zai zab zad zae zaf zaz zba zbb zar zas zv zbd zaa zy zbc (bk1 zal zam zaq zat zan zau zav zao zaw zax zay zbe zbf zbg zbh zbi zaj zbj zak zap zbk po))) rfl ?_
          cases h
          exact OEnds.iret hm_10 rfl rfl
      · simp only [if_neg hc284] at h
        refine OEnds.icmpT hm_10 rfl (q := 221) rfl ((feq hc284).2) ?_
        refine OEnds.adv hm_10 1 (pc' := 222) (L' := [qr 1, qr 16, qi v2, qu]) (S' := [.int 0]) (H' := (c0 :: bk0 zw zx zah zac zz zag zai zab zad zae zaf zaz zba zbb zar zas zv zbd zaa zy zbc (bk1 zal zam zaq zat zan zau zav zao zaw zax zay zbe zbf zbg zbh zbi zaj zbj zak zap zbk po))) rfl ?_
        cases h
        exact OEnds.iret hm_10 rfl rfl
    · simp only [if_neg hc281] at h
      refine OEnds.icmpT hm_10 rfl (q := 244) rfl ((flt hc281).2.1) ?_
      refine OEnds.adv hm_10 1 (pc' := 245) (L' := [qr 1, qr 16, qi v2, qu]) (S' := [.int 1]) (H' := (c0 :: bk0 zw zx zah zac zz zag zai zab zad zae zaf zaz zba zbb zar zas zv zbd zaa zy zbc (bk1 zal zam zaq zat zan zau zav zao zaw zax zay zbe zbf zbg zbh zbi zaj zbj zak zap zbk po))) rfl ?_
      cases h
      exact OEnds.iret hm_10 rfl rfl
theorem ok_L_same_163_0_1 {zw zx zah zac zz : List Int32} {zag : List Int64} {zai zab zad zae zaf zaz zba zbb : List Int32} {zar zas zv : Int32} {zbd : Int64} {zaa zy zbc : Int32} {zal zam zaq zat zan : List Int32} {zau : List Int64} {zav zao zaw zax zay zbe zbf zbg : List Int32} {zbh zbi zaj : Int32} {zbj : Int64} {zak zap zbk : Int32} {c0 : ACell} {po : List ACell} : ∀ {d2 d3 : Slot} {res : Int32}, f_L_same_163 zw zx zah zac zz zag zai zab zad zae zaf zv zaa zy zal zam zaq zat zan zau zav zao zaw zax zay zaj zak zap = some res → OEnds own_P 10 163 [qr 1, qr 16, d2, d3] [] (c0 :: bk0 zw zx zah zac zz zag zai zab zad zae zaf zaz zba zbb zar zas zv zbd zaa zy zbc (bk1 zal zam zaq zat zan zau zav zao zaw zax zay zbe zbf zbg zbh zbi zaj zbj zak zap zbk po)) (some (.int res), (c0 :: bk0 zw zx zah zac zz zag zai zab zad zae zaf zaz zba zbb zar zas zv zbd zaa zy zbc (bk1 zal zam zaq zat zan zau zav zao zaw zax zay zbe zbf zbg zbh zbi zaj zbj zak zap zbk po)), 0, 0) := by
  intro d2 d3 res h
  unfold f_L_same_163 at h
  refine OEnds.adv hm_10 1 (pc' := 164) (L' := [qr 1, qr 16, qu, qu]) (S' := [.ref 1]) (H' := (c0 :: bk0 zw zx zah zac zz zag zai zab zad zae zaf zaz zba zbb zar zas zv zbd zaa zy zbc (bk1 zal zam zaq zat zan zau zav zao zaw zax zay zbe zbf zbg zbh zbi zaj zbj zak zap zbk po))) rfl ?_
  obtain ⟨r223, hq291, h⟩ := bnd h
  refine OEnds.call0 hm_10 rfl rfl (by decide) rfl (as := [.ref 1]) (rest := []) rfl rfl (ok_restingCount_0 hq291) ?_
  refine OEnds.adv hm_10 1 (pc' := 168) (L' := [qr 1, qr 16, qu, qu]) (S' := [.ref 16, .int r223]) (H' := (c0 :: bk0 zw zx zah zac zz zag zai zab zad zae zaf zaz zba zbb zar zas zv zbd zaa zy zbc (bk1 zal zam zaq zat zan zau zav zao zaw zax zay zbe zbf zbg zbh zbi zaj zbj zak zap zbk po))) rfl ?_
  obtain ⟨r224, hq292, h⟩ := bnd h
  refine OEnds.call0 hm_10 rfl rfl (by decide) rfl (as := [.ref 16]) (rest := [.int r223]) rfl rfl (ok_restingCount_1 hq292) ?_
  show OEnds own_P 10 171 [qr 1, qr 16, qu, qu] [.int r224, .int r223] (c0 :: bk0 zw zx zah zac zz zag zai zab zad zae zaf zaz zba zbb zar zas zv zbd zaa zy zbc (bk1 zal zam zaq zat zan zau zav zao zaw zax zay zbe zbf zbg zbh zbi zaj zbj zak zap zbk po)) _
  by_cases hc293 : r223 = r224
  · simp only [if_pos hc293] at h
    refine OEnds.icmpF hm_10 rfl ((teq hc293).2) ?_
    refine OEnds.adv hm_10 1 (pc' := 175) (L' := [qr 1, qr 16, qu, qu]) (S' := [.ref 1]) (H' := (c0 :: bk0 zw zx zah zac zz zag zai zab zad zae zaf zaz zba zbb zar zas zv zbd zaa zy zbc (bk1 zal zam zaq zat zan zau zav zao zaw zax zay zbe zbf zbg zbh zbi zaj zbj zak zap zbk po))) rfl ?_
    obtain ⟨r225, hq294, h⟩ := bnd h
    refine OEnds.call0 hm_10 rfl rfl (by decide) rfl (as := [.ref 1]) (rest := []) rfl rfl (ok_fillCount_0 hq294) ?_
    refine OEnds.adv hm_10 1 (pc' := 179) (L' := [qr 1, qr 16, qu, qu]) (S' := [.ref 16, .int r225]) (H' := (c0 :: bk0 zw zx zah zac zz zag zai zab zad zae zaf zaz zba zbb zar zas zv zbd zaa zy zbc (bk1 zal zam zaq zat zan zau zav zao zaw zax zay zbe zbf zbg zbh zbi zaj zbj zak zap zbk po))) rfl ?_
    obtain ⟨r226, hq295, h⟩ := bnd h
    refine OEnds.call0 hm_10 rfl rfl (by decide) rfl (as := [.ref 16]) (rest := [.int r225]) rfl rfl (ok_fillCount_1 hq295) ?_
    show OEnds own_P 10 182 [qr 1, qr 16, qu, qu] [.int r226, .int r225] (c0 :: bk0 zw zx zah zac zz zag zai zab zad zae zaf zaz zba zbb zar zas zv zbd zaa zy zbc (bk1 zal zam zaq zat zan zau zav zao zaw zax zay zbe zbf zbg zbh zbi zaj zbj zak zap zbk po)) _
    by_cases hc296 : r225 = r226
    · simp only [if_pos hc296] at h
      refine OEnds.icmpT hm_10 rfl (q := 187) rfl ((teq hc296).1) ?_
      refine OEnds.adv hm_10 2 (pc' := 189) (L' := [qr 1, qr 16, qi 0, qu]) (S' := []) (H' := (c0 :: bk0 zw zx zah zac zz zag zai zab zad zae zaf zaz zba zbb zar zas zv zbd zaa zy zbc (bk1 zal zam zaq zat zan zau zav zao zaw zax zay zbe zbf zbg zbh zbi zaj zbj zak zap zbk po))) rfl ?_
      exact ok_L_same_189_0_1 100000 h
    · simp only [if_neg hc296] at h
      refine OEnds.icmpF hm_10 rfl ((feq hc296).1) ?_
      refine OEnds.adv hm_10 1 (pc' := 186) (L' := [qr 1, qr 16, qu, qu]) (S' := [.int 0]) (H' := (c0 :: bk0 zw zx zah zac zz zag zai zab zad zae zaf zaz zba zbb zar zas zv zbd zaa zy zbc (bk1 zal zam zaq zat zan zau zav zao zaw zax zay zbe zbf zbg zbh zbi zaj zbj zak zap zbk po))) rfl ?_
      cases h
      exact OEnds.iret hm_10 rfl rfl
  · simp only [if_neg hc293] at h
    refine OEnds.icmpT hm_10 rfl (q := 185) rfl ((feq hc293).2) ?_
    refine OEnds.adv hm_10 1 (pc' := 186) (L' := [qr 1, qr 16, qu, qu]) (S' := [.int 0]) (H' := (c0 :: bk0 zw zx zah zac zz zag zai zab zad zae zaf zaz zba zbb zar zas zv zbd zaa zy zbc (bk1 zal zam zaq zat zan zau zav zao zaw zax zay zbe zbf zbg zbh zbi zaj zbj zak zap zbk po))) rfl ?_
    cases h
    exact OEnds.iret hm_10 rfl rfl
theorem ok_L_same_110_0_1 {zw zx zah zac zz : List Int32} {zag : List Int64} {zai zab zad zae zaf zaz zba zbb : List Int32} {zar zas zv : Int32} {zbd : Int64} {zaa zy zbc : Int32} {zal zam zaq zat zan : List Int32} {zau : List Int64} {zav zao zaw zax zay zbe zbf zbg : List Int32} {zbh zbi zaj : Int32} {zbj : Int64} {zak zap zbk : Int32} {c0 : ACell} {po : List ACell} {k88 : Int32 → Option (Int32)} (hk88 : ∀ {v2 : Int32} {d3 : Slot} {res : Int32}, k88 v2 = some res → OEnds own_P 10 88 [qr 1, qr 16, qi v2, d3] [] (c0 :: bk0 zw zx zah zac zz zag zai zab zad zae zaf zaz zba zbb zar zas zv zbd zaa zy zbc (bk1 zal zam zaq zat zan zau zav zao zaw zax zay zbe zbf zbg zbh zbi zaj zbj zak zap zbk po)) (some (.int res), (c0 :: bk0 zw zx zah zac zz zag zai zab zad zae zaf zaz zba zbb zar zas zv zbd zaa zy zbc (bk1 zal zam zaq zat zan zau zav zao zaw zax zay zbe zbf zbg zbh zbi zaj zbj zak zap zbk po)), 0, 0)) : ∀ (n : Nat), ∀ {v2 v3 : Int32} {res : Int32}, f_L_same_110 k88 zw zx zah zac zz zag zai zab zad zae zaf zv zaa zy zal zam zaq zat zan zau zav zao zaw zax zay zaj zak zap n v2 v3 = some res → OEnds own_P 10 110 [qr 1, qr 16, qi v2, qi v3] [] (c0 :: bk0 zw zx zah zac zz zag zai zab zad zae zaf zaz zba zbb zar zas zv zbd zaa zy zbc (bk1 zal zam zaq zat zan zau zav zao zaw zax zay zbe zbf zbg zbh zbi zaj zbj zak zap zbk po)) (some (.int res), (c0 :: bk0 zw zx zah zac zz zag zai zab zad zae zaf zaz zba zbb zar zas zv zbd zaa zy zbc (bk1 zal zam zaq zat zan zau zav zao zaw zax zay zbe zbf zbg zbh zbi zaj zbj zak zap zbk po)), 0, 0) := by
  intro n
  induction n with
  | zero => intro v2 v3 res h; cases h
  | succ n ih =>
    intro v2 v3 res h
    unfold f_L_same_110 at h
    refine OEnds.adv hm_10 2 (pc' := 114) (L' := [qr 1, qr 16, qi v2, qi v3]) (S' := [.int 1000, .int v3]) (H' := (c0 :: bk0 zw zx zah zac zz zag zai zab zad zae zaf zaz zba zbb zar zas zv zbd zaa zy zbc (bk1 zal zam zaq zat zan zau zav zao zaw zax zay zbe zbf zbg zbh zbi zaj zbj zak zap zbk po))) rfl ?_
    by_cases hc297 : (1000 : Int32) < v3
    · simp only [if_pos hc297] at h
      refine OEnds.icmpT hm_10 rfl (q := 157) rfl ((tlt hc297).2.2.1) ?_
      refine OEnds.adv hm_10 2 (pc' := 88) (L' := [qr 1, qr 16, qi (v2 + (1 : Int32)), qi v3]) (S' := []) (H' := (c0 :: bk0 zw zx zah zac zz zag zai zab zad zae zaf zaz zba zbb zar zas zv zbd zaa zy zbc (bk1 zal zam zaq zat zan zau zav zao zaw zax zay zbe zbf zbg zbh zbi zaj zbj zak zap zbk po))) rfl ?_
      exact hk88 h
    · simp only [if_neg hc297] at h
      refine OEnds.icmpF hm_10 rfl ((flt hc297).2.2.1) ?_
      refine OEnds.adv hm_10 3 (pc' := 120) (L' := [qr 1, qr 16, qi v2, qi v3]) (S' := [.int v3, .int v2, .ref 1]) (H' := (c0 :: bk0 zw zx zah zac zz zag zai zab zad zae zaf zaz zba zbb zar zas zv zbd zaa zy zbc (bk1 zal zam zaq zat zan zau zav zao zaw zax zay zbe zbf zbg zbh zbi zaj zbj zak zap zbk po))) rfl ?_
      obtain ⟨r219, hq298, h⟩ := bnd h
      refine OEnds.call0 hm_10 rfl rfl (by decide) rfl (as := [.ref 1, .int v2, .int v3]) (rest := []) rfl rfl (ok_depthAt_0 hq298) ?_
      refine OEnds.adv hm_10 3 (pc' := 126) (L' := [qr 1, qr 16, qi v2, qi v3]) (S' := [.int v3, .int v2, .ref 16, .int r219]) (H' := (c0 :: bk0 zw zx zah zac zz zag zai zab zad zae zaf zaz zba zbb zar zas zv zbd zaa zy zbc (bk1 zal zam zaq zat zan zau zav zao zaw zax zay zbe zbf zbg zbh zbi zaj zbj zak zap zbk po))) rfl ?_
      obtain ⟨r220, hq299, h⟩ := bnd h
      refine OEnds.call0 hm_10 rfl rfl (by decide) rfl (as := [.ref 16, .int v2, .int v3]) (rest := [.int r219]) rfl rfl (ok_depthAt_1 hq299) ?_
      show OEnds own_P 10 129 [qr 1, qr 16, qi v2, qi v3] [.int r220, .int r219] (c0 :: bk0 zw zx zah zac zz zag zai zab zad zae zaf zaz zba zbb zar zas zv zbd zaa zy zbc (bk1 zal zam zaq zat zan zau zav zao zaw zax zay zbe zbf zbg zbh zbi zaj zbj zak zap zbk po)) _
      by_cases hc300 : r219 = r220
      · simp only [if_pos hc300] at h
        refine OEnds.icmpT hm_10 rfl (q := 134) rfl ((teq hc300).1) ?_
        refine OEnds.adv hm_10 3 (pc' := 137) (L' := [qr 1, qr 16, qi v2, qi v3]) (S' := [.int v3, .int v2, .ref 1]) (H' := (c0 :: bk0 zw zx zah zac zz zag zai zab zad zae zaf zaz zba zbb zar zas zv zbd zaa zy zbc (bk1 zal zam zaq zat zan zau zav zao zaw zax zay zbe zbf zbg zbh zbi zaj zbj zak zap zbk po))) rfl ?_
        obtain ⟨r221, hq301, h⟩ := bnd h
        refine OEnds.call0 hm_10 rfl rfl (by decide) rfl (as := [.ref 1, .int v2, .int v3]) (rest := []) rfl rfl (ok_ordersAt_0 hq301) ?_
        refine OEnds.adv hm_10 3 (pc' := 143) (L' := [qr 1, qr 16, qi v2, qi v3]) (S' := [.int v3, .int v2, .ref 16, .int r221]) (H' := (c0 :: bk0 zw zx zah zac zz zag zai zab zad zae zaf zaz zba zbb zar zas zv zbd zaa zy zbc (bk1 zal zam zaq zat zan zau zav zao zaw zax zay zbe zbf zbg zbh zbi zaj zbj zak zap zbk po))) rfl ?_
        obtain ⟨r222, hq302, h⟩ := bnd h
        refine OEnds.call0 hm_10 rfl rfl (by decide) rfl (as := [.ref 16, .int v2, .int v3]) (rest := [.int r221]) rfl rfl (ok_ordersAt_1 hq302) ?_
        show OEnds own_P 10 146 [qr 1, qr 16, qi v2, qi v3] [.int r222, .int r221] (c0 :: bk0 zw zx zah zac zz zag zai zab zad zae zaf zaz zba zbb zar zas zv zbd zaa zy zbc (bk1 zal zam zaq zat zan zau zav zao zaw zax zay zbe zbf zbg zbh zbi zaj zbj zak zap zbk po)) _
        by_cases hc303 : r221 = r222
        · simp only [if_pos hc303] at h
          refine OEnds.icmpT hm_10 rfl (q := 151) rfl ((teq hc303).1) ?_
          refine OEnds.adv hm_10 2 (pc' := 110) (L' := [qr 1, qr 16, qi v2, qi (v3 + (1 : Int32))]) (S' := []) (H' := (c0 :: bk0 zw zx zah zac zz zag zai zab zad zae zaf zaz zba zbb zar zas zv zbd zaa zy zbc (bk1 zal zam zaq zat zan zau zav zao zaw zax zay zbe zbf zbg zbh zbi zaj zbj zak zap zbk po))) rfl ?_
          exact ih h
        · simp only [if_neg hc303] at h
          refine OEnds.icmpF hm_10 rfl ((feq hc303).1) ?_
          refine OEnds.adv hm_10 1 (pc' := 150) (L' := [qr 1, qr 16, qi v2, qi v3]) (S' := [.int 0]) (H' := (c0 :: bk0 zw zx zah zac zz zag zai zab zad zae zaf zaz zba zbb zar zas zv zbd zaa zy zbc (bk1 zal zam zaq zat zan zau zav zao zaw zax zay zbe zbf zbg zbh zbi zaj zbj zak zap zbk po))) rfl ?_
          cases h
          exact OEnds.iret hm_10 rfl rfl
      · simp only [if_neg hc300] at h
        refine OEnds.icmpF hm_10 rfl ((feq hc300).1) ?_
        refine OEnds.adv hm_10 1 (pc' := 133) (L' := [qr 1, qr 16, qi v2, qi v3]) (S' := [.int 0]) (H' := (c0 :: bk0 zw zx zah zac zz zag zai zab zad zae zaf zaz zba zbb zar zas zv zbd zaa zy zbc (bk1 zal zam zaq zat zan zau zav zao zaw zax zay zbe zbf zbg zbh zbi zaj zbj zak zap zbk po))) rfl ?_
        cases h
        exact OEnds.iret hm_10 rfl rfl
theorem ok_L_same_88_0_1 {zw zx zah zac zz : List Int32} {zag : List Int64} {zai zab zad zae zaf zaz zba zbb : List Int32} {zar zas zv : Int32} {zbd : Int64} {zaa zy zbc : Int32} {zal zam zaq zat zan : List Int32} {zau : List Int64} {zav zao zaw zax zay zbe zbf zbg : List Int32} {zbh zbi zaj : Int32} {zbj : Int64} {zak zap zbk : Int32} {c0 : ACell} {po : List ACell} {k163 : Option (Int32)} (hk163 : ∀ {d2 d3 : Slot} {res : Int32}, k163 = some res → OEnds own_P 10 163 [qr 1, qr 16, d2, d3] [] (c0 :: bk0 zw zx zah zac zz zag zai zab zad zae zaf zaz zba zbb zar zas zv zbd zaa zy zbc (bk1 zal zam zaq zat zan zau zav zao zaw zax zay zbe zbf zbg zbh zbi zaj zbj zak zap zbk po)) (some (.int res), (c0 :: bk0 zw zx zah zac zz zag zai zab zad zae zaf zaz zba zbb zar zas zv zbd zaa zy zbc (bk1 zal zam zaq zat zan zau zav zao zaw zax zay zbe zbf zbg zbh zbi zaj zbj zak zap zbk po)), 0, 0)) : ∀ (n : Nat), ∀ {v2 : Int32} {d3 : Slot} {res : Int32}, f_L_same_88 k163 zw zx zah zac zz zag zai zab zad zae zaf zv zaa zy zal zam zaq zat zan zau zav zao zaw zax zay zaj zak zap n v2 = some res → OEnds own_P 10 88 [qr 1, qr 16, qi v2, d3] [] (c0 :: bk0 zw zx zah zac zz zag zai zab zad zae zaf zaz zba zbb zar zas zv zbd zaa zy zbc (bk1 zal zam zaq zat zan zau zav zao zaw zax zay zbe zbf zbg zbh zbi zaj zbj zak zap zbk po)) (some (.int res), (c0 :: bk0 zw zx zah zac zz zag zai zab zad zae zaf zaz zba zbb zar zas zv zbd zaa zy zbc (bk1 zal zam zaq zat zan zau zav zao zaw zax zay zbe zbf zbg zbh zbi zaj zbj zak zap zbk po)), 0, 0) := by
  intro n
  induction n with
  | zero => intro v2 d3 res h; cases h
  | succ n ih =>
    intro v2 d3 res h
    unfold f_L_same_88 at h
    refine OEnds.adv hm_10 2 (pc' := 90) (L' := [qr 1, qr 16, qi v2, qu]) (S' := [.int 1, .int v2]) (H' := (c0 :: bk0 zw zx zah zac zz zag zai zab zad zae zaf zaz zba zbb zar zas zv zbd zaa zy zbc (bk1 zal zam zaq zat zan zau zav zao zaw zax zay zbe zbf zbg zbh zbi zaj zbj zak zap zbk po))) rfl ?_
    by_cases hc304 : (1 : Int32) < v2
    · simp only [if_pos hc304] at h
      refine OEnds.icmpT hm_10 rfl (q := 163) rfl ((tlt hc304).2.2.1) ?_
      show OEnds own_P 10 163 [qr 1, qr 16, qi v2, qu] [] (c0 :: bk0 zw zx zah zac zz zag zai zab zad zae zaf zaz zba zbb zar zas zv zbd zaa zy zbc (bk1 zal zam zaq zat zan zau zav zao zaw zax zay zbe zbf zbg zbh zbi zaj zbj zak zap zbk po)) _
      exact hk163 h
    · simp only [if_neg hc304] at h
      refine OEnds.icmpF hm_10 rfl ((flt hc304).2.2.1) ?_
      refine OEnds.adv hm_10 2 (pc' := 95) (L' := [qr 1, qr 16, qi v2, qu]) (S' := [.int v2, .ref 1]) (H' := (c0 :: bk0 zw zx zah zac zz zag zai zab zad zae zaf zaz zba zbb zar zas zv zbd zaa zy zbc (bk1 zal zam zaq zat zan zau zav zao zaw zax zay zbe zbf zbg zbh zbi zaj zbj zak zap zbk po))) rfl ?_
      obtain ⟨r217, hq305, h⟩ := bnd h
      refine OEnds.call0 hm_10 rfl rfl (by decide) rfl (as := [.ref 1, .int v2]) (rest := []) rfl rfl (ok_bestPrice_0 hq305) ?_
      refine OEnds.adv hm_10 2 (pc' := 100) (L' := [qr 1, qr 16, qi v2, qu]) (S' := [.int v2, .ref 16, .int r217]) (H' := (c0 :: bk0 zw zx zah zac zz zag zai zab zad zae zaf zaz zba zbb zar zas zv zbd zaa zy zbc (bk1 zal zam zaq zat zan zau zav zao zaw zax zay zbe zbf zbg zbh zbi zaj zbj zak zap zbk po))) rfl ?_
      obtain ⟨r218, hq306, h⟩ := bnd h
      refine OEnds.call0 hm_10 rfl rfl (by decide) rfl (as := [.ref 16, .int v2]) (rest := [.int r217]) rfl rfl (ok_bestPrice_1 hq306) ?_
      show OEnds own_P 10 103 [qr 1, qr 16, qi v2, qu] [.int r218, .int r217] (c0 :: bk0 zw zx zah zac zz zag zai zab zad zae zaf zaz zba zbb zar zas zv zbd zaa zy zbc (bk1 zal zam zaq zat zan zau zav zao zaw zax zay zbe zbf zbg zbh zbi zaj zbj zak zap zbk po)) _
      by_cases hc307 : r217 = r218
      · simp only [if_pos hc307] at h
        refine OEnds.icmpT hm_10 rfl (q := 108) rfl ((teq hc307).1) ?_
        refine OEnds.adv hm_10 2 (pc' := 110) (L' := [qr 1, qr 16, qi v2, qi 1]) (S' := []) (H' := (c0 :: bk0 zw zx zah zac zz zag zai zab zad zae zaf zaz zba zbb zar zas zv zbd zaa zy zbc (bk1 zal zam zaq zat zan zau zav zao zaw zax zay zbe zbf zbg zbh zbi zaj zbj zak zap zbk po))) rfl ?_
        exact ok_L_same_110_0_1 (k88 := f_L_same_88 k163 zw zx zah zac zz zag zai zab zad zae zaf zv zaa zy zal zam zaq zat zan zau zav zao zaw zax zay zaj zak zap n) ih 100000 h
      · simp only [if_neg hc307] at h
        refine OEnds.icmpF hm_10 rfl ((feq hc307).1) ?_
        refine OEnds.adv hm_10 1 (pc' := 107) (L' := [qr 1, qr 16, qi v2, qu]) (S' := [.int 0]) (H' := (c0 :: bk0 zw zx zah zac zz zag zai zab zad zae zaf zaz zba zbb zar zas zv zbd zaa zy zbc (bk1 zal zam zaq zat zan zau zav zao zaw zax zay zbe zbf zbg zbh zbi zaj zbj zak zap zbk po))) rfl ?_
        cases h
        exact OEnds.iret hm_10 rfl rfl
theorem ok_L_same_2_0_1 {zw zx zah zac zz : List Int32} {zag : List Int64} {zai zab zad zae zaf zaz zba zbb : List Int32} {zar zas zv : Int32} {zbd : Int64} {zaa zy zbc : Int32} {zal zam zaq zat zan : List Int32} {zau : List Int64} {zav zao zaw zax zay zbe zbf zbg : List Int32} {zbh zbi zaj : Int32} {zbj : Int64} {zak zap zbk : Int32} {c0 : ACell} {po : List ACell} {k88 : Int32 → Option (Int32)} (hk88 : ∀ {v2 : Int32} {d3 : Slot} {res : Int32}, k88 v2 = some res → OEnds own_P 10 88 [qr 1, qr 16, qi v2, d3] [] (c0 :: bk0 zw zx zah zac zz zag zai zab zad zae zaf zaz zba zbb zar zas zv zbd zaa zy zbc (bk1 zal zam zaq zat zan zau zav zao zaw zax zay zbe zbf zbg zbh zbi zaj zbj zak zap zbk po)) (some (.int res), (c0 :: bk0 zw zx zah zac zz zag zai zab zad zae zaf zaz zba zbb zar zas zv zbd zaa zy zbc (bk1 zal zam zaq zat zan zau zav zao zaw zax zay zbe zbf zbg zbh zbi zaj zbj zak zap zbk po)), 0, 0)) : ∀ (n : Nat), ∀ {v2 : Int32} {d3 : Slot} {res : Int32}, f_L_same_2 k88 zw zx zah zac zz zag zai zab zad zae zaf zv zaa zy zal zam zaq zat zan zau zav zao zaw zax zay zaj zak zap n v2 = some res → OEnds own_P 10 2 [qr 1, qr 16, qi v2, d3] [] (c0 :: bk0 zw zx zah zac zz zag zai zab zad zae zaf zaz zba zbb zar zas zv zbd zaa zy zbc (bk1 zal zam zaq zat zan zau zav zao zaw zax zay zbe zbf zbg zbh zbi zaj zbj zak zap zbk po)) (some (.int res), (c0 :: bk0 zw zx zah zac zz zag zai zab zad zae zaf zaz zba zbb zar zas zv zbd zaa zy zbc (bk1 zal zam zaq zat zan zau zav zao zaw zax zay zbe zbf zbg zbh zbi zaj zbj zak zap zbk po)), 0, 0) := by
  intro n
  induction n with
  | zero => intro v2 d3 res h; cases h
  | succ n ih =>
    intro v2 d3 res h
    unfold f_L_same_2 at h
    refine OEnds.adv hm_10 2 (pc' := 6) (L' := [qr 1, qr 16, qi v2, qu]) (S' := [.int 255, .int v2]) (H' := (c0 :: bk0 zw zx zah zac zz zag zai zab zad zae zaf zaz zba zbb zar zas zv zbd zaa zy zbc (bk1 zal zam zaq zat zan zau zav zao zaw zax zay zbe zbf zbg zbh zbi zaj zbj zak zap zbk po))) rfl ?_
    by_cases hc308 : (255 : Int32) < v2
    · simp only [if_pos hc308] at h
      refine OEnds.icmpT hm_10 rfl (q := 86) rfl ((tlt hc308).2.2.1) ?_
      refine OEnds.adv hm_10 2 (pc' := 88) (L' := [qr 1, qr 16, qi 0, qu]) (S' := []) (H' := (c0 :: bk0 zw zx zah zac zz zag zai zab zad zae zaf zaz zba zbb zar zas zv zbd zaa zy zbc (bk1 zal zam zaq zat zan zau zav zao zaw zax zay zbe zbf zbg zbh zbi zaj zbj zak zap zbk po))) rfl ?_
      exact hk88 h
    · simp only [if_neg hc308] at h
      refine OEnds.icmpF hm_10 rfl ((flt hc308).2.2.1) ?_
      refine OEnds.adv hm_10 2 (pc' := 11) (L' := [qr 1, qr 16, qi v2, qu]) (S' := [.int v2, .ref 1]) (H' := (c0 :: bk0 zw zx zah zac zz zag zai zab zad zae zaf zaz zba zbb zar zas zv zbd zaa zy zbc (bk1 zal zam zaq zat zan zau zav zao zaw zax zay zbe zbf zbg zbh zbi zaj zbj zak zap zbk po))) rfl ?_
      obtain ⟨r207, hq309, h⟩ := bnd h
      refine OEnds.call0 hm_10 rfl rfl (by decide) rfl (as := [.ref 1, .int v2]) (rest := []) rfl rfl (ok_status_0 hq309) ?_
      refine OEnds.adv hm_10 2 (pc' := 16) (L' := [qr 1, qr 16, qi v2, qu]) (S' := [.int v2, .ref 16, .int r207]) (H' := (c0 :: bk0 zw zx zah zac zz zag zai zab zad zae zaf zaz zba zbb zar zas zv zbd zaa zy zbc (bk1 zal zam zaq zat zan zau zav zao zaw zax zay zbe zbf zbg zbh zbi zaj zbj zak zap zbk po))) rfl ?_
      obtain ⟨r208, hq310, h⟩ := bnd h
      refine OEnds.call0 hm_10 rfl rfl (by decide) rfl (as := [.ref 16, .int v2]) (rest := [.int r207]) rfl rfl (ok_status_1 hq310) ?_
      show OEnds own_P 10 19 [qr 1, qr 16, qi v2, qu] [.int r208, .int r207] (c0 :: bk0 zw zx zah zac zz zag zai zab zad zae zaf zaz zba zbb zar zas zv zbd zaa zy zbc (bk1 zal zam zaq zat zan zau zav zao zaw zax zay zbe zbf zbg zbh zbi zaj zbj zak zap zbk po)) _
      by_cases hc311 : r207 = r208
      · simp only [if_pos hc311] at h
        refine OEnds.icmpF hm_10 rfl ((teq hc311).2) ?_
        refine OEnds.adv hm_10 2 (pc' := 24) (L' := [qr 1, qr 16, qi v2, qu]) (S' := [.int v2, .ref 1]) (H' := (c0 :: bk0 zw zx zah zac zz zag zai zab zad zae zaf zaz zba zbb zar zas zv zbd zaa zy zbc (bk1 zal zam zaq zat zan zau zav zao zaw zax zay zbe zbf zbg zbh zbi zaj zbj zak zap zbk po))) rfl ?_
        obtain ⟨r209, hq312, h⟩ := bnd h
        refine OEnds.call0 hm_10 rfl rfl (by decide) rfl (as := [.ref 1, .int v2]) (rest := []) rfl rfl (ok_remaining_0 hq312) ?_
        refine OEnds.adv hm_10 2 (pc' := 29) (L' := [qr 1, qr 16, qi v2, qu]) (S' := [.int v2, .ref 16, .int r209]) (H' := (c0 :: bk0 zw zx zah zac zz zag zai zab zad zae zaf zaz zba zbb zar zas zv zbd zaa zy zbc (bk1 zal zam zaq zat zan zau zav zao zaw zax zay zbe zbf zbg zbh zbi zaj zbj zak zap zbk po))) rfl ?_
        obtain ⟨r210, hq313, h⟩ := bnd h
        refine OEnds.call0 hm_10 rfl rfl (by decide) rfl (as := [.ref 16, .int v2]) (rest := [.int r209]) rfl rfl (ok_remaining_1 hq313) ?_
        show OEnds own_P 10 32 [qr 1, qr 16, qi v2, qu] [.int r210, .int r209] (c0 :: bk0 zw zx zah zac zz zag zai zab zad zae zaf zaz zba zbb zar zas zv zbd zaa zy zbc (bk1 zal zam zaq zat zan zau zav zao zaw zax zay zbe zbf zbg zbh zbi zaj zbj zak zap zbk po)) _
        by_cases hc314 : r209 = r210
        · simp only [if_pos hc314] at h
          refine OEnds.icmpT hm_10 rfl (q := 37) rfl ((teq hc314).1) ?_
          refine OEnds.adv hm_10 2 (pc' := 39) (L' := [qr 1, qr 16, qi v2, qu]) (S' := [.int v2, .ref 1]) (H' := (c0 :: bk0 zw zx zah zac zz zag zai zab zad zae zaf zaz zba zbb zar zas zv zbd zaa zy zbc (bk1 zal zam zaq zat zan zau zav zao zaw zax zay zbe zbf zbg zbh zbi zaj zbj zak zap zbk po))) rfl ?_
          obtain ⟨r211, hq315, h⟩ := bnd h
          refine OEnds.call0 hm_10 rfl rfl (by decide) rfl (as := [.ref 1, .int v2]) (rest := []) rfl rfl (ok_filled_0 hq315) ?_
          refine OEnds.adv hm_10 2 (pc' := 44) (L' := [qr 1, qr 16, qi v2, qu]) (S' := [.int v2, .ref 16, .int r211]) (H' := (c0 :: bk0 zw zx zah zac zz zag zai zab zad zae zaf zaz zba zbb zar zas zv zbd zaa zy zbc (bk1 zal zam zaq zat zan zau zav zao zaw zax zay zbe zbf zbg zbh zbi zaj zbj zak zap zbk po))) rfl ?_
          obtain ⟨r212, hq316, h⟩ := bnd h
          refine OEnds.call0 hm_10 rfl rfl (by decide) rfl (as := [.ref 16, .int v2]) (rest := [.int r211]) rfl rfl (ok_filled_1 hq316) ?_
          show OEnds own_P 10 47 [qr 1, qr 16, qi v2, qu] [.int r212, .int r211] (c0 :: bk0 zw zx zah zac zz zag zai zab zad zae zaf zaz zba zbb zar zas zv zbd zaa zy zbc (bk1 zal zam zaq zat zan zau zav zao zaw zax zay zbe zbf zbg zbh zbi zaj zbj zak zap zbk po)) _
          by_cases hc317 : r211 = r212
          · simp only [if_pos hc317] at h
            refine OEnds.icmpF hm_10 rfl ((teq hc317).2) ?_
            refine OEnds.adv hm_10 2 (pc' := 52) (L' := [qr 1, qr 16, qi v2, qu]) (S' := [.int v2, .ref 1]) (H' := (c0 :: bk0 zw zx zah zac zz zag zai zab zad zae zaf zaz zba zbb zar zas zv zbd zaa zy zbc (bk1 zal zam zaq zat zan zau zav zao zaw zax zay zbe zbf zbg zbh zbi zaj zbj zak zap zbk po))) rfl ?_
            obtain ⟨r213, hq318, h⟩ := bnd h
            refine OEnds.call0 hm_10 rfl rfl (by decide) rfl (as := [.ref 1, .int v2]) (rest := []) rfl rfl (ok_isTop_0 hq318) ?_
            refine OEnds.adv hm_10 2 (pc' := 57) (L' := [qr 1, qr 16, qi v2, qu]) (S' := [.int v2, .ref 16, .int r213]) (H' := (c0 :: bk0 zw zx zah zac zz zag zai zab zad zae zaf zaz zba zbb zar zas zv zbd zaa zy zbc (bk1 zal zam zaq zat zan zau zav zao zaw zax zay zbe zbf zbg zbh zbi zaj zbj zak zap zbk po))) rfl ?_
            obtain ⟨r214, hq319, h⟩ := bnd h
            refine OEnds.call0 hm_10 rfl rfl (by decide) rfl (as := [.ref 16, .int v2]) (rest := [.int r213]) rfl rfl (ok_isTop_1 hq319) ?_
            show OEnds own_P 10 60 [qr 1, qr 16, qi v2, qu] [.int r214, .int r213] (c0 :: bk0 zw zx zah zac zz zag zai zab zad zae zaf zaz zba zbb zar zas zv zbd zaa zy zbc (bk1 zal zam zaq zat zan zau zav zao zaw zax zay zbe zbf zbg zbh zbi zaj zbj zak zap zbk po)) _
            by_cases hc320 : r213 = r214
            · simp only [if_pos hc320] at h
              refine OEnds.icmpT hm_10 rfl (q := 65) rfl ((teq hc320).1) ?_
              refine OEnds.adv hm_10 2 (pc' := 67) (L' := [qr 1, qr 16, qi v2, qu]) (S' := [.int v2, .ref 1]) (H' := (c0 :: bk0 zw zx zah zac zz zag zai zab zad zae zaf zaz zba zbb zar zas zv zbd zaa zy zbc (bk1 zal zam zaq zat zan zau zav zao zaw zax zay zbe zbf zbg zbh zbi zaj zbj zak zap zbk po))) rfl ?_
              obtain ⟨r215, hq321, h⟩ := bnd h
              refine OEnds.call0 hm_10 rfl rfl (by decide) rfl (as := [.ref 1, .int v2]) (rest := []) rfl rfl (ok_priorityRank_0 hq321) ?_
              refine OEnds.adv hm_10 2 (pc' := 72) (L' := [qr 1, qr 16, qi v2, qu]) (S' := [.int v2, .ref 16, .int r215]) (H' := (c0 :: bk0 zw zx zah zac zz zag zai zab zad zae zaf zaz zba zbb zar zas zv zbd zaa zy zbc (bk1 zal zam zaq zat zan zau zav zao zaw zax zay zbe zbf zbg zbh zbi zaj zbj zak zap zbk po))) rfl ?_
              obtain ⟨r216, hq322, h⟩ := bnd h
              refine OEnds.call0 hm_10 rfl rfl (by decide) rfl (as := [.ref 16, .int v2]) (rest := [.int r215]) rfl rfl (ok_priorityRank_1 hq322) ?_
              show OEnds own_P 10 75 [qr 1, qr 16, qi v2, qu] [.int r216, .int r215] (c0 :: bk0 zw zx zah zac zz zag zai zab zad zae zaf zaz zba zbb zar zas zv zbd zaa zy zbc (bk1 zal zam zaq zat zan zau zav zao zaw zax zay zbe zbf zbg zbh zbi zaj zbj zak zap zbk po)) _
              by_cases hc323 : r215 = r216
              · simp only [if_pos hc323] at h
                refine OEnds.icmpT hm_10 rfl (q := 80) rfl ((teq hc323).1) ?_
                refine OEnds.adv hm_10 2 (pc' := 2) (L' := [qr 1, qr 16, qi (v2 + (1 : Int32)), qu]) (S' := []) (H' := (c0 :: bk0 zw zx zah zac zz zag zai zab zad zae zaf zaz zba zbb zar zas zv zbd zaa zy zbc (bk1 zal zam zaq zat zan zau zav zao zaw zax zay zbe zbf zbg zbh zbi zaj zbj zak zap zbk po))) rfl ?_
                exact ih h
              · simp only [if_neg hc323] at h
                refine OEnds.icmpF hm_10 rfl ((feq hc323).1) ?_
                refine OEnds.adv hm_10 1 (pc' := 79) (L' := [qr 1, qr 16, qi v2, qu]) (S' := [.int 0]) (H' := (c0 :: bk0 zw zx zah zac zz zag zai zab zad zae zaf zaz zba zbb zar zas zv zbd zaa zy zbc (bk1 zal zam zaq zat zan zau zav zao zaw zax zay zbe zbf zbg zbh zbi zaj zbj zak zap zbk po))) rfl ?_
                cases h
                exact OEnds.iret hm_10 rfl rfl
            · simp only [if_neg hc320] at h
              refine OEnds.icmpF hm_10 rfl ((feq hc320).1) ?_
              refine OEnds.adv hm_10 1 (pc' := 64) (L' := [qr 1, qr 16, qi v2, qu]) (S' := [.int 0]) (H' := (c0 :: bk0 zw zx zah zac zz zag zai zab zad zae zaf zaz zba zbb zar zas zv zbd zaa zy zbc (bk1 zal zam zaq zat zan zau zav zao zaw zax zay zbe zbf zbg zbh zbi zaj zbj zak zap zbk po))) rfl ?_
              cases h
              exact OEnds.iret hm_10 rfl rfl
          · simp only [if_neg hc317] at h
            refine OEnds.icmpT hm_10 rfl (q := 63) rfl ((feq hc317).2) ?_
            refine OEnds.adv hm_10 1 (pc' := 64) (L' := [qr 1, qr 16, qi v2, qu]) (S' := [.int 0]) (H' := (c0 :: bk0 zw zx zah zac zz zag zai zab zad zae zaf zaz zba zbb zar zas zv zbd zaa zy zbc (bk1 zal zam zaq zat zan zau zav zao zaw zax zay zbe zbf zbg zbh zbi zaj zbj zak zap zbk po))) rfl ?_
            cases h
            exact OEnds.iret hm_10 rfl rfl
        · simp only [if_neg hc314] at h
          refine OEnds.icmpF hm_10 rfl ((feq hc314).1) ?_
          refine OEnds.adv hm_10 1 (pc' := 36) (L' := [qr 1, qr 16, qi v2, qu]) (S' := [.int 0]) (H' := (c0 :: bk0 zw zx zah zac zz zag zai zab zad zae zaf zaz zba zbb zar zas zv zbd zaa zy zbc (bk1 zal zam zaq zat zan zau zav zao zaw zax zay zbe zbf zbg zbh zbi zaj zbj zak zap zbk po))) rfl ?_
          cases h
          exact OEnds.iret hm_10 rfl rfl
      · simp only [if_neg hc311] at h
        refine OEnds.icmpT hm_10 rfl (q := 35) rfl ((feq hc311).2) ?_
        refine OEnds.adv hm_10 1 (pc' := 36) (L' := [qr 1, qr 16, qi v2, qu]) (S' := [.int 0]) (H' := (c0 :: bk0 zw zx zah zac zz zag zai zab zad zae zaf zaz zba zbb zar zas zv zbd zaa zy zbc (bk1 zal zam zaq zat zan zau zav zao zaw zax zay zbe zbf zbg zbh zbi zaj zbj zak zap zbk po))) rfl ?_
        cases h
        exact OEnds.iret hm_10 rfl rfl
theorem ok_L_same_0_1 {zw zx zah zac zz : List Int32} {zag : List Int64} {zai zab zad zae zaf zaz zba zbb : List Int32} {zar zas zv : Int32} {zbd : Int64} {zaa zy zbc : Int32} {zal zam zaq zat zan : List Int32} {zau : List Int64} {zav zao zaw zax zay zbe zbf zbg : List Int32} {zbh zbi zaj : Int32} {zbj : Int64} {zak zap zbk : Int32} {c0 : ACell} {po : List ACell} {res : Int32} (h : f_L_same zw zx zah zac zz zag zai zab zad zae zaf zv zaa zy zal zam zaq zat zan zau zav zao zaw zax zay zaj zak zap = some res) : OEnds own_P 10 0 [qr 1, qr 16, qu, qu] [] (c0 :: bk0 zw zx zah zac zz zag zai zab zad zae zaf zaz zba zbb zar zas zv zbd zaa zy zbc (bk1 zal zam zaq zat zan zau zav zao zaw zax zay zbe zbf zbg zbh zbi zaj zbj zak zap zbk po)) (some (.int res), (c0 :: bk0 zw zx zah zac zz zag zai zab zad zae zaf zaz zba zbb zar zas zv zbd zaa zy zbc (bk1 zal zam zaq zat zan zau zav zao zaw zax zay zbe zbf zbg zbh zbi zaj zbj zak zap zbk po)), 0, 0) := by
  unfold f_L_same at h
  refine OEnds.adv hm_10 2 (pc' := 2) (L' := [qr 1, qr 16, qi 1, qu]) (S' := []) (H' := (c0 :: bk0 zw zx zah zac zz zag zai zab zad zae zaf zaz zba zbb zar zas zv zbd zaa zy zbc (bk1 zal zam zaq zat zan zau zav zao zaw zax zay zbe zbf zbg zbh zbi zaj zbj zak zap zbk po))) rfl ?_
  exact ok_L_same_2_0_1 (k88 := f_L_same_88 (f_L_same_163 zw zx zah zac zz zag zai zab zad zae zaf zv zaa zy zal zam zaq zat zan zau zav zao zaw zax zay zaj zak zap) zw zx zah zac zz zag zai zab zad zae zaf zv zaa zy zal zam zaq zat zan zau zav zao zaw zax zay zaj zak zap 100000) (ok_L_same_88_0_1 (k163 := f_L_same_163 zw zx zah zac zz zag zai zab zad zae zaf zv zaa zy zal zam zaq zat zan zau zav zao zaw zax zay zaj zak zap) ok_L_same_163_0_1 100000) 100000 h
theorem ok_L_law_181 {scr : List Int32} : ∀ {zbu zbv zck zbw zcl : List Int32} {zci : List Int64} {zcm zcn zbx zby zbz : List Int32} {zbm : Int32} {zcj : Int64} {zco zca : Int32} {zbn zbo zce zbp zcb : List Int32} {zcf : List Int64} {zcg zcc zbq zbr zbs : List Int32} {zbl : Int32} {zch : Int64} {zcd zbt v5 v6 t0 zcp zcq zda : Int32} {zcx zcy zcz : List Int32} {zcr zcs zcw : Int32} {zct zcu zcv : List Int32} {d0 d3 d4 d7 d8 d9 d10 : Slot} {res : Int32}, f_L_law_181 scr zbu zbv zck zbw zcl zci zcm zcn zbx zby zbz zbm zcj zco zca zbn zbo zce zbp zcb zcf zcg zcc zbq zbr zbs zbl zch zcd zbt v5 v6 t0 = some res → OEndsQ own_P 0 181 [d0, qr 1, qr 16, d3, d4, qi v5, qi v6, d7, d8, d9, d10] [.int t0] (qa scr :: bk0 zbu zbv zck zbw zcl zci zcm zcn zbx zby zbz zcx zcy zcz zcp zcq zbm zcj zco zca zda (bk1 zbn zbo zce zbp zcb zcf zcg zcc zbq zbr zbs zct zcu zcv zcr zcs zbl zch zcd zbt zcw [])) (LawQ res 0 0) := by
  intro zbu zbv zck zbw zcl zci zcm zcn zbx zby zbz zbm zcj zco zca zbn zbo zce zbp zcb zcf zcg zcc zbq zbr zbs zbl zch zcd zbt v5 v6 t0 zcp zcq zda zcx zcy zcz zcr zcs zcw zct zcu zcv d0 d3 d4 d7 d8 d9 d10 res h
  unfold f_L_law_181 at h
  refine OEndsQ.adv hm_0 3 (pc' := 186) (L' := [qu, qr 1, qr 16, qu, qu, qi v5, qi v6, qi t0, qu, qu, qu]) (S' := [.int v5, .ref 1]) (H' := (qa scr :: bk0 zbu zbv zck zbw zcl zci zcm zcn zbx zby zbz zcx zcy zcz zcp zcq zbm zcj zco zca zda (bk1 zbn zbo zce zbp zcb zcf zcg zcc zbq zbr zbs zct zcu zcv zcr zcs zbl zch zcd zbt zcw []))) rfl ?_
  obtain ⟨⟨r321, s322, s323, s324, s325, s326⟩, hq324, h⟩ := bnd h
  refine OEndsQ.call0 hm_0 rfl rfl (by decide) rfl (as := [.ref 1, .int v5]) (rest := []) rfl rfl (ok_cancel_0 hq324) ?_
  refine OEndsQ.adv hm_0 4 (pc' := 195) (L' := [qu, qr 1, qr 16, qu, qu, qi v5, qi v6, qi t0, qu, qu, qu]) (S' := [.int t0, .int v6, .ref 1]) (H' := (qa scr :: bk0 zbu zbv s322 zbw s323 zci s324 s325 zbx zby zbz zcx zcy zcz zcp zcq zbm zcj s326 zca zda (bk1 zbn zbo zce zbp zcb zcf zcg zcc zbq zbr zbs zct zcu zcv zcr zcs zbl zch zcd zbt zcw []))) rfl ?_
  obtain ⟨⟨r327, s328, s329, s330, s331⟩, hq325, h⟩ := bnd h
  refine OEndsQ.call0 hm_0 rfl rfl (by decide) rfl (as := [.ref 1, .int v6, .int t0]) (rest := []) rfl rfl (ok_amend_0 hq325) ?_
  refine OEndsQ.adv hm_0 4 (pc' := 204) (L' := [qu, qr 1, qr 16, qu, qu, qi v5, qi v6, qi t0, qu, qu, qu]) (S' := [.int t0, .int v6, .ref 16]) (H' := (qa scr :: bk0 zbu zbv s328 zbw s323 s329 s330 s325 zbx zby zbz zcx zcy zcz zcp zcq zbm s331 s326 zca zda (bk1 zbn zbo zce zbp zcb zcf zcg zcc zbq zbr zbs zct zcu zcv zcr zcs zbl zch zcd zbt zcw []))) rfl ?_
  obtain ⟨⟨r332, s333, s334, s335, s336⟩, hq326, h⟩ := bnd h
  refine OEndsQ.call0 hm_0 rfl rfl (by decide) rfl (as := [.ref 16, .int v6, .int t0]) (rest := []) rfl rfl (ok_amend_1 hq326) ?_
  refine OEndsQ.adv hm_0 3 (pc' := 211) (L' := [qu, qr 1, qr 16, qu, qu, qi v5, qi v6, qi t0, qu, qu, qu]) (S' := [.int v5, .ref 16]) (H' := (qa scr :: bk0 zbu zbv s328 zbw s323 s329 s330 s325 zbx zby zbz zcx zcy zcz zcp zcq zbm s331 s326 zca zda (bk1 zbn zbo s333 zbp zcb s334 s335 zcc zbq zbr zbs zct zcu zcv zcr zcs zbl s336 zcd zbt zcw []))) rfl ?_
  obtain ⟨⟨r337, s338, s339, s340, s341, s342⟩, hq327, h⟩ := bnd h
  refine OEndsQ.call0 hm_0 rfl rfl (by decide) rfl (as := [.ref 16, .int v5]) (rest := []) rfl rfl (ok_cancel_1 hq327) ?_
  refine OEndsQ.adv hm_0 3 (pc' := 217) (L' := [qu, qr 1, qr 16, qu, qu, qi v5, qi v6, qi t0, qu, qu, qu]) (S' := [.ref 16, .ref 1]) (H' := (qa scr :: bk0 zbu zbv s328 zbw s323 s329 s330 s325 zbx zby zbz zcx zcy zcz zcp zcq zbm s331 s326 zca zda (bk1 zbn zbo s338 zbp s339 s334 s340 s341 zbq zbr zbs zct zcu zcv zcr zcs zbl s336 s342 zbt zcw []))) rfl ?_
  obtain ⟨r343, hq328, h⟩ := bnd h
  refine OEndsQ.call0 hm_0 rfl rfl (by decide) rfl (as := [.ref 1, .ref 16]) (rest := []) rfl rfl (ok_L_same_0_1 hq328) ?_
  show OEndsQ own_P 0 220 [qu, qr 1, qr 16, qu, qu, qi v5, qi v6, qi t0, qu, qu, qu] [.int r343] (qa scr :: bk0 zbu zbv s328 zbw s323 s329 s330 s325 zbx zby zbz zcx zcy zcz zcp zcq zbm s331 s326 zca zda (bk1 zbn zbo s338 zbp s339 s334 s340 s341 zbq zbr zbs zct zcu zcv zcr zcs zbl s336 s342 zbt zcw [])) _
  cases h
  exact OEndsQ.iret hm_0 rfl rfl
theorem ok_L_law_165 {scr : List Int32} : ∀ {zbu zbv zck zbw zcl : List Int32} {zci : List Int64} {zcm zcn zbx zby zbz : List Int32} {zbm : Int32} {zcj : Int64} {zco zca : Int32} {zbn zbo zce zbp zcb : List Int32} {zcf : List Int64} {zcg zcc zbq zbr zbs : List Int32} {zbl : Int32} {zch : Int64} {zcd zbt v3 v5 t0 zcp zcq zda : Int32} {zcx zcy zcz : List Int32} {zcr zcs zcw : Int32} {zct zcu zcv : List Int32} {d4 d6 d7 d8 d9 d10 : Slot} {res : Int32}, f_L_law_165 scr zbu zbv zck zbw zcl zci zcm zcn zbx zby zbz zbm zcj zco zca zbn zbo zce zbp zcb zcf zcg zcc zbq zbr zbs zbl zch zcd zbt v3 v5 t0 = some res → OEndsQ own_P 0 165 [qr 0, qr 1, qr 16, qi v3, d4, qi v5, d6, d7, d8, d9, d10] [.int t0] (qa scr :: bk0 zbu zbv zck zbw zcl zci zcm zcn zbx zby zbz zcx zcy zcz zcp zcq zbm zcj zco zca zda (bk1 zbn zbo zce zbp zcb zcf zcg zcc zbq zbr zbs zct zcu zcv zcr zcs zbl zch zcd zbt zcw [])) (LawQ res 0 0) := by
  intro zbu zbv zck zbw zcl zci zcm zcn zbx zby zbz zbm zcj zco zca zbn zbo zce zbp zcb zcf zcg zcc zbq zbr zbs zbl zch zcd zbt v3 v5 t0 zcp zcq zda zcx zcy zcz zcr zcs zcw zct zcu zcv d4 d6 d7 d8 d9 d10 res h
  unfold f_L_law_165 at h
  refine OEndsQ.adv hm_0 3 (pc' := 169) (L' := [qr 0, qr 1, qr 16, qi v3, qu, qi v5, qi t0, qu, qu, qu, qu]) (S' := [.int 3, .int v3]) (H' := (qa scr :: bk0 zbu zbv zck zbw zcl zci zcm zcn zbx zby zbz zcx zcy zcz zcp zcq zbm zcj zco zca zda (bk1 zbn zbo zce zbp zcb zcf zcg zcc zbq zbr zbs zct zcu zcv zcr zcs zbl zch zcd zbt zcw []))) rfl ?_
  by_cases hc329 : v3 < (3 : Int32)
  · simp only [if_pos hc329] at h
    refine OEndsQ.icmpT hm_0 rfl (q := 180) rfl ((tlt hc329).1) ?_
    refine OEndsQ.adv hm_0 1 (pc' := 181) (L' := [qr 0, qr 1, qr 16, qi v3, qu, qi v5, qi t0, qu, qu, qu, qu]) (S' := [.int 1]) (H' := (qa scr :: bk0 zbu zbv zck zbw zcl zci zcm zcn zbx zby zbz zcx zcy zcz zcp zcq zbm zcj zco zca zda (bk1 zbn zbo zce zbp zcb zcf zcg zcc zbq zbr zbs zct zcu zcv zcr zcs zbl zch zcd zbt zcw []))) rfl ?_
    exact ok_L_law_181 h
  · simp only [if_neg hc329] at h
    refine OEndsQ.icmpF hm_0 rfl ((flt hc329).1) ?_
    refine OEndsQ.adv hm_0 4 (pc' := 176) (L' := [qr 0, qr 1, qr 16, qi v3, qu, qi v5, qi t0, qu, qu, qu, qu]) (S' := [.int (v3 - (1 : Int32)), .ref 0]) (H' := (qa scr :: bk0 zbu zbv zck zbw zcl zci zcm zcn zbx zby zbz zcx zcy zcz zcp zcq zbm zcj zco zca zda (bk1 zbn zbo zce zbp zcb zcf zcg zcc zbq zbr zbs zct zcu zcv zcr zcs zbl zch zcd zbt zcw []))) rfl ?_
    obtain ⟨x320, hx320, h⟩ := bnd h
    refine OEndsQ.plain hm_0 rfl rfl (x_iaload rfl hx320) ?_
    refine OEndsQ.adv hm_0 1 (pc' := 181) (L' := [qr 0, qr 1, qr 16, qi v3, qu, qi v5, qi t0, qu, qu, qu, qu]) (S' := [.int x320]) (H' := (qa scr :: bk0 zbu zbv zck zbw zcl zci zcm zcn zbx zby zbz zcx zcy zcz zcp zcq zbm zcj zco zca zda (bk1 zbn zbo zce zbp zcb zcf zcg zcc zbq zbr zbs zct zcu zcv zcr zcs zbl zch zcd zbt zcw []))) rfl ?_
    exact ok_L_law_181 h
theorem ok_L_law_149 {scr : List Int32} : ∀ {zbu zbv zck zbw zcl : List Int32} {zci : List Int64} {zcm zcn zbx zby zbz : List Int32} {zbm : Int32} {zcj : Int64} {zco zca : Int32} {zbn zbo zce zbp zcb : List Int32} {zcf : List Int64} {zcg zcc zbq zbr zbs : List Int32} {zbl : Int32} {zch : Int64} {zcd zbt v3 t0 zcp zcq zda : Int32} {zcx zcy zcz : List Int32} {zcr zcs zcw : Int32} {zct zcu zcv : List Int32} {d4 d5 d6 d7 d8 d9 d10 : Slot} {res : Int32}, f_L_law_149 scr zbu zbv zck zbw zcl zci zcm zcn zbx zby zbz zbm zcj zco zca zbn zbo zce zbp zcb zcf zcg zcc zbq zbr zbs zbl zch zcd zbt v3 t0 = some res → OEndsQ own_P 0 149 [qr 0, qr 1, qr 16, qi v3, d4, d5, d6, d7, d8, d9, d10] [.int t0] (qa scr :: bk0 zbu zbv zck zbw zcl zci zcm zcn zbx zby zbz zcx zcy zcz zcp zcq zbm zcj zco zca zda (bk1 zbn zbo zce zbp zcb zcf zcg zcc zbq zbr zbs zct zcu zcv zcr zcs zbl zch zcd zbt zcw [])) (LawQ res 0 0) := by
  intro zbu zbv zck zbw zcl zci zcm zcn zbx zby zbz zbm zcj zco zca zbn zbo zce zbp zcb zcf zcg zcc zbq zbr zbs zbl zch zcd zbt v3 t0 zcp zcq zda zcx zcy zcz zcr zcs zcw zct zcu zcv d4 d5 d6 d7 d8 d9 d10 res h
  unfold f_L_law_149 at h
  refine OEndsQ.adv hm_0 3 (pc' := 153) (L' := [qr 0, qr 1, qr 16, qi v3, qu, qi t0, qu, qu, qu, qu, qu]) (S' := [.int 3, .int v3]) (H' := (qa scr :: bk0 zbu zbv zck zbw zcl zci zcm zcn zbx zby zbz zcx zcy zcz zcp zcq zbm zcj zco zca zda (bk1 zbn zbo zce zbp zcb zcf zcg zcc zbq zbr zbs zct zcu zcv zcr zcs zbl zch zcd zbt zcw []))) rfl ?_
  by_cases hc330 : v3 < (3 : Int32)
  · simp only [if_pos hc330] at h
    refine OEndsQ.icmpT hm_0 rfl (q := 164) rfl ((tlt hc330).1) ?_
    refine OEndsQ.adv hm_0 1 (pc' := 165) (L' := [qr 0, qr 1, qr 16, qi v3, qu, qi t0, qu, qu, qu, qu, qu]) (S' := [.int 2]) (H' := (qa scr :: bk0 zbu zbv zck zbw zcl zci zcm zcn zbx zby zbz zcx zcy zcz zcp zcq zbm zcj zco zca zda (bk1 zbn zbo zce zbp zcb zcf zcg zcc zbq zbr zbs zct zcu zcv zcr zcs zbl zch zcd zbt zcw []))) rfl ?_
    exact ok_L_law_165 h
  · simp only [if_neg hc330] at h
    refine OEndsQ.icmpF hm_0 rfl ((flt hc330).1) ?_
    refine OEndsQ.adv hm_0 4 (pc' := 160) (L' := [qr 0, qr 1, qr 16, qi v3, qu, qi t0, qu, qu, qu, qu, qu]) (S' := [.int (v3 - (2 : Int32)), .ref 0]) (H' := (qa scr :: bk0 zbu zbv zck zbw zcl zci zcm zcn zbx zby zbz zcx zcy zcz zcp zcq zbm zcj zco zca zda (bk1 zbn zbo zce zbp zcb zcf zcg zcc zbq zbr zbs zct zcu zcv zcr zcs zbl zch zcd zbt zcw []))) rfl ?_
    obtain ⟨x319, hx319, h⟩ := bnd h
    refine OEndsQ.plain hm_0 rfl rfl (x_iaload rfl hx319) ?_
    refine OEndsQ.adv hm_0 1 (pc' := 165) (L' := [qr 0, qr 1, qr 16, qi v3, qu, qi t0, qu, qu, qu, qu, qu]) (S' := [.int x319]) (H' := (qa scr :: bk0 zbu zbv zck zbw zcl zci zcm zcn zbx zby zbz zcx zcy zcz zcp zcq zbm zcj zco zca zda (bk1 zbn zbo zce zbp zcb zcf zcg zcc zbq zbr zbs zct zcu zcv zcr zcs zbl zch zcd zbt zcw []))) rfl ?_
    exact ok_L_law_165 h
theorem ok_L_law_135 {scr : List Int32} : ∀ {zbu zbv zck zbw zcl : List Int32} {zci : List Int64} {zcm zcn zbx zby zbz : List Int32} {zbm : Int32} {zcj : Int64} {zco zca : Int32} {zbn zbo zce zbp zcb : List Int32} {zcf : List Int64} {zcg zcc zbq zbr zbs : List Int32} {zbl : Int32} {zch : Int64} {zcd zbt v3 zcp zcq zda : Int32} {zcx zcy zcz : List Int32} {zcr zcs zcw : Int32} {zct zcu zcv : List Int32} {d4 d5 d6 d7 d8 d9 d10 : Slot} {res : Int32}, f_L_law_135 scr zbu zbv zck zbw zcl zci zcm zcn zbx zby zbz zbm zcj zco zca zbn zbo zce zbp zcb zcf zcg zcc zbq zbr zbs zbl zch zcd zbt v3 = some res → OEndsQ own_P 0 135 [qr 0, qr 1, qr 16, qi v3, d4, d5, d6, d7, d8, d9, d10] [] (qa scr :: bk0 zbu zbv zck zbw zcl zci zcm zcn zbx zby zbz zcx zcy zcz zcp zcq zbm zcj zco zca zda (bk1 zbn zbo zce zbp zcb zcf zcg zcc zbq zbr zbs zct zcu zcv zcr zcs zbl zch zcd zbt zcw [])) (LawQ res 0 0) := by
  intro zbu zbv zck zbw zcl zci zcm zcn zbx zby zbz zbm zcj zco zca zbn zbo zce zbp zcb zcf zcg zcc zbq zbr zbs zbl zch zcd zbt v3 zcp zcq zda zcx zcy zcz zcr zcs zcw zct zcu zcv d4 d5 d6 d7 d8 d9 d10 res h
  unfold f_L_law_135 at h
  refine OEndsQ.adv hm_0 2 (pc' := 137) (L' := [qr 0, qr 1, qr 16, qi v3, qu, qu, qu, qu, qu, qu, qu]) (S' := [.int 3, .int v3]) (H' := (qa scr :: bk0 zbu zbv zck zbw zcl zci zcm zcn zbx zby zbz zcx zcy zcz zcp zcq zbm zcj zco zca zda (bk1 zbn zbo zce zbp zcb zcf zcg zcc zbq zbr zbs zct zcu zcv zcr zcs zbl zch zcd zbt zcw []))) rfl ?_
  by_cases hc331 : v3 < (3 : Int32)
  · simp only [if_pos hc331] at h
    refine OEndsQ.icmpT hm_0 rfl (q := 148) rfl ((tlt hc331).1) ?_
    refine OEndsQ.adv hm_0 1 (pc' := 149) (L' := [qr 0, qr 1, qr 16, qi v3, qu, qu, qu, qu, qu, qu, qu]) (S' := [.int 1]) (H' := (qa scr :: bk0 zbu zbv zck zbw zcl zci zcm zcn zbx zby zbz zcx zcy zcz zcp zcq zbm zcj zco zca zda (bk1 zbn zbo zce zbp zcb zcf zcg zcc zbq zbr zbs zct zcu zcv zcr zcs zbl zch zcd zbt zcw []))) rfl ?_
    exact ok_L_law_149 h
  · simp only [if_neg hc331] at h
    refine OEndsQ.icmpF hm_0 rfl ((flt hc331).1) ?_
    refine OEndsQ.adv hm_0 4 (pc' := 144) (L' := [qr 0, qr 1, qr 16, qi v3, qu, qu, qu, qu, qu, qu, qu]) (S' := [.int (v3 - (3 : Int32)), .ref 0]) (H' := (qa scr :: bk0 zbu zbv zck zbw zcl zci zcm zcn zbx zby zbz zcx zcy zcz zcp zcq zbm zcj zco zca zda (bk1 zbn zbo zce zbp zcb zcf zcg zcc zbq zbr zbs zct zcu zcv zcr zcs zbl zch zcd zbt zcw []))) rfl ?_
    obtain ⟨x318, hx318, h⟩ := bnd h
    refine OEndsQ.plain hm_0 rfl rfl (x_iaload rfl hx318) ?_
    refine OEndsQ.adv hm_0 1 (pc' := 149) (L' := [qr 0, qr 1, qr 16, qi v3, qu, qu, qu, qu, qu, qu, qu]) (S' := [.int x318]) (H' := (qa scr :: bk0 zbu zbv zck zbw zcl zci zcm zcn zbx zby zbz zcx zcy zcz zcp zcq zbm zcj zco zca zda (bk1 zbn zbo zce zbp zcb zcf zcg zcc zbq zbr zbs zct zcu zcv zcr zcs zbl zch zcd zbt zcw []))) rfl ?_
    exact ok_L_law_149 h
theorem ok_L_law_44 {scr : List Int32} {k135 : List Int32 → List Int32 → List Int32 → List Int32 → List Int32 → List Int64 → List Int32 → List Int32 → List Int32 → List Int32 → List Int32 → Int32 → Int64 → Int32 → Int32 → List Int32 → List Int32 → List Int32 → List Int32 → List Int32 → List Int64 → List Int32 → List Int32 → List Int32 → List Int32 → List Int32 → Int32 → Int64 → Int32 → Int32 → Int32 → Option (Int32)} (hk135 : ∀ {zbu zbv zck zbw zcl : List Int32} {zci : List Int64} {zcm zcn zbx zby zbz : List Int32} {zbm : Int32} {zcj : Int64} {zco zca : Int32} {zbn zbo zce zbp zcb : List Int32} {zcf : List Int64} {zcg zcc zbq zbr zbs : List Int32} {zbl : Int32} {zch : Int64} {zcd zbt v3 zcp zcq zda : Int32} {zcx zcy zcz : List Int32} {zcr zcs zcw : Int32} {zct zcu zcv : List Int32} {d4 d5 d6 d7 d8 d9 d10 : Slot} {res : Int32}, k135 zbu zbv zck zbw zcl zci zcm zcn zbx zby zbz zbm zcj zco zca zbn zbo zce zbp zcb zcf zcg zcc zbq zbr zbs zbl zch zcd zbt v3 = some res → OEndsQ own_P 0 135 [qr 0, qr 1, qr 16, qi v3, d4, d5, d6, d7, d8, d9, d10] [] (qa scr :: bk0 zbu zbv zck zbw zcl zci zcm zcn zbx zby zbz zcx zcy zcz zcp zcq zbm zcj zco zca zda (bk1 zbn zbo zce zbp zcb zcf zcg zcc zbq zbr zbs zct zcu zcv zcr zcs zbl zch zcd zbt zcw [])) (LawQ res 0 0)) : ∀ (n : Nat), ∀ {zbu zbv zck zbw zcl : List Int32} {zci : List Int64} {zcm zcn zbx zby zbz zcx zcy zcz : List Int32} {zcp zcq zbm : Int32} {zcj : Int64} {zco zca zda : Int32} {zbn zbo zce zbp zcb : List Int32} {zcf : List Int64} {zcg zcc zbq zbr zbs zct zcu zcv : List Int32} {zcr zcs zbl : Int32} {zch : Int64} {zcd zbt zcw v3 v4 v5 : Int32} {d6 d7 d8 d9 d10 : Slot} {res : Int32}, f_L_law_44 k135 scr n zbu zbv zck zbw zcl zci zcm zcn zbx zby zbz zcx zcy zcz zcp zcq zbm zcj zco zca zda zbn zbo zce zbp zcb zcf zcg zcc zbq zbr zbs zct zcu zcv zcr zcs zbl zch zcd zbt zcw v3 v4 v5 = some res → OEndsQ own_P 0 44 [qr 0, qr 1, qr 16, qi v3, qi v4, qi v5, d6, d7, d8, d9, d10] [] (qa scr :: bk0 zbu zbv zck zbw zcl zci zcm zcn zbx zby zbz zcx zcy zcz zcp zcq zbm zcj zco zca zda (bk1 zbn zbo zce zbp zcb zcf zcg zcc zbq zbr zbs zct zcu zcv zcr zcs zbl zch zcd zbt zcw [])) (LawQ res 0 0) := by
  intro n
  induction n with
  | zero => intro zbu zbv zck zbw zcl zci zcm zcn zbx zby zbz zcx zcy zcz zcp zcq zbm zcj zco zca zda zbn zbo zce zbp zcb zcf zcg zcc zbq zbr zbs zct zcu zcv zcr zcs zbl zch zcd zbt zcw v3 v4 v5 d6 d7 d8 d9 d10 res h; cases h
  | succ n ih =>
    intro zbu zbv zck zbw zcl zci zcm zcn zbx zby zbz zcx zcy zcz zcp zcq zbm zcj zco zca zda zbn zbo zce zbp zcb zcf zcg zcc zbq zbr zbs zct zcu zcv zcr zcs zbl zch zcd zbt zcw v3 v4 v5 d6 d7 d8 d9 d10 res h
    unfold f_L_law_44 at h
    refine OEndsQ.adv hm_0 2 (pc' := 48) (L' := [qr 0, qr 1, qr 16, qi v3, qi v4, qi v5, qu, qu, qu, qu, qu]) (S' := [.int v4, .int v5]) (H' := (qa scr :: bk0 zbu zbv zck zbw zcl zci zcm zcn zbx zby zbz zcx zcy zcz zcp zcq zbm zcj zco zca zda (bk1 zbn zbo zce zbp zcb zcf zcg zcc zbq zbr zbs zct zcu zcv zcr zcs zbl zch zcd zbt zcw []))) rfl ?_
    by_cases hc332 : v5 < v4
    · simp only [if_pos hc332] at h
      refine OEndsQ.icmpF hm_0 rfl ((tlt hc332).2.1) ?_
      refine OEndsQ.adv hm_0 4 (pc' := 56) (L' := [qr 0, qr 1, qr 16, qi v3, qi v4, qi v5, qu, qu, qu, qu, qu]) (S' := [.int ((5 : Int32) * v5), .ref 0]) (H' := (qa scr :: bk0 zbu zbv zck zbw zcl zci zcm zcn zbx zby zbz zcx zcy zcz zcp zcq zbm zcj zco zca zda (bk1 zbn zbo zce zbp zcb zcf zcg zcc zbq zbr zbs zct zcu zcv zcr zcs zbl zch zcd zbt zcw []))) rfl ?_
      obtain ⟨x275, hx275, h⟩ := bnd h
      refine OEndsQ.plain hm_0 rfl rfl (x_iaload rfl hx275) ?_
      refine OEndsQ.adv hm_0 9 (pc' := 68) (L' := [qr 0, qr 1, qr 16, qi v3, qi v4, qi v5, qi (x275 &&& (3 : Int32)), qu, qu, qu, qu]) (S' := [.int (((5 : Int32) * v5) + (1 : Int32)), .ref 0]) (H' := (qa scr :: bk0 zbu zbv zck zbw zcl zci zcm zcn zbx zby zbz zcx zcy zcz zcp zcq zbm zcj zco zca zda (bk1 zbn zbo zce zbp zcb zcf zcg zcc zbq zbr zbs zct zcu zcv zcr zcs zbl zch zcd zbt zcw []))) rfl ?_
      obtain ⟨x276, hx276, h⟩ := bnd h
      refine OEndsQ.plain hm_0 rfl rfl (x_iaload rfl hx276) ?_
      refine OEndsQ.adv hm_0 7 (pc' := 78) (L' := [qr 0, qr 1, qr 16, qi v3, qi v4, qi v5, qi (x275 &&& (3 : Int32)), qi x276, qu, qu, qu]) (S' := [.int (((5 : Int32) * v5) + (2 : Int32)), .ref 0]) (H' := (qa scr :: bk0 zbu zbv zck zbw zcl zci zcm zcn zbx zby zbz zcx zcy zcz zcp zcq zbm zcj zco zca zda (bk1 zbn zbo zce zbp zcb zcf zcg zcc zbq zbr zbs zct zcu zcv zcr zcs zbl zch zcd zbt zcw []))) rfl ?_
      obtain ⟨x277, hx277, h⟩ := bnd h
      refine OEndsQ.plain hm_0 rfl rfl (x_iaload rfl hx277) ?_
      refine OEndsQ.adv hm_0 7 (pc' := 88) (L' := [qr 0, qr 1, qr 16, qi v3, qi v4, qi v5, qi (x275 &&& (3 : Int32)), qi x276, qi x277, qu, qu]) (S' := [.int (((5 : Int32) * v5) + (3 : Int32)), .ref 0]) (H' := (qa scr :: bk0 zbu zbv zck zbw zcl zci zcm zcn zbx zby zbz zcx zcy zcz zcp zcq zbm zcj zco zca zda (bk1 zbn zbo zce zbp zcb zcf zcg zcc zbq zbr zbs zct zcu zcv zcr zcs zbl zch zcd zbt zcw []))) rfl ?_
      obtain ⟨x278, hx278, h⟩ := bnd h
      refine OEndsQ.plain hm_0 rfl rfl (x_iaload rfl hx278) ?_
      refine OEndsQ.adv hm_0 7 (pc' := 98) (L' := [qr 0, qr 1, qr 16, qi v3, qi v4, qi v5, qi (x275 &&& (3 : Int32)), qi x276, qi x277, qi x278, qu]) (S' := [.int (((5 : Int32) * v5) + (4 : Int32)), .ref 0]) (H' := (qa scr :: bk0 zbu zbv zck zbw zcl zci zcm zcn zbx zby zbz zcx zcy zcz zcp zcq zbm zcj zco zca zda (bk1 zbn zbo zce zbp zcb zcf zcg zcc zbq zbr zbs zct zcu zcv zcr zcs zbl zch zcd zbt zcw []))) rfl ?_
      obtain ⟨x279, hx279, h⟩ := bnd h
      refine OEndsQ.plain hm_0 rfl rfl (x_iaload rfl hx279) ?_
      refine OEndsQ.adv hm_0 7 (pc' := 112) (L' := [qr 0, qr 1, qr 16, qi v3, qi v4, qi v5, qi (x275 &&& (3 : Int32)), qi x276, qi x277, qi x278, qi x279]) (S' := [.int x279, .int x278, .int x277, .int x276, .int (x275 &&& (3 : Int32)), .ref 1]) (H' := (qa scr :: bk0 zbu zbv zck zbw zcl zci zcm zcn zbx zby zbz zcx zcy zcz zcp zcq zbm zcj zco zca zda (bk1 zbn zbo zce zbp zcb zcf zcg zcc zbq zbr zbs zct zcu zcv zcr zcs zbl zch zcd zbt zcw []))) rfl ?_
      obtain ⟨⟨s280, s281, s282, s283, s284, s285, s286, s287, s288, s289, s290, s291, s292, s293, s294, s295, s296, s297, s298⟩, hq333, h⟩ := bnd h
      refine OEndsQ.call0 hm_0 rfl rfl (by decide) rfl (as := [.ref 1, .int (x275 &&& (3 : Int32)), .int x276, .int x277, .int x278, .int x279]) (rest := []) rfl rfl (ok_L_step_0 hq333) ?_
      refine OEndsQ.adv hm_0 6 (pc' := 126) (L' := [qr 0, qr 1, qr 16, qi v3, qi v4, qi v5, qi (x275 &&& (3 : Int32)), qi x276, qi x277, qi x278, qi x279]) (S' := [.int x279, .int x278, .int x277, .int x276, .int (x275 &&& (3 : Int32)), .ref 16]) (H' := (qa scr :: bk0 s280 s281 s282 s283 s284 s285 s286 s287 s288 s289 s290 s291 s292 s293 zcp zcq s294 s295 s296 s297 s298 (bk1 zbn zbo zce zbp zcb zcf zcg zcc zbq zbr zbs zct zcu zcv zcr zcs zbl zch zcd zbt zcw []))) rfl ?_
      obtain ⟨⟨s299, s300, s301, s302, s303, s304, s305, s306, s307, s308, s309, s310, s311, s312, s313, s314, s315, s316, s317⟩, hq334, h⟩ := bnd h
      refine OEndsQ.call0 hm_0 rfl rfl (by decide) rfl (as := [.ref 16, .int (x275 &&& (3 : Int32)), .int x276, .int x277, .int x278, .int x279]) (rest := []) rfl rfl (ok_L_step_1 hq334) ?_
      refine OEndsQ.adv hm_0 2 (pc' := 44) (L' := [qr 0, qr 1, qr 16, qi v3, qi v4, qi (v5 + (1 : Int32)), qi (x275 &&& (3 : Int32)), qi x276, qi x277, qi x278, qi x279]) (S' := []) (H' := (qa scr :: bk0 s280 s281 s282 s283 s284 s285 s286 s287 s288 s289 s290 s291 s292 s293 zcp zcq s294 s295 s296 s297 s298 (bk1 s299 s300 s301 s302 s303 s304 s305 s306 s307 s308 s309 s310 s311 s312 zcr zcs s313 s314 s315 s316 s317 []))) rfl ?_
      exact ih h
    · simp only [if_neg hc332] at h
      refine OEndsQ.icmpT hm_0 rfl (q := 135) rfl ((flt hc332).2.1) ?_
      show OEndsQ own_P 0 135 [qr 0, qr 1, qr 16, qi v3, qi v4, qi v5, qu, qu, qu, qu, qu] [] (qa scr :: bk0 zbu zbv zck zbw zcl zci zcm zcn zbx zby zbz zcx zcy zcz zcp zcq zbm zcj zco zca zda (bk1 zbn zbo zce zbp zcb zcf zcg zcc zbq zbr zbs zct zcu zcv zcr zcs zbl zch zcd zbt zcw [])) _
      exact hk135 h
theorem ok_L_law {scr : List Int32} {res : Int32} (h : f_L_law scr = some res) : OEndsQ own_P 0 0 [qr 0, qu, qu, qu, qu, qu, qu, qu, qu, qu, qu] [] (qa scr :: []) (LawQ res 30 4522) := by
  unfold f_L_law at h
  refine OEndsQ.made hm_0 rfl rfl (ks := 21) (c0 := 29) (s0 := 4501) rfl (Nat.le_of_ble_eq_true rfl) (Nat.le_of_ble_eq_true rfl) ?_
  refine OEndsQ.adv hm_0 3 (pc' := 7) (L' := [qr 0, qu, qu, qu, qu, qu, qu, qu, qu, qu, qu]) (S' := [.int 20, .int 3, .ref 1, .ref 1]) (H' := (qa scr :: (.inl (0, [.null, .null, .null, .null, .null, .null, .null, .null, .null, .null, .null, .null, .null, .null, .int 0, .int 0, .int 0, .long 0, .int 0, .int 0, .int 0]) : ACell) :: [])) rfl ?_
  obtain ⟨⟨s233, s234, s235, s236, s237, s238, s239, s240, s241, s242, s243, s244, s245, s246, s247, s248, s249, s250, s251, s252, s253⟩, hq335, h⟩ := bnd h
  refine OEndsQ.callN hm_0 rfl rfl (by decide) rfl (as := [.ref 1, .int 3, .int 20]) (rest := [.ref 1]) rfl rfl (c0 := 15) (s0 := 2261) (ok_init_0 hq335) (Nat.le_of_ble_eq_true rfl) (Nat.le_of_ble_eq_true rfl) ?_
  refine OEndsQ.adv hm_0 1 (pc' := 11) (L' := [qr 0, qr 1, qu, qu, qu, qu, qu, qu, qu, qu, qu]) (S' := []) (H' := (qa scr :: bk0 s233 s234 s235 s236 s237 s238 s239 s240 s241 s242 s243 s244 s245 s246 s247 s248 s249 s250 s251 s252 s253 [])) rfl ?_
  refine OEndsQ.made hm_0 rfl rfl (ks := 21) (c0 := 14) (s0 := 2240) rfl (Nat.le_of_ble_eq_true rfl) (Nat.le_of_ble_eq_true rfl) ?_
  refine OEndsQ.adv hm_0 3 (pc' := 18) (L' := [qr 0, qr 1, qu, qu, qu, qu, qu, qu, qu, qu, qu]) (S' := [.int 20, .int 3, .ref 16, .ref 16]) (H' := (qa scr :: bk0 s233 s234 s235 s236 s237 s238 s239 s240 s241 s242 s243 s244 s245 s246 s247 s248 s249 s250 s251 s252 s253 ((.inl (0, [.null, .null, .null, .null, .null, .null, .null, .null, .null, .null, .null, .null, .null, .null, .int 0, .int 0, .int 0, .long 0, .int 0, .int 0, .int 0]) : ACell) :: []))) rfl ?_
  obtain ⟨⟨s254, s255, s256, s257, s258, s259, s260, s261, s262, s263, s264, s265, s266, s267, s268, s269, s270, s271, s272, s273, s274⟩, hq336, h⟩ := bnd h
  refine OEndsQ.callN hm_0 rfl rfl (by decide) rfl (as := [.ref 16, .int 3, .int 20]) (rest := [.ref 16]) rfl rfl (c0 := 0) (s0 := 0) (ok_init_1 hq336) (Nat.le_of_ble_eq_true rfl) (Nat.le_of_ble_eq_true rfl) ?_
  refine OEndsQ.adv hm_0 6 (pc' := 27) (L' := [qr 0, qr 1, qr 16, qi scr.length.toInt32, qu, qu, qu, qu, qu, qu, qu]) (S' := [.int 3, .int scr.length.toInt32]) (H' := (qa scr :: bk0 s233 s234 s235 s236 s237 s238 s239 s240 s241 s242 s243 s244 s245 s246 s247 s248 s249 s250 s251 s252 s253 (bk1 s254 s255 s256 s257 s258 s259 s260 s261 s262 s263 s264 s265 s266 s267 s268 s269 s270 s271 s272 s273 s274 []))) rfl ?_
  by_cases hc337 : scr.length.toInt32 < (3 : Int32)
  · simp only [if_pos hc337] at h
    refine OEndsQ.icmpT hm_0 rfl (q := 38) rfl ((tlt hc337).1) ?_
    refine OEndsQ.adv hm_0 4 (pc' := 44) (L' := [qr 0, qr 1, qr 16, qi scr.length.toInt32, qi 0, qi 0, qu, qu, qu, qu, qu]) (S' := []) (H' := (qa scr :: bk0 s233 s234 s235 s236 s237 s238 s239 s240 s241 s242 s243 s244 s245 s246 s247 s248 s249 s250 s251 s252 s253 (bk1 s254 s255 s256 s257 s258 s259 s260 s261 s262 s263 s264 s265 s266 s267 s268 s269 s270 s271 s272 s273 s274 []))) rfl ?_
    exact ok_L_law_44 (k135 := f_L_law_135 scr) ok_L_law_135 100000 h
  · simp only [if_neg hc337] at h
    refine OEndsQ.icmpF hm_0 rfl ((flt hc337).1) ?_
    refine OEndsQ.adv hm_0 9 (pc' := 44) (L' := [qr 0, qr 1, qr 16, qi scr.length.toInt32, qi ((scr.length.toInt32 - (3 : Int32)) / (5 : Int32)), qi 0, qu, qu, qu, qu, qu]) (S' := []) (H' := (qa scr :: bk0 s233 s234 s235 s236 s237 s238 s239 s240 s241 s242 s243 s244 s245 s246 s247 s248 s249 s250 s251 s252 s253 (bk1 s254 s255 s256 s257 s258 s259 s260 s261 s262 s263 s264 s265 s266 s267 s268 s269 s270 s271 s272 s273 s274 []))) rfl ?_
    exact ok_L_law_44 (k135 := f_L_law_135 scr) ok_L_law_135 100000 h
theorem own_iL {α : Type} {Q : α → Prop} {a b : Int32} {x y : Option α} (h1 : a.toInt < b.toInt → Tot x Q) (h2 : b.toInt ≤ a.toInt → Tot y Q) : Tot (if a < b then x else y) Q :=
  Tot.ite (fun c => h1 (ilt.mp c)) (fun c => h2 (by rw [ilt] at c; omega))
theorem own_iE {α : Type} {Q : α → Prop} {a b : Int32} {x y : Option α} (h1 : a = b → Tot x Q) (h2 : ¬ a = b → Tot y Q) : Tot (if a = b then x else y) Q :=
  Tot.ite h1 h2
theorem own_bs {α β : Type} {a : α} {f : α → Option β} {Q : β → Prop} (h : Tot (f a) Q) : Tot ((some a).bind f) Q := h
theorem own_p1 {a : Int32} (h : a.toInt < 2147483647) : (a + 1).toInt = a.toInt + 1 := by
  have := Int32.le_toInt a
  ((try simp only [ilt, ile, ieq, iadd_e, isub_e, imul_e, Int32.reduceToInt] at *) <;> omega)
theorem own_m1 {a : Int32} (h : -2147483648 < a.toInt) : (a - 1).toInt = a.toInt - 1 := by
  have := Int32.toInt_lt a
  ((try simp only [ilt, ile, ieq, iadd_e, isub_e, imul_e, Int32.reduceToInt] at *) <;> omega)
theorem own_m2 {a : Int32} (h : -2147483648 < a.toInt) : (a + (-1)).toInt = a.toInt - 1 := by
  have := Int32.toInt_lt a
  ((try simp only [ilt, ile, ieq, iadd_e, isub_e, imul_e, Int32.reduceToInt] at *) <;> omega)
def own_R (L : List Int32) : Prop := ∀ x ∈ L, 0 ≤ x.toInt ∧ x.toInt < 256
theorem own_Rg {L : List Int32} (h : own_R L) {j : Int32} (h0 : 0 ≤ j.toInt) (h1 : j.toInt < L.length) : 0 ≤ (gI L j).toInt ∧ (gI L j).toInt < 256 := by
  have h2 : j.toInt.toNat < L.length := by omega
  unfold gI
  rw [rdA_in h0 h2]
  exact h _ (List.getElem_mem h2)
theorem own_Rs {L : List Int32} (h : own_R L) {j : Nat} {x : Int32} (x0 : 0 ≤ x.toInt) (x1 : x.toInt < 256) : own_R (L.set j x) := by
  intro y hy
  rcases List.mem_or_eq_of_mem_set hy with h' | h'
  · exact h y h'
  · rw [h']; exact ⟨x0, x1⟩
theorem own_rdR {β : Type} {L : List Int32} {j : Int32} {f : Int32 → Option β} {Q : β → Prop} (hR : own_R L) (h0 : 0 ≤ j.toInt) (h1 : j.toInt < L.length) (g : ∀ a : Int32, 0 ≤ a.toInt → a.toInt < 256 → Tot (f a) Q) : Tot ((rdA L j).bind f) Q := by
  rw [rdg h0 h1]
  exact g _ (own_Rg hR h0 h1).1 (own_Rg hR h0 h1).2
theorem own_wrR {β : Type} {L : List Int32} {j x : Int32} {f : List Int32 → Option β} {Q : β → Prop} (hR : own_R L) (h0 : 0 ≤ j.toInt) (h1 : j.toInt < L.length) (x0 : 0 ≤ x.toInt) (x1 : x.toInt < 256) (g : ∀ L' : List Int32, own_R L' → L'.length = L.length → Tot (f L') Q) : Tot ((wrA L j x).bind f) Q :=
  Tot.wr h0 h1 (fun L' e l => g L' (by rw [e]; exact own_Rs hR x0 x1) l)
abbrev own_W (RI : List Int32) (RN acc : Int32) : Prop := (RI.length = 64) ∧ (0 ≤ RN.toInt) ∧ (RN.toInt ≤ 64) ∧ (own_R RI) ∧ (∀ i : Int32, 0 ≤ i.toInt → i.toInt < RN.toInt → 1 ≤ (gI RI i).toInt ∧ (gI RI i).toInt ≤ acc.toInt) ∧ (∀ i j : Int32, 0 ≤ i.toInt → i.toInt < RN.toInt → 0 ≤ j.toInt → j.toInt < RN.toInt → gI RI i = gI RI j → i = j)
theorem own_W.l {RI : List Int32} {RN acc : Int32} (self : own_W RI RN acc) : RI.length = 64 := self.1
theorem own_W.n0 {RI : List Int32} {RN acc : Int32} (self : own_W RI RN acc) : 0 ≤ RN.toInt := self.2.1
theorem own_W.n1 {RI : List Int32} {RN acc : Int32} (self : own_W RI RN acc) : RN.toInt ≤ 64 := self.2.2.1
theorem own_W.r {RI : List Int32} {RN acc : Int32} (self : own_W RI RN acc) : own_R RI := self.2.2.2.1
theorem own_W.e {RI : List Int32} {RN acc : Int32} (self : own_W RI RN acc) : ∀ i : Int32, 0 ≤ i.toInt → i.toInt < RN.toInt → 1 ≤ (gI RI i).toInt ∧ (gI RI i).toInt ≤ acc.toInt := self.2.2.2.2.1
theorem own_W.d {RI : List Int32} {RN acc : Int32} (self : own_W RI RN acc) : ∀ i j : Int32, 0 ≤ i.toInt → i.toInt < RN.toInt → 0 ≤ j.toInt → j.toInt < RN.toInt → gI RI i = gI RI j → i = j := self.2.2.2.2.2
def own_mem (RI : List Int32) (RN x : Int32) : Prop := ∃ j : Int32, 0 ≤ j.toInt ∧ j.toInt < RN.toInt ∧ gI RI j = x
theorem own_rm2 {RI : List Int32} {RN acc : Int32} (w : own_W RI RN acc) (v : Int32) : ∀ (n : Nat) (k : Int32), 0 ≤ k.toInt → k.toInt ≤ RN.toInt → RN.toInt - k.toInt < n → (∀ j : Int32, 0 ≤ j.toInt → j.toInt < k.toInt → gI RI j ≠ v) →
    Tot (f_removeResting_2 f_removeResting_20 n RI RN v k) (fun p => own_W p.1 p.2 acc ∧ p.2.toInt ≤ RN.toInt ∧ (∀ x, own_mem p.1 p.2 x ↔ own_mem RI RN x ∧ x ≠ v) ∧ (own_mem RI RN v → p.2.toInt = RN.toInt - 1)) := by
  intro n
  have l := w.l
  have n0 := w.n0
  have n1 := w.n1
  induction n with
  | zero => intro k h0 h1 h2; omega
  | succ n ih =>
    intro k h0 h1 h2 hk
    unfold f_removeResting_2
    refine own_iL (fun c => ?_) (fun c => ?_)
    · refine Tot.rdI h0 (by omega) ?_
      refine own_iE (fun e => ?_) (fun e => ?_)
      · have m1 := own_m1 (a := RN) (by omega)
        unfold f_removeResting_20
        rw [rdg (by omega) (by omega), Option.bind_some, wrA_in h0 (by omega), Option.bind_some]
        refine Tot.mk ?_
        have g : ∀ j : Int32, 0 ≤ j.toInt → gI (RI.set k.toInt.toNat (gI RI (RN - 1))) j = if k = j then gI RI (RN - 1) else gI RI j := fun j hj => gset h0 (by omega) hj
        have lst := w.e (RN - 1) (by omega) (by omega)
        have lst2 := own_Rg w.r (j := RN - 1) (by omega) (by omega)
        refine ⟨⟨by simp [l], (by show 0 ≤ (RN - 1).toInt; omega), (by show (RN - 1).toInt ≤ 64; omega), own_Rs w.r (by omega) (by omega), ?_, ?_⟩, (by show (RN - 1).toInt ≤ RN.toInt; omega), ?_, fun _ => (by show (RN - 1).toInt = RN.toInt - 1; omega)⟩
        · intro i i0 i1
          show 1 ≤ (gI (RI.set k.toInt.toNat (gI RI (RN - 1))) i).toInt ∧ (gI (RI.set k.toInt.toNat (gI RI (RN - 1))) i).toInt ≤ acc.toInt
          have i1' : i.toInt < (RN - 1).toInt := i1
          rw [g i i0]
          split
          · exact lst
          · exact w.e i i0 (by omega)
        · intro i j i0 i1 j0 j1 hh
          have i1' : i.toInt < (RN - 1).toInt := i1
          have j1' : j.toInt < (RN - 1).toInt := j1
          have hh' : gI (RI.set k.toInt.toNat (gI RI (RN - 1))) i = gI (RI.set k.toInt.toNat (gI RI (RN - 1))) j := hh
          rw [g i i0, g j j0] at hh'
          by_cases ei : k = i <;> by_cases ej : k = j
          · rw [← ei, ← ej]
          · rw [if_pos ei, if_neg ej] at hh'
            have q := w.d _ _ (by omega) (by omega) (by omega) (by omega) hh'
            rw [ieq] at q
            omega
          · rw [if_neg ei, if_pos ej] at hh'
            have q := w.d _ _ (by omega) (by omega) (by omega) (by omega) hh'
            rw [ieq] at q
            omega
          · rw [if_neg ei, if_neg ej] at hh'
            exact w.d _ _ (by omega) (by omega) (by omega) (by omega) hh'
        · intro x
          show own_mem (RI.set k.toInt.toNat (gI RI (RN - 1))) (RN - 1) x ↔ _
          constructor
          · rintro ⟨j, j0, j1, ej⟩
            rw [g j j0] at ej
            by_cases hkj : k = j
            · rw [if_pos hkj] at ej
              refine ⟨⟨RN - 1, by omega, by omega, ej⟩, ?_⟩
              intro hx
              have q := w.d (RN - 1) k (by omega) (by omega) h0 c (by rw [ej, hx, e])
              rw [ieq] at q
              rw [ieq] at hkj
              omega
            · rw [if_neg hkj] at ej
              refine ⟨⟨j, j0, by omega, ej⟩, ?_⟩
              intro hx
              exact hkj (w.d k j h0 c j0 (by omega) (by rw [ej, hx, e]))
          · rintro ⟨⟨j, j0, j1, ej⟩, hx⟩
            have hkj : ¬ k = j := by
              intro h
              rw [← h, e] at ej
              exact hx ej.symm
            by_cases hl : j.toInt = (RN - 1).toInt
            · refine ⟨k, h0, by rw [ieq] at hkj; omega, ?_⟩
              rw [g k h0, if_pos rfl]
              rw [← ieq] at hl
              rw [← hl, ej]
            · refine ⟨j, j0, by omega, ?_⟩
              rw [g j j0, if_neg hkj, ej]
      · have p := own_p1 (a := k) (by omega)
        refine ih _ (by omega) (by omega) (by omega) ?_
        intro j j0 j1
        by_cases hj : j.toInt < k.toInt
        · exact hk j j0 hj
        · have : j = k := by rw [ieq]; omega
          rw [this]
          exact e
    · refine Tot.mk ⟨w, Int.le_refl _, ?_, ?_⟩
      · intro x
        constructor
        · rintro ⟨j, j0, j1, ej⟩
          refine ⟨⟨j, j0, j1, ej⟩, ?_⟩
          intro hx
          have j1' : j.toInt < RN.toInt := j1
          exact hk j j0 (by omega) (by rw [← hx]; exact ej)
        · exact fun h => h.1
      · rintro ⟨j, j0, j1, ej⟩
        exact absurd ej (hk j j0 (by omega))
theorem own_rm {RI : List Int32} {RN acc : Int32} (w : own_W RI RN acc) (v : Int32) : Tot (f_removeResting RI RN v) (fun p => own_W p.1 p.2 acc ∧ p.2.toInt ≤ RN.toInt ∧ (∀ x, own_mem p.1 p.2 x ↔ own_mem RI RN x ∧ x ≠ v) ∧ (own_mem RI RN v → p.2.toInt = RN.toInt - 1)) := by
  have n0 := w.n0
  have n1 := w.n1
  have e0 : (0 : Int32).toInt = 0 := rfl
  exact own_rm2 w v 100000 0 (by omega) (by omega) (by omega) (fun j j0 j1 => by omega)
theorem own_best4 {SD PR RI : List Int32} {RN acc : Int32} (w : own_W RI RN acc) (lS : SD.length = 256) (lP : PR.length = 256) (v1 : Int32) : ∀ (n : Nat) (v2 v3 : Int32), 0 ≤ v3.toInt → v3.toInt ≤ RN.toInt → RN.toInt - v3.toInt < n → Tot (f_bestOf_4 SD PR RI RN n v1 v2 v3) (fun _ => True) := by
  intro n
  have l := w.l
  have n1 := w.n1
  have r := w.r
  induction n with
  | zero => intro v2 v3 h0 h1 h2; omega
  | succ n ih =>
    intro v2 v3 h0 h1 h2
    have p := own_p1 (a := v3) (by omega)
    unfold f_bestOf_4 f_better
    (repeat' (first | with_reducible refine own_iL (fun _ => ?_) (fun _ => ?_) | with_reducible refine own_iE (fun _ => ?_) (fun _ => ?_) | with_reducible refine own_rdR (by assumption) (by omega) (by omega) (fun _ _ _ => ?_) | with_reducible refine Tot.rd (by omega) (by omega) (fun _ _ => ?_) | with_reducible refine own_wrR (by assumption) (by omega) (by omega) (by omega) (by omega) (fun _ _ _ => ?_) | with_reducible refine Tot.wr (by omega) (by omega) (fun _ _ _ => ?_) | with_reducible refine own_bs ?_))
    all_goals first | exact Tot.mk trivial | exact ih _ _ (by omega) (by omega) (by omega)
theorem own_best {SD PR RI : List Int32} {RN acc : Int32} (w : own_W RI RN acc) (lS : SD.length = 256) (lP : PR.length = 256) (v1 : Int32) : Tot (f_bestOf SD PR RI RN v1) (fun _ => True) := by
  have n0 := w.n0
  have n1 := w.n1
  have e0 : (0 : Int32).toInt = 0 := rfl
  exact own_best4 w lS lP v1 100000 0 0 (by omega) (by omega) (by omega)
theorem own_gat7 {SD PR RI : List Int32} {RN acc : Int32} (w : own_W RI RN acc) (lS : SD.length = 256) (lP : PR.length = 256) (v1 v2 : Int32) : ∀ (n : Nat) (LI : List Int32) (LN v3 : Int32), 0 ≤ v3.toInt → v3.toInt ≤ RN.toInt → RN.toInt - v3.toInt < n → own_R LI → LI.length = 64 → 0 ≤ LN.toInt → LN.toInt ≤ 64 →
    Tot (f_gatherLevel_7 SD PR RI RN n LI LN v1 v2 v3) (fun p => own_R p.1 ∧ p.1.length = 64 ∧ 0 ≤ p.2.toInt ∧ p.2.toInt ≤ 64) := by
  intro n
  have l := w.l
  have n1 := w.n1
  have r := w.r
  have e64 : (64 : Int32).toInt = 64 := rfl
  induction n with
  | zero => intro LI LN v3 h0 h1 h2; omega
  | succ n ih =>
    intro LI LN v3 h0 h1 h2 hR hl a0 a1
    have p := own_p1 (a := v3) (by omega)
    have p2 := own_p1 (a := LN) (by omega)
    unfold f_gatherLevel_7
    (repeat' (first | with_reducible refine own_iL (fun _ => ?_) (fun _ => ?_) | with_reducible refine own_iE (fun _ => ?_) (fun _ => ?_) | with_reducible refine own_rdR (by assumption) (by omega) (by omega) (fun _ _ _ => ?_) | with_reducible refine Tot.rd (by omega) (by omega) (fun _ _ => ?_) | with_reducible refine own_wrR (by assumption) (by omega) (by omega) (by omega) (by omega) (fun _ _ _ => ?_) | with_reducible refine Tot.wr (by omega) (by omega) (fun _ _ _ => ?_) | with_reducible refine own_bs ?_))
    all_goals first | exact Tot.mk ⟨hR, hl, a0, a1⟩ | exact ih _ _ _ (by omega) (by omega) (by omega) (by assumption) (by omega) (by omega) (by omega)
theorem own_gat {SD PR RI LI : List Int32} {RN acc LN : Int32} (w : own_W RI RN acc) (lS : SD.length = 256) (lP : PR.length = 256) (v1 v2 : Int32) (hR : own_R LI) (hl : LI.length = 64) : Tot (f_gatherLevel SD PR RI RN LI LN v1 v2) (fun p => own_R p.1 ∧ p.1.length = 64 ∧ 0 ≤ p.2.toInt ∧ p.2.toInt ≤ 64) := by
  have n0 := w.n0
  have n1 := w.n1
  have e0 : (0 : Int32).toInt = 0 := rfl
  exact own_gat7 w lS lP v1 v2 100000 LI 0 0 (by omega) (by omega) (by omega) hR hl (by omega) (by omega)
theorem own_srt27 {SP : List Int64} {LN : Int32} (lS : SP.length = 256) {k : List Int32 → Int32 → Int32 → Int32 → Option (List Int32)} {Q : List Int32 → Prop} (v1 v2 : Int32) (v3 : Int64) (hv : v1.toInt < 64) (hk : ∀ (LI : List Int32) (v5 : Int32), own_R LI → LI.length = 64 → 0 ≤ v5.toInt → v5.toInt ≤ v1.toInt → Tot (k LI v1 v2 v5) Q) :
    ∀ (n : Nat) (LI : List Int32) (v5 : Int32), 0 ≤ v5.toInt → v5.toInt ≤ v1.toInt → v5.toInt < n → own_R LI → LI.length = 64 → Tot (f_sortLevel_27 k SP LN n LI v1 v2 v3 v5) Q := by
  intro n
  have e0 : (0 : Int32).toInt = 0 := rfl
  induction n with
  | zero => intro LI v5 h0 h1 h2; omega
  | succ n ih =>
    intro LI v5 h0 h1 h2 hR hl
    have p := own_m1 (a := v5) (by omega)
    have p2 := own_m2 (a := v5) (by omega)
    unfold f_sortLevel_27
    refine own_iL (fun c => ?_) (fun c => hk _ _ hR hl h0 h1)
    refine own_rdR hR (by omega) (by omega) fun a a0 a1 => ?_
    refine Tot.rd a0 (by omega) fun b _ => ?_
    refine Tot.ite (fun _ => ?_) (fun _ => hk _ _ hR hl h0 h1)
    refine own_rdR hR (by omega) (by omega) fun a' a0' a1' => ?_
    refine own_wrR hR h0 (by omega) a0' a1' fun L' hR' hl' => ?_
    exact ih _ _ (by omega) (by omega) (by omega) hR' (by omega)
theorem own_srt2 {SP : List Int64} {LN : Int32} (lS : SP.length = 256) (hN : LN.toInt ≤ 64) : ∀ (n : Nat) (LI : List Int32) (v1 : Int32), 1 ≤ v1.toInt → 65 - v1.toInt ≤ n → v1.toInt ≤ 64 → own_R LI → LI.length = 64 → Tot (f_sortLevel_2 SP LN n LI v1) (fun p => own_R p ∧ p.length = 64) := by
  intro n
  induction n with
  | zero =>
    intro LI v1 h0 h1 h3 hR hl
    omega
  | succ n ih =>
    intro LI v1 h0 h1 h3 hR hl
    have p := own_p1 (a := v1) (by omega)
    unfold f_sortLevel_2
    refine own_iL (fun c => ?_) (fun c => Tot.mk ⟨hR, hl⟩)
    refine own_rdR hR (by omega) (by omega) fun a a0 a1 => ?_
    refine Tot.rd a0 (by omega) fun b _ => ?_
    refine own_srt27 lS v1 a b (by omega) ?_ 100000 LI v1 (by omega) (by omega) (by omega) hR hl
    intro LI' v5 hR' hl' h0' h1'
    unfold f_sortLevel_73
    refine own_wrR hR' h0' (by omega) a0 a1 fun L' hR'' hl'' => ?_
    exact ih _ _ (by omega) (by omega) (by omega) hR'' (by omega)
theorem own_srt {SP : List Int64} {LN : Int32} {LI : List Int32} (lS : SP.length = 256) (hN : LN.toInt ≤ 64) (hR : own_R LI) (hl : LI.length = 64) : Tot (f_sortLevel SP LN LI) (fun p => own_R p ∧ p.length = 64) := by
  have e1 : (1 : Int32).toInt = 1 := rfl
  exact own_srt2 lS hN 100000 LI 1 (by omega) (by omega) (by omega) hR hl
theorem own_top11 {TP LI LR : List Int32} {tc LN : Int32} (lT : TP.length = 256) (hR : own_R LI) (hl : LI.length = 64) (lR : LR.length = 64) (hN : LN.toInt ≤ 64) (v1 : Int32) : ∀ (n : Nat) (LA : List Int32) (v2 : Int32), 0 ≤ v2.toInt → v2.toInt ≤ 64 → 65 - v2.toInt ≤ n → LA.length = 64 → Tot (f_topStep_11 (f_topStep_35 TP LI LR tc LN) TP LI LR tc LN n LA v1 v2) (fun p => p.2.length = 64) := by
  intro n
  induction n with
  | zero => intro LA v2 h0 h1 h2; omega
  | succ n ih =>
    intro LA v2 h0 h1 h2 lA
    have p := own_p1 (a := v2) (by omega)
    unfold f_topStep_11 f_topStep_35 f_topStep_57 f_topStep_72 f_topStep_80
    (repeat' (first | with_reducible refine own_iL (fun _ => ?_) (fun _ => ?_) | with_reducible refine own_iE (fun _ => ?_) (fun _ => ?_) | with_reducible refine own_rdR (by assumption) (by omega) (by omega) (fun _ _ _ => ?_) | with_reducible refine Tot.rd (by omega) (by omega) (fun _ _ => ?_) | with_reducible refine own_wrR (by assumption) (by omega) (by omega) (by omega) (by omega) (fun _ _ _ => ?_) | with_reducible refine Tot.wr (by omega) (by omega) (fun _ _ _ => ?_) | with_reducible refine own_bs ?_))
    all_goals first | exact ih _ _ (by omega) (by omega) (by omega) lA | exact Tot.mk (by dsimp only; omega)
theorem own_top {TP LI LR LA : List Int32} {tc LN : Int32} (lT : TP.length = 256) (hR : own_R LI) (hl : LI.length = 64) (lR : LR.length = 64) (hN : LN.toInt ≤ 64) (v1 : Int32) (lA : LA.length = 64) : Tot (f_topStep TP LI LR tc LN LA v1) (fun p => p.2.length = 64) := by
  have e0 : (0 : Int32).toInt = 0 := rfl
  unfold f_topStep
  refine Tot.ite (fun _ => ?_) (fun _ => Tot.mk lA)
  exact own_top11 lT hR hl lR hN v1 100000 LA 0 (by omega) (by omega) (by omega) lA
theorem own_pr53 {LR : List Int32} {ma LN : Int32} (lR : LR.length = 64) (hN : LN.toInt ≤ 64) (v1 : Int32) (v2 : Int64) (hv : ¬ v2 = 0) : ∀ (n : Nat) (LA : List Int32) (v4 v5 : Int32), 0 ≤ v5.toInt → v5.toInt ≤ 64 → 65 - v5.toInt ≤ n → LA.length = 64 → Tot (f_proRataStep_53 LR ma LN n LA v1 v2 v4 v5) (fun p => p.2.length = 64) := by
  intro n
  induction n with
  | zero => intro LA v4 v5 h0 h1 h2; omega
  | succ n ih =>
    intro LA v4 v5 h0 h1 h2 lA
    have p := own_p1 (a := v5) (by omega)
    unfold f_proRataStep_53 f_proRataStep_102
    simp only [if_neg hv]
    (repeat' (first | with_reducible refine own_iL (fun _ => ?_) (fun _ => ?_) | with_reducible refine own_iE (fun _ => ?_) (fun _ => ?_) | with_reducible refine own_rdR (by assumption) (by omega) (by omega) (fun _ _ _ => ?_) | with_reducible refine Tot.rd (by omega) (by omega) (fun _ _ => ?_) | with_reducible refine own_wrR (by assumption) (by omega) (by omega) (by omega) (by omega) (fun _ _ _ => ?_) | with_reducible refine Tot.wr (by omega) (by omega) (fun _ _ _ => ?_) | with_reducible refine own_bs ?_))
    all_goals first | exact ih _ _ _ (by omega) (by omega) (by omega) (by omega) | exact Tot.mk lA
theorem own_pr5 {LR : List Int32} {ma LN : Int32} (lR : LR.length = 64) (hN : LN.toInt ≤ 64) (v1 : Int32) : ∀ (n : Nat) (LA : List Int32) (v2 : Int64) (v4 : Int32), 0 ≤ v4.toInt → v4.toInt ≤ 64 → 65 - v4.toInt ≤ n → LA.length = 64 → Tot (f_proRataStep_5 (f_proRataStep_39 LR ma LN) LR ma LN n LA v1 v2 v4) (fun p => p.2.length = 64) := by
  intro n
  have e0 : (0 : Int32).toInt = 0 := rfl
  induction n with
  | zero => intro LA v2 v4 h0 h1 h2; omega
  | succ n ih =>
    intro LA v2 v4 h0 h1 h2 lA
    have p := own_p1 (a := v4) (by omega)
    unfold f_proRataStep_5
    refine own_iL (fun c => ?_) (fun c => ?_)
    · (repeat' (first | with_reducible refine own_iL (fun _ => ?_) (fun _ => ?_) | with_reducible refine own_iE (fun _ => ?_) (fun _ => ?_) | with_reducible refine own_rdR (by assumption) (by omega) (by omega) (fun _ _ _ => ?_) | with_reducible refine Tot.rd (by omega) (by omega) (fun _ _ => ?_) | with_reducible refine own_wrR (by assumption) (by omega) (by omega) (by omega) (by omega) (fun _ _ _ => ?_) | with_reducible refine Tot.wr (by omega) (by omega) (fun _ _ _ => ?_) | with_reducible refine own_bs ?_))
      exact ih _ _ _ (by omega) (by omega) (by omega) (by omega)
    · unfold f_proRataStep_39
      refine Tot.ite (fun c' => ?_) (fun _ => Tot.mk lA)
      exact own_pr53 lR hN v1 v2 (fun h => by rw [h] at c'; exact absurd c' (by decide)) 100000 LA 0 0 (by omega) (by omega) (by omega) lA
theorem own_pr {LR LA : List Int32} {ma LN : Int32} (lR : LR.length = 64) (hN : LN.toInt ≤ 64) (v1 : Int32) (lA : LA.length = 64) : Tot (f_proRataStep LR ma LN LA v1) (fun p => p.2.length = 64) := by
  have e0 : (0 : Int32).toInt = 0 := rfl
  exact own_pr5 lR hN v1 100000 LA 0 0 (by omega) (by omega) (by omega) lA
theorem own_ts4 {LR : List Int32} {LN : Int32} (lR : LR.length = 64) (hN : LN.toInt ≤ 64) : ∀ (n : Nat) (LA : List Int32) (v2 v3 : Int32), 0 ≤ v3.toInt → v3.toInt ≤ 64 → 65 - v3.toInt ≤ n → LA.length = 64 → Tot (f_timeStep_4 LR LN n LA v2 v3) (fun p => p.length = 64) := by
  intro n
  induction n with
  | zero => intro LA v2 v3 h0 h1 h2; omega
  | succ n ih =>
    intro LA v2 v3 h0 h1 h2 lA
    have p := own_p1 (a := v3) (by omega)
    unfold f_timeStep_4 f_timeStep_43
    (repeat' (first | with_reducible refine own_iL (fun _ => ?_) (fun _ => ?_) | with_reducible refine own_iE (fun _ => ?_) (fun _ => ?_) | with_reducible refine own_rdR (by assumption) (by omega) (by omega) (fun _ _ _ => ?_) | with_reducible refine Tot.rd (by omega) (by omega) (fun _ _ => ?_) | with_reducible refine own_wrR (by assumption) (by omega) (by omega) (by omega) (by omega) (fun _ _ _ => ?_) | with_reducible refine Tot.wr (by omega) (by omega) (fun _ _ _ => ?_) | with_reducible refine own_bs ?_))
    all_goals first | exact ih _ _ _ (by omega) (by omega) (by omega) (by omega) | exact Tot.mk lA
theorem own_al4 {TP LI LR : List Int32} {ma tc LN : Int32} (lT : TP.length = 256) (hR : own_R LI) (hl : LI.length = 64) (lR : LR.length = 64) (hN : LN.toInt ≤ 64) (v1 : Int32) : ∀ (n : Nat) (LA : List Int32) (v2 v3 : Int32), 0 ≤ v3.toInt → v3.toInt ≤ 64 → 65 - v3.toInt ≤ n → LA.length = 64 → Tot (f_allocate_4 (f_allocate_27 TP LI LR ma tc LN) TP LI LR ma tc LN n LA v1 v2 v3) (fun p => p.2.length = 64) := by
  intro n
  have e0 : (0 : Int32).toInt = 0 := rfl
  induction n with
  | zero => intro LA v2 v3 h0 h1 h2; omega
  | succ n ih =>
    intro LA v2 v3 h0 h1 h2 lA
    have p := own_p1 (a := v3) (by omega)
    unfold f_allocate_4
    refine own_iL (fun c => ?_) (fun c => ?_)
    · (repeat' (first | with_reducible refine own_iL (fun _ => ?_) (fun _ => ?_) | with_reducible refine own_iE (fun _ => ?_) (fun _ => ?_) | with_reducible refine own_rdR (by assumption) (by omega) (by omega) (fun _ _ _ => ?_) | with_reducible refine Tot.rd (by omega) (by omega) (fun _ _ => ?_) | with_reducible refine own_wrR (by assumption) (by omega) (by omega) (by omega) (by omega) (fun _ _ _ => ?_) | with_reducible refine Tot.wr (by omega) (by omega) (fun _ _ _ => ?_) | with_reducible refine own_bs ?_))
      exact ih _ _ _ (by omega) (by omega) (by omega) (by omega)
    · unfold f_allocate_27 f_allocate_37
      refine Tot.bind (own_top lT hR hl lR hN _ lA) ?_
      rintro ⟨r33, s34⟩ q
      have q' : s34.length = 64 := q
      show Tot (if (0 : Int32) < _ - r33 then _ else _) _
      refine Tot.ite (fun _ => ?_) (fun _ => ?_)
      · refine Tot.bind (own_pr lR hN _ q') ?_
        rintro ⟨r35, s36⟩ q2
        have q2' : s36.length = 64 := q2
        show Tot (f_allocate_67 _ _ _ _ _ _ _ _ _ _) _
        unfold f_allocate_67 f_timeStep
        refine Tot.bind (own_ts4 lR hN 100000 s36 _ 0 (by omega) (by omega) (by omega) q2') ?_
        intro a ha
        exact Tot.mk ha
      · unfold f_allocate_67 f_timeStep
        refine Tot.bind (own_ts4 lR hN 100000 s34 _ 0 (by omega) (by omega) (by omega) q') ?_
        intro a ha
        exact Tot.mk ha
theorem own_al {TP LI LR LA : List Int32} {ma tc LN : Int32} (lT : TP.length = 256) (hR : own_R LI) (hl : LI.length = 64) (lR : LR.length = 64) (hN : LN.toInt ≤ 64) (v1 : Int32) (lA : LA.length = 64) : Tot (f_allocate TP LI LR ma tc LN LA v1) (fun p => p.2.length = 64) := by
  have e0 : (0 : Int32).toInt = 0 := rfl
  exact own_al4 lT hR hl lR hN v1 100000 LA 0 0 (by omega) (by omega) (by omega) lA
abbrev own_M (RM FL ST TP RI FI FQ FP : List Int32) (RN FN acc : Int32) : Prop := (RM.length = 256) ∧ (FL.length = 256) ∧ (ST.length = 256) ∧ (TP.length = 256) ∧ (own_W RI RN acc) ∧ (FI.length = 64) ∧ (FQ.length = 64) ∧ (FP.length = 64) ∧ (0 ≤ FN.toInt) ∧ (FN.toInt ≤ 64)
theorem own_M.lM {RM FL ST TP RI FI FQ FP : List Int32} {RN FN acc : Int32} (self : own_M RM FL ST TP RI FI FQ FP RN FN acc) : RM.length = 256 := self.1
theorem own_M.lF {RM FL ST TP RI FI FQ FP : List Int32} {RN FN acc : Int32} (self : own_M RM FL ST TP RI FI FQ FP RN FN acc) : FL.length = 256 := self.2.1
theorem own_M.lS {RM FL ST TP RI FI FQ FP : List Int32} {RN FN acc : Int32} (self : own_M RM FL ST TP RI FI FQ FP RN FN acc) : ST.length = 256 := self.2.2.1
theorem own_M.lT {RM FL ST TP RI FI FQ FP : List Int32} {RN FN acc : Int32} (self : own_M RM FL ST TP RI FI FQ FP RN FN acc) : TP.length = 256 := self.2.2.2.1
theorem own_M.w {RM FL ST TP RI FI FQ FP : List Int32} {RN FN acc : Int32} (self : own_M RM FL ST TP RI FI FQ FP RN FN acc) : own_W RI RN acc := self.2.2.2.2.1
theorem own_M.lI {RM FL ST TP RI FI FQ FP : List Int32} {RN FN acc : Int32} (self : own_M RM FL ST TP RI FI FQ FP RN FN acc) : FI.length = 64 := self.2.2.2.2.2.1
theorem own_M.lQ {RM FL ST TP RI FI FQ FP : List Int32} {RN FN acc : Int32} (self : own_M RM FL ST TP RI FI FQ FP RN FN acc) : FQ.length = 64 := self.2.2.2.2.2.2.1
theorem own_M.lP {RM FL ST TP RI FI FQ FP : List Int32} {RN FN acc : Int32} (self : own_M RM FL ST TP RI FI FQ FP RN FN acc) : FP.length = 64 := self.2.2.2.2.2.2.2.1
theorem own_M.f0 {RM FL ST TP RI FI FQ FP : List Int32} {RN FN acc : Int32} (self : own_M RM FL ST TP RI FI FQ FP RN FN acc) : 0 ≤ FN.toInt := self.2.2.2.2.2.2.2.2.1
theorem own_M.f1 {RM FL ST TP RI FI FQ FP : List Int32} {RN FN acc : Int32} (self : own_M RM FL ST TP RI FI FQ FP RN FN acc) : FN.toInt ≤ 64 := self.2.2.2.2.2.2.2.2.2
theorem own_ap2 {LI LA : List Int32} {LN acc : Int32} (hR : own_R LI) (hl : LI.length = 64) (lA : LA.length = 64) (hN : LN.toInt ≤ 64) (v1 : Int32) : ∀ (n : Nat) (RM FL ST TP RI FI FQ FP : List Int32) (RN FN v2 : Int32), 0 ≤ v2.toInt → v2.toInt ≤ 64 → 65 - v2.toInt ≤ n → own_M RM FL ST TP RI FI FQ FP RN FN acc →
    Tot (f_applyLevel_2 LI LA LN n RM FL ST TP RI FI FQ FP RN FN v1 v2) (fun p => own_M p.1 p.2.1 p.2.2.1 p.2.2.2.1 p.2.2.2.2.1 p.2.2.2.2.2.1 p.2.2.2.2.2.2.1 p.2.2.2.2.2.2.2.1 p.2.2.2.2.2.2.2.2.1 p.2.2.2.2.2.2.2.2.2 acc) := by
  intro n
  have e64 : (64 : Int32).toInt = 64 := rfl
  induction n with
  | zero => intro RM FL ST TP RI FI FQ FP RN FN v2 h0 h1 h2; omega
  | succ n ih =>
    intro RM FL ST TP RI FI FQ FP RN FN v2 h0 h1 h2 m
    obtain ⟨lM, lF, lS, lT, w, lI, lQ, lP, f0, f1⟩ := m
    have p := own_p1 (a := v2) (by omega)
    have p2 := own_p1 (a := FN) (by omega)
    unfold f_applyLevel_2 f_applyLevel_82
    (repeat' (first | with_reducible refine own_iL (fun _ => ?_) (fun _ => ?_) | with_reducible refine own_iE (fun _ => ?_) (fun _ => ?_) | with_reducible refine own_rdR (by assumption) (by omega) (by omega) (fun _ _ _ => ?_) | with_reducible refine Tot.rd (by omega) (by omega) (fun _ _ => ?_) | with_reducible refine own_wrR (by assumption) (by omega) (by omega) (by omega) (by omega) (fun _ _ _ => ?_) | with_reducible refine Tot.wr (by omega) (by omega) (fun _ _ _ => ?_) | with_reducible refine own_bs ?_))
    all_goals first
      | exact ih _ _ _ _ _ _ _ _ _ _ _ (by omega) (by omega) (by omega) ⟨by omega, by omega, by omega, by omega, w, by omega, by omega, by omega, by omega, by omega⟩
      | exact Tot.mk ⟨lM, lF, lS, lT, w, lI, lQ, lP, f0, f1⟩
      | (refine Tot.bind (own_rm w _) ?_
         rintro ⟨a, b⟩ hab
         exact ih _ _ _ _ _ _ _ _ _ _ _ (by omega) (by omega) (by omega) ⟨by omega, by omega, by omega, by omega, hab.1, by omega, by omega, by omega, by omega, by omega⟩)
theorem own_ml {SD PR : List Int32} {SP : List Int64} {ma tc : Int32} (lS : SD.length = 256) (lP : PR.length = 256) (lSP : SP.length = 256) {RM FL ST TP RI FI FQ FP LI LR LA : List Int32} {RN FN LN acc : Int32} (m : own_M RM FL ST TP RI FI FQ FP RN FN acc) (hR : own_R LI) (hl : LI.length = 64) (lR : LR.length = 64) (lA : LA.length = 64) (v1 v2 v3 : Int32) :
    Tot (f_matchLevel SD PR SP ma tc RM FL ST TP RI FI FQ FP LI LR LA RN FN LN v1 v2 v3) (fun p => own_M p.2.1 p.2.2.1 p.2.2.2.1 p.2.2.2.2.1 p.2.2.2.2.2.1 p.2.2.2.2.2.2.1 p.2.2.2.2.2.2.2.1 p.2.2.2.2.2.2.2.2.1 p.2.2.2.2.2.2.2.2.2.2.2.2.1 p.2.2.2.2.2.2.2.2.2.2.2.2.2.1 acc ∧ own_R p.2.2.2.2.2.2.2.2.2.1 ∧ p.2.2.2.2.2.2.2.2.2.1.length = 64 ∧ p.2.2.2.2.2.2.2.2.2.2.1.length = 64 ∧ p.2.2.2.2.2.2.2.2.2.2.2.1.length = 64) := by
  have e0 : (0 : Int32).toInt = 0 := rfl
  unfold f_matchLevel
  refine Tot.bind (own_gat m.w lS lP v1 v2 hR hl) ?_
  rintro ⟨s56, s57⟩ ⟨q1, q2, q3, q4⟩
  refine Tot.bind (own_srt (LI := s56) (LN := s57) lSP q4 q1 q2) ?_
  rintro s58 ⟨q5, q6⟩
  have key : ∀ (n : Nat) (LR LA : List Int32) (v4 : Int32), 0 ≤ v4.toInt → v4.toInt ≤ 64 → 65 - v4.toInt ≤ n → LR.length = 64 → LA.length = 64 →
    Tot (f_matchLevel_13 (f_matchLevel_59 SD PR SP ma tc) SD PR SP ma tc n RM FL ST TP RI FI FQ FP s58 LR LA RN FN s57 v2 v3 v4) (fun p => own_M p.2.1 p.2.2.1 p.2.2.2.1 p.2.2.2.2.1 p.2.2.2.2.2.1 p.2.2.2.2.2.2.1 p.2.2.2.2.2.2.2.1 p.2.2.2.2.2.2.2.2.1 p.2.2.2.2.2.2.2.2.2.2.2.2.1 p.2.2.2.2.2.2.2.2.2.2.2.2.2.1 acc ∧ own_R p.2.2.2.2.2.2.2.2.2.1 ∧ p.2.2.2.2.2.2.2.2.2.1.length = 64 ∧ p.2.2.2.2.2.2.2.2.2.2.1.length = 64 ∧ p.2.2.2.2.2.2.2.2.2.2.2.1.length = 64) := by
    intro n
    have lM := m.lM
    have q4' : s57.toInt ≤ 64 := q4
    induction n with
    | zero => intro LR LA v4 h0 h1 h2; omega
    | succ n ih =>
      intro LR LA v4 h0 h1 h2 lR lA
      have p := own_p1 (a := v4) (by omega)
      unfold f_matchLevel_13
      refine own_iL (fun c => ?_) (fun c => ?_)
      · (repeat' (first | with_reducible refine own_iL (fun _ => ?_) (fun _ => ?_) | with_reducible refine own_iE (fun _ => ?_) (fun _ => ?_) | with_reducible refine own_rdR (by assumption) (by omega) (by omega) (fun _ _ _ => ?_) | with_reducible refine Tot.rd (by omega) (by omega) (fun _ _ => ?_) | with_reducible refine own_wrR (by assumption) (by omega) (by omega) (by omega) (by omega) (fun _ _ _ => ?_) | with_reducible refine Tot.wr (by omega) (by omega) (fun _ _ _ => ?_) | with_reducible refine own_bs ?_))
        exact ih _ _ _ (by omega) (by omega) (by omega) (by omega) (by omega)
      · unfold f_matchLevel_59
        refine Tot.bind (own_al m.lT q5 q6 lR q4' v3 lA) ?_
        rintro ⟨r63, s64⟩ q7
        refine Tot.bind (own_ap2 (LA := s64) q5 q6 q7 q4' v2 100000 RM FL ST TP RI FI FQ FP RN FN 0 (by omega) (by omega) (by omega) m) ?_
        rintro ⟨s65, s66, s67, s68, s69, s70, s71, s72, s73, s74⟩ q8
        exact Tot.mk ⟨q8, q5, q6, lR, q7⟩
  exact key 100000 LR LA 0 (by omega) (by omega) (by omega) lR lA
abbrev own_V (LI LR LA : List Int32) : Prop := (own_R LI) ∧ (LI.length = 64) ∧ (LR.length = 64) ∧ (LA.length = 64)
theorem own_V.r {LI LR LA : List Int32} (self : own_V LI LR LA) : own_R LI := self.1
theorem own_V.lI {LI LR LA : List Int32} (self : own_V LI LR LA) : LI.length = 64 := self.2.1
theorem own_V.lR {LI LR LA : List Int32} (self : own_V LI LR LA) : LR.length = 64 := self.2.2.1
theorem own_V.lA {LI LR LA : List Int32} (self : own_V LI LR LA) : LA.length = 64 := self.2.2.2
theorem own_mi {SD PR : List Int32} {SP : List Int64} {ma tc acc : Int32} (lS : SD.length = 256) (lP : PR.length = 256) (lSP : SP.length = 256) (v1 v2 v3 v6 : Int32) (a0 : 0 ≤ v1.toInt) (a1 : v1.toInt < 256) : ∀ (n : Nat) (RM FL ST TP RI FI FQ FP LI LR LA : List Int32) (RN FN LN v5 v7 : Int32), 0 ≤ v7.toInt → v7.toInt ≤ 65 → 66 - v7.toInt ≤ n → own_M RM FL ST TP RI FI FQ FP RN FN acc → own_V LI LR LA →
    Tot (f_matchIncoming_12 SD PR SP ma tc n RM FL ST TP RI FI FQ FP LI LR LA RN FN LN v1 v2 v3 v5 v6 v7) (fun p => own_M p.2.1 p.2.2.1 p.2.2.2.1 p.2.2.2.2.1 p.2.2.2.2.2.1 p.2.2.2.2.2.2.1 p.2.2.2.2.2.2.2.1 p.2.2.2.2.2.2.2.2.1 p.2.2.2.2.2.2.2.2.2.2.2.2.1 p.2.2.2.2.2.2.2.2.2.2.2.2.2.1 acc ∧ own_V p.2.2.2.2.2.2.2.2.2.1 p.2.2.2.2.2.2.2.2.2.2.1 p.2.2.2.2.2.2.2.2.2.2.2.1) := by
  intro n
  have e64 : (64 : Int32).toInt = 64 := rfl
  induction n with
  | zero => intro RM FL ST TP RI FI FQ FP LI LR LA RN FN LN v5 v7 h0 h1 h2; omega
  | succ n ih =>
    intro RM FL ST TP RI FI FQ FP LI LR LA RN FN LN v5 v7 h0 h1 h2 m v
    have p := own_p1 (a := v7) (by omega)
    unfold f_matchIncoming_12 f_crosses
    refine own_iL (fun c => Tot.mk ⟨m, v⟩) (fun c => ?_)
    refine own_iL (fun c5 => ?_) (fun c5 => Tot.mk ⟨m, v⟩)
    refine Tot.bind (own_best m.w lS lP v6) ?_
    intro r75 _
    refine own_iE (fun _ => Tot.mk ⟨m, v⟩) (fun _ => ?_)
    refine own_bs ?_
    refine own_iE (fun _ => Tot.mk ⟨m, v⟩) (fun _ => ?_)
    refine Tot.bind (own_ml lS lP lSP m v.r v.lI v.lR v.lA v6 r75 v5) ?_
    rintro ⟨r77, s78, s79, s80, s81, s82, s83, s84, s85, s86, s87, s88, s89, s90, s91⟩ ⟨m', v'⟩
    obtain ⟨lM, lF, lSt, lT, w, lI, lQ, lFP, f0, f1⟩ := m'
    refine own_iL (fun c77 => ?_) (fun _ => Tot.mk ⟨⟨lM, lF, lSt, lT, w, lI, lQ, lFP, f0, f1⟩, v'⟩)
    have lF' : s79.length = 256 := lF
    refine Tot.rd a0 (by omega) fun x _ => ?_
    refine Tot.wr a0 (by omega) fun L' _ hl' => ?_
    exact ih _ _ _ _ _ _ _ _ _ _ _ _ _ _ _ _ (by omega) (by omega) (by omega) ⟨lM, by omega, lSt, lT, w, lI, lQ, lFP, f0, f1⟩ v'
theorem own_cf2 {SD RI : List Int32} {RN acc : Int32} (w : own_W RI RN acc) (lS : SD.length = 256) (v1 : Int32) : ∀ (n : Nat) (TP : List Int32) (v2 : Int32), 0 ≤ v2.toInt → v2.toInt ≤ 64 → 65 - v2.toInt ≤ n → TP.length = 256 → Tot (f_clearFlags_2 SD RI RN n TP v1 v2) (fun p => p.length = 256) := by
  intro n
  have l := w.l
  have n1 := w.n1
  have r := w.r
  induction n with
  | zero => intro TP v2 h0 h1 h2; omega
  | succ n ih =>
    intro TP v2 h0 h1 h2 lT
    have p := own_p1 (a := v2) (by omega)
    unfold f_clearFlags_2
    (repeat' (first | with_reducible refine own_iL (fun _ => ?_) (fun _ => ?_) | with_reducible refine own_iE (fun _ => ?_) (fun _ => ?_) | with_reducible refine own_rdR (by assumption) (by omega) (by omega) (fun _ _ _ => ?_) | with_reducible refine Tot.rd (by omega) (by omega) (fun _ _ => ?_) | with_reducible refine own_wrR (by assumption) (by omega) (by omega) (by omega) (by omega) (fun _ _ _ => ?_) | with_reducible refine Tot.wr (by omega) (by omega) (fun _ _ _ => ?_) | with_reducible refine own_bs ?_))
    all_goals first | exact Tot.mk lT | exact ih _ _ (by omega) (by omega) (by omega) (by omega)
theorem own_W.up {RI : List Int32} {RN acc acc' : Int32} (w : own_W RI RN acc) (h : acc.toInt ≤ acc'.toInt) : own_W RI RN acc' :=
  ⟨w.l, w.n0, w.n1, w.r, fun i i0 i1 => by have := w.e i i0 i1; omega, w.d⟩
theorem own_W.add {RI : List Int32} {RN acc v : Int32} (w : own_W RI RN acc) (a0 : 0 ≤ acc.toInt) (h : v.toInt = acc.toInt + 1) (hv : v.toInt ≤ 255) (c : RN.toInt < 64) : own_W (RI.set RN.toInt.toNat v) (RN + 1) v := by
  have l := w.l
  have n0 := w.n0
  have p := own_p1 (a := RN) (by omega)
  have g : ∀ j : Int32, 0 ≤ j.toInt → gI (RI.set RN.toInt.toNat v) j = if RN = j then v else gI RI j := fun j hj => gset n0 (by omega) hj
  refine ⟨by simp [l], by omega, by omega, own_Rs w.r (by omega) (by omega), ?_, ?_⟩
  · intro i i0 i1
    rw [g i i0]
    by_cases hi : RN = i
    · rw [if_pos hi]; omega
    · rw [if_neg hi]
      rw [ieq] at hi
      have := w.e i i0 (by omega)
      omega
  · intro i j i0 i1 j0 j1 hh
    rw [g i i0, g j j0] at hh
    by_cases hi : RN = i <;> by_cases hj : RN = j
    · rw [← hi, ← hj]
    · rw [if_pos hi, if_neg hj] at hh
      rw [ieq] at hj
      have := w.e j j0 (by omega)
      rw [← hh] at this
      omega
    · rw [if_neg hi, if_pos hj] at hh
      rw [ieq] at hi
      have := w.e i i0 (by omega)
      rw [hh] at this
      omega
    · rw [if_neg hi, if_neg hj] at hh
      rw [ieq] at hi hj
      exact w.d i j i0 (by omega) j0 (by omega) hh
theorem own_fi78 {SD PR RM ST TP RI : List Int32} {SP : List Int64} {acc RN : Int32} (stamp : Int64) (w : own_W RI RN acc) (lSD : SD.length = 256) (lRM : RM.length = 256) (lST : ST.length = 256) (lSP : SP.length = 256) (lTP : TP.length = 256) (v1 v2 v4 t0 : Int32) (h1 : v1.toInt = acc.toInt + 1) (a0 : 0 ≤ acc.toInt) (h2 : v1.toInt ≤ 255) (c : RN.toInt < 64) :
    Tot (f_finishIncoming_78 SD PR RM ST SP TP RI stamp RN v1 v2 v4 t0) (fun p => p.1.length = 256 ∧ p.2.1.length = 256 ∧ p.2.2.1.length = 256 ∧ p.2.2.2.1.length = 256 ∧ own_W p.2.2.2.2.1 p.2.2.2.2.2.2 v1) := by
  have l := w.l
  have n0 := w.n0
  have e0 : (0 : Int32).toInt = 0 := rfl
  have key : ∀ TP : List Int32, TP.length = 256 → Tot (f_finishIncoming_90 SD PR RM ST SP TP RI stamp RN v1 v4 t0) (fun p => p.1.length = 256 ∧ p.2.1.length = 256 ∧ p.2.2.1.length = 256 ∧ p.2.2.2.1.length = 256 ∧ own_W p.2.2.2.2.1 p.2.2.2.2.2.2 v1) := by
    intro TP lTP
    unfold f_finishIncoming_90
    refine Tot.wr (by omega) (by omega) fun A1 _ l1 => ?_
    refine Tot.wr (by omega) (by omega) fun A2 _ l2 => ?_
    refine Tot.wr (by omega) (by omega) fun A3 _ l3 => ?_
    refine Tot.wr (by omega) (by omega) fun A4 _ l4 => ?_
    refine Tot.wr (by omega) (by omega) fun A5 e5 l5 => ?_
    refine Tot.mk ⟨l2.trans lRM, l3.trans lST, l1.trans lSP, l4.trans lTP, ?_⟩
    show own_W A5 (RN + 1) v1
    rw [e5]
    exact w.add a0 h1 h2 c
  unfold f_finishIncoming_78
  refine own_iE (fun _ => key TP lTP) (fun _ => ?_)
  unfold f_clearFlags
  refine Tot.bind (own_cf2 w lSD v2 100000 TP 0 (by omega) (by omega) (by omega) lTP) ?_
  intro s hs
  exact key s hs
theorem own_fi {SD PR RM ST TP RI : List Int32} {SP : List Int64} {acc RN : Int32} (stamp : Int64) (w : own_W RI RN acc) (lSD : SD.length = 256) (lPR : PR.length = 256) (lRM : RM.length = 256) (lST : ST.length = 256) (lSP : SP.length = 256) (lTP : TP.length = 256) (v1 v2 v3 v4 v5 : Int32) (h1 : v1.toInt = acc.toInt + 1) (a0 : 0 ≤ acc.toInt) (h2 : v1.toInt ≤ 255) :
    Tot (f_finishIncoming SD PR RM ST SP TP RI stamp RN v1 v2 v3 v4 v5) (fun p => p.1.length = 256 ∧ p.2.1.length = 256 ∧ p.2.2.1.length = 256 ∧ p.2.2.2.1.length = 256 ∧ own_W p.2.2.2.2.1 p.2.2.2.2.2.2 v1) := by
  have e64 : (64 : Int32).toInt = 64 := rfl
  have key : Tot (f_finishIncoming_35 SD PR RM ST SP TP RI stamp RN v1) (fun p => p.1.length = 256 ∧ p.2.1.length = 256 ∧ p.2.2.1.length = 256 ∧ p.2.2.2.1.length = 256 ∧ own_W p.2.2.2.2.1 p.2.2.2.2.2.2 v1) := by
    unfold f_finishIncoming_35
    refine Tot.wr (by omega) (by omega) fun A1 _ l1 => ?_
    refine Tot.wr (by omega) (by omega) fun A2 _ l2 => ?_
    exact Tot.mk ⟨l2.trans lRM, l1.trans lST, lSP, lTP, w.up (by omega)⟩
  unfold f_finishIncoming f_better
  refine own_iE (fun _ => ?_) (fun _ => ?_)
  · refine Tot.wr (by omega) (by omega) fun A1 _ l1 => ?_
    refine Tot.wr (by omega) (by omega) fun A2 _ l2 => ?_
    exact Tot.mk ⟨l2.trans lRM, l1.trans lST, lSP, lTP, w.up (by omega)⟩
  · refine own_iE (fun _ => key) (fun _ => ?_)
    refine own_iL (fun c => ?_) (fun _ => key)
    refine Tot.bind (own_best w lSD lPR v2) ?_
    intro r _
    refine own_iE (fun _ => own_fi78 stamp w lSD lRM lST lSP lTP v1 v2 v4 1 h1 a0 h2 (by omega)) (fun _ => ?_)
    refine own_bs ?_
    exact own_fi78 stamp w lSD lRM lST lSP lTP v1 v2 v4 _ h1 a0 h2 (by omega)
abbrev own_B (SD PR RM FL ST : List Int32) (SP : List Int64) (TP RI FI FQ FP LI LR LA : List Int32) (acc RN FN : Int32) : Prop := (SD.length = 256) ∧ (PR.length = 256) ∧ (SP.length = 256) ∧ (0 ≤ acc.toInt) ∧ (acc.toInt ≤ 255) ∧ (own_M RM FL ST TP RI FI FQ FP RN FN acc) ∧ (own_V LI LR LA)
theorem own_B.sd {SD PR RM FL ST : List Int32} {SP : List Int64} {TP RI FI FQ FP LI LR LA : List Int32} {acc RN FN : Int32} (self : own_B SD PR RM FL ST SP TP RI FI FQ FP LI LR LA acc RN FN) : SD.length = 256 := self.1
theorem own_B.pr {SD PR RM FL ST : List Int32} {SP : List Int64} {TP RI FI FQ FP LI LR LA : List Int32} {acc RN FN : Int32} (self : own_B SD PR RM FL ST SP TP RI FI FQ FP LI LR LA acc RN FN) : PR.length = 256 := self.2.1
theorem own_B.sp {SD PR RM FL ST : List Int32} {SP : List Int64} {TP RI FI FQ FP LI LR LA : List Int32} {acc RN FN : Int32} (self : own_B SD PR RM FL ST SP TP RI FI FQ FP LI LR LA acc RN FN) : SP.length = 256 := self.2.2.1
theorem own_B.a0 {SD PR RM FL ST : List Int32} {SP : List Int64} {TP RI FI FQ FP LI LR LA : List Int32} {acc RN FN : Int32} (self : own_B SD PR RM FL ST SP TP RI FI FQ FP LI LR LA acc RN FN) : 0 ≤ acc.toInt := self.2.2.2.1
theorem own_B.a1 {SD PR RM FL ST : List Int32} {SP : List Int64} {TP RI FI FQ FP LI LR LA : List Int32} {acc RN FN : Int32} (self : own_B SD PR RM FL ST SP TP RI FI FQ FP LI LR LA acc RN FN) : acc.toInt ≤ 255 := self.2.2.2.2.1
theorem own_B.m {SD PR RM FL ST : List Int32} {SP : List Int64} {TP RI FI FQ FP LI LR LA : List Int32} {acc RN FN : Int32} (self : own_B SD PR RM FL ST SP TP RI FI FQ FP LI LR LA acc RN FN) : own_M RM FL ST TP RI FI FQ FP RN FN acc := self.2.2.2.2.2.1
theorem own_B.v {SD PR RM FL ST : List Int32} {SP : List Int64} {TP RI FI FQ FP LI LR LA : List Int32} {acc RN FN : Int32} (self : own_B SD PR RM FL ST SP TP RI FI FQ FP LI LR LA acc RN FN) : own_V LI LR LA := self.2.2.2.2.2.2
theorem own_sub {SD PR RM FL ST : List Int32} {SP : List Int64} {TP RI FI FQ FP LI LR LA : List Int32} {acc RN FN : Int32} (b : own_B SD PR RM FL ST SP TP RI FI FQ FP LI LR LA acc RN FN) (ma tc LN : Int32) (stamp : Int64) (v1 v2 v3 v4 : Int32) (h1 : v1 = 0 ∨ v1 = 1) (h2 : 1 ≤ v2.toInt) (h2' : v2.toInt ≤ 1000) (h3 : 1 ≤ v3.toInt) (h3' : v3.toInt ≤ 10000) (h4 : v4 = 0 ∨ v4 = 1) (ha : acc.toInt < 255) :
    Tot (f_submit ma tc SD PR RM FL ST SP TP RI FI FQ FP LI LR LA acc stamp RN FN LN v1 v2 v3 v4) (fun (r, SD, PR, RM, FL, ST, SP, TP, RI, FI, FQ, FP, LI, LR, LA, acc', stamp, RN, FN, LN) => r = acc + 1 ∧ acc' = acc + 1 ∧ own_B SD PR RM FL ST SP TP RI FI FQ FP LI LR LA acc' RN FN) := by
  obtain ⟨sd, pr, sp, a0, a1, m, v⟩ := b
  have p := own_p1 (a := acc) (by omega)
  have e0 : (0 : Int32).toInt = 0 := rfl
  have e1 : (1 : Int32).toInt = 1 := rfl
  have e255 : (255 : Int32).toInt = 255 := rfl
  have e1000 : (1000 : Int32).toInt = 1000 := rfl
  have e10000 : (10000 : Int32).toInt = 10000 := rfl
  have key : Tot (f_submit_55 ma tc SD PR RM FL ST SP TP RI FI FQ FP LI LR LA acc stamp RN FN LN v1 v2 v3 v4) (fun (r, SD, PR, RM, FL, ST, SP, TP, RI, FI, FQ, FP, LI, LR, LA, acc', stamp, RN, FN, LN) => r = acc + 1 ∧ acc' = acc + 1 ∧ own_B SD PR RM FL ST SP TP RI FI FQ FP LI LR LA acc' RN FN) := by
    obtain ⟨lM, lF, lS, lT, w, lI, lQ, lP, f0, f1⟩ := m
    unfold f_submit_55
    refine own_iL (fun c => ?_) (fun c => absurd c (by omega))
    refine Tot.wr (by omega) (by omega) fun A1 _ l1 => ?_
    refine Tot.wr (by omega) (by omega) fun A2 _ l2 => ?_
    refine Tot.wr (by omega) (by omega) fun A3 _ l3 => ?_
    refine Tot.wr (by omega) (by omega) fun A4 _ l4 => ?_
    refine Tot.wr (by omega) (by omega) fun A5 _ l5 => ?_
    refine Tot.wr (by omega) (by omega) fun A6 _ l6 => ?_
    unfold f_matchIncoming
    refine Tot.bind (own_mi (acc := acc) (l1.trans sd) (l2.trans pr) (l6.trans sp) (acc + 1) v1 v2 (1 - v1) (by omega) (by omega) 100000 A3 A4 ST A5 RI FI FQ FP LI LR LA RN 0 LN v3 0 (by omega) (by omega) (by omega) ⟨l3.trans lM, l4.trans lF, lS, l5.trans lT, w, lI, lQ, lP, by omega, by omega⟩ v) ?_
    rintro ⟨r115, s116, s117, s118, s119, s120, s121, s122, s123, s124, s125, s126, s127, s128, s129⟩ ⟨m', v'⟩
    obtain ⟨lM', lF', lS', lT', w', lI', lQ', lP', f0', f1'⟩ := m'
    refine Tot.bind (own_fi stamp w' (l1.trans sd) (l2.trans pr) lM' lS' (l6.trans sp) lT' (acc + 1) v1 v2 r115 v4 p a0 (by omega)) ?_
    rintro ⟨s130, s131, s132, s133, s134, s135, s136⟩ ⟨q1, q2, q3, q4, q5⟩
    exact Tot.mk ⟨rfl, rfl, l1.trans sd, l2.trans pr, q3, by omega, by omega, ⟨q1, lF', q2, q4, q5, lI', lQ', lP', f0', f1'⟩, v'⟩
  have key2 : Tot (f_submit_11 ma tc SD PR RM FL ST SP TP RI FI FQ FP LI LR LA acc stamp RN FN LN v1 v2 v3 v4) (fun (r, SD, PR, RM, FL, ST, SP, TP, RI, FI, FQ, FP, LI, LR, LA, acc', stamp, RN, FN, LN) => r = acc + 1 ∧ acc' = acc + 1 ∧ own_B SD PR RM FL ST SP TP RI FI FQ FP LI LR LA acc' RN FN) := by
    unfold f_submit_11
    refine own_iL (fun c => absurd c (by omega)) (fun _ => ?_)
    refine own_iL (fun c => absurd c (by omega)) (fun _ => ?_)
    refine own_iL (fun c => absurd c (by omega)) (fun _ => ?_)
    refine own_iL (fun c => absurd c (by omega)) (fun _ => ?_)
    refine own_iE (fun _ => key) (fun c => ?_)
    exact own_iE (fun _ => key) (fun c' => absurd h4 (by rintro (h | h) <;> contradiction))
  unfold f_submit
  refine own_iE (fun _ => key2) (fun c => ?_)
  exact own_iE (fun _ => key2) (fun c' => absurd h1 (by rintro (h | h) <;> contradiction))
theorem own_sub_full {SD PR RM FL ST : List Int32} {SP : List Int64} {TP RI FI FQ FP LI LR LA : List Int32} {acc RN FN : Int32} (ma tc LN : Int32) (stamp : Int64) (v1 v2 v3 v4 : Int32) (h1 : v1 = 0 ∨ v1 = 1) (h2 : 1 ≤ v2.toInt) (h2' : v2.toInt ≤ 1000) (h3 : 1 ≤ v3.toInt) (h3' : v3.toInt ≤ 10000) (h4 : v4 = 0 ∨ v4 = 1) (ha : 255 ≤ acc.toInt) :
    f_submit ma tc SD PR RM FL ST SP TP RI FI FQ FP LI LR LA acc stamp RN FN LN v1 v2 v3 v4 = some (-5, SD, PR, RM, FL, ST, SP, TP, RI, FI, FQ, FP, LI, LR, LA, acc, stamp, RN, FN, LN) := by
  have n1 : ¬ v2 < 1 := by rw [ilt]; exact Int.not_lt.mpr h2
  have n2 : ¬ (1000 : Int32) < v2 := by rw [ilt]; exact Int.not_lt.mpr h2'
  have n3 : ¬ v3 < 1 := by rw [ilt]; exact Int.not_lt.mpr h3
  have n4 : ¬ (10000 : Int32) < v3 := by rw [ilt]; exact Int.not_lt.mpr h3'
  have n5 : ¬ acc < 255 := by rw [ilt]; exact Int.not_lt.mpr ha
  unfold f_submit f_submit_11 f_submit_55
  rw [if_neg n1, if_neg n2, if_neg n3, if_neg n4, if_neg n5]
  rcases h1 with h | h <;> rcases h4 with h' | h' <;> subst h <;> subst h' <;> rfl
theorem own_can {RM FL ST TP RI FI FQ FP : List Int32} {acc RN FN : Int32} (m : own_M RM FL ST TP RI FI FQ FP RN FN acc) (a1 : acc.toInt ≤ 255) (v1 : Int32) :
    Tot (f_cancel acc RM ST TP RI RN v1) (fun (r, RM, ST, TP, RI, RN) => own_M RM FL ST TP RI FI FQ FP RN FN acc) := by
  obtain ⟨lM, lF, lS, lT, w, lI, lQ, lP, f0, f1⟩ := m
  have e1 : (1 : Int32).toInt = 1 := rfl
  have key : 1 ≤ v1.toInt → v1.toInt ≤ acc.toInt → Tot ((wrA ST v1 (3 : Int32)).bind fun A139 => (wrA RM v1 (0 : Int32)).bind fun A140 => (wrA TP v1 (0 : Int32)).bind fun A141 => (f_removeResting RI RN v1).bind fun (s142, s143) => some ((0 : Int32), A140, A139, A141, s142, s143)) (fun (r, RM, ST, TP, RI, RN) => own_M RM FL ST TP RI FI FQ FP RN FN acc) := by
    intro b0 b1
    refine Tot.wr (by omega) (by omega) fun A1 _ l1 => ?_
    refine Tot.wr (by omega) (by omega) fun A2 _ l2 => ?_
    refine Tot.wr (by omega) (by omega) fun A3 _ l3 => ?_
    refine Tot.bind (own_rm w v1) ?_
    rintro ⟨a, b⟩ hab
    exact Tot.mk ⟨l2.trans lM, lF, l1.trans lS, l3.trans lT, hab.1, lI, lQ, lP, f0, f1⟩
  unfold f_cancel f_isResting
  by_cases c1 : v1 < 1
  · rw [if_pos c1]; exact Tot.mk ⟨lM, lF, lS, lT, w, lI, lQ, lP, f0, f1⟩
  by_cases c2 : acc < v1
  · rw [if_neg c1, if_pos c2]; exact Tot.mk ⟨lM, lF, lS, lT, w, lI, lQ, lP, f0, f1⟩
  rw [if_neg c1, if_neg c2]
  rw [ilt] at c1 c2
  rw [rdg (by omega) (by omega), Option.bind_some, Option.bind_some]
  refine own_iE (fun _ => ?_) (fun _ => ?_)
  · exact Tot.mk ⟨lM, lF, lS, lT, w, lI, lQ, lP, f0, f1⟩
  · exact key (by omega) (by omega)
theorem own_ame {RM FL ST TP RI FI FQ FP : List Int32} {SP : List Int64} {acc RN FN : Int32} (m : own_M RM FL ST TP RI FI FQ FP RN FN acc) (lSP : SP.length = 256) (a1 : acc.toInt ≤ 255) (stamp : Int64) (v1 v2 : Int32) :
    Tot (f_amend ST acc RM SP TP stamp v1 v2) (fun (r, RM, SP, TP, stamp) => SP.length = 256 ∧ own_M RM FL ST TP RI FI FQ FP RN FN acc) := by
  obtain ⟨lM, lF, lS, lT, w, lI, lQ, lP, f0, f1⟩ := m
  have e1 : (1 : Int32).toInt = 1 := rfl
  unfold f_amend f_isResting
  by_cases c1 : v1 < 1
  · rw [if_pos c1]; exact Tot.mk ⟨lSP, lM, lF, lS, lT, w, lI, lQ, lP, f0, f1⟩
  by_cases c2 : acc < v1
  · rw [if_neg c1, if_pos c2]; exact Tot.mk ⟨lSP, lM, lF, lS, lT, w, lI, lQ, lP, f0, f1⟩
  rw [if_neg c1, if_neg c2]
  rw [ilt] at c1 c2
  rw [rdg (by omega) (by omega), Option.bind_some, Option.bind_some]
  (repeat' (first | with_reducible refine own_iL (fun _ => ?_) (fun _ => ?_) | with_reducible refine own_iE (fun _ => ?_) (fun _ => ?_) | with_reducible refine own_rdR (by assumption) (by omega) (by omega) (fun _ _ _ => ?_) | with_reducible refine Tot.rd (by omega) (by omega) (fun _ _ => ?_) | with_reducible refine own_wrR (by assumption) (by omega) (by omega) (by omega) (by omega) (fun _ _ _ => ?_) | with_reducible refine Tot.wr (by omega) (by omega) (fun _ _ _ => ?_) | with_reducible refine own_bs ?_))
  all_goals exact Tot.mk ⟨by omega, by omega, by omega, by omega, by omega, w, by omega, by omega, by omega, f0, f1⟩
theorem own_Rrep (n : Nat) : own_R (List.replicate n 0) := by
  intro x hx
  rw [List.eq_of_mem_replicate hx]
  decide
theorem own_new (mi ti : Int32) : Tot (f_init mi ti) (fun (SD, PR, RM, FL, ST, SP, TP, RI, FI, FQ, FP, LI, LR, LA, ma, tc, acc, stamp, RN, FN, LN) => acc = 0 ∧ own_B SD PR RM FL ST SP TP RI FI FQ FP LI LR LA acc RN FN) := by
  unfold f_init f_init_132 f_init_141 f_init_152 f_init_165
  have l1 : (List.replicate 256 (0 : Int32)).length = 256 := List.length_replicate
  have l2 : (List.replicate 256 (0 : Int64)).length = 256 := List.length_replicate
  have l3 : (List.replicate 64 (0 : Int32)).length = 64 := List.length_replicate
  have w : own_W (List.replicate 64 0) 0 0 := ⟨l3, by decide, by decide, own_Rrep 64, fun i i0 i1 => by have : (0 : Int32).toInt = 0 := rfl; omega, fun i j i0 i1 => by have : (0 : Int32).toInt = 0 := rfl; omega⟩
  exact Tot.mk ⟨rfl, l1, l1, l2, by decide, by decide, ⟨l1, l1, l1, l1, w, l3, l3, l3, by decide, by decide⟩, own_Rrep 64, l3, l3, l3⟩
theorem own_subA {SD PR RM FL ST : List Int32} {SP : List Int64} {TP RI FI FQ FP LI LR LA : List Int32} {acc RN FN : Int32} (b : own_B SD PR RM FL ST SP TP RI FI FQ FP LI LR LA acc RN FN) (ma tc LN : Int32) (stamp : Int64) (v1 v2 v3 v4 : Int32) :
    Tot (f_submit ma tc SD PR RM FL ST SP TP RI FI FQ FP LI LR LA acc stamp RN FN LN v1 v2 v3 v4) (fun (r, SD, PR, RM, FL, ST, SP, TP, RI, FI, FQ, FP, LI, LR, LA, acc', stamp, RN, FN, LN) => own_B SD PR RM FL ST SP TP RI FI FQ FP LI LR LA acc' RN FN) := by
  by_cases h1 : v1 = 0 ∨ v1 = 1
  · by_cases h2 : 1 ≤ v2.toInt
    · by_cases h2' : v2.toInt ≤ 1000
      · by_cases h3 : 1 ≤ v3.toInt
        · by_cases h3' : v3.toInt ≤ 10000
          · by_cases h4 : v4 = 0 ∨ v4 = 1
            · by_cases ha : acc.toInt < 255
              · refine Tot.mono (own_sub b ma tc LN stamp v1 v2 v3 v4 h1 h2 h2' h3 h3' h4 ha) ?_
                rintro ⟨r, SD, PR, RM, FL, ST, SP, TP, RI, FI, FQ, FP, LI, LR, LA, acc', stamp, RN, FN, LN⟩ ⟨_, _, b'⟩
                exact b'
              · exact Tot.of (own_sub_full ma tc LN stamp v1 v2 v3 v4 h1 h2 h2' h3 h3' h4 (by omega)) b
            · unfold f_submit f_submit_11
              have n1 : ¬ v2 < 1 := by rw [ilt]; exact Int.not_lt.mpr h2
              have n2 : ¬ (1000 : Int32) < v2 := by rw [ilt]; exact Int.not_lt.mpr h2'
              have n3 : ¬ v3 < 1 := by rw [ilt]; exact Int.not_lt.mpr h3
              have n4 : ¬ (10000 : Int32) < v3 := by rw [ilt]; exact Int.not_lt.mpr h3'
              rw [if_neg n1, if_neg n2, if_neg n3, if_neg n4, if_neg (fun h => h4 (Or.inl h)), if_neg (fun h => h4 (Or.inr h))]
              rcases h1 with h | h <;> subst h <;> exact Tot.mk b
          · unfold f_submit f_submit_11
            have n1 : ¬ v2 < 1 := by rw [ilt]; exact Int.not_lt.mpr h2
            have n2 : ¬ (1000 : Int32) < v2 := by rw [ilt]; exact Int.not_lt.mpr h2'
            have n3 : ¬ v3 < 1 := by rw [ilt]; exact Int.not_lt.mpr h3
            have n4 : (10000 : Int32) < v3 := by rw [ilt]; exact Int.not_le.mp h3'
            rw [if_neg n1, if_neg n2, if_neg n3, if_pos n4]
            rcases h1 with h | h <;> subst h <;> exact Tot.mk b
        · unfold f_submit f_submit_11
          have n1 : ¬ v2 < 1 := by rw [ilt]; exact Int.not_lt.mpr h2
          have n2 : ¬ (1000 : Int32) < v2 := by rw [ilt]; exact Int.not_lt.mpr h2'
          have n3 : v3 < 1 := by rw [ilt]; exact Int.not_le.mp h3
          rw [if_neg n1, if_neg n2, if_pos n3]
          rcases h1 with h | h <;> subst h <;> exact Tot.mk b
      · unfold f_submit f_submit_11
        have n1 : ¬ v2 < 1 := by rw [ilt]; exact Int.not_lt.mpr h2
        have n2 : (1000 : Int32) < v2 := by rw [ilt]; exact Int.not_le.mp h2'
        rw [if_neg n1, if_pos n2]
        rcases h1 with h | h <;> subst h <;> exact Tot.mk b
    · unfold f_submit f_submit_11
      have n1 : v2 < 1 := by rw [ilt]; exact Int.not_le.mp h2
      rw [if_pos n1]
      rcases h1 with h | h <;> subst h <;> exact Tot.mk b
  · unfold f_submit
    rw [if_neg (fun h => h1 (Or.inl h)), if_neg (fun h => h1 (Or.inr h))]
    exact Tot.mk b
theorem own_q_res {ST : List Int32} {acc : Int32} (lS : ST.length = 256) (a1 : acc.toInt ≤ 255) (v : Int32) : Tot (f_isResting ST acc v) (fun r => (r = 0 ∨ r = 1) ∧ (¬ r = 0 → 1 ≤ v.toInt ∧ v.toInt ≤ acc.toInt)) := by
  have e1 : (1 : Int32).toInt = 1 := rfl
  unfold f_isResting
  (repeat' (first | with_reducible refine own_iL (fun _ => ?_) (fun _ => ?_) | with_reducible refine own_iE (fun _ => ?_) (fun _ => ?_) | with_reducible refine own_rdR (by assumption) (by omega) (by omega) (fun _ _ _ => ?_) | with_reducible refine Tot.rd (by omega) (by omega) (fun _ _ => ?_) | with_reducible refine own_wrR (by assumption) (by omega) (by omega) (by omega) (by omega) (fun _ _ _ => ?_) | with_reducible refine Tot.wr (by omega) (by omega) (fun _ _ _ => ?_) | with_reducible refine own_bs ?_))
  · exact Tot.mk ⟨Or.inl rfl, fun h => absurd rfl h⟩
  · exact Tot.mk ⟨Or.inl rfl, fun h => absurd rfl h⟩
  · refine Tot.mk ⟨?_, fun _ => ⟨by omega, by omega⟩⟩
    split
    · exact Or.inr rfl
    · exact Or.inl rfl
theorem own_q_sta {ST : List Int32} {acc : Int32} (lS : ST.length = 256) (a1 : acc.toInt ≤ 255) (v : Int32) : Tot (f_status ST acc v) (fun _ => True) := by
  have e1 : (1 : Int32).toInt = 1 := rfl
  unfold f_status
  (repeat' (first | with_reducible refine own_iL (fun _ => ?_) (fun _ => ?_) | with_reducible refine own_iE (fun _ => ?_) (fun _ => ?_) | with_reducible refine own_rdR (by assumption) (by omega) (by omega) (fun _ _ _ => ?_) | with_reducible refine Tot.rd (by omega) (by omega) (fun _ _ => ?_) | with_reducible refine own_wrR (by assumption) (by omega) (by omega) (by omega) (by omega) (fun _ _ _ => ?_) | with_reducible refine Tot.wr (by omega) (by omega) (fun _ _ _ => ?_) | with_reducible refine own_bs ?_))
  all_goals exact Tot.mk trivial
theorem own_q_fil {FL : List Int32} {acc : Int32} (lS : FL.length = 256) (a1 : acc.toInt ≤ 255) (v : Int32) : Tot (f_filled FL acc v) (fun _ => True) := by
  have e1 : (1 : Int32).toInt = 1 := rfl
  unfold f_filled
  (repeat' (first | with_reducible refine own_iL (fun _ => ?_) (fun _ => ?_) | with_reducible refine own_iE (fun _ => ?_) (fun _ => ?_) | with_reducible refine own_rdR (by assumption) (by omega) (by omega) (fun _ _ _ => ?_) | with_reducible refine Tot.rd (by omega) (by omega) (fun _ _ => ?_) | with_reducible refine own_wrR (by assumption) (by omega) (by omega) (by omega) (by omega) (fun _ _ _ => ?_) | with_reducible refine Tot.wr (by omega) (by omega) (fun _ _ _ => ?_) | with_reducible refine own_bs ?_))
  all_goals exact Tot.mk trivial
theorem own_q_rem {RM ST : List Int32} {acc : Int32} (lM : RM.length = 256) (lS : ST.length = 256) (a1 : acc.toInt ≤ 255) (v : Int32) : Tot (f_remaining RM ST acc v) (fun _ => True) := by
  unfold f_remaining
  refine Tot.bind (own_q_res lS a1 v) fun r hr => ?_
  refine own_iE (fun _ => Tot.mk trivial) (fun c => ?_)
  have := hr.2 c
  (repeat' (first | with_reducible refine own_iL (fun _ => ?_) (fun _ => ?_) | with_reducible refine own_iE (fun _ => ?_) (fun _ => ?_) | with_reducible refine own_rdR (by assumption) (by omega) (by omega) (fun _ _ _ => ?_) | with_reducible refine Tot.rd (by omega) (by omega) (fun _ _ => ?_) | with_reducible refine own_wrR (by assumption) (by omega) (by omega) (by omega) (by omega) (fun _ _ _ => ?_) | with_reducible refine Tot.wr (by omega) (by omega) (fun _ _ _ => ?_) | with_reducible refine own_bs ?_))
  exact Tot.mk trivial
theorem own_q_top {ST TP : List Int32} {acc : Int32} (lM : TP.length = 256) (lS : ST.length = 256) (a1 : acc.toInt ≤ 255) (v : Int32) : Tot (f_isTop ST TP acc v) (fun _ => True) := by
  unfold f_isTop
  refine Tot.bind (own_q_res lS a1 v) fun r hr => ?_
  refine own_iE (fun _ => Tot.mk trivial) (fun c => ?_)
  have := hr.2 c
  (repeat' (first | with_reducible refine own_iL (fun _ => ?_) (fun _ => ?_) | with_reducible refine own_iE (fun _ => ?_) (fun _ => ?_) | with_reducible refine own_rdR (by assumption) (by omega) (by omega) (fun _ _ _ => ?_) | with_reducible refine Tot.rd (by omega) (by omega) (fun _ _ => ?_) | with_reducible refine own_wrR (by assumption) (by omega) (by omega) (by omega) (by omega) (fun _ _ _ => ?_) | with_reducible refine Tot.wr (by omega) (by omega) (fun _ _ _ => ?_) | with_reducible refine own_bs ?_))
  exact Tot.mk trivial
theorem own_q_rnk {SD PR ST RI : List Int32} {SP : List Int64} {acc RN : Int32} (w : own_W RI RN acc) (lD : SD.length = 256) (lP : PR.length = 256) (lS : ST.length = 256) (lSP : SP.length = 256) (a1 : acc.toInt ≤ 255) (v : Int32) : Tot (f_priorityRank SD PR ST SP RI acc RN v) (fun _ => True) := by
  have e0 : (0 : Int32).toInt = 0 := rfl
  have l := w.l
  have n0 := w.n0
  have n1 := w.n1
  have r := w.r
  unfold f_priorityRank
  refine Tot.bind (own_q_res lS a1 v) fun r hr => ?_
  refine own_iE (fun _ => Tot.mk trivial) (fun c => ?_)
  have hv := hr.2 c
  have key : ∀ (n : Nat) (v2 v3 : Int32), 0 ≤ v3.toInt → v3.toInt ≤ RN.toInt → RN.toInt - v3.toInt < n → Tot (f_priorityRank_14 SD PR ST SP RI acc RN n v v2 v3) (fun _ => True) := by
    intro n
    induction n with
    | zero => intro v2 v3 h0 h1 h2; omega
    | succ n ih =>
      intro v2 v3 h0 h1 h2
      have p := own_p1 (a := v3) (by omega)
      unfold f_priorityRank_14
      (repeat' (first | with_reducible refine own_iL (fun _ => ?_) (fun _ => ?_) | with_reducible refine own_iE (fun _ => ?_) (fun _ => ?_) | with_reducible refine own_rdR (by assumption) (by omega) (by omega) (fun _ _ _ => ?_) | with_reducible refine Tot.rd (by omega) (by omega) (fun _ _ => ?_) | with_reducible refine own_wrR (by assumption) (by omega) (by omega) (by omega) (by omega) (fun _ _ _ => ?_) | with_reducible refine Tot.wr (by omega) (by omega) (fun _ _ _ => ?_) | with_reducible refine own_bs ?_))
      all_goals first | exact Tot.mk trivial | exact ih _ _ (by omega) (by omega) (by omega)
  exact key 100000 0 0 (by omega) (by omega) (by omega)
theorem own_q_bp {SD PR RI : List Int32} {RN acc : Int32} (w : own_W RI RN acc) (lS : SD.length = 256) (lP : PR.length = 256) (v : Int32) : Tot (f_bestPrice SD PR RI RN v) (fun _ => True) := by
  unfold f_bestPrice f_bestPrice_11
  refine own_iE (fun _ => ?_) (fun _ => own_iE (fun _ => ?_) (fun _ => Tot.mk trivial))
  · exact Tot.bind (own_best w lS lP v) fun _ _ => Tot.mk trivial
  · exact Tot.bind (own_best w lS lP v) fun _ _ => Tot.mk trivial
theorem own_q_fid {FI : List Int32} {FN : Int32} (lS : FI.length = 64) (a1 : FN.toInt ≤ 64) (v : Int32) : Tot (f_fillId FI FN v) (fun _ => True) := by
  have e0 : (0 : Int32).toInt = 0 := rfl
  unfold f_fillId
  (repeat' (first | with_reducible refine own_iL (fun _ => ?_) (fun _ => ?_) | with_reducible refine own_iE (fun _ => ?_) (fun _ => ?_) | with_reducible refine own_rdR (by assumption) (by omega) (by omega) (fun _ _ _ => ?_) | with_reducible refine Tot.rd (by omega) (by omega) (fun _ _ => ?_) | with_reducible refine own_wrR (by assumption) (by omega) (by omega) (by omega) (by omega) (fun _ _ _ => ?_) | with_reducible refine Tot.wr (by omega) (by omega) (fun _ _ _ => ?_) | with_reducible refine own_bs ?_))
  all_goals exact Tot.mk trivial
theorem own_q_fqt {FI : List Int32} {FN : Int32} (lS : FI.length = 64) (a1 : FN.toInt ≤ 64) (v : Int32) : Tot (f_fillQty FI FN v) (fun _ => True) := by
  have e0 : (0 : Int32).toInt = 0 := rfl
  unfold f_fillQty
  (repeat' (first | with_reducible refine own_iL (fun _ => ?_) (fun _ => ?_) | with_reducible refine own_iE (fun _ => ?_) (fun _ => ?_) | with_reducible refine own_rdR (by assumption) (by omega) (by omega) (fun _ _ _ => ?_) | with_reducible refine Tot.rd (by omega) (by omega) (fun _ _ => ?_) | with_reducible refine own_wrR (by assumption) (by omega) (by omega) (by omega) (by omega) (fun _ _ _ => ?_) | with_reducible refine Tot.wr (by omega) (by omega) (fun _ _ _ => ?_) | with_reducible refine own_bs ?_))
  all_goals exact Tot.mk trivial
theorem own_q_fpr {FI : List Int32} {FN : Int32} (lS : FI.length = 64) (a1 : FN.toInt ≤ 64) (v : Int32) : Tot (f_fillPrice FI FN v) (fun _ => True) := by
  have e0 : (0 : Int32).toInt = 0 := rfl
  unfold f_fillPrice
  (repeat' (first | with_reducible refine own_iL (fun _ => ?_) (fun _ => ?_) | with_reducible refine own_iE (fun _ => ?_) (fun _ => ?_) | with_reducible refine own_rdR (by assumption) (by omega) (by omega) (fun _ _ _ => ?_) | with_reducible refine Tot.rd (by omega) (by omega) (fun _ _ => ?_) | with_reducible refine own_wrR (by assumption) (by omega) (by omega) (by omega) (by omega) (fun _ _ _ => ?_) | with_reducible refine Tot.wr (by omega) (by omega) (fun _ _ _ => ?_) | with_reducible refine own_bs ?_))
  all_goals exact Tot.mk trivial
theorem own_q_dep {SD PR RM RI : List Int32} {RN acc : Int32} (w : own_W RI RN acc) (lS : SD.length = 256) (lP : PR.length = 256) (lM : RM.length = 256) (v1 v2 : Int32) : Tot (f_depthAt SD PR RM RI RN v1 v2) (fun _ => True) := by
  have e0 : (0 : Int32).toInt = 0 := rfl
  have l := w.l
  have n0 := w.n0
  have n1 := w.n1
  have r := w.r
  have key : ∀ (n : Nat) (v3 v4 : Int32), 0 ≤ v4.toInt → v4.toInt ≤ RN.toInt → RN.toInt - v4.toInt < n → Tot (f_depthAt_30 SD PR RM RI RN n v1 v2 v3 v4) (fun _ => True) := by
    intro n
    induction n with
    | zero => intro v3 v4 h0 h1 h2; omega
    | succ n ih =>
      intro v3 v4 h0 h1 h2
      have p := own_p1 (a := v4) (by omega)
      unfold f_depthAt_30
      (repeat' (first | with_reducible refine own_iL (fun _ => ?_) (fun _ => ?_) | with_reducible refine own_iE (fun _ => ?_) (fun _ => ?_) | with_reducible refine own_rdR (by assumption) (by omega) (by omega) (fun _ _ _ => ?_) | with_reducible refine Tot.rd (by omega) (by omega) (fun _ _ => ?_) | with_reducible refine own_wrR (by assumption) (by omega) (by omega) (by omega) (by omega) (fun _ _ _ => ?_) | with_reducible refine Tot.wr (by omega) (by omega) (fun _ _ _ => ?_) | with_reducible refine own_bs ?_))
      all_goals first | exact Tot.mk trivial | exact ih _ _ (by omega) (by omega) (by omega)
  have k := key 100000 0 0 (by omega) (by omega) (by omega)
  unfold f_depthAt f_depthAt_11
  (repeat' (first | with_reducible refine own_iL (fun _ => ?_) (fun _ => ?_) | with_reducible refine own_iE (fun _ => ?_) (fun _ => ?_) | with_reducible refine own_rdR (by assumption) (by omega) (by omega) (fun _ _ _ => ?_) | with_reducible refine Tot.rd (by omega) (by omega) (fun _ _ => ?_) | with_reducible refine own_wrR (by assumption) (by omega) (by omega) (by omega) (by omega) (fun _ _ _ => ?_) | with_reducible refine Tot.wr (by omega) (by omega) (fun _ _ _ => ?_) | with_reducible refine own_bs ?_))
  all_goals first | exact k | exact Tot.mk trivial
theorem own_q_ord {SD PR RI : List Int32} {RN acc : Int32} (w : own_W RI RN acc) (lS : SD.length = 256) (lP : PR.length = 256) (v1 v2 : Int32) : Tot (f_ordersAt SD PR RI RN v1 v2) (fun _ => True) := by
  have e0 : (0 : Int32).toInt = 0 := rfl
  have l := w.l
  have n0 := w.n0
  have n1 := w.n1
  have r := w.r
  have key : ∀ (n : Nat) (v3 v4 : Int32), 0 ≤ v4.toInt → v4.toInt ≤ RN.toInt → RN.toInt - v4.toInt < n → Tot (f_ordersAt_30 SD PR RI RN n v1 v2 v3 v4) (fun _ => True) := by
    intro n
    induction n with
    | zero => intro v3 v4 h0 h1 h2; omega
    | succ n ih =>
      intro v3 v4 h0 h1 h2
      have p := own_p1 (a := v4) (by omega)
      unfold f_ordersAt_30
      (repeat' (first | with_reducible refine own_iL (fun _ => ?_) (fun _ => ?_) | with_reducible refine own_iE (fun _ => ?_) (fun _ => ?_) | with_reducible refine own_rdR (by assumption) (by omega) (by omega) (fun _ _ _ => ?_) | with_reducible refine Tot.rd (by omega) (by omega) (fun _ _ => ?_) | with_reducible refine own_wrR (by assumption) (by omega) (by omega) (by omega) (by omega) (fun _ _ _ => ?_) | with_reducible refine Tot.wr (by omega) (by omega) (fun _ _ _ => ?_) | with_reducible refine own_bs ?_))
      all_goals first | exact Tot.mk trivial | exact ih _ _ (by omega) (by omega) (by omega)
  have k := key 100000 0 0 (by omega) (by omega) (by omega)
  unfold f_ordersAt f_ordersAt_11
  (repeat' (first | with_reducible refine own_iL (fun _ => ?_) (fun _ => ?_) | with_reducible refine own_iE (fun _ => ?_) (fun _ => ?_) | with_reducible refine own_rdR (by assumption) (by omega) (by omega) (fun _ _ _ => ?_) | with_reducible refine Tot.rd (by omega) (by omega) (fun _ _ => ?_) | with_reducible refine own_wrR (by assumption) (by omega) (by omega) (by omega) (by omega) (fun _ _ _ => ?_) | with_reducible refine Tot.wr (by omega) (by omega) (fun _ _ _ => ?_) | with_reducible refine own_bs ?_))
  all_goals first | exact k | exact Tot.mk trivial
theorem own_tw {β : Type} {x : Option Int32} {y z : Option β} {Q : β → Prop} (h : Tot x (fun _ => True)) (k : Tot y Q) : Tot (x.bind fun a => x.bind fun b => if a = b then y else z) Q := by
  obtain ⟨r, e, _⟩ := h
  subst e
  show Tot (if r = r then y else z) Q
  rw [if_pos rfl]
  exact k
theorem own_res01 {ST : List Int32} {acc : Int32} (lS : ST.length = 256) (a1 : acc.toInt ≤ 255) (v : Int32) : (f_isResting ST acc v = some 0) ∨ (f_isResting ST acc v = some 1 ∧ 1 ≤ v.toInt ∧ v.toInt ≤ acc.toInt) := by
  obtain ⟨r, e, h1, h2⟩ := own_q_res lS a1 v
  rw [e]
  rcases h1 with h | h
  · left; rw [h]
  · right
    have := h2 (by rw [h]; decide)
    exact ⟨by rw [h], this.1, this.2⟩
theorem own_rk {SD PR ST RI : List Int32} {SP SP' : List Int64} {acc RN : Int32} (w : own_W RI RN acc) (lS : ST.length = 256) (a1 : acc.toInt ≤ 255) (h1 : ∀ j : Int32, 0 ≤ j.toInt → j.toInt < RN.toInt → rdA SP (gI RI j) = rdA SP' (gI RI j)) (h2 : ∀ v, f_isResting ST acc v = some 1 → rdA SP v = rdA SP' v) (v : Int32) : f_priorityRank SD PR ST SP' RI acc RN v = f_priorityRank SD PR ST SP RI acc RN v := by
  have e0 : (0 : Int32).toInt = 0 := rfl
  have l := w.l
  have n0 := w.n0
  have n1 := w.n1
  unfold f_priorityRank
  rcases own_res01 lS a1 v with h | ⟨h, _, _⟩
  · rw [h, Option.bind_some, Option.bind_some, if_pos rfl, if_pos rfl]
  · have hs := h2 v h
    rw [h, Option.bind_some, Option.bind_some, if_neg (by decide), if_neg (by decide)]
    have key : ∀ (n : Nat) (v2 v3 : Int32), 0 ≤ v3.toInt → v3.toInt ≤ RN.toInt → f_priorityRank_14 SD PR ST SP' RI acc RN n v v2 v3 = f_priorityRank_14 SD PR ST SP RI acc RN n v v2 v3 := by
      intro n
      induction n with
      | zero => intro v2 v3 _ _; rfl
      | succ n ih =>
        intro v2 v3 b0 b1
        unfold f_priorityRank_14
        by_cases c : v3 < RN
        · rw [if_pos c, if_pos c]
          rw [ilt] at c
          have p := own_p1 (a := v3) (by omega)
          rw [rdg b0 (by omega), Option.bind_some, Option.bind_some, h1 v3 b0 c, hs]
          have i1 := fun x => ih x (v3 + 1) (by omega) (by omega)
          simp only [i1]
        · rw [if_neg c, if_neg c]
    exact key 100000 0 0 (by omega) (by omega)
theorem own_same {SD PR RM FL ST : List Int32} {SP SP' : List Int64} {TP RI FI FQ FP LI LR LA : List Int32} {acc RN FN : Int32} (b : own_B SD PR RM FL ST SP TP RI FI FQ FP LI LR LA acc RN FN) (h1 : ∀ j : Int32, 0 ≤ j.toInt → j.toInt < RN.toInt → rdA SP (gI RI j) = rdA SP' (gI RI j)) (h2 : ∀ v, f_isResting ST acc v = some 1 → rdA SP v = rdA SP' v) :
    Tot (f_L_same SD PR RM FL ST SP TP RI FI FQ FP acc RN FN SD PR RM FL ST SP' TP RI FI FQ FP acc RN FN) (fun r => r = 1) := by
  obtain ⟨sd, pr, sp, a0, a1, m, v⟩ := b
  obtain ⟨lM, lF, lS, lT, w, lI, lQ, lP, f0, f1⟩ := m
  have e0 : (0 : Int32).toInt = 0 := rfl
  have e1 : (1 : Int32).toInt = 1 := rfl
  have e64 : (64 : Int32).toInt = 64 := rfl
  have e255 : (255 : Int32).toInt = 255 := rfl
  have e1000 : (1000 : Int32).toInt = 1000 := rfl
  have k189 : ∀ (n : Nat) (v2 : Int32), 0 ≤ v2.toInt → v2.toInt ≤ 64 → 65 - v2.toInt ≤ n → Tot (f_L_same_189 SD PR RM FL ST SP TP RI FI FQ FP acc RN FN SD PR RM FL ST SP' TP RI FI FQ FP acc RN FN n v2) (fun r => r = 1) := by
    intro n
    induction n with
    | zero => intro v2 b0 b1 b2; omega
    | succ n ih =>
      intro v2 b0 b1 b2
      have p := own_p1 (a := v2) (by omega)
      unfold f_L_same_189
      refine own_iL (fun _ => ?_) (fun _ => Tot.mk rfl)
      refine own_tw (own_q_fid lI f1 v2) ?_
      refine own_tw (own_q_fqt lQ f1 v2) ?_
      refine own_tw (own_q_fpr lP f1 v2) ?_
      exact ih _ (by omega) (by omega) (by omega)
  have k163 : Tot (f_L_same_163 SD PR RM FL ST SP TP RI FI FQ FP acc RN FN SD PR RM FL ST SP' TP RI FI FQ FP acc RN FN) (fun r => r = 1) := by
    unfold f_L_same_163
    refine own_tw (x := f_restingCount RN) (Tot.mk trivial) ?_
    refine own_tw (x := f_fillCount FN) (Tot.mk trivial) ?_
    exact k189 100000 0 (by omega) (by omega) (by omega)
  have k110 : ∀ (k88 : Int32 → Option Int32) (v2 : Int32), Tot (k88 (v2 + 1)) (fun r => r = 1) → ∀ (n : Nat) (v3 : Int32), 0 ≤ v3.toInt → v3.toInt ≤ 1001 → 1002 - v3.toInt ≤ n → Tot (f_L_same_110 k88 SD PR RM FL ST SP TP RI FI FQ FP acc RN FN SD PR RM FL ST SP' TP RI FI FQ FP acc RN FN n v2 v3) (fun r => r = 1) := by
    intro k88 v2 hk n
    induction n with
    | zero => intro v3 b0 b1 b2; omega
    | succ n ih =>
      intro v3 b0 b1 b2
      have p := own_p1 (a := v3) (by omega)
      unfold f_L_same_110
      refine own_iL (fun _ => hk) (fun _ => ?_)
      refine own_tw (own_q_dep w sd pr lM v2 v3) ?_
      refine own_tw (own_q_ord w sd pr v2 v3) ?_
      exact ih _ (by omega) (by omega) (by omega)
  have k88 : ∀ (n : Nat) (v2 : Int32), 0 ≤ v2.toInt → v2.toInt ≤ 2 → 3 - v2.toInt ≤ n → Tot (f_L_same_88 (f_L_same_163 SD PR RM FL ST SP TP RI FI FQ FP acc RN FN SD PR RM FL ST SP' TP RI FI FQ FP acc RN FN) SD PR RM FL ST SP TP RI FI FQ FP acc RN FN SD PR RM FL ST SP' TP RI FI FQ FP acc RN FN n v2) (fun r => r = 1) := by
    intro n
    induction n with
    | zero => intro v2 b0 b1 b2; omega
    | succ n ih =>
      intro v2 b0 b1 b2
      have p := own_p1 (a := v2) (by omega)
      unfold f_L_same_88
      refine own_iL (fun _ => k163) (fun _ => ?_)
      refine own_tw (own_q_bp w sd pr v2) ?_
      exact k110 _ v2 (ih _ (by omega) (by omega) (by omega)) 100000 1 (by omega) (by omega) (by omega)
  have k2 : ∀ (n : Nat) (v2 : Int32), 0 ≤ v2.toInt → v2.toInt ≤ 256 → 257 - v2.toInt ≤ n → Tot (f_L_same_2 (f_L_same_88 (f_L_same_163 SD PR RM FL ST SP TP RI FI FQ FP acc RN FN SD PR RM FL ST SP' TP RI FI FQ FP acc RN FN) SD PR RM FL ST SP TP RI FI FQ FP acc RN FN SD PR RM FL ST SP' TP RI FI FQ FP acc RN FN 100000) SD PR RM FL ST SP TP RI FI FQ FP acc RN FN SD PR RM FL ST SP' TP RI FI FQ FP acc RN FN n v2) (fun r => r = 1) := by
    intro n
    induction n with
    | zero => intro v2 b0 b1 b2; omega
    | succ n ih =>
      intro v2 b0 b1 b2
      have p := own_p1 (a := v2) (by omega)
      unfold f_L_same_2
      refine own_iL (fun _ => k88 100000 0 (by omega) (by omega) (by omega)) (fun _ => ?_)
      refine own_tw (own_q_sta lS a1 v2) ?_
      refine own_tw (own_q_rem lM lS a1 v2) ?_
      refine own_tw (own_q_fil lF a1 v2) ?_
      refine own_tw (own_q_top lT lS a1 v2) ?_
      rw [own_rk w lS a1 h1 h2 v2]
      refine own_tw (own_q_rnk w sd pr lS sp a1 v2) ?_
      exact ih _ (by omega) (by omega) (by omega)
  unfold f_L_same
  exact k2 100000 1 (by omega) (by omega) (by omega)
theorem own_canR {RM ST TP RI : List Int32} {acc RN v : Int32} (e : f_isResting ST acc v = some 1) (b0 : 1 ≤ v.toInt) (b1 : v.toInt ≤ 255) (lM : RM.length = 256) (lS : ST.length = 256) (lT : TP.length = 256) {RI' : List Int32} {RN' : Int32} (er : f_removeResting RI RN v = some (RI', RN')) : f_cancel acc RM ST TP RI RN v = some (0, RM.set v.toInt.toNat 0, ST.set v.toInt.toNat 3, TP.set v.toInt.toNat 0, RI', RN') := by
  unfold f_cancel
  rw [e, Option.bind_some, if_neg (by decide), wrA_in (by omega) (by omega), Option.bind_some, wrA_in (by omega) (by omega), Option.bind_some, wrA_in (by omega) (by omega), Option.bind_some, er, Option.bind_some]
theorem own_can0 {RM ST TP RI : List Int32} {acc RN v : Int32} (e : f_isResting ST acc v = some 0) : f_cancel acc RM ST TP RI RN v = some (-6, RM, ST, TP, RI, RN) := by
  unfold f_cancel
  rw [e, Option.bind_some, if_pos rfl]
theorem own_ame0 {RM ST TP : List Int32} {SP : List Int64} {stamp : Int64} {acc v q : Int32} (e : f_isResting ST acc v = some 0) : f_amend ST acc RM SP TP stamp v q = some (-6, RM, SP, TP, stamp) := by
  unfold f_amend
  rw [e, Option.bind_some, if_pos rfl]
theorem own_ameR {RM ST TP : List Int32} {SP : List Int64} {stamp : Int64} {acc v q : Int32} (e : f_isResting ST acc v = some 1) (b0 : 1 ≤ v.toInt) (b1 : v.toInt ≤ 255) (lM : RM.length = 256) (lS : SP.length = 256) (lT : TP.length = 256) :
    f_amend ST acc RM SP TP stamp v q = if q < 1 then some (-3, RM, SP, TP, stamp) else if 10000 < q then some (-3, RM, SP, TP, stamp) else if q < gI RM v then some (0, RM.set v.toInt.toNat q, SP, TP, stamp) else if gI RM v < q then some (0, RM.set v.toInt.toNat q, SP.set v.toInt.toNat (stamp + 1), TP.set v.toInt.toNat 0, stamp + 1) else some (0, RM, SP, TP, stamp) := by
  unfold f_amend
  rw [e, Option.bind_some, if_neg (by decide), rdg (by omega) (by omega), Option.bind_some, Option.bind_some, wrA_in (by omega) (by omega), Option.bind_some, Option.bind_some, wrA_in (by omega) (by omega), Option.bind_some, wrA_in (by omega) (by omega), Option.bind_some]
theorem own_resS {ST : List Int32} {acc v i x : Int32} (hne : ¬ i = v) (b0 : 1 ≤ i.toInt) (b1 : i.toInt ≤ 255) (lS : ST.length = 256) (a1 : acc.toInt ≤ 255) : f_isResting (ST.set i.toInt.toNat x) acc v = f_isResting ST acc v := by
  have e1 : (1 : Int32).toInt = 1 := rfl
  unfold f_isResting
  by_cases c1 : v < 1
  · rw [if_pos c1, if_pos c1]
  rw [if_neg c1, if_neg c1]
  by_cases c2 : acc < v
  · rw [if_pos c2, if_pos c2]
  rw [if_neg c2, if_neg c2]
  rw [ilt] at c1 c2
  have l : (ST.set i.toInt.toNat x).length = 256 := by simp [lS]
  rw [rdg (by omega) (by omega), rdg (by omega) (by omega), gset (by omega) (by omega) (by omega), if_neg hne]
theorem own_resX {ST : List Int32} {acc i : Int32} (b0 : 1 ≤ i.toInt) (b1 : i.toInt ≤ 255) (lS : ST.length = 256) : f_isResting (ST.set i.toInt.toNat 3) acc i = some 0 := by
  unfold f_isResting
  by_cases c1 : i < 1
  · rw [if_pos c1]
  rw [if_neg c1]
  by_cases c2 : acc < i
  · rw [if_pos c2]
  rw [if_neg c2]
  have l : (ST.set i.toInt.toNat 3).length = 256 := by simp [lS]
  rw [rdg (by omega) (by omega), Option.bind_some, gset (by omega) (by omega) (by omega), if_pos rfl]
  rfl
theorem own_181 (scr : List Int32) {SD PR RM FL ST : List Int32} {SP : List Int64} {TP RI FI FQ FP LI LR LA : List Int32} {acc RN FN : Int32} {stamp : Int64} (b : own_B SD PR RM FL ST SP TP RI FI FQ FP LI LR LA acc RN FN) (i j q : Int32) :
    Tot (f_L_law_181 scr SD PR RM FL ST SP TP RI FI FQ FP acc stamp RN FN SD PR RM FL ST SP TP RI FI FQ FP acc stamp RN FN i j q) (fun r => r = 1) := by
  have b' := b
  obtain ⟨sd, pr, sp, a0, a1, m, v⟩ := b
  have m' := m
  obtain ⟨lM, lF, lS, lT, w, lI, lQ, lP, f0, f1⟩ := m
  have K : ∀ {RM ST TP RI : List Int32} {SP SP' : List Int64} {RN : Int32}, own_B SD PR RM FL ST SP TP RI FI FQ FP LI LR LA acc RN FN → (∀ j : Int32, 0 ≤ j.toInt → j.toInt < RN.toInt → rdA SP (gI RI j) = rdA SP' (gI RI j)) → (∀ v, f_isResting ST acc v = some 1 → rdA SP v = rdA SP' v) → Tot ((f_L_same SD PR RM FL ST SP TP RI FI FQ FP acc RN FN SD PR RM FL ST SP' TP RI FI FQ FP acc RN FN).bind fun r343 => some (r343 &&& 1)) (fun r => r = 1) := by
    intro RM ST TP RI SP SP' RN b h1 h2
    refine Tot.bind (own_same b h1 h2) fun r hr => ?_
    rw [hr]
    exact Tot.mk rfl
  have K0 : ∀ {RM ST TP RI : List Int32} {SP : List Int64} {RN : Int32}, own_B SD PR RM FL ST SP TP RI FI FQ FP LI LR LA acc RN FN → Tot ((f_L_same SD PR RM FL ST SP TP RI FI FQ FP acc RN FN SD PR RM FL ST SP TP RI FI FQ FP acc RN FN).bind fun r343 => some (r343 &&& 1)) (fun r => r = 1) :=
    fun b => K b (fun _ _ _ => rfl) (fun _ _ => rfl)
  unfold f_L_law_181
  rcases own_res01 lS a1 i with hi | ⟨hi, i0, i1⟩
  · -- i is not resting
    rw [own_can0 hi, Option.bind_some]
    show Tot ((f_amend ST acc RM SP TP stamp j q).bind _) _
    obtain ⟨⟨r, RM1, SP1, TP1, st1⟩, e, h1, h2⟩ := own_ame (RI := RI) (FI := FI) (FL := FL) (FQ := FQ) (FP := FP) (RN := RN) (FN := FN) m' sp a1 stamp j q
    rw [e, Option.bind_some]
    show Tot (Option.bind (some (r, RM1, SP1, TP1, st1)) _) _
    rw [Option.bind_some]
    show Tot ((f_cancel acc RM1 ST TP1 RI RN i).bind _) _
    rw [own_can0 hi, Option.bind_some]
    exact K0 ⟨sd, pr, h1, a0, a1, h2, v⟩
  · obtain ⟨⟨RI', RN'⟩, er, hw, hn, hm, _⟩ := own_rm w i
    have hw' : own_W RI' RN' acc := hw
    rw [own_canR hi i0 (by omega) lM lS lT er, Option.bind_some]
    show Tot ((f_amend (ST.set i.toInt.toNat 3) acc (RM.set i.toInt.toNat 0) SP (TP.set i.toInt.toNat 0) stamp j q).bind _) _
    have sM : ∀ {L : List Int32} (k : Nat) (x : Int32), L.length = 256 → (L.set k x).length = 256 := fun k x h => by rw [List.length_set]; exact h
    have sP : ∀ {L : List Int64} (k : Nat) (x : Int64), L.length = 256 → (L.set k x).length = 256 := fun k x h => by rw [List.length_set]; exact h
    by_cases hij : i = j
    · subst hij
      rw [own_ame0 (own_resX i0 (by omega) lS), Option.bind_some]
      show Tot ((f_amend ST acc RM SP TP stamp i q).bind _) _
      have nm : ∀ k : Int32, 0 ≤ k.toInt → k.toInt < RN'.toInt → ¬ gI RI' k = i := by
        intro k k0 k1 hk
        exact ((hm i).mp ⟨k, k0, k1, hk⟩).2 rfl
      have bB : own_B SD PR (RM.set i.toInt.toNat 0) FL (ST.set i.toInt.toNat 3) SP (TP.set i.toInt.toNat 0) RI' FI FQ FP LI LR LA acc RN' FN := ⟨sd, pr, sp, a0, a1, ⟨sM _ _ lM, lF, sM _ _ lS, sM _ _ lT, hw', lI, lQ, lP, f0, f1⟩, v⟩
      rw [own_ameR hi i0 (by omega) lM sp lT]
      have T : ∀ (r : Int32) (RM1 TP1 : List Int32) (SP1 : List Int64) (st1 : Int64), RM1.length = 256 → TP1.length = 256 → RM1.set i.toInt.toNat 0 = RM.set i.toInt.toNat 0 → TP1.set i.toInt.toNat 0 = TP.set i.toInt.toNat 0 → (∀ k : Int32, 0 ≤ k.toInt → ¬ k = i → rdA SP k = rdA SP1 k) →
        Tot ((some (r, RM1, SP1, TP1, st1)).bind fun x => (fun (r332, s333, s334, s335, s336) => (f_cancel acc s333 ST s335 RI RN i).bind fun (r337, s338, s339, s340, s341, s342) =>
  (f_L_same SD PR (RM.set i.toInt.toNat 0) FL (ST.set i.toInt.toNat 3) SP (TP.set i.toInt.toNat 0) RI' FI FQ FP acc RN' FN SD PR s338 FL s339 s334 s340 s341 FI FQ FP acc s342 FN).bind fun r343 =>
  some (r343 &&& 1)) x) (fun r => r = 1) := by
        intro r RM1 TP1 SP1 st1 l1 l2 e1 e2 e3
        rw [Option.bind_some]
        show Tot ((f_cancel acc RM1 ST TP1 RI RN i).bind _) _
        rw [own_canR hi i0 (by omega) l1 lS l2 er, Option.bind_some, e1, e2]
        refine K bB ?_ ?_
        · intro k k0 k1
          have := hw'.e k k0 k1
          exact e3 _ (by omega) (nm k k0 k1)
        · intro k hk
          rcases own_res01 (sM i.toInt.toNat 3 lS) a1 k with h | ⟨_, k0, k1⟩
          · rw [h] at hk; exact absurd hk (by decide)
          · refine e3 k (by omega) ?_
            intro hki
            rw [hki, own_resX i0 (by omega) lS] at hk
            exact absurd hk (by decide)
      by_cases c1 : q < 1
      · rw [if_pos c1]; exact T _ _ _ _ _ lM lT rfl rfl (fun _ _ _ => rfl)
      rw [if_neg c1]
      by_cases c2 : 10000 < q
      · rw [if_pos c2]; exact T _ _ _ _ _ lM lT rfl rfl (fun _ _ _ => rfl)
      rw [if_neg c2]
      by_cases c3 : q < gI RM i
      · rw [if_pos c3]; exact T _ _ _ _ _ (sM _ _ lM) lT (by rw [List.set_set]) rfl (fun _ _ _ => rfl)
      rw [if_neg c3]
      by_cases c4 : gI RM i < q
      · rw [if_pos c4]
        refine T _ _ _ _ _ (sM _ _ lM) (sM _ _ lT) (by rw [List.set_set]) (by rw [List.set_set]) ?_
        intro k k0 hk
        rw [rdA_nn k0, rdA_nn k0, List.getElem?_set_ne]
        rw [ieq] at hk
        omega
      rw [if_neg c4]
      exact T _ _ _ _ _ lM lT rfl rfl (fun _ _ _ => rfl)
    · rcases own_res01 lS a1 j with hj | ⟨hj, j0, j1⟩
      · have hj' : f_isResting (ST.set i.toInt.toNat 3) acc j = some 0 := by rw [own_resS hij i0 (by omega) lS a1]; exact hj
        rw [own_ame0 hj', Option.bind_some]
        show Tot ((f_amend ST acc RM SP TP stamp j q).bind _) _
        rw [own_ame0 hj, Option.bind_some]
        show Tot ((f_cancel acc RM ST TP RI RN i).bind _) _
        rw [own_canR hi i0 (by omega) lM lS lT er, Option.bind_some]
        exact K0 ⟨sd, pr, sp, a0, a1, ⟨sM _ _ lM, lF, sM _ _ lS, sM _ _ lT, hw', lI, lQ, lP, f0, f1⟩, v⟩
      · have hj' : f_isResting (ST.set i.toInt.toNat 3) acc j = some 1 := by rw [own_resS hij i0 (by omega) lS a1]; exact hj
        have hne : i.toInt.toNat ≠ j.toInt.toNat := by rw [ieq] at hij; omega
        rw [own_ameR hj' j0 (by omega) (sM _ _ lM) sp (sM _ _ lT), gset (by omega) (by omega) (by omega), if_neg hij]
        have T : ∀ (r r' : Int32) (RM1 TP1 RM2 TP2 : List Int32) (SP1 : List Int64) (st1 : Int64), RM1.length = 256 → TP1.length = 256 → SP1.length = 256 → RM2 = RM1.set i.toInt.toNat 0 → TP2 = TP1.set i.toInt.toNat 0 → f_amend ST acc RM SP TP stamp j q = some (r, RM1, SP1, TP1, st1) →
          Tot ((some (r', RM2, SP1, TP2, st1)).bind fun x => (fun (r327, s328, s329, s330, s331) => 
  (f_amend ST acc RM SP TP stamp j q).bind fun (r332, s333, s334, s335, s336) =>
  (f_cancel acc s333 ST s335 RI RN i).bind fun (r337, s338, s339, s340, s341, s342) =>
  (f_L_same SD PR s328 FL (ST.set i.toInt.toNat 3) s329 s330 RI' FI FQ FP acc RN' FN SD PR s338 FL s339 s334 s340 s341 FI FQ FP acc s342 FN).bind fun r343 =>
  some (r343 &&& 1)) x) (fun r => r = 1) := by
          intro r r' RM1 TP1 RM2 TP2 SP1 st1 l1 l2 l3 e1 e2 e3
          rw [Option.bind_some]
          show Tot ((f_amend ST acc RM SP TP stamp j q).bind _) _
          rw [e3, Option.bind_some]
          show Tot ((f_cancel acc RM1 ST TP1 RI RN i).bind _) _
          rw [own_canR hi i0 (by omega) l1 lS l2 er, Option.bind_some, e1, e2]
          exact K0 ⟨sd, pr, l3, a0, a1, ⟨sM _ _ l1, lF, sM _ _ lS, sM _ _ l2, hw', lI, lQ, lP, f0, f1⟩, v⟩
        have eR := own_ameR (stamp := stamp) (q := q) hj j0 (by omega) lM sp lT
        by_cases c1 : q < 1
        · rw [if_pos c1] at eR ⊢; exact T _ _ _ _ _ _ _ _ lM lT sp rfl rfl eR
        rw [if_neg c1] at eR ⊢
        by_cases c2 : 10000 < q
        · rw [if_pos c2] at eR ⊢; exact T _ _ _ _ _ _ _ _ lM lT sp rfl rfl eR
        rw [if_neg c2] at eR ⊢
        by_cases c3 : q < gI RM j
        · rw [if_pos c3] at eR ⊢; exact T _ _ _ _ _ _ _ _ (sM _ _ lM) lT sp (List.set_comm _ _ hne) rfl eR
        rw [if_neg c3] at eR ⊢
        by_cases c4 : gI RM j < q
        · rw [if_pos c4] at eR ⊢; exact T _ _ _ _ _ _ _ _ (sM _ _ lM) (sM _ _ lT) (sP _ _ sp) (List.set_comm _ _ hne) (List.set_comm _ _ hne) eR
        rw [if_neg c4] at eR ⊢
        exact T _ _ _ _ _ _ _ _ lM lT sp rfl rfl eR
theorem own_stp {SD PR RM FL ST : List Int32} {SP : List Int64} {TP RI FI FQ FP LI LR LA : List Int32} {acc RN FN : Int32} (b : own_B SD PR RM FL ST SP TP RI FI FQ FP LI LR LA acc RN FN) (ma tc LN : Int32) (stamp : Int64) (v1 v2 v3 v4 v5 : Int32) :
    Tot (f_L_step ma tc SD PR RM FL ST SP TP RI FI FQ FP LI LR LA acc stamp RN FN LN v1 v2 v3 v4 v5) (fun (SD, PR, RM, FL, ST, SP, TP, RI, FI, FQ, FP, LI, LR, LA, acc, stamp, RN, FN, LN) => own_B SD PR RM FL ST SP TP RI FI FQ FP LI LR LA acc RN FN) := by
  have a0 := b.a0
  have a1 := b.a1
  unfold f_L_step
  refine own_iE (fun _ => ?_) (fun _ => own_iE (fun _ => ?_) (fun _ => ?_))
  · refine Tot.bind (own_can b.m a1 v2) ?_
    rintro ⟨r, RM', ST', TP', RI', RN'⟩ m'
    exact Tot.mk ⟨b.sd, b.pr, b.sp, a0, a1, m', b.v⟩
  · refine Tot.bind (own_ame b.m b.sp a1 stamp v2 v3) ?_
    rintro ⟨r, RM', SP', TP', stamp'⟩ ⟨sp', m'⟩
    exact Tot.mk ⟨b.sd, b.pr, sp', a0, a1, m', b.v⟩
  · refine Tot.bind (own_subA b ma tc LN stamp v2 v3 v4 v5) ?_
    rintro ⟨r, SD, PR, RM, FL, ST, SP, TP, RI, FI, FQ, FP, LI, LR, LA, acc', stamp, RN, FN, LN⟩ b'
    exact Tot.mk b'
theorem own_135 (scr : List Int32) (h : scr.length ≤ 260) {SD PR RM FL ST : List Int32} {SP : List Int64} {TP RI FI FQ FP LI LR LA : List Int32} {acc RN FN : Int32} {stamp : Int64} (b : own_B SD PR RM FL ST SP TP RI FI FQ FP LI LR LA acc RN FN) :
    Tot (f_L_law_135 scr SD PR RM FL ST SP TP RI FI FQ FP acc stamp RN FN SD PR RM FL ST SP TP RI FI FQ FP acc stamp RN FN scr.length.toInt32) (fun r => r = 1) := by
  have hl := iscr h
  have e3 : (3 : Int32).toInt = 3 := rfl
  unfold f_L_law_135 f_L_law_149 f_L_law_165
  by_cases c : scr.length.toInt32 < 3
  · rw [if_pos c, if_pos c, if_pos c]
    exact own_181 scr b 1 2 1
  · rw [if_neg c]
    rw [ilt] at c
    have p1 : (scr.length.toInt32 - 1).toInt = scr.length - 1 := by ((try simp only [ilt, ile, ieq, iadd_e, isub_e, imul_e, Int32.reduceToInt] at *) <;> omega)
    have p2 : (scr.length.toInt32 - 2).toInt = scr.length - 2 := by ((try simp only [ilt, ile, ieq, iadd_e, isub_e, imul_e, Int32.reduceToInt] at *) <;> omega)
    have p3 : (scr.length.toInt32 - 3).toInt = scr.length - 3 := by ((try simp only [ilt, ile, ieq, iadd_e, isub_e, imul_e, Int32.reduceToInt] at *) <;> omega)
    refine Tot.rd (by omega) (by omega) fun x _ => ?_
    refine own_iL (fun z => absurd z (by omega)) (fun _ => ?_)
    refine Tot.rd (by omega) (by omega) fun y _ => ?_
    refine own_iL (fun z => absurd z (by omega)) (fun _ => ?_)
    refine Tot.rd (by omega) (by omega) fun z _ => ?_
    exact own_181 scr b x y z
theorem own_44 (scr : List Int32) (h : scr.length ≤ 260) (ma tc v4 : Int32) (hv : 5 * v4.toInt ≤ scr.length) : ∀ (n : Nat) (SD PR RM FL ST : List Int32) (SP : List Int64) (TP RI FI FQ FP LI LR LA : List Int32) (acc : Int32) (stamp : Int64) (RN FN LN v5 : Int32), own_B SD PR RM FL ST SP TP RI FI FQ FP LI LR LA acc RN FN → 0 ≤ v5.toInt → v5.toInt ≤ 300 → 310 - v5.toInt ≤ n →
    Tot (f_L_law_44 (f_L_law_135 scr) scr n SD PR RM FL ST SP TP RI FI FQ FP LI LR LA ma tc acc stamp RN FN LN SD PR RM FL ST SP TP RI FI FQ FP LI LR LA ma tc acc stamp RN FN LN scr.length.toInt32 v4 v5) (fun r => r = 1) := by
  intro n
  induction n with
  | zero => intro SD PR RM FL ST SP TP RI FI FQ FP LI LR LA acc stamp RN FN LN v5 b h0 h1 h2; omega
  | succ n ih =>
    intro SD PR RM FL ST SP TP RI FI FQ FP LI LR LA acc stamp RN FN LN v5 b h0 h1 h2
    have p := own_p1 (a := v5) (by omega)
    unfold f_L_law_44
    refine own_iL (fun c => ?_) (fun c => own_135 scr h b)
    have q0 : (5 * v5).toInt = 5 * v5.toInt := by ((try simp only [ilt, ile, ieq, iadd_e, isub_e, imul_e, Int32.reduceToInt] at *) <;> omega)
    have q1 : (5 * v5 + 1).toInt = 5 * v5.toInt + 1 := by ((try simp only [ilt, ile, ieq, iadd_e, isub_e, imul_e, Int32.reduceToInt] at *) <;> omega)
    have q2 : (5 * v5 + 2).toInt = 5 * v5.toInt + 2 := by ((try simp only [ilt, ile, ieq, iadd_e, isub_e, imul_e, Int32.reduceToInt] at *) <;> omega)
    have q3 : (5 * v5 + 3).toInt = 5 * v5.toInt + 3 := by ((try simp only [ilt, ile, ieq, iadd_e, isub_e, imul_e, Int32.reduceToInt] at *) <;> omega)
    have q4 : (5 * v5 + 4).toInt = 5 * v5.toInt + 4 := by ((try simp only [ilt, ile, ieq, iadd_e, isub_e, imul_e, Int32.reduceToInt] at *) <;> omega)
    refine Tot.rd (by omega) (by omega) fun x0 _ => ?_
    refine Tot.rd (by omega) (by omega) fun x1 _ => ?_
    refine Tot.rd (by omega) (by omega) fun x2 _ => ?_
    refine Tot.rd (by omega) (by omega) fun x3 _ => ?_
    refine Tot.rd (by omega) (by omega) fun x4 _ => ?_
    obtain ⟨⟨SD1, PR1, RM1, FL1, ST1, SP1, TP1, RI1, FI1, FQ1, FP1, LI1, LR1, LA1, acc1, stamp1, RN1, FN1, LN1⟩, e, b1⟩ := own_stp b ma tc LN stamp (x0 &&& 3) x1 x2 x3 x4
    rw [e, Option.bind_some]
    refine own_bs ?_
    exact ih _ _ _ _ _ _ _ _ _ _ _ _ _ _ _ _ _ _ _ _ b1 (by omega) (by omega) (by omega)
theorem own_true (scr : List Int32) (h : scr.length ≤ 260) : f_L_law scr = some 1 := by
  apply Tot.eq
  have hl := iscr h
  unfold f_L_law
  have e0 : (0 : Int32).toInt = 0 := rfl
  have e3 : (3 : Int32).toInt = 3 := rfl
  have hv : 5 * (if scr.length.toInt32 < (3 : Int32) then (0 : Int32) else ((scr.length.toInt32 - (3 : Int32)) / (5 : Int32))).toInt ≤ scr.length := by
    split
    · omega
    · rename_i c
      rw [ilt] at c
      have p3 : (scr.length.toInt32 - 3).toInt = scr.length - 3 := by ((try simp only [ilt, ile, ieq, iadd_e, isub_e, imul_e, Int32.reduceToInt] at *) <;> omega)
      have d : ((scr.length.toInt32 - 3) / 5).toInt = ((scr.length : Int) - 3) / 5 := by
        rw [Int32.toInt_div, p3, Int.tdiv_eq_ediv_of_nonneg (by omega)]
        have e5 : (5 : Int32).toInt = 5 := rfl
        rw [e5, Jvm.Own.bmod32]
        omega
      rw [d]
      omega
  generalize (if scr.length.toInt32 < (3 : Int32) then (0 : Int32) else ((scr.length.toInt32 - (3 : Int32)) / (5 : Int32))) = v4 at hv ⊢
  obtain ⟨⟨SD, PR, RM, FL, ST, SP, TP, RI, FI, FQ, FP, LI, LR, LA, ma, tc, acc, stamp, RN, FN, LN⟩, e, ha, b⟩ := own_new 3 20
  rw [e, Option.bind_some]
  refine own_bs ?_
  exact own_44 scr h ma tc v4 hv 100000 _ _ _ _ _ _ _ _ _ _ _ _ _ _ _ _ _ _ _ _ b (by omega) (by omega) (by omega)
set_option maxRecDepth 65536 in
theorem comes_1 {Post : Tables → Env → Array Value → State → Outcome → State → Prop} (hpost : ∀ tb e args s v u, (limb_1_1.after args s (.returned v) u = true ∧ limb_1_2.after args s (.returned v) u = true ∧ True) → FrameEnd s (.returned v) u (Jvm.fieldLocs frame_1_writes args s ++ Jvm.arrayLocs frame_1_arrays args s ++ Jvm.staticLocs frame_1_statics s) 72 9152 → Post tb e args s (.returned v) u) :
    ArmFor flags0 classFile x code maxLocals ret World_1 tables_1 room_1 Calls_1 rest_1 Pre_1 Post := by
  intro l hfl _ _ p e ha hc hk s m args below hf hA hF happ hP
  obtain ⟨hcalls, hrest, hpre⟩ := hP
  obtain ⟨-, -, -, hnamed, -, -, -, hat⟩ := (Spec.applies_iff hf).mp happ
  obtain ⟨hg, hn⟩ := and_e (Cond.before_iff.mp (show (Jvm.Cond.and given_1 narrow_1).before args s = true from hpre))
  obtain ⟨h1, h2⟩ := and_e hg
  have hw := fun d (hd : d ∈ tables_1) => atoms_spec (ws := Jvm.Cond.code x code maxLocals ret :: tables_1) hat d (List.mem_cons_of_mem _ hd)
  obtain ⟨w0, rfl⟩ : ∃ w0 : Value, args = #[w0] := by
    have hs : args.size = 1 := by simpa [Cond.value, given_1] using h1
    obtain ⟨L⟩ := args
    match L, hs with
    | [w0], _ => exact ⟨w0, rfl⟩
  have hfit : Fit s := fun {y c} hc i hi => by
    obtain ⟨ha, rfl⟩ := Array.getElem?_eq_some_iff.mp hc
    have q := List.all_eq_true.mp ((Array.all_eq_true_iff_forall_mem.mp hF) _ (Array.getElem_mem ha)) i (List.mem_range.mpr hi)
    simpa [Array.getElem?_eq_getElem hi] using q
  obtain ⟨hn1, hn2⟩ := and_e hn
  obtain ⟨ad, e0⟩ := arr_v hn1
  obtain ⟨cl, A⟩ := Arr.start e0 hn1
  obtain rfl : w0 = .ref ad := Option.some.inj e0
  obtain ⟨scr, hs1, hs2, hs3⟩ := script_of hfit A e0 hn2
  have E : OEndsQ own_P 0 0 (entL [.ref 0] d_0.maxL) [] [.inr (.inl (false, scr))] (LawQ 1 30 4522) := ok_L_law (own_true scr hs2)
  have hS : SR [ad] [.ref 0] [.ref ad] := ⟨_, _, rfl, ⟨ad, rfl, rfl⟩, rfl⟩
  have hH : HR own_P s s.heap.size s.heap [ad] [.inr (.inl (false, scr))] := hr_script rfl A hs1 hs2 hs3
  have M := law_met (l := l) own_chk (fun w hw' => hw w (own_in w hw')) hm_0 E hS (Nat.le_of_ble_eq_true rfl) hH tables_1 room_1 (Nat.le_of_ble_eq_true rfl) (Nat.le_of_ble_eq_true rfl) (Nat.le_of_ble_eq_true rfl) (Nat.le_of_ble_eq_true rfl)
  obtain ⟨n, o, h1, h2, h3, L, rfl, N, hq⟩ := M p e ha hc hk s m _ below hf ((Spec.applies_iff_loose hf).mp happ).1 ⟨rfl, State.Warmed39.refl s, rfl⟩ trivial
  refine ⟨n, _, h1, h2, h3, hpost _ _ _ _ _ _ ⟨Cond.after_iff.mpr rfl, Cond.after_iff.mpr (eq_i res_at (Term.int_eval (1)) rfl), trivial⟩ ⟨hq.1, hq.2.1, (hq.2.2.sift fun y hy => Or.inr (N y hy)).mono (by decide) (by decide)⟩⟩
theorem main_1_1 : Claimed_1_1 := comes_1 fun _ _ _ _ _ _ h hF => ⟨h.1, hF⟩
theorem main_1_2 : Claimed_1_2 := comes_1 fun _ _ _ _ _ _ h hF => ⟨h.2.1, hF⟩
end Jvm.Pilot.@@N@@
namespace Jvm.Pilot.@@N@@
open Jvm Jvm.ClassFile Sem Op Lib Jvm.Free Jvm.Stand Jvm.Pilot.@@N@@.Jvm.D
/-! MADE BY PROGRAM (witnessworld.py) out of the Statement's table words and the real class files: 13 classes; the members and pool entries that the words name. The judged class is class 1, her method 1. -/
namespace start1
open Jvm.ClassFile
def u (s : String) : CpInfo := .utf8 (stringToUtf16 s)
/-- a pool by its gaps: so many unusable entries, then the entry; so many at the end -/
def gap : Nat → List CpInfo → List CpInfo
  | 0, r => r
  | n + 1, r => .unusable :: gap n r
def poolList (es : List (Nat × CpInfo)) (last : Nat) : List CpInfo := es.foldr (fun e r => gap e.1 (e.2 :: r)) (gap last [])
def pool (es : List (Nat × CpInfo)) (last : Nat) : Array CpInfo := ⟨poolList es last⟩
def fileOf (pool : Array CpInfo) (this : Nat) (attrs : Array Attribute := #[]) (ms : Array MethodInfo := #[]) (fl : Nat := 33) (sup : Nat := 0) (ifs : Array Nat := #[]) (fds : Array FieldInfo := #[]) : ClassFile where
  minorVersion := 0
  majorVersion := 65
  constantPool := pool
  accessFlags := fl
  thisClass := this
  superClass := sup
  interfaces := ifs
  fields := fds
  methods := ms
  attributes := attrs
def plain (name : String) (sup : Option ClassId) : Class where
  name := name
  kind := .ordinary
  loader := none
  accessFlags := 33
  super := sup
  interfaces := #[]
  cf := none
  fields := #[]
  methods := #[]
  instanceTypes := #[]
  staticTypes := #[]
  resolved := #[]
  callSites := []
  init := .initialized
  statics := none
  mirror := none

def pool0 : Array CpInfo := pool [(5, u "<init>"), (0, u "()V"), (1, .class_ 10), (1, u "java/lang/Object")] 113

def k0c0 : Code := { maxStack := 0, maxLocals := 1, code := object_method_1_code, exceptionTable := #[], attributes := #[] }
def k0m0 : Method := { name := "<init>", desc := "()V", sig := { parameters := [], returnType := none }, accessFlags := 1, code := some k0c0 }
/-- java/lang/Object -/
def k0 : Class := { plain "java/lang/Object" none with
  accessFlags := 33
  interfaces := #[]
  cf := some (fileOf pool0 8 #[] #[{ accessFlags := 1, nameIndex := 5, descriptorIndex := 6, attributes := #[] }] 33 0 #[] #[])
  fields := #[]
  methods := #[k0m0]
  instanceTypes := #[]
  staticTypes := #[]
  resolved := Array.replicate 124 none
  statics := none }

def pool1 : Array CpInfo := pool [(2, .class_ 4), (1, u "java/lang/Object"), (0, u "<init>"), (0, u "()V"), (0, .class_ 8), (0, u "ProRataBook"), (0, .methodref 7 10), (0, .nameAndType 5 11), (0, u "(II)V"), (0, .methodref 13 14), (0, .class_ 15), (0, .nameAndType 16 17), (0, u "ProRataBookL5"), (0, u "step"), (0, u "(LProRataBook;IIIII)V"), (0, .methodref 7 19), (0, .nameAndType 20 21), (0, u "cancel"), (0, u "(I)I"), (0, .methodref 7 23), (0, .nameAndType 24 25), (0, u "amend"), (0, u "(II)I"), (0, .methodref 13 27), (0, .nameAndType 28 29), (0, u "same"), (0, u "(LProRataBook;LProRataBook;)Z"), (0, .methodref 7 31), (0, .nameAndType 32 33), (0, u "submit"), (0, u "(IIII)I"), (0, .methodref 7 35), (0, .nameAndType 36 21), (0, u "status"), (0, .methodref 7 38), (0, .nameAndType 39 21), (0, u "remaining"), (0, .methodref 7 41), (0, .nameAndType 42 21), (0, u "filled"), (0, .methodref 7 44), (0, .nameAndType 45 46), (0, u "isTop"), (0, u "(I)Z"), (0, .methodref 7 48), (0, .nameAndType 49 21), (0, u "priorityRank"), (0, .methodref 7 51), (0, .nameAndType 52 21), (0, u "bestPrice"), (0, .methodref 7 54), (0, .nameAndType 55 25), (0, u "depthAt"), (0, .methodref 7 57), (0, .nameAndType 58 25), (0, u "ordersAt"), (0, .methodref 7 60), (0, .nameAndType 61 62), (0, u "restingCount"), (0, u "()I"), (0, .methodref 7 64), (0, .nameAndType 65 62), (0, u "fillCount"), (0, .methodref 7 67), (0, .nameAndType 68 21), (0, u "fillId"), (0, .methodref 7 70), (0, .nameAndType 71 21), (0, u "fillQty"), (0, .methodref 7 73), (0, .nameAndType 74 21), (0, u "fillPrice"), (2, u "law"), (0, u "([I)Z")] 3

def k1m0 : Method := { name := "<init>", desc := "()V", sig := { parameters := [], returnType := none }, accessFlags := 1, code := none }
def k1c1 : Code := { maxStack := 6, maxLocals := 11, code := code, exceptionTable := #[], attributes := #[] }
def k1m1 : Method := { name := "law", desc := "([I)Z", sig := { parameters := [(.array .int)], returnType := some .boolean }, accessFlags := 9, code := some k1c1 }
def k1c2 : Code := { maxStack := 5, maxLocals := 6, code := method_3_code, exceptionTable := #[], attributes := #[] }
def k1m2 : Method := { name := "step", desc := "(LProRataBook;IIIII)V", sig := { parameters := [(.object "ProRataBook"), .int, .int, .int, .int, .int], returnType := none }, accessFlags := 10, code := some k1c2 }
def k1c3 : Code := { maxStack := 4, maxLocals := 4, code := method_4_code, exceptionTable := #[], attributes := #[] }
def k1m3 : Method := { name := "same", desc := "(LProRataBook;LProRataBook;)Z", sig := { parameters := [(.object "ProRataBook"), (.object "ProRataBook")], returnType := some .boolean }, accessFlags := 10, code := some k1c3 }
/-- ProRataBookL5 -/
def k1 : Class := { plain "ProRataBookL5" (some 0) with
  accessFlags := 49
  interfaces := #[]
  cf := some (fileOf pool1 13 #[] #[{ accessFlags := 1, nameIndex := 5, descriptorIndex := 6, attributes := #[] }, { accessFlags := 9, nameIndex := 77, descriptorIndex := 78, attributes := #[] }, { accessFlags := 10, nameIndex := 16, descriptorIndex := 17, attributes := #[] }, { accessFlags := 10, nameIndex := 28, descriptorIndex := 29, attributes := #[] }] 49 2 #[] #[])
  fields := #[]
  methods := #[k1m0, k1m1, k1m2, k1m3]
  instanceTypes := #[]
  staticTypes := #[]
  resolved := Array.replicate 82 none
  statics := none }

def pool2 : Array CpInfo := pool [(1, .methodref 2 3), (0, .class_ 4), (0, .nameAndType 5 6), (0, u "java/lang/Object"), (0, u "<init>"), (0, u "()V"), (0, .fieldref 8 9), (0, .class_ 10), (0, .nameAndType 11 12), (0, u "ProRataBook"), (0, u "oSide"), (0, u "[I"), (0, .fieldref 8 14), (0, .nameAndType 15 12), (0, u "oPrice"), (0, .fieldref 8 17), (0, .nameAndType 18 12), (0, u "oRem"), (0, .fieldref 8 20), (0, .nameAndType 21 12), (0, u "oFilled"), (0, .fieldref 8 23), (0, .nameAndType 24 12), (0, u "oStatus"), (0, .fieldref 8 26), (0, .nameAndType 27 28), (0, u "oStamp"), (0, u "[J"), (0, .fieldref 8 30), (0, .nameAndType 31 32), (0, u "oTop"), (0, u "[Z"), (0, .fieldref 8 34), (0, .nameAndType 35 12), (0, u "restIds"), (0, .fieldref 8 37), (0, .nameAndType 38 12), (0, u "fIds"), (0, .fieldref 8 40), (0, .nameAndType 41 12), (0, u "fQty"), (0, .fieldref 8 43), (0, .nameAndType 44 12), (0, u "fPrice"), (0, .fieldref 8 46), (0, .nameAndType 47 12), (0, u "lvlIds"), (0, .fieldref 8 49), (0, .nameAndType 50 12), (0, u "lvlR"), (0, .fieldref 8 52), (0, .nameAndType 53 12), (0, u "lvlA"), (0, .fieldref 8 55), (0, .nameAndType 56 57), (0, u "minAlloc"), (0, u "I"), (0, .fieldref 8 59), (0, .nameAndType 60 57), (0, u "topCap"), (0, .fieldref 8 62), (0, .nameAndType 63 57), (0, u "accepted"), (0, .fieldref 8 65), (0, .nameAndType 66 67), (0, u "stampCounter"), (0, u "J"), (0, .fieldref 8 69), (0, .nameAndType 70 57), (0, u "restN"), (0, .fieldref 8 72), (0, .nameAndType 73 57), (0, u "fN"), (0, .fieldref 8 75), (0, .nameAndType 76 57), (0, u "lvlN"), (0, .methodref 8 78), (0, .nameAndType 79 80), (0, u "matchIncoming"), (0, u "(IIII)I"), (0, .methodref 8 82), (0, .nameAndType 83 84), (0, u "finishIncoming"), (0, u "(IIIII)V"), (0, .methodref 8 86), (0, .nameAndType 87 88), (0, u "bestOf"), (0, u "(I)I"), (0, .methodref 8 90), (0, .nameAndType 91 92), (0, u "crosses"), (0, u "(III)Z"), (0, .methodref 8 94), (0, .nameAndType 95 96), (0, u "matchLevel"), (0, u "(III)I"), (0, .methodref 8 98), (0, .nameAndType 99 92), (0, u "better"), (0, .methodref 8 101), (0, .nameAndType 102 103), (0, u "clearFlags"), (0, u "(I)V"), (0, .methodref 8 105), (0, .nameAndType 106 107), (0, u "gatherLevel"), (0, u "(II)V"), (0, .methodref 8 109), (0, .nameAndType 110 6), (0, u "sortLevel"), (0, .methodref 8 112), (0, .nameAndType 113 88), (0, u "allocate"), (0, .methodref 8 115), (0, .nameAndType 116 103), (0, u "applyLevel"), (0, .methodref 8 118), (0, .nameAndType 119 88), (0, u "topStep"), (0, .methodref 8 121), (0, .nameAndType 122 88), (0, u "proRataStep"), (0, .methodref 8 124), (0, .nameAndType 125 103), (0, u "timeStep"), (0, .methodref 8 127), (0, .nameAndType 128 103), (0, u "removeResting"), (0, .methodref 8 130), (0, .nameAndType 131 132), (0, u "isResting"), (0, u "(I)Z"), (0, u "BUY"), (2, u "SELL"), (1, u "LIMIT"), (0, u "IOC"), (0, u "OK"), (0, u "ERR_SIDE"), (1, u "ERR_PRICE"), (1, u "ERR_QTY"), (1, u "ERR_KIND"), (1, u "ERR_NO_IDS"), (1, u "ERR_UNKNOWN"), (1, u "STATUS_NONE"), (0, u "STATUS_RESTING"), (0, u "STATUS_FILLED"), (1, u "STATUS_CANCELLED"), (1, u "STATUS_DISCARDED"), (1, u "MAX_RESTING"), (1, u "MAX_IDS"), (4, u "submit"), (0, u "cancel"), (0, u "amend"), (0, u "(II)I"), (0, u "status"), (0, u "remaining"), (0, u "filled"), (0, u "isTop"), (0, u "priorityRank"), (0, u "bestPrice"), (0, u "depthAt"), (0, u "ordersAt"), (0, u "restingCount"), (0, u "()I"), (0, u "fillCount"), (0, u "fillId"), (0, u "fillQty"), (0, u "fillPrice")] 2

def k2c0 : Code := { maxStack := 3, maxLocals := 5, code := prog_1_method_1_code, exceptionTable := #[], attributes := #[] }
def k2m0 : Method := { name := "<init>", desc := "(II)V", sig := { parameters := [.int, .int], returnType := none }, accessFlags := 1, code := some k2c0 }
def k2c1 : Code := { maxStack := 6, maxLocals := 7, code := prog_1_method_2_code, exceptionTable := #[], attributes := #[] }
def k2m1 : Method := { name := "submit", desc := "(IIII)I", sig := { parameters := [.int, .int, .int, .int], returnType := some .int }, accessFlags := 1, code := some k2c1 }
def k2c2 : Code := { maxStack := 4, maxLocals := 10, code := prog_1_method_3_code, exceptionTable := #[], attributes := #[] }
def k2m2 : Method := { name := "matchIncoming", desc := "(IIII)I", sig := { parameters := [.int, .int, .int, .int], returnType := some .int }, accessFlags := 2, code := some k2c2 }
def k2c3 : Code := { maxStack := 5, maxLocals := 8, code := prog_1_method_4_code, exceptionTable := #[], attributes := #[] }
def k2m3 : Method := { name := "finishIncoming", desc := "(IIIII)V", sig := { parameters := [.int, .int, .int, .int, .int], returnType := none }, accessFlags := 2, code := some k2c3 }
def k2c4 : Code := { maxStack := 3, maxLocals := 4, code := prog_1_method_5_code, exceptionTable := #[], attributes := #[] }
def k2m4 : Method := { name := "clearFlags", desc := "(I)V", sig := { parameters := [.int], returnType := none }, accessFlags := 2, code := some k2c4 }
def k2c5 : Code := { maxStack := 2, maxLocals := 4, code := prog_1_method_6_code, exceptionTable := #[], attributes := #[] }
def k2m5 : Method := { name := "crosses", desc := "(III)Z", sig := { parameters := [.int, .int, .int], returnType := some .boolean }, accessFlags := 2, code := some k2c5 }
def k2c6 : Code := { maxStack := 2, maxLocals := 4, code := prog_1_method_7_code, exceptionTable := #[], attributes := #[] }
def k2m6 : Method := { name := "better", desc := "(III)Z", sig := { parameters := [.int, .int, .int], returnType := some .boolean }, accessFlags := 2, code := some k2c6 }
def k2c7 : Code := { maxStack := 4, maxLocals := 6, code := prog_1_method_8_code, exceptionTable := #[], attributes := #[] }
def k2m7 : Method := { name := "matchLevel", desc := "(III)I", sig := { parameters := [.int, .int, .int], returnType := some .int }, accessFlags := 2, code := some k2c7 }
def k2c8 : Code := { maxStack := 3, maxLocals := 5, code := prog_1_method_9_code, exceptionTable := #[], attributes := #[] }
def k2m8 : Method := { name := "gatherLevel", desc := "(II)V", sig := { parameters := [.int, .int], returnType := none }, accessFlags := 2, code := some k2c8 }
def k2c9 : Code := { maxStack := 5, maxLocals := 6, code := prog_1_method_10_code, exceptionTable := #[], attributes := #[] }
def k2m9 : Method := { name := "sortLevel", desc := "()V", sig := { parameters := [], returnType := none }, accessFlags := 2, code := some k2c9 }
def k2c10 : Code := { maxStack := 3, maxLocals := 7, code := prog_1_method_11_code, exceptionTable := #[], attributes := #[] }
def k2m10 : Method := { name := "allocate", desc := "(I)I", sig := { parameters := [.int], returnType := some .int }, accessFlags := 2, code := some k2c10 }
def k2c11 : Code := { maxStack := 4, maxLocals := 5, code := prog_1_method_12_code, exceptionTable := #[], attributes := #[] }
def k2m11 : Method := { name := "topStep", desc := "(I)I", sig := { parameters := [.int], returnType := some .int }, accessFlags := 2, code := some k2c11 }
def k2c12 : Code := { maxStack := 5, maxLocals := 9, code := prog_1_method_13_code, exceptionTable := #[], attributes := #[] }
def k2m12 : Method := { name := "proRataStep", desc := "(I)I", sig := { parameters := [.int], returnType := some .int }, accessFlags := 2, code := some k2c12 }
def k2c13 : Code := { maxStack := 4, maxLocals := 6, code := prog_1_method_14_code, exceptionTable := #[], attributes := #[] }
def k2m13 : Method := { name := "timeStep", desc := "(I)V", sig := { parameters := [.int], returnType := none }, accessFlags := 2, code := some k2c13 }
def k2c14 : Code := { maxStack := 4, maxLocals := 5, code := prog_1_method_15_code, exceptionTable := #[], attributes := #[] }
def k2m14 : Method := { name := "applyLevel", desc := "(I)V", sig := { parameters := [.int], returnType := none }, accessFlags := 2, code := some k2c14 }
def k2c15 : Code := { maxStack := 5, maxLocals := 3, code := prog_1_method_16_code, exceptionTable := #[], attributes := #[] }
def k2m15 : Method := { name := "removeResting", desc := "(I)V", sig := { parameters := [.int], returnType := none }, accessFlags := 2, code := some k2c15 }
def k2c16 : Code := { maxStack := 2, maxLocals := 2, code := prog_1_method_17_code, exceptionTable := #[], attributes := #[] }
def k2m16 : Method := { name := "isResting", desc := "(I)Z", sig := { parameters := [.int], returnType := some .boolean }, accessFlags := 2, code := some k2c16 }
def k2c17 : Code := { maxStack := 4, maxLocals := 6, code := prog_1_method_18_code, exceptionTable := #[], attributes := #[] }
def k2m17 : Method := { name := "bestOf", desc := "(I)I", sig := { parameters := [.int], returnType := some .int }, accessFlags := 2, code := some k2c17 }
def k2c18 : Code := { maxStack := 3, maxLocals := 2, code := prog_1_method_19_code, exceptionTable := #[], attributes := #[] }
def k2m18 : Method := { name := "cancel", desc := "(I)I", sig := { parameters := [.int], returnType := some .int }, accessFlags := 1, code := some k2c18 }
def k2c19 : Code := { maxStack := 5, maxLocals := 3, code := prog_1_method_20_code, exceptionTable := #[], attributes := #[] }
def k2m19 : Method := { name := "amend", desc := "(II)I", sig := { parameters := [.int, .int], returnType := some .int }, accessFlags := 1, code := some k2c19 }
def k2c20 : Code := { maxStack := 2, maxLocals := 2, code := prog_1_method_21_code, exceptionTable := #[], attributes := #[] }
def k2m20 : Method := { name := "status", desc := "(I)I", sig := { parameters := [.int], returnType := some .int }, accessFlags := 1, code := some k2c20 }
def k2c21 : Code := { maxStack := 2, maxLocals := 2, code := prog_1_method_22_code, exceptionTable := #[], attributes := #[] }
def k2m21 : Method := { name := "remaining", desc := "(I)I", sig := { parameters := [.int], returnType := some .int }, accessFlags := 1, code := some k2c21 }
def k2c22 : Code := { maxStack := 2, maxLocals := 2, code := prog_1_method_23_code, exceptionTable := #[], attributes := #[] }
def k2m22 : Method := { name := "filled", desc := "(I)I", sig := { parameters := [.int], returnType := some .int }, accessFlags := 1, code := some k2c22 }
def k2c23 : Code := { maxStack := 2, maxLocals := 2, code := prog_1_method_24_code, exceptionTable := #[], attributes := #[] }
def k2m23 : Method := { name := "isTop", desc := "(I)Z", sig := { parameters := [.int], returnType := some .boolean }, accessFlags := 1, code := some k2c23 }
def k2c24 : Code := { maxStack := 4, maxLocals := 5, code := prog_1_method_25_code, exceptionTable := #[], attributes := #[] }
def k2m24 : Method := { name := "priorityRank", desc := "(I)I", sig := { parameters := [.int], returnType := some .int }, accessFlags := 1, code := some k2c24 }
def k2c25 : Code := { maxStack := 2, maxLocals := 2, code := prog_1_method_26_code, exceptionTable := #[], attributes := #[] }
def k2m25 : Method := { name := "bestPrice", desc := "(I)I", sig := { parameters := [.int], returnType := some .int }, accessFlags := 1, code := some k2c25 }
def k2c26 : Code := { maxStack := 3, maxLocals := 6, code := prog_1_method_27_code, exceptionTable := #[], attributes := #[] }
def k2m26 : Method := { name := "depthAt", desc := "(II)I", sig := { parameters := [.int, .int], returnType := some .int }, accessFlags := 1, code := some k2c26 }
def k2c27 : Code := { maxStack := 2, maxLocals := 6, code := prog_1_method_28_code, exceptionTable := #[], attributes := #[] }
def k2m27 : Method := { name := "ordersAt", desc := "(II)I", sig := { parameters := [.int, .int], returnType := some .int }, accessFlags := 1, code := some k2c27 }
def k2c28 : Code := { maxStack := 1, maxLocals := 1, code := prog_1_method_29_code, exceptionTable := #[], attributes := #[] }
def k2m28 : Method := { name := "restingCount", desc := "()I", sig := { parameters := [], returnType := some .int }, accessFlags := 1, code := some k2c28 }
def k2c29 : Code := { maxStack := 1, maxLocals := 1, code := prog_1_method_30_code, exceptionTable := #[], attributes := #[] }
def k2m29 : Method := { name := "fillCount", desc := "()I", sig := { parameters := [], returnType := some .int }, accessFlags := 1, code := some k2c29 }
def k2c30 : Code := { maxStack := 2, maxLocals := 2, code := prog_1_method_31_code, exceptionTable := #[], attributes := #[] }
def k2m30 : Method := { name := "fillId", desc := "(I)I", sig := { parameters := [.int], returnType := some .int }, accessFlags := 1, code := some k2c30 }
def k2c31 : Code := { maxStack := 2, maxLocals := 2, code := prog_1_method_32_code, exceptionTable := #[], attributes := #[] }
def k2m31 : Method := { name := "fillQty", desc := "(I)I", sig := { parameters := [.int], returnType := some .int }, accessFlags := 1, code := some k2c31 }
def k2c32 : Code := { maxStack := 2, maxLocals := 2, code := prog_1_method_33_code, exceptionTable := #[], attributes := #[] }
def k2m32 : Method := { name := "fillPrice", desc := "(I)I", sig := { parameters := [.int], returnType := some .int }, accessFlags := 1, code := some k2c32 }
/-- ProRataBook -/
def k2 : Class := { plain "ProRataBook" (some 0) with
  accessFlags := 49
  interfaces := #[]
  cf := some (fileOf pool2 8 #[] #[{ accessFlags := 1, nameIndex := 5, descriptorIndex := 107, attributes := #[] }, { accessFlags := 1, nameIndex := 168, descriptorIndex := 80, attributes := #[] }, { accessFlags := 2, nameIndex := 79, descriptorIndex := 80, attributes := #[] }, { accessFlags := 2, nameIndex := 83, descriptorIndex := 84, attributes := #[] }, { accessFlags := 2, nameIndex := 102, descriptorIndex := 103, attributes := #[] }, { accessFlags := 2, nameIndex := 91, descriptorIndex := 92, attributes := #[] }, { accessFlags := 2, nameIndex := 99, descriptorIndex := 92, attributes := #[] }, { accessFlags := 2, nameIndex := 95, descriptorIndex := 96, attributes := #[] }, { accessFlags := 2, nameIndex := 106, descriptorIndex := 107, attributes := #[] }, { accessFlags := 2, nameIndex := 110, descriptorIndex := 6, attributes := #[] }, { accessFlags := 2, nameIndex := 113, descriptorIndex := 88, attributes := #[] }, { accessFlags := 2, nameIndex := 119, descriptorIndex := 88, attributes := #[] }, { accessFlags := 2, nameIndex := 122, descriptorIndex := 88, attributes := #[] }, { accessFlags := 2, nameIndex := 125, descriptorIndex := 103, attributes := #[] }, { accessFlags := 2, nameIndex := 116, descriptorIndex := 103, attributes := #[] }, { accessFlags := 2, nameIndex := 128, descriptorIndex := 103, attributes := #[] }, { accessFlags := 2, nameIndex := 131, descriptorIndex := 132, attributes := #[] }, { accessFlags := 2, nameIndex := 87, descriptorIndex := 88, attributes := #[] }, { accessFlags := 1, nameIndex := 169, descriptorIndex := 88, attributes := #[] }, { accessFlags := 1, nameIndex := 170, descriptorIndex := 171, attributes := #[] }, { accessFlags := 1, nameIndex := 172, descriptorIndex := 88, attributes := #[] }, { accessFlags := 1, nameIndex := 173, descriptorIndex := 88, attributes := #[] }, { accessFlags := 1, nameIndex := 174, descriptorIndex := 88, attributes := #[] }, { accessFlags := 1, nameIndex := 175, descriptorIndex := 132, attributes := #[] }, { accessFlags := 1, nameIndex := 176, descriptorIndex := 88, attributes := #[] }, { accessFlags := 1, nameIndex := 177, descriptorIndex := 88, attributes := #[] }, { accessFlags := 1, nameIndex := 178, descriptorIndex := 171, attributes := #[] }, { accessFlags := 1, nameIndex := 179, descriptorIndex := 171, attributes := #[] }, { accessFlags := 1, nameIndex := 180, descriptorIndex := 181, attributes := #[] }, { accessFlags := 1, nameIndex := 182, descriptorIndex := 181, attributes := #[] }, { accessFlags := 1, nameIndex := 183, descriptorIndex := 88, attributes := #[] }, { accessFlags := 1, nameIndex := 184, descriptorIndex := 88, attributes := #[] }, { accessFlags := 1, nameIndex := 185, descriptorIndex := 88, attributes := #[] }] 49 2 #[] #[{ accessFlags := 25, nameIndex := 133, descriptorIndex := 57, attributes := #[] }, { accessFlags := 25, nameIndex := 136, descriptorIndex := 57, attributes := #[] }, { accessFlags := 25, nameIndex := 138, descriptorIndex := 57, attributes := #[] }, { accessFlags := 25, nameIndex := 139, descriptorIndex := 57, attributes := #[] }, { accessFlags := 25, nameIndex := 140, descriptorIndex := 57, attributes := #[] }, { accessFlags := 25, nameIndex := 141, descriptorIndex := 57, attributes := #[] }, { accessFlags := 25, nameIndex := 143, descriptorIndex := 57, attributes := #[] }, { accessFlags := 25, nameIndex := 145, descriptorIndex := 57, attributes := #[] }, { accessFlags := 25, nameIndex := 147, descriptorIndex := 57, attributes := #[] }, { accessFlags := 25, nameIndex := 149, descriptorIndex := 57, attributes := #[] }, { accessFlags := 25, nameIndex := 151, descriptorIndex := 57, attributes := #[] }, { accessFlags := 25, nameIndex := 153, descriptorIndex := 57, attributes := #[] }, { accessFlags := 25, nameIndex := 154, descriptorIndex := 57, attributes := #[] }, { accessFlags := 25, nameIndex := 155, descriptorIndex := 57, attributes := #[] }, { accessFlags := 25, nameIndex := 157, descriptorIndex := 57, attributes := #[] }, { accessFlags := 25, nameIndex := 159, descriptorIndex := 57, attributes := #[] }, { accessFlags := 25, nameIndex := 161, descriptorIndex := 57, attributes := #[] }, { accessFlags := 25, nameIndex := 163, descriptorIndex := 57, attributes := #[] }, { accessFlags := 2, nameIndex := 56, descriptorIndex := 57, attributes := #[] }, { accessFlags := 2, nameIndex := 60, descriptorIndex := 57, attributes := #[] }, { accessFlags := 2, nameIndex := 63, descriptorIndex := 57, attributes := #[] }, { accessFlags := 2, nameIndex := 66, descriptorIndex := 67, attributes := #[] }, { accessFlags := 2, nameIndex := 11, descriptorIndex := 12, attributes := #[] }, { accessFlags := 2, nameIndex := 15, descriptorIndex := 12, attributes := #[] }, { accessFlags := 2, nameIndex := 18, descriptorIndex := 12, attributes := #[] }, { accessFlags := 2, nameIndex := 21, descriptorIndex := 12, attributes := #[] }, { accessFlags := 2, nameIndex := 24, descriptorIndex := 12, attributes := #[] }, { accessFlags := 2, nameIndex := 27, descriptorIndex := 28, attributes := #[] }, { accessFlags := 2, nameIndex := 31, descriptorIndex := 32, attributes := #[] }, { accessFlags := 2, nameIndex := 35, descriptorIndex := 12, attributes := #[] }, { accessFlags := 2, nameIndex := 70, descriptorIndex := 57, attributes := #[] }, { accessFlags := 2, nameIndex := 38, descriptorIndex := 12, attributes := #[] }, { accessFlags := 2, nameIndex := 41, descriptorIndex := 12, attributes := #[] }, { accessFlags := 2, nameIndex := 44, descriptorIndex := 12, attributes := #[] }, { accessFlags := 2, nameIndex := 73, descriptorIndex := 57, attributes := #[] }, { accessFlags := 2, nameIndex := 47, descriptorIndex := 12, attributes := #[] }, { accessFlags := 2, nameIndex := 50, descriptorIndex := 12, attributes := #[] }, { accessFlags := 2, nameIndex := 53, descriptorIndex := 12, attributes := #[] }, { accessFlags := 2, nameIndex := 76, descriptorIndex := 57, attributes := #[] }])
  fields := #[{ name := "BUY", type := .int, accessFlags := 25, slot := 0, constantValue := 0 }, { name := "SELL", type := .int, accessFlags := 25, slot := 1, constantValue := 0 }, { name := "LIMIT", type := .int, accessFlags := 25, slot := 2, constantValue := 0 }, { name := "IOC", type := .int, accessFlags := 25, slot := 3, constantValue := 0 }, { name := "OK", type := .int, accessFlags := 25, slot := 4, constantValue := 0 }, { name := "ERR_SIDE", type := .int, accessFlags := 25, slot := 5, constantValue := 0 }, { name := "ERR_PRICE", type := .int, accessFlags := 25, slot := 6, constantValue := 0 }, { name := "ERR_QTY", type := .int, accessFlags := 25, slot := 7, constantValue := 0 }, { name := "ERR_KIND", type := .int, accessFlags := 25, slot := 8, constantValue := 0 }, { name := "ERR_NO_IDS", type := .int, accessFlags := 25, slot := 9, constantValue := 0 }, { name := "ERR_UNKNOWN", type := .int, accessFlags := 25, slot := 10, constantValue := 0 }, { name := "STATUS_NONE", type := .int, accessFlags := 25, slot := 11, constantValue := 0 }, { name := "STATUS_RESTING", type := .int, accessFlags := 25, slot := 12, constantValue := 0 }, { name := "STATUS_FILLED", type := .int, accessFlags := 25, slot := 13, constantValue := 0 }, { name := "STATUS_CANCELLED", type := .int, accessFlags := 25, slot := 14, constantValue := 0 }, { name := "STATUS_DISCARDED", type := .int, accessFlags := 25, slot := 15, constantValue := 0 }, { name := "MAX_RESTING", type := .int, accessFlags := 25, slot := 16, constantValue := 0 }, { name := "MAX_IDS", type := .int, accessFlags := 25, slot := 17, constantValue := 0 }, { name := "minAlloc", type := .int, accessFlags := 2, slot := 0, constantValue := 0 }, { name := "topCap", type := .int, accessFlags := 2, slot := 1, constantValue := 0 }, { name := "accepted", type := .int, accessFlags := 2, slot := 2, constantValue := 0 }, { name := "stampCounter", type := .long, accessFlags := 2, slot := 3, constantValue := 0 }, { name := "oSide", type := (.array .int), accessFlags := 2, slot := 4, constantValue := 0 }, { name := "oPrice", type := (.array .int), accessFlags := 2, slot := 5, constantValue := 0 }, { name := "oRem", type := (.array .int), accessFlags := 2, slot := 6, constantValue := 0 }, { name := "oFilled", type := (.array .int), accessFlags := 2, slot := 7, constantValue := 0 }, { name := "oStatus", type := (.array .int), accessFlags := 2, slot := 8, constantValue := 0 }, { name := "oStamp", type := (.array .long), accessFlags := 2, slot := 9, constantValue := 0 }, { name := "oTop", type := (.array .boolean), accessFlags := 2, slot := 10, constantValue := 0 }, { name := "restIds", type := (.array .int), accessFlags := 2, slot := 11, constantValue := 0 }, { name := "restN", type := .int, accessFlags := 2, slot := 12, constantValue := 0 }, { name := "fIds", type := (.array .int), accessFlags := 2, slot := 13, constantValue := 0 }, { name := "fQty", type := (.array .int), accessFlags := 2, slot := 14, constantValue := 0 }, { name := "fPrice", type := (.array .int), accessFlags := 2, slot := 15, constantValue := 0 }, { name := "fN", type := .int, accessFlags := 2, slot := 16, constantValue := 0 }, { name := "lvlIds", type := (.array .int), accessFlags := 2, slot := 17, constantValue := 0 }, { name := "lvlR", type := (.array .int), accessFlags := 2, slot := 18, constantValue := 0 }, { name := "lvlA", type := (.array .int), accessFlags := 2, slot := 19, constantValue := 0 }, { name := "lvlN", type := .int, accessFlags := 2, slot := 20, constantValue := 0 }]
  methods := #[k2m0, k2m1, k2m2, k2m3, k2m4, k2m5, k2m6, k2m7, k2m8, k2m9, k2m10, k2m11, k2m12, k2m13, k2m14, k2m15, k2m16, k2m17, k2m18, k2m19, k2m20, k2m21, k2m22, k2m23, k2m24, k2m25, k2m26, k2m27, k2m28, k2m29, k2m30, k2m31, k2m32]
  instanceTypes := #[.int, .int, .int, .long, (.array .int), (.array .int), (.array .int), (.array .int), (.array .int), (.array .long), (.array .boolean), (.array .int), .int, (.array .int), (.array .int), (.array .int), .int, (.array .int), (.array .int), (.array .int), .int]
  staticTypes := #[.int, .int, .int, .int, .int, .int, .int, .int, .int, .int, .int, .int, .int, .int, .int, .int, .int, .int]
  resolved := Array.replicate 188 none
  statics := none }

def pool3 : Array CpInfo := pool [(1, u "java/lang/Cloneable"), (0, .class_ 1), (0, u "java/lang/Object"), (0, .class_ 3)] 3

/-- java/lang/Cloneable -/
def k3 : Class := { plain "java/lang/Cloneable" (some 0) with
  accessFlags := 1537
  interfaces := #[]
  cf := some (fileOf pool3 2 #[] #[] 1537 4 #[] #[])
  fields := #[]
  methods := #[]
  instanceTypes := #[]
  staticTypes := #[]
  resolved := Array.replicate 8 none
  statics := none }

def pool4 : Array CpInfo := pool [(1, u "java/io/Serializable"), (0, .class_ 1), (0, u "java/lang/Object"), (0, .class_ 3)] 3

/-- java/io/Serializable -/
def k4 : Class := { plain "java/io/Serializable" (some 0) with
  accessFlags := 1537
  interfaces := #[]
  cf := some (fileOf pool4 2 #[] #[] 1537 4 #[] #[])
  fields := #[]
  methods := #[]
  instanceTypes := #[]
  staticTypes := #[]
  resolved := Array.replicate 8 none
  statics := none }

/-- the primitive boolean -/
def k5 : Class := { plain "boolean" none with kind := .primitive 'Z', accessFlags := 0x411 }
/-- [Z -/
def k6 : Class := { plain "[Z" (some 0) with kind := .array 5 .boolean, interfaces := #[3, 4], accessFlags := 1041 }

/-- the primitive byte -/
def k7 : Class := { plain "byte" none with kind := .primitive 'B', accessFlags := 0x411 }
/-- [B -/
def k8 : Class := { plain "[B" (some 0) with kind := .array 7 .byte, interfaces := #[3, 4], accessFlags := 1041 }

/-- the primitive int -/
def k9 : Class := { plain "int" none with kind := .primitive 'I', accessFlags := 0x411 }
/-- [I -/
def k10 : Class := { plain "[I" (some 0) with kind := .array 9 .int, interfaces := #[3, 4], accessFlags := 1041 }

/-- the primitive long -/
def k11 : Class := { plain "long" none with kind := .primitive 'J', accessFlags := 0x411 }
/-- [J -/
def k12 : Class := { plain "[J" (some 0) with kind := .array 11 .long, interfaces := #[3, 4], accessFlags := 1041 }

def heap : Heap := #[{ cls := 10, slots := #[.int 1, .int 2, .int 3], vm := .none }]
def classes : Array Class := #[k0, k1, k2, k3, k4, k5, k6, k7, k8, k9, k10, k11, k12]
def interned : List (Array UInt16 × Addr) := []
def slotsUsed : Nat := 3
def theMethod : MethodId := ⟨1, 1⟩
def args0 : Array Value := #[.ref 0]
def aboutOver (below : List Frame) : State where
  vm := { classes := classes, interned := interned.toArray }
  heap := heap
  slotsUsed := slotsUsed
  threads := #[{ frames := .invoking theMethod args0 :: below }]
def below0 : List Frame := [.native { method := ⟨0, 0⟩, args := #[] }]
def about1 : State := aboutOver below0
def p0 : Program := .bare "" "" ""
def e0 : Env := launch0.env 0 0 0
theorem w_frames : about1.frames = Frame.invoking theMethod args0 :: below0 := rfl
set_option maxRecDepth 65536 in
theorem w_args : argsFit about1.vm theMethod args0 = true := by decide +kernel
set_option maxRecDepth 65536 in
theorem w_heap : heapFits about1 = true := by decide +kernel
set_option maxRecDepth 65536 in
theorem w_runnable : about1.curStatus? = some .runnable := by decide +kernel
set_option maxRecDepth 65536 in
theorem w_alone : about1.alone = true := by decide +kernel
set_option maxRecDepth 65536 in
theorem w_named : about1.methodNamed? x = some theMethod := by decide +kernel
set_option maxRecDepth 65536 in
theorem w_hears : about1.hears theMethod below0 = true := by decide +kernel
set_option maxRecDepth 65536 in
theorem w_ripe : about1.ripe theMethod args0 below0 = true := by decide +kernel
theorem w_running : about1.status = .running := rfl
set_option maxRecDepth 65536 in
theorem w_room : about1.hasRoom e0.platform room_1 = true :=
  launch0.hasRoom_least _ room_1 (by decide +kernel) (by decide +kernel) (by decide +kernel) (by decide +kernel) (by decide +kernel) (by decide +kernel)
theorem allAtoms_all (ts : List Jvm.Cond) (a : Array Jvm.Value) (st : Jvm.State) : (allAtoms ts).before a st = ts.all (fun c => c.before a st) := by
  induction ts with
  | nil => rfl
  | cons c t ih =>
    show (Jvm.Cond.and c (allAtoms t)).before a st = _
    rw [Jvm.Cond.before_and, ih, List.all_cons]
def words1 : List Jvm.Cond := Jvm.Cond.code x code maxLocals ret :: tables_1
/-- a 'code' word, met by the world's own term for the bytes: nothing is compared byte by byte -/
theorem code_word {y : MethodName} {bytes : ByteArray} {mx : Nat} {rt : Option FieldType} {a : Array Value} {s : State} {m : MethodId} {meth : Method} {c : Code} (h1 : s.methodNamed? y = some m) (h2 : s.vm.method? m = some meth) (h3 : meth.code = some c) (h4 : c.code = bytes)
    (h5 : (c.maxLocals == mx && c.exceptionTable.isEmpty && decide (c.maxStack ≤ mostOperands) && decide (meth.sig.returnType = rt) && !meth.locks && decide (parseMethodDescriptor y.desc = some meth.sig)) = true) : (Jvm.Cond.code y bytes mx rt).before a s = true := by
  simp only [Bool.and_eq_true, beq_iff_eq, Bool.not_eq_true', decide_eq_true_eq] at h5
  obtain ⟨⟨⟨⟨⟨g1, g2⟩, g3⟩, g4⟩, g5⟩, g6⟩ := h5
  simp [Cond.before, Cond.holds, Cond.value, h1, h2, h3, h4, g1, g2, g3, g4, g5, g6]
def isCode : Jvm.Cond → Bool
  | .code _ _ _ _ => true
  | _ => false
theorem all_split {L : List Jvm.Cond} {P : Jvm.Cond → Bool} (h1 : L.all (fun c => isCode c || P c) = true) (h2 : ∀ c ∈ L.filter isCode, P c = true) : L.all P = true := by
  refine List.all_eq_true.mpr fun c hc => ?_
  have h := List.all_eq_true.mp h1 c hc
  rcases Bool.eq_false_or_eq_true (isCode c) with hi | hi
  · exact h2 c (List.mem_filter.mpr ⟨hc, hi⟩)
  · simpa [hi] using h
set_option maxRecDepth 65536 in
theorem w_c0 : (Jvm.Cond.code x code maxLocals ret).before args0 about1 = true := code_word (m := ⟨1, 1⟩) (meth := k1m1) (c := k1c1) (by decide +kernel) rfl rfl rfl (by decide +kernel)
set_option maxRecDepth 65536 in
theorem w_c1 : (Jvm.Cond.code ({ cls := "ProRataBook", name := "<init>", desc := "(II)V" } : Jvm.MethodName) prog_1_method_1_code (5 : Nat) (Option.none : Option Jvm.ClassFile.FieldType)).before args0 about1 = true := code_word (m := ⟨2, 0⟩) (meth := k2m0) (c := k2c0) (by decide +kernel) rfl rfl rfl (by decide +kernel)
set_option maxRecDepth 65536 in
theorem w_c2 : (Jvm.Cond.code ({ cls := "java/lang/Object", name := "<init>", desc := "()V" } : Jvm.MethodName) object_method_1_code (1 : Nat) (Option.none : Option Jvm.ClassFile.FieldType)).before args0 about1 = true := code_word (m := ⟨0, 0⟩) (meth := k0m0) (c := k0c0) (by decide +kernel) rfl rfl rfl (by decide +kernel)
set_option maxRecDepth 65536 in
theorem w_c3 : (Jvm.Cond.code ({ cls := "ProRataBookL5", name := "step", desc := "(LProRataBook;IIIII)V" } : Jvm.MethodName) method_3_code (6 : Nat) (Option.none : Option Jvm.ClassFile.FieldType)).before args0 about1 = true := code_word (m := ⟨1, 2⟩) (meth := k1m2) (c := k1c2) (by decide +kernel) rfl rfl rfl (by decide +kernel)
set_option maxRecDepth 65536 in
theorem w_c4 : (Jvm.Cond.code ({ cls := "ProRataBook", name := "submit", desc := "(IIII)I" } : Jvm.MethodName) prog_1_method_2_code (7 : Nat) (Option.some Jvm.ClassFile.FieldType.int)).before args0 about1 = true := code_word (m := ⟨2, 1⟩) (meth := k2m1) (c := k2c1) (by decide +kernel) rfl rfl rfl (by decide +kernel)
set_option maxRecDepth 65536 in
theorem w_c5 : (Jvm.Cond.code ({ cls := "ProRataBook", name := "amend", desc := "(II)I" } : Jvm.MethodName) prog_1_method_20_code (3 : Nat) (Option.some Jvm.ClassFile.FieldType.int)).before args0 about1 = true := code_word (m := ⟨2, 19⟩) (meth := k2m19) (c := k2c19) (by decide +kernel) rfl rfl rfl (by decide +kernel)
set_option maxRecDepth 65536 in
theorem w_c6 : (Jvm.Cond.code ({ cls := "ProRataBook", name := "isResting", desc := "(I)Z" } : Jvm.MethodName) prog_1_method_17_code (2 : Nat) (Option.some Jvm.ClassFile.FieldType.boolean)).before args0 about1 = true := code_word (m := ⟨2, 16⟩) (meth := k2m16) (c := k2c16) (by decide +kernel) rfl rfl rfl (by decide +kernel)
set_option maxRecDepth 65536 in
theorem w_c7 : (Jvm.Cond.code ({ cls := "ProRataBook", name := "cancel", desc := "(I)I" } : Jvm.MethodName) prog_1_method_19_code (2 : Nat) (Option.some Jvm.ClassFile.FieldType.int)).before args0 about1 = true := code_word (m := ⟨2, 18⟩) (meth := k2m18) (c := k2c18) (by decide +kernel) rfl rfl rfl (by decide +kernel)
set_option maxRecDepth 65536 in
theorem w_c8 : (Jvm.Cond.code ({ cls := "ProRataBook", name := "matchIncoming", desc := "(IIII)I" } : Jvm.MethodName) prog_1_method_3_code (10 : Nat) (Option.some Jvm.ClassFile.FieldType.int)).before args0 about1 = true := code_word (m := ⟨2, 2⟩) (meth := k2m2) (c := k2c2) (by decide +kernel) rfl rfl rfl (by decide +kernel)
set_option maxRecDepth 65536 in
theorem w_c9 : (Jvm.Cond.code ({ cls := "ProRataBook", name := "bestOf", desc := "(I)I" } : Jvm.MethodName) prog_1_method_18_code (6 : Nat) (Option.some Jvm.ClassFile.FieldType.int)).before args0 about1 = true := code_word (m := ⟨2, 17⟩) (meth := k2m17) (c := k2c17) (by decide +kernel) rfl rfl rfl (by decide +kernel)
set_option maxRecDepth 65536 in
theorem w_c10 : (Jvm.Cond.code ({ cls := "ProRataBook", name := "finishIncoming", desc := "(IIIII)V" } : Jvm.MethodName) prog_1_method_4_code (8 : Nat) (Option.none : Option Jvm.ClassFile.FieldType)).before args0 about1 = true := code_word (m := ⟨2, 3⟩) (meth := k2m3) (c := k2c3) (by decide +kernel) rfl rfl rfl (by decide +kernel)
set_option maxRecDepth 65536 in
theorem w_c11 : (Jvm.Cond.code ({ cls := "ProRataBookL5", name := "same", desc := "(LProRataBook;LProRataBook;)Z" } : Jvm.MethodName) method_4_code (4 : Nat) (Option.some Jvm.ClassFile.FieldType.boolean)).before args0 about1 = true := code_word (m := ⟨1, 3⟩) (meth := k1m3) (c := k1c3) (by decide +kernel) rfl rfl rfl (by decide +kernel)
set_option maxRecDepth 65536 in
theorem w_c12 : (Jvm.Cond.code ({ cls := "ProRataBook", name := "status", desc := "(I)I" } : Jvm.MethodName) prog_1_method_21_code (2 : Nat) (Option.some Jvm.ClassFile.FieldType.int)).before args0 about1 = true := code_word (m := ⟨2, 20⟩) (meth := k2m20) (c := k2c20) (by decide +kernel) rfl rfl rfl (by decide +kernel)
set_option maxRecDepth 65536 in
theorem w_c13 : (Jvm.Cond.code ({ cls := "ProRataBook", name := "remaining", desc := "(I)I" } : Jvm.MethodName) prog_1_method_22_code (2 : Nat) (Option.some Jvm.ClassFile.FieldType.int)).before args0 about1 = true := code_word (m := ⟨2, 21⟩) (meth := k2m21) (c := k2c21) (by decide +kernel) rfl rfl rfl (by decide +kernel)
set_option maxRecDepth 65536 in
theorem w_c14 : (Jvm.Cond.code ({ cls := "ProRataBook", name := "filled", desc := "(I)I" } : Jvm.MethodName) prog_1_method_23_code (2 : Nat) (Option.some Jvm.ClassFile.FieldType.int)).before args0 about1 = true := code_word (m := ⟨2, 22⟩) (meth := k2m22) (c := k2c22) (by decide +kernel) rfl rfl rfl (by decide +kernel)
set_option maxRecDepth 65536 in
theorem w_c15 : (Jvm.Cond.code ({ cls := "ProRataBook", name := "isTop", desc := "(I)Z" } : Jvm.MethodName) prog_1_method_24_code (2 : Nat) (Option.some Jvm.ClassFile.FieldType.boolean)).before args0 about1 = true := code_word (m := ⟨2, 23⟩) (meth := k2m23) (c := k2c23) (by decide +kernel) rfl rfl rfl (by decide +kernel)
set_option maxRecDepth 65536 in
theorem w_c16 : (Jvm.Cond.code ({ cls := "ProRataBook", name := "priorityRank", desc := "(I)I" } : Jvm.MethodName) prog_1_method_25_code (5 : Nat) (Option.some Jvm.ClassFile.FieldType.int)).before args0 about1 = true := code_word (m := ⟨2, 24⟩) (meth := k2m24) (c := k2c24) (by decide +kernel) rfl rfl rfl (by decide +kernel)
set_option maxRecDepth 65536 in
theorem w_c17 : (Jvm.Cond.code ({ cls := "ProRataBook", name := "bestPrice", desc := "(I)I" } : Jvm.MethodName) prog_1_method_26_code (2 : Nat) (Option.some Jvm.ClassFile.FieldType.int)).before args0 about1 = true := code_word (m := ⟨2, 25⟩) (meth := k2m25) (c := k2c25) (by decide +kernel) rfl rfl rfl (by decide +kernel)
set_option maxRecDepth 65536 in
theorem w_c18 : (Jvm.Cond.code ({ cls := "ProRataBook", name := "depthAt", desc := "(II)I" } : Jvm.MethodName) prog_1_method_27_code (6 : Nat) (Option.some Jvm.ClassFile.FieldType.int)).before args0 about1 = true := code_word (m := ⟨2, 26⟩) (meth := k2m26) (c := k2c26) (by decide +kernel) rfl rfl rfl (by decide +kernel)
set_option maxRecDepth 65536 in
theorem w_c19 : (Jvm.Cond.code ({ cls := "ProRataBook", name := "ordersAt", desc := "(II)I" } : Jvm.MethodName) prog_1_method_28_code (6 : Nat) (Option.some Jvm.ClassFile.FieldType.int)).before args0 about1 = true := code_word (m := ⟨2, 27⟩) (meth := k2m27) (c := k2c27) (by decide +kernel) rfl rfl rfl (by decide +kernel)
set_option maxRecDepth 65536 in
theorem w_c20 : (Jvm.Cond.code ({ cls := "ProRataBook", name := "restingCount", desc := "()I" } : Jvm.MethodName) prog_1_method_29_code (1 : Nat) (Option.some Jvm.ClassFile.FieldType.int)).before args0 about1 = true := code_word (m := ⟨2, 28⟩) (meth := k2m28) (c := k2c28) (by decide +kernel) rfl rfl rfl (by decide +kernel)
set_option maxRecDepth 65536 in
theorem w_c21 : (Jvm.Cond.code ({ cls := "ProRataBook", name := "fillCount", desc := "()I" } : Jvm.MethodName) prog_1_method_30_code (1 : Nat) (Option.some Jvm.ClassFile.FieldType.int)).before args0 about1 = true := code_word (m := ⟨2, 29⟩) (meth := k2m29) (c := k2c29) (by decide +kernel) rfl rfl rfl (by decide +kernel)
set_option maxRecDepth 65536 in
theorem w_c22 : (Jvm.Cond.code ({ cls := "ProRataBook", name := "fillId", desc := "(I)I" } : Jvm.MethodName) prog_1_method_31_code (2 : Nat) (Option.some Jvm.ClassFile.FieldType.int)).before args0 about1 = true := code_word (m := ⟨2, 30⟩) (meth := k2m30) (c := k2c30) (by decide +kernel) rfl rfl rfl (by decide +kernel)
set_option maxRecDepth 65536 in
theorem w_c23 : (Jvm.Cond.code ({ cls := "ProRataBook", name := "fillQty", desc := "(I)I" } : Jvm.MethodName) prog_1_method_32_code (2 : Nat) (Option.some Jvm.ClassFile.FieldType.int)).before args0 about1 = true := code_word (m := ⟨2, 31⟩) (meth := k2m31) (c := k2c31) (by decide +kernel) rfl rfl rfl (by decide +kernel)
set_option maxRecDepth 65536 in
theorem w_c24 : (Jvm.Cond.code ({ cls := "ProRataBook", name := "fillPrice", desc := "(I)I" } : Jvm.MethodName) prog_1_method_33_code (2 : Nat) (Option.some Jvm.ClassFile.FieldType.int)).before args0 about1 = true := code_word (m := ⟨2, 32⟩) (meth := k2m32) (c := k2c32) (by decide +kernel) rfl rfl rfl (by decide +kernel)
set_option maxRecDepth 65536 in
theorem w_c25 : (Jvm.Cond.code ({ cls := "ProRataBook", name := "clearFlags", desc := "(I)V" } : Jvm.MethodName) prog_1_method_5_code (4 : Nat) (Option.none : Option Jvm.ClassFile.FieldType)).before args0 about1 = true := code_word (m := ⟨2, 4⟩) (meth := k2m4) (c := k2c4) (by decide +kernel) rfl rfl rfl (by decide +kernel)
set_option maxRecDepth 65536 in
theorem w_c26 : (Jvm.Cond.code ({ cls := "ProRataBook", name := "removeResting", desc := "(I)V" } : Jvm.MethodName) prog_1_method_16_code (3 : Nat) (Option.none : Option Jvm.ClassFile.FieldType)).before args0 about1 = true := code_word (m := ⟨2, 15⟩) (meth := k2m15) (c := k2c15) (by decide +kernel) rfl rfl rfl (by decide +kernel)
set_option maxRecDepth 65536 in
theorem w_c27 : (Jvm.Cond.code ({ cls := "ProRataBook", name := "crosses", desc := "(III)Z" } : Jvm.MethodName) prog_1_method_6_code (4 : Nat) (Option.some Jvm.ClassFile.FieldType.boolean)).before args0 about1 = true := code_word (m := ⟨2, 5⟩) (meth := k2m5) (c := k2c5) (by decide +kernel) rfl rfl rfl (by decide +kernel)
set_option maxRecDepth 65536 in
theorem w_c28 : (Jvm.Cond.code ({ cls := "ProRataBook", name := "better", desc := "(III)Z" } : Jvm.MethodName) prog_1_method_7_code (4 : Nat) (Option.some Jvm.ClassFile.FieldType.boolean)).before args0 about1 = true := code_word (m := ⟨2, 6⟩) (meth := k2m6) (c := k2c6) (by decide +kernel) rfl rfl rfl (by decide +kernel)
set_option maxRecDepth 65536 in
theorem w_c29 : (Jvm.Cond.code ({ cls := "ProRataBook", name := "matchLevel", desc := "(III)I" } : Jvm.MethodName) prog_1_method_8_code (6 : Nat) (Option.some Jvm.ClassFile.FieldType.int)).before args0 about1 = true := code_word (m := ⟨2, 7⟩) (meth := k2m7) (c := k2c7) (by decide +kernel) rfl rfl rfl (by decide +kernel)
set_option maxRecDepth 65536 in
theorem w_c30 : (Jvm.Cond.code ({ cls := "ProRataBook", name := "gatherLevel", desc := "(II)V" } : Jvm.MethodName) prog_1_method_9_code (5 : Nat) (Option.none : Option Jvm.ClassFile.FieldType)).before args0 about1 = true := code_word (m := ⟨2, 8⟩) (meth := k2m8) (c := k2c8) (by decide +kernel) rfl rfl rfl (by decide +kernel)
set_option maxRecDepth 65536 in
theorem w_c31 : (Jvm.Cond.code ({ cls := "ProRataBook", name := "sortLevel", desc := "()V" } : Jvm.MethodName) prog_1_method_10_code (6 : Nat) (Option.none : Option Jvm.ClassFile.FieldType)).before args0 about1 = true := code_word (m := ⟨2, 9⟩) (meth := k2m9) (c := k2c9) (by decide +kernel) rfl rfl rfl (by decide +kernel)
set_option maxRecDepth 65536 in
theorem w_c32 : (Jvm.Cond.code ({ cls := "ProRataBook", name := "allocate", desc := "(I)I" } : Jvm.MethodName) prog_1_method_11_code (7 : Nat) (Option.some Jvm.ClassFile.FieldType.int)).before args0 about1 = true := code_word (m := ⟨2, 10⟩) (meth := k2m10) (c := k2c10) (by decide +kernel) rfl rfl rfl (by decide +kernel)
set_option maxRecDepth 65536 in
theorem w_c33 : (Jvm.Cond.code ({ cls := "ProRataBook", name := "topStep", desc := "(I)I" } : Jvm.MethodName) prog_1_method_12_code (5 : Nat) (Option.some Jvm.ClassFile.FieldType.int)).before args0 about1 = true := code_word (m := ⟨2, 11⟩) (meth := k2m11) (c := k2c11) (by decide +kernel) rfl rfl rfl (by decide +kernel)
set_option maxRecDepth 65536 in
theorem w_c34 : (Jvm.Cond.code ({ cls := "ProRataBook", name := "timeStep", desc := "(I)V" } : Jvm.MethodName) prog_1_method_14_code (6 : Nat) (Option.none : Option Jvm.ClassFile.FieldType)).before args0 about1 = true := code_word (m := ⟨2, 13⟩) (meth := k2m13) (c := k2c13) (by decide +kernel) rfl rfl rfl (by decide +kernel)
set_option maxRecDepth 65536 in
theorem w_c35 : (Jvm.Cond.code ({ cls := "ProRataBook", name := "applyLevel", desc := "(I)V" } : Jvm.MethodName) prog_1_method_15_code (5 : Nat) (Option.none : Option Jvm.ClassFile.FieldType)).before args0 about1 = true := code_word (m := ⟨2, 14⟩) (meth := k2m14) (c := k2c14) (by decide +kernel) rfl rfl rfl (by decide +kernel)
set_option maxRecDepth 65536 in
theorem w_c36 : (Jvm.Cond.code ({ cls := "ProRataBook", name := "proRataStep", desc := "(I)I" } : Jvm.MethodName) prog_1_method_13_code (9 : Nat) (Option.some Jvm.ClassFile.FieldType.int)).before args0 about1 = true := code_word (m := ⟨2, 12⟩) (meth := k2m12) (c := k2c12) (by decide +kernel) rfl rfl rfl (by decide +kernel)
def codes1 : List Jvm.Cond := [Jvm.Cond.code x code maxLocals ret, Jvm.Cond.code ({ cls := "ProRataBook", name := "<init>", desc := "(II)V" } : Jvm.MethodName) prog_1_method_1_code (5 : Nat) (Option.none : Option Jvm.ClassFile.FieldType), Jvm.Cond.code ({ cls := "java/lang/Object", name := "<init>", desc := "()V" } : Jvm.MethodName) object_method_1_code (1 : Nat) (Option.none : Option Jvm.ClassFile.FieldType), Jvm.Cond.code ({ cls := "ProRataBookL5", name := "step", desc := "(LProRataBook;IIIII)V" } : Jvm.MethodName) method_3_code (6 : Nat) (Option.none : Option Jvm.ClassFile.FieldType), Jvm.Cond.code ({ cls := "ProRataBook", name := "submit", desc := "(IIII)I" } : Jvm.MethodName) prog_1_method_2_code (7 : Nat) (Option.some Jvm.ClassFile.FieldType.int), Jvm.Cond.code ({ cls := "ProRataBook", name := "amend", desc := "(II)I" } : Jvm.MethodName) prog_1_method_20_code (3 : Nat) (Option.some Jvm.ClassFile.FieldType.int), Jvm.Cond.code ({ cls := "ProRataBook", name := "isResting", desc := "(I)Z" } : Jvm.MethodName) prog_1_method_17_code (2 : Nat) (Option.some Jvm.ClassFile.FieldType.boolean), Jvm.Cond.code ({ cls := "ProRataBook", name := "cancel", desc := "(I)I" } : Jvm.MethodName) prog_1_method_19_code (2 : Nat) (Option.some Jvm.ClassFile.FieldType.int), Jvm.Cond.code ({ cls := "ProRataBook", name := "matchIncoming", desc := "(IIII)I" } : Jvm.MethodName) prog_1_method_3_code (10 : Nat) (Option.some Jvm.ClassFile.FieldType.int), Jvm.Cond.code ({ cls := "ProRataBook", name := "bestOf", desc := "(I)I" } : Jvm.MethodName) prog_1_method_18_code (6 : Nat) (Option.some Jvm.ClassFile.FieldType.int), Jvm.Cond.code ({ cls := "ProRataBook", name := "finishIncoming", desc := "(IIIII)V" } : Jvm.MethodName) prog_1_method_4_code (8 : Nat) (Option.none : Option Jvm.ClassFile.FieldType), Jvm.Cond.code ({ cls := "ProRataBookL5", name := "same", desc := "(LProRataBook;LProRataBook;)Z" } : Jvm.MethodName) method_4_code (4 : Nat) (Option.some Jvm.ClassFile.FieldType.boolean), Jvm.Cond.code ({ cls := "ProRataBook", name := "status", desc := "(I)I" } : Jvm.MethodName) prog_1_method_21_code (2 : Nat) (Option.some Jvm.ClassFile.FieldType.int), Jvm.Cond.code ({ cls := "ProRataBook", name := "remaining", desc := "(I)I" } : Jvm.MethodName) prog_1_method_22_code (2 : Nat) (Option.some Jvm.ClassFile.FieldType.int), Jvm.Cond.code ({ cls := "ProRataBook", name := "filled", desc := "(I)I" } : Jvm.MethodName) prog_1_method_23_code (2 : Nat) (Option.some Jvm.ClassFile.FieldType.int), Jvm.Cond.code ({ cls := "ProRataBook", name := "isTop", desc := "(I)Z" } : Jvm.MethodName) prog_1_method_24_code (2 : Nat) (Option.some Jvm.ClassFile.FieldType.boolean), Jvm.Cond.code ({ cls := "ProRataBook", name := "priorityRank", desc := "(I)I" } : Jvm.MethodName) prog_1_method_25_code (5 : Nat) (Option.some Jvm.ClassFile.FieldType.int), Jvm.Cond.code ({ cls := "ProRataBook", name := "bestPrice", desc := "(I)I" } : Jvm.MethodName) prog_1_method_26_code (2 : Nat) (Option.some Jvm.ClassFile.FieldType.int), Jvm.Cond.code ({ cls := "ProRataBook", name := "depthAt", desc := "(II)I" } : Jvm.MethodName) prog_1_method_27_code (6 : Nat) (Option.some Jvm.ClassFile.FieldType.int), Jvm.Cond.code ({ cls := "ProRataBook", name := "ordersAt", desc := "(II)I" } : Jvm.MethodName) prog_1_method_28_code (6 : Nat) (Option.some Jvm.ClassFile.FieldType.int), Jvm.Cond.code ({ cls := "ProRataBook", name := "restingCount", desc := "()I" } : Jvm.MethodName) prog_1_method_29_code (1 : Nat) (Option.some Jvm.ClassFile.FieldType.int), Jvm.Cond.code ({ cls := "ProRataBook", name := "fillCount", desc := "()I" } : Jvm.MethodName) prog_1_method_30_code (1 : Nat) (Option.some Jvm.ClassFile.FieldType.int), Jvm.Cond.code ({ cls := "ProRataBook", name := "fillId", desc := "(I)I" } : Jvm.MethodName) prog_1_method_31_code (2 : Nat) (Option.some Jvm.ClassFile.FieldType.int), Jvm.Cond.code ({ cls := "ProRataBook", name := "fillQty", desc := "(I)I" } : Jvm.MethodName) prog_1_method_32_code (2 : Nat) (Option.some Jvm.ClassFile.FieldType.int), Jvm.Cond.code ({ cls := "ProRataBook", name := "fillPrice", desc := "(I)I" } : Jvm.MethodName) prog_1_method_33_code (2 : Nat) (Option.some Jvm.ClassFile.FieldType.int), Jvm.Cond.code ({ cls := "ProRataBook", name := "clearFlags", desc := "(I)V" } : Jvm.MethodName) prog_1_method_5_code (4 : Nat) (Option.none : Option Jvm.ClassFile.FieldType), Jvm.Cond.code ({ cls := "ProRataBook", name := "removeResting", desc := "(I)V" } : Jvm.MethodName) prog_1_method_16_code (3 : Nat) (Option.none : Option Jvm.ClassFile.FieldType), Jvm.Cond.code ({ cls := "ProRataBook", name := "crosses", desc := "(III)Z" } : Jvm.MethodName) prog_1_method_6_code (4 : Nat) (Option.some Jvm.ClassFile.FieldType.boolean), Jvm.Cond.code ({ cls := "ProRataBook", name := "better", desc := "(III)Z" } : Jvm.MethodName) prog_1_method_7_code (4 : Nat) (Option.some Jvm.ClassFile.FieldType.boolean), Jvm.Cond.code ({ cls := "ProRataBook", name := "matchLevel", desc := "(III)I" } : Jvm.MethodName) prog_1_method_8_code (6 : Nat) (Option.some Jvm.ClassFile.FieldType.int), Jvm.Cond.code ({ cls := "ProRataBook", name := "gatherLevel", desc := "(II)V" } : Jvm.MethodName) prog_1_method_9_code (5 : Nat) (Option.none : Option Jvm.ClassFile.FieldType), Jvm.Cond.code ({ cls := "ProRataBook", name := "sortLevel", desc := "()V" } : Jvm.MethodName) prog_1_method_10_code (6 : Nat) (Option.none : Option Jvm.ClassFile.FieldType), Jvm.Cond.code ({ cls := "ProRataBook", name := "allocate", desc := "(I)I" } : Jvm.MethodName) prog_1_method_11_code (7 : Nat) (Option.some Jvm.ClassFile.FieldType.int), Jvm.Cond.code ({ cls := "ProRataBook", name := "topStep", desc := "(I)I" } : Jvm.MethodName) prog_1_method_12_code (5 : Nat) (Option.some Jvm.ClassFile.FieldType.int), Jvm.Cond.code ({ cls := "ProRataBook", name := "timeStep", desc := "(I)V" } : Jvm.MethodName) prog_1_method_14_code (6 : Nat) (Option.none : Option Jvm.ClassFile.FieldType), Jvm.Cond.code ({ cls := "ProRataBook", name := "applyLevel", desc := "(I)V" } : Jvm.MethodName) prog_1_method_15_code (5 : Nat) (Option.none : Option Jvm.ClassFile.FieldType), Jvm.Cond.code ({ cls := "ProRataBook", name := "proRataStep", desc := "(I)I" } : Jvm.MethodName) prog_1_method_13_code (9 : Nat) (Option.some Jvm.ClassFile.FieldType.int)]
set_option maxRecDepth 65536 in
theorem codes_eq : words1.filter isCode = codes1 := rfl
theorem w_codes : ∀ c ∈ words1.filter isCode, c.before args0 about1 = true := by
  rw [codes_eq]
  intro c hc
  simp only [codes1, List.mem_cons, List.not_mem_nil, or_false] at hc
  rcases hc with rfl | rfl | rfl | rfl | rfl | rfl | rfl | rfl | rfl | rfl | rfl | rfl | rfl | rfl | rfl | rfl | rfl | rfl | rfl | rfl | rfl | rfl | rfl | rfl | rfl | rfl | rfl | rfl | rfl | rfl | rfl | rfl | rfl | rfl | rfl | rfl | rfl
  · exact w_c0
  · exact w_c1
  · exact w_c2
  · exact w_c3
  · exact w_c4
  · exact w_c5
  · exact w_c6
  · exact w_c7
  · exact w_c8
  · exact w_c9
  · exact w_c10
  · exact w_c11
  · exact w_c12
  · exact w_c13
  · exact w_c14
  · exact w_c15
  · exact w_c16
  · exact w_c17
  · exact w_c18
  · exact w_c19
  · exact w_c20
  · exact w_c21
  · exact w_c22
  · exact w_c23
  · exact w_c24
  · exact w_c25
  · exact w_c26
  · exact w_c27
  · exact w_c28
  · exact w_c29
  · exact w_c30
  · exact w_c31
  · exact w_c32
  · exact w_c33
  · exact w_c34
  · exact w_c35
  · exact w_c36
set_option maxRecDepth 65536 in
theorem w_t1 : (words1.take 24).all (fun c => isCode c || c.before args0 about1) = true := by decide +kernel
set_option maxRecDepth 65536 in
theorem w_t2 : ((words1.drop 24).take 24).all (fun c => isCode c || c.before args0 about1) = true := by decide +kernel
set_option maxRecDepth 65536 in
theorem w_t3 : (((words1.drop 24).drop 24).take 24).all (fun c => isCode c || c.before args0 about1) = true := by decide +kernel
set_option maxRecDepth 65536 in
theorem w_t4 : ((((words1.drop 24).drop 24).drop 24).take 24).all (fun c => isCode c || c.before args0 about1) = true := by decide +kernel
set_option maxRecDepth 65536 in
theorem w_t5 : (((((words1.drop 24).drop 24).drop 24).drop 24).take 24).all (fun c => isCode c || c.before args0 about1) = true := by decide +kernel
set_option maxRecDepth 65536 in
theorem w_t6 : ((((((words1.drop 24).drop 24).drop 24).drop 24).drop 24).take 24).all (fun c => isCode c || c.before args0 about1) = true := by decide +kernel
set_option maxRecDepth 65536 in
theorem w_t7 : (((((((words1.drop 24).drop 24).drop 24).drop 24).drop 24).drop 24).take 24).all (fun c => isCode c || c.before args0 about1) = true := by decide +kernel
set_option maxRecDepth 65536 in
theorem w_t8 : ((((((((words1.drop 24).drop 24).drop 24).drop 24).drop 24).drop 24).drop 24).take 24).all (fun c => isCode c || c.before args0 about1) = true := by decide +kernel
set_option maxRecDepth 65536 in
theorem w_t9 : ((((((((words1.drop 24).drop 24).drop 24).drop 24).drop 24).drop 24).drop 24).drop 24).all (fun c => isCode c || c.before args0 about1) = true := by decide +kernel
theorem w_tables : (allAtoms (Jvm.Cond.code x code maxLocals ret :: tables_1)).before args0 about1 = true := by
  rw [allAtoms_all]
  show words1.all (fun c => c.before args0 about1) = true
  refine all_split ?_ w_codes
  rw [← List.take_append_drop 24 words1, List.all_append, w_t1, ← List.take_append_drop 24 (words1.drop 24), List.all_append, w_t2, ← List.take_append_drop 24 ((words1.drop 24).drop 24), List.all_append, w_t3, ← List.take_append_drop 24 (((words1.drop 24).drop 24).drop 24), List.all_append, w_t4, ← List.take_append_drop 24 ((((words1.drop 24).drop 24).drop 24).drop 24), List.all_append, w_t5, ← List.take_append_drop 24 (((((words1.drop 24).drop 24).drop 24).drop 24).drop 24), List.all_append, w_t6, ← List.take_append_drop 24 ((((((words1.drop 24).drop 24).drop 24).drop 24).drop 24).drop 24), List.all_append, w_t7, ← List.take_append_drop 24 (((((((words1.drop 24).drop 24).drop 24).drop 24).drop 24).drop 24).drop 24), List.all_append, w_t8, w_t9]
  rfl
set_option maxRecDepth 65536 in
theorem w_rest : rest_1_c.before args0 about1 = true := by decide +kernel
set_option maxRecDepth 65536 in
theorem w_case : (Jvm.Cond.and given_1 narrow_1).before args0 about1 = true := by decide +kernel
theorem w_applies : (headSpec (Jvm.Cond.code x code maxLocals ret :: tables_1) room_1).applies x e0.platform about1 = true :=
  (Spec.applies_iff w_frames).mpr ⟨w_running, w_runnable, w_alone, w_named, w_hears, w_ripe, w_room, w_tables⟩
theorem atStart : AtStart classFile x code maxLocals ret World_1 tables_1 room_1 Calls_1 rest_1 Pre_1 launch0 p0 e0 about1 theMethod args0 below0 :=
  ⟨lists_1, trivial, launch0.admits_env _ _ _, launch0.least_env, fairChoices_fair.cas, fairChoices_fair.clock, w_frames, w_args, w_heap, w_applies, trivial, w_rest, w_case⟩
end start1
theorem witness_1 : WitnessClaimed_1 := ⟨start1.p0, start1.e0, start1.about1, start1.theMethod, start1.args0, start1.below0, start1.atStart⟩
end Jvm.Pilot.@@N@@
