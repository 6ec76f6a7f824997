import JvmDerived
import JvmDerived.Pilot.@@N@@Statement
import JvmDerived.Pilot.@@N@@Code
set_option linter.unusedVariables false
set_option linter.unusedSimpArgs false
namespace Jvm.Own
open Jvm Jvm.ClassFile Sem Op Lib Jvm.Free Jvm.Stand Jvm.LawKit Jvm.RoadKit Bundle

/-! A plain machine: the few instructions that these classes use, over a heap of plain lists. -/
/-- an object (class number, fields in order) | an int array (false) or boolean array (true) | a long array -/
abbrev ACell := (Nat × List Value) ⊕ ((Bool × List Int32) ⊕ List Int64)
abbrev AHeap := List ACell
/-- instruction, length, variables forgotten ahead of it, link number, constant -/
abbrev It := Instr × Nat × List Bool × Nat × Int
/-- a field: name, descriptor, type, final -/
abbrev FD := String × String × FieldType × Bool
/-- a class: name, number of its slots, its fields -/
abbrev CD := String × Nat × List FD
/-- a method: name, bytes, variables, return type; kind (0 static, 1 constructor, 2 private, 3 virtual), parameters, class number, frames, words; code -/
abbrev MD := MethodName × ByteArray × Nat × Option FieldType × Nat × Nat × Nat × Nat × Nat × List (Nat × It)
/-- classes, methods, number of cells that are only read -/
abbrev PD := List CD × List MD × Nat
abbrev PD.cls (P : PD) : List CD := P.1
abbrev PD.mth (P : PD) : List MD := P.2.1
abbrev PD.nr (P : PD) : Nat := P.2.2
abbrev MD.name (d : MD) : MethodName := d.1
abbrev MD.bytes (d : MD) : ByteArray := d.2.1
abbrev MD.maxL (d : MD) : Nat := d.2.2.1
abbrev MD.ret (d : MD) : Option FieldType := d.2.2.2.1
abbrev MD.kind (d : MD) : Nat := d.2.2.2.2.1
abbrev MD.npar (d : MD) : Nat := d.2.2.2.2.2.1
abbrev MD.cid (d : MD) : Nat := d.2.2.2.2.2.2.1
abbrev MD.rf (d : MD) : Nat := d.2.2.2.2.2.2.2.1
abbrev MD.rw (d : MD) : Nat := d.2.2.2.2.2.2.2.2.1
abbrev MD.code (d : MD) : List (Nat × It) := d.2.2.2.2.2.2.2.2.2

def rdA {α : Type} (L : List α) (j : Int32) : Option α := if j < 0 then none else L[j.toNatClampNeg]?
def wrA {α : Type} (L : List α) (j : Int32) (x : α) : Option (List α) := if j < 0 then none else if j.toNatClampNeg < L.length then some (L.set j.toNatClampNeg x) else none
def getL (L : List Slot) (k : Nat) : Option Value := match L[k]? with | some (.val v) => some v | _ => none
def isC2 : Option Slot → Bool | some (.val v) => v.category == 2 | _ => false
def isSec : Option Slot → Bool | some .second => true | _ => false
def free1 : Option Slot → Bool | some .unset => true | some (.val v) => v.category == 1 | _ => false
def st1 (L : List Slot) (k : Nat) (v : Value) : Option (List Slot) :=
  if free1 L[k]? && (k == 0 || !isC2 L[k - 1]?) && !isSec L[k + 1]? then some (L.set k (.val v)) else none
def free2 : Option Slot → Option Slot → Bool | some .unset, some .unset => true | some (.val v), some .second => v.category == 2 | _, _ => false
def st2 (L : List Slot) (k : Nat) (v : Value) : Option (List Slot) :=
  if free2 L[k]? L[k + 1]? && (k == 0 || !isC2 L[k - 1]?) && !isSec L[k + 2]? then some ((L.set k (.val v)).set (k + 1) .second) else none
def forget : List Bool → List Slot → List Slot
  | [], L => L
  | _ :: _, [] => []
  | true :: r, _ :: L => .unset :: forget r L
  | false :: r, s :: L => s :: forget r L
def catSum : List Value → Nat
  | [] => 0
  | v :: r => v.category + catSum r
def entA : List Value → List Slot
  | [] => []
  | v :: r => if v.category = 2 then .val v :: .second :: entA r else .val v :: entA r
def entL (as : List Value) (n : Nat) : List Slot := entA as ++ List.replicate (n - (entA as).length) .unset
def putOk : FieldType → Value → Bool
  | .int, .int _ => true
  | .long, .long _ => true
  | .boolean, .int x => (x == 0) || (x == 1)
  | .array _, .ref _ => true
  | _, _ => false
def dflt : FieldType → Value
  | .long => .long 0
  | .array _ => .null
  | _ => .int 0
def dfOk : FieldType → Bool
  | .int => true
  | .boolean => true
  | .long => true
  | .array _ => true
  | _ => false
def tgt (pc : Nat) (o : Int) : Option Nat := if 0 ≤ (pc : Int) + o then some ((pc : Int) + o).toNat else none
def fetch : List (Nat × It) → Nat → Option It
  | [], _ => none
  | (q, i) :: r, pc => if q = pc then some i else fetch r pc
/-- one instruction that neither branches nor calls nor returns -/
def xI (P : PD) (ini : Bool) (cid : Nat) (i : Instr) (a : Nat) (b : Int) (L : List Slot) (S : List Value) (H : AHeap) : Option (List Slot × List Value × AHeap) :=
  match i with
  | .aload_n k => match getL L k.val with | some (.ref x) => some (L, .ref x :: S, H) | _ => none
  | .aload k => match getL L k with | some (.ref x) => some (L, .ref x :: S, H) | _ => none
  | .iload_n k => match getL L k.val with | some (.int x) => some (L, .int x :: S, H) | _ => none
  | .iload k => match getL L k with | some (.int x) => some (L, .int x :: S, H) | _ => none
  | .lload_n k => match getL L k.val with | some (.long x) => some (L, .long x :: S, H) | _ => none
  | .lload k => match getL L k with | some (.long x) => some (L, .long x :: S, H) | _ => none
  | .istore_n k => match S with | .int x :: S' => (st1 L k.val (.int x)).map fun L' => (L', S', H) | _ => none
  | .istore k => match S with | .int x :: S' => (st1 L k (.int x)).map fun L' => (L', S', H) | _ => none
  | .astore_n k => match S with | .ref x :: S' => (st1 L k.val (.ref x)).map fun L' => (L', S', H) | _ => none
  | .astore k => match S with | .ref x :: S' => (st1 L k (.ref x)).map fun L' => (L', S', H) | _ => none
  | .lstore_n k => match S with | .long x :: S' => (st2 L k.val (.long x)).map fun L' => (L', S', H) | _ => none
  | .lstore k => match S with | .long x :: S' => (st2 L k (.long x)).map fun L' => (L', S', H) | _ => none
  | .iinc k d => match getL L k with | some (.int x) => (st1 L k (.int (x + Int32.ofInt d))).map fun L' => (L', S, H) | _ => none
  | .iconst d => some (L, .int (Int32.ofInt d) :: S, H)
  | .bipush d => some (L, .int (Int8.ofInt d).toInt32 :: S, H)
  | .sipush d => some (L, .int (Int16.ofInt d).toInt32 :: S, H)
  | .lconst k => some (L, .long (Int64.ofNat k) :: S, H)
  | .ldc _ => some (L, .int (Int32.ofInt b) :: S, H)
  | .ldc2_w _ => some (L, .long (Int64.ofInt b) :: S, H)
  | .iadd => match S with | .int y :: .int x :: S' => some (L, .int (x + y) :: S', H) | _ => none
  | .isub => match S with | .int y :: .int x :: S' => some (L, .int (x - y) :: S', H) | _ => none
  | .imul => match S with | .int y :: .int x :: S' => some (L, .int (x * y) :: S', H) | _ => none
  | .iand => match S with | .int y :: .int x :: S' => some (L, .int (x &&& y) :: S', H) | _ => none
  | .ior => match S with | .int y :: .int x :: S' => some (L, .int (x ||| y) :: S', H) | _ => none
  | .ixor => match S with | .int y :: .int x :: S' => some (L, .int (x ^^^ y) :: S', H) | _ => none
  | .ishl => match S with | .int y :: .int x :: S' => some (L, .int (x <<< (y &&& 31)) :: S', H) | _ => none
  | .ishr => match S with | .int y :: .int x :: S' => some (L, .int (x >>> (y &&& 31)) :: S', H) | _ => none
  | .iushr => match S with | .int y :: .int x :: S' => some (L, .int (XT.ushr x y) :: S', H) | _ => none
  | .idiv => match S with | .int y :: .int x :: S' => if y = 0 then none else some (L, .int (x / y) :: S', H) | _ => none
  | .irem => match S with | .int y :: .int x :: S' => if y = 0 then none else some (L, .int (x % y) :: S', H) | _ => none
  | .ladd => match S with | .long y :: .long x :: S' => some (L, .long (x + y) :: S', H) | _ => none
  | .lsub => match S with | .long y :: .long x :: S' => some (L, .long (x - y) :: S', H) | _ => none
  | .lmul => match S with | .long y :: .long x :: S' => some (L, .long (x * y) :: S', H) | _ => none
  | .land => match S with | .long y :: .long x :: S' => some (L, .long (x &&& y) :: S', H) | _ => none
  | .lor => match S with | .long y :: .long x :: S' => some (L, .long (x ||| y) :: S', H) | _ => none
  | .lxor => match S with | .long y :: .long x :: S' => some (L, .long (x ^^^ y) :: S', H) | _ => none
  | .lshl => match S with | .int y :: .long x :: S' => some (L, .long (x <<< (y.toInt64 &&& 63)) :: S', H) | _ => none
  | .lshr => match S with | .int y :: .long x :: S' => some (L, .long (x >>> (y.toInt64 &&& 63)) :: S', H) | _ => none
  | .lushr => match S with | .int y :: .long x :: S' => some (L, .long (XT.ushrL x y) :: S', H) | _ => none
  | .ldiv => match S with | .long y :: .long x :: S' => if y = 0 then none else some (L, .long (x / y) :: S', H) | _ => none
  | .lrem => match S with | .long y :: .long x :: S' => if y = 0 then none else some (L, .long (x % y) :: S', H) | _ => none
  | .lcmp => match S with | .long y :: .long x :: S' => some (L, .int (XT.cmpL x y) :: S', H) | _ => none
  | .i2l => match S with | .int x :: S' => some (L, .long x.toInt64 :: S', H) | _ => none
  | .l2i => match S with | .long x :: S' => some (L, .int x.toInt32 :: S', H) | _ => none
  | .dup => match S with
    | .int x :: S' => some (L, .int x :: .int x :: S', H)
    | .ref x :: S' => some (L, .ref x :: .ref x :: S', H)
    | _ => none
  | .dup2 => match S with
    | .int x :: .ref y :: S' => some (L, .int x :: .ref y :: .int x :: .ref y :: S', H)
    | .long x :: S' => some (L, .long x :: .long x :: S', H)
    | _ => none
  | .pop => match S with | .int _ :: S' => some (L, S', H) | _ => none
  | .getfield _ => match S with
    | .ref o :: S' => match H[o]? with
      | some (.inl (c, fs)) => if c = cid then match fs[a]? with
        | some (.int x) => some (L, .int x :: S', H)
        | some (.long x) => some (L, .long x :: S', H)
        | some (.ref x) => some (L, .ref x :: S', H)
        | _ => none
        else none
      | _ => none
    | _ => none
  | .putfield _ => match S with
    | v :: .ref o :: S' => match H[o]? with
      | some (.inl (c, fs)) => if c = cid ∧ P.nr ≤ o then match (P.cls[c]?).bind fun cd => cd.2.2[a]? with
        | some (_, _, ty, fin) => if putOk ty v && (!fin || ini) then some (L, S', H.set o (.inl (c, fs.set a v))) else none
        | none => none
        else none
      | _ => none
    | _ => none
  | .iaload => match S with
    | .int j :: .ref o :: S' => match H[o]? with
      | some (.inr (.inl (false, A))) => (rdA A j).map fun x => (L, .int x :: S', H)
      | _ => none
    | _ => none
  | .baload => match S with
    | .int j :: .ref o :: S' => match H[o]? with
      | some (.inr (.inl (true, A))) => (rdA A j).map fun x => (L, .int x :: S', H)
      | _ => none
    | _ => none
  | .laload => match S with
    | .int j :: .ref o :: S' => match H[o]? with
      | some (.inr (.inr A)) => (rdA A j).map fun x => (L, .long x :: S', H)
      | _ => none
    | _ => none
  | .iastore => match S with
    | .int x :: .int j :: .ref o :: S' => match H[o]? with
      | some (.inr (.inl (false, A))) => if P.nr ≤ o then (wrA A j x).map fun A' => (L, S', H.set o (.inr (.inl (false, A')))) else none
      | _ => none
    | _ => none
  | .bastore => match S with
    | .int x :: .int j :: .ref o :: S' => match H[o]? with
      | some (.inr (.inl (true, A))) => if P.nr ≤ o then (wrA A j (x &&& 1)).map fun A' => (L, S', H.set o (.inr (.inl (true, A')))) else none
      | _ => none
    | _ => none
  | .lastore => match S with
    | .long x :: .int j :: .ref o :: S' => match H[o]? with
      | some (.inr (.inr A)) => if P.nr ≤ o then (wrA A j x).map fun A' => (L, S', H.set o (.inr (.inr A'))) else none
      | _ => none
    | _ => none
  | .arraylength => match S with
    | .ref o :: S' => match H[o]? with
      | some (.inr (.inl (_, A))) => some (L, .int A.length.toInt32 :: S', H)
      | _ => none
    | _ => none
  | _ => none
/-- one instruction that makes a cell: how many slots it takes stands last -/
def xN (P : PD) (i : Instr) (a : Nat) (S : List Value) (H : AHeap) : Option (List Value × AHeap × Nat) :=
  match i with
  | .new _ => match P.cls[a]? with
    | some cd => some (.ref H.length :: S, H ++ [.inl (a, cd.2.2.map fun f => dflt f.2.2.1)], cd.2.1)
    | none => none
  | .newarray t => match S with
    | .int n :: S' => if n < 0 ∨ 100000 < n.toNatClampNeg then none else match t with
      | .int => some (.ref H.length :: S', H ++ [.inr (.inl (false, List.replicate n.toNatClampNeg 0))], n.toNatClampNeg)
      | .boolean => some (.ref H.length :: S', H ++ [.inr (.inl (true, List.replicate n.toNatClampNeg 0))], n.toNatClampNeg)
      | .long => some (.ref H.length :: S', H ++ [.inr (.inr (List.replicate n.toNatClampNeg 0))], n.toNatClampNeg)
      | _ => none
    | _ => none
  | _ => none
/-- the words that a call from d to y asks -/
def fitsRoom (d y : MD) (rest : List Value) : Bool := decide (y.rf + 1 ≤ d.rf) && decide (catSum rest + (y.maxL + 11) + y.rw ≤ d.rw)
/-- the arguments of a call, first to last, and what lies under them -/
def argsOf (n : Nat) (S : List Value) : Option (List Value × List Value) := if n ≤ S.length then some ((S.take n).reverse, S.drop n) else none
def recvOk (P : PD) (H : AHeap) (y : MD) (as : List Value) : Bool :=
  if y.kind = 0 then true else match as with
    | .ref o :: _ => match H[o]? with
      | some (.inl (c, _)) => decide (c = y.cid)
      | _ => false
    | _ => false
def nargs (y : MD) : Nat := if y.kind = 0 then y.npar else y.npar + 1
def invKind (i : Instr) (k : Nat) : Bool := match i with
  | .invokestatic _ => k == 0
  | .invokespecial _ => k == 1
  | .invokevirtual _ => k == 2 || k == 3
  | _ => false
/-- what a method returns of an int on its stack -/
def retV (r : Option FieldType) (x : Int32) : Option Value := match r with
  | some .int => some (.int x)
  | some .boolean => some (.int (x &&& 1))
  | _ => none
def isInv : Instr → Bool
  | .invokestatic _ => true
  | .invokespecial _ => true
  | .invokevirtual _ => true
  | _ => false
def isNew : Instr → Bool
  | .new _ => true
  | .newarray _ => true
  | _ => false
/-- what a run answers: what it returns, the heap, how many cells and slots it has made -/
abbrev Res := Option Value × AHeap × Nat × Nat
def addR (r : Res) (kc ks : Nat) : Res := (r.1, r.2.1, r.2.2.1 + kc, r.2.2.2 + ks)
/-- n instructions at the most, from pc of method mi to its return -/
def exe (P : PD) : Nat → Nat → Nat → List Slot → List Value → AHeap → Option Res
  | 0, _, _, _, _, _ => none
  | n + 1, mi, pc, L0, S, H => match P.mth[mi]? with
    | none => none
    | some d => match fetch d.code pc with
      | none => none
      | some (i, len, er, a, b) =>
        let L := forget er L0
        match i with
        | .goto o => match tgt pc o with
          | some q => exe P n mi q L S H
          | none => none
        | .if_icmp cd o => match S with
          | .int y :: .int x :: S' => if if_icmp.holds cd x y = true then match tgt pc o with
              | some q => exe P n mi q L S' H
              | none => none
            else exe P n mi (pc + 3) L S' H
          | _ => none
        | .ifCond cd o => match S with
          | .int x :: S' => if ifCond.holds cd x = true then match tgt pc o with
              | some q => exe P n mi q L S' H
              | none => none
            else exe P n mi (pc + 3) L S' H
          | _ => none
        | .ifnonnull o => match S with
          | .ref _ :: S' => match tgt pc o with
            | some q => exe P n mi q L S' H
            | none => none
          | _ => none
        | .ireturn => match S with
          | [.int x] => match retV d.ret x with
            | some v => some (some v, H, 0, 0)
            | none => none
          | _ => none
        | .lreturn => match S with
          | [.long x] => if d.ret = some .long then some (some (.long x), H, 0, 0) else none
          | _ => none
        | .return_ => match S with
          | [] => if d.ret = none then some (none, H, 0, 0) else none
          | _ => none
        | i => if isInv i = true then
            if b = -1 then match i, S with
              | .invokespecial _, .ref _ :: S' => if 1 ≤ d.rf ∧ catSum S' + 12 ≤ d.rw then exe P n mi (pc + 3) L S' H else none
              | _, _ => none
            else match P.mth[a]? with
              | none => none
              | some y => match argsOf (nargs y) S with
                | none => none
                | some (as, rest) =>
                  if decide (0 < a) && invKind i y.kind && recvOk P H y as && fitsRoom d y rest && decide ((entA as).length ≤ y.maxL) then
                    match exe P n a 0 (entL as y.maxL) [] H with
                    | some (v, H1, kc, ks) => (exe P n mi (pc + 3) L (v.toList ++ rest) H1).map fun r => addR r kc ks
                    | none => none
                  else none
          else if isNew i = true then match xN P i a S H with
            | some (S', H', ks) => (exe P n mi (pc + len) L S' H').map fun r => addR r 1 ks
            | none => none
          else match xI P (d.name.name == "<init>") d.cid i a b L S H with
            | some (L', S', H') => exe P n mi (pc + len) L' S' H'
            | none => none
end Jvm.Own
namespace Jvm.Own
open Jvm Jvm.ClassFile Sem Op Lib Jvm.Free Jvm.Stand Jvm.LawKit Jvm.RoadKit Bundle

/-! The words that the machine's program rests on -/
def fWord (C : String) (f : FD) : Jvm.Cond := if f.2.2.2 then .laysFinal C C f.1 f.2.1 else .lays C C f.1 f.2.1
def cWords (cd : CD) : List Jvm.Cond := .instantiable cd.1 cd.2.1 :: .initialized cd.1 :: cd.2.2.map (fWord cd.1)
def mWords (y : MD) : List Jvm.Cond := .code y.name y.bytes y.maxL y.ret :: .initialized y.name.cls ::
  (if y.kind = 0 then [.static y.name] else if y.kind = 1 then [.instanceMethod y.name] else if y.kind = 2 then [.instanceMethod y.name, .privateMethod y.name]
   else [.declares y.name, .selects y.name.cls y.name y.name, .instanceMethod y.name])
def fieldOf (P : PD) (c a : Nat) : Option FD := (P.cls[c]?).bind fun cd => cd.2.2[a]?
def fLink (P : PD) (d : MD) (k a : Nat) : List Jvm.Cond := match fieldOf P d.cid a with | some f => [.fieldLink d.name.cls k d.name.cls f.1 f.2.1] | none => []
def mLink (P : PD) (d : MD) (k a : Nat) (b : Int) : List Jvm.Cond :=
  if b = -1 then [.methodLink d.name.cls k Lib.objectInit, .instanceMethod Lib.objectInit, .code Lib.objectInit ⟨#[0xb1]⟩ 1 none]
  else match P.mth[a]? with | some y => [.methodLink d.name.cls k y.name] | none => []
def iWords (P : PD) (d : MD) (x : Nat × It) : List Jvm.Cond := match x with
  | (_, .getfield k, _, _, a, _) => fLink P d k a
  | (_, .putfield k, _, _, a, _) => fLink P d k a
  | (_, .ldc k, _, _, _, b) => [.constant d.name.cls k (Int32.ofInt b)]
  | (_, .ldc2_w k, _, _, _, b) => [.constantLong d.name.cls k (Int64.ofInt b)]
  | (_, .new k, _, _, a, _) => match P.cls[a]? with | some cd => [.classLink d.name.cls k cd.1] | none => []
  | (_, .newarray t, _, _, _, _) => [.arrayClass (newarray.typeOf t)]
  | (_, .invokestatic k, _, _, a, b) => mLink P d k a b
  | (_, .invokespecial k, _, _, a, b) => mLink P d k a b
  | (_, .invokevirtual k, _, _, a, b) => mLink P d k a b
  | _ => []
def wordsOf (P : PD) : List Jvm.Cond := P.cls.flatMap cWords ++ (P.mth.drop 1).flatMap mWords ++ P.mth.flatMap fun d => d.code.flatMap (iWords P d)
/-! What can be looked up in the program itself -/
def nodup : List String → Bool
  | [] => true
  | x :: r => !r.contains x && nodup r
def fChk (f : FD) : Bool := decide (parseFieldDescriptor f.2.1 = some f.2.2.1) && dfOk f.2.2.1
def cChk (cd : CD) : Bool := nodup (cd.2.2.map fun f => f.1) && cd.2.2.all fChk
def sigChk (y : MD) : Bool := match parseMethodDescriptor y.name.desc with
  | some g => decide (g.parameters.length = y.npar)
  | none => false
def lenOk (i : Instr) (n : Nat) : Bool := match i with
  | .aload _ | .iload _ | .lload _ | .istore _ | .astore _ | .lstore _ | .bipush _ | .ldc _ | .newarray _ => n == 2
  | .iinc _ _ | .sipush _ | .ldc2_w _ | .getfield _ | .putfield _ | .new _ | .goto _ | .if_icmp _ _ | .ifCond _ _ | .ifnonnull _ | .invokestatic _ | .invokespecial _ | .invokevirtual _ => n == 3
  | _ => n == 1
def codeChk (y : MD) : Bool := y.code.all fun x => decide (decode y.bytes x.1 = .ok (x.2.1, x.2.2.1)) && lenOk x.2.1 x.2.2.1
def clsChk (P : PD) (y : MD) : Bool := match P.cls[y.cid]? with | some cd => cd.1 == y.name.cls | none => y.kind == 0
def mChk (P : PD) (y : MD) : Bool := plainName y.name.cls && sigChk y && codeChk y && clsChk P y && decide (y.name.cls ≠ "java/lang/invoke/MethodHandle") && decide (y.name.cls ≠ "java/lang/invoke/VarHandle") && (y.kind != 1 || (y.name.name == "<init>" && decide (y.ret = none)))
def chk (P : PD) : Bool := P.cls.all cChk && P.mth.all (mChk P)

/-! Plain and real values -/
def VR (ρ : List Addr) : Value → Value → Prop
  | .ref k, w => ∃ a, ρ[k]? = some a ∧ w = .ref a
  | v, w => w = v
def SR (ρ : List Addr) : List Value → List Value → Prop
  | [], ws => ws = []
  | v :: vs, ws => ∃ w ws', ws = w :: ws' ∧ VR ρ v w ∧ SR ρ vs ws'
def OV (ρ : List Addr) : Option Value → Option Value → Prop
  | none, w => w = none
  | some v, w => ∃ u, w = some u ∧ VR ρ v u
def WFc (A : Array Slot) : Prop := (∀ (i : Nat) w, A[i]? = some (.val w) → w.category = 2 → A[i + 1]? = some .second) ∧ ∀ (i : Nat), A[i]? = some .second → ∃ j w, i = j + 1 ∧ A[j]? = some (.val w) ∧ w.category = 2
def SlR (ρ : List Addr) : Slot → Option Slot → Prop
  | .unset, _ => True
  | .second, o => o = some .second
  | .val v, o => ∃ w, VR ρ v w ∧ o = some (.val w)
def LR (ρ : List Addr) (L : List Slot) (A : Array Slot) : Prop := A.size = L.length ∧ WFc A ∧ ∀ (i : Nat) s, L[i]? = some s → SlR ρ s A[i]?
theorem VR.mono {ρ t : List Addr} {v w : Value} (h : VR ρ v w) : VR (ρ ++ t) v w := by
  cases v <;> first | exact h | skip
  obtain ⟨a, h1, h2⟩ := h
  exact ⟨a, by rw [List.getElem?_append_left (List.getElem?_eq_some_iff.mp h1).1]; exact h1, h2⟩
theorem SR.mono {ρ t : List Addr} : ∀ {v w : List Value}, SR ρ v w → SR (ρ ++ t) v w
  | [], _, h => h
  | _ :: _, _, ⟨w, ws, h1, h2, h3⟩ => ⟨w, ws, h1, h2.mono, SR.mono h3⟩
theorem SlR.mono {ρ t : List Addr} {s : Slot} {o : Option Slot} (h : SlR ρ s o) : SlR (ρ ++ t) s o := by
  cases s with
  | unset => trivial
  | second => exact h
  | val v => obtain ⟨w, h1, h2⟩ := h; exact ⟨w, h1.mono, h2⟩
theorem LR.mono {ρ t : List Addr} {L : List Slot} {A : Array Slot} (h : LR ρ L A) : LR (ρ ++ t) L A := ⟨h.1, h.2.1, fun i s q => (h.2.2 i s q).mono⟩
theorem VR.cat {ρ : List Addr} {v w : Value} (h : VR ρ v w) : w.category = v.category := by
  cases v <;> first | (obtain ⟨a, -, rfl⟩ := h; rfl) | (cases h; rfl)
theorem SR.cat {ρ : List Addr} : ∀ {v w : List Value}, SR ρ v w → (w.map fun v => v.category).sum = catSum v
  | [], _, h => by cases h; rfl
  | _ :: _, _, ⟨w, ws, h1, h2, h3⟩ => by subst h1; simp [catSum, h2.cat, SR.cat h3]
theorem SR.len {ρ : List Addr} : ∀ {v w : List Value}, SR ρ v w → w.length = v.length
  | [], _, h => by cases h; rfl
  | _ :: _, _, ⟨w, ws, h1, h2, h3⟩ => by subst h1; simp [SR.len h3]
theorem SR.app {ρ : List Addr} : ∀ {v w v' w' : List Value}, SR ρ v w → SR ρ v' w' → SR ρ (v ++ v') (w ++ w')
  | [], _, _, _, h, h' => by cases h; exact h'
  | _ :: _, _, _, _, ⟨w, ws, h1, h2, h3⟩, h' => by subst h1; exact ⟨w, ws ++ _, rfl, h2, SR.app h3 h'⟩
theorem SR.rev {ρ : List Addr} : ∀ {v w : List Value}, SR ρ v w → SR ρ v.reverse w.reverse
  | [], _, h => by cases h; exact rfl
  | _ :: _, _, ⟨w, ws, h1, h2, h3⟩ => by subst h1; simp only [List.reverse_cons]; exact (SR.rev h3).app ⟨w, [], rfl, h2, rfl⟩
theorem SR.take {ρ : List Addr} : ∀ (n : Nat) {v w : List Value}, SR ρ v w → SR ρ (v.take n) (w.take n)
  | 0, _, _, _ => rfl
  | n + 1, [], _, h => by cases h; exact rfl
  | n + 1, _ :: _, _, ⟨w, ws, h1, h2, h3⟩ => by subst h1; exact ⟨w, _, rfl, h2, SR.take n h3⟩
theorem SR.drop {ρ : List Addr} : ∀ (n : Nat) {v w : List Value}, SR ρ v w → SR ρ (v.drop n) (w.drop n)
  | 0, _, _, h => h
  | n + 1, [], _, h => by cases h; exact rfl
  | n + 1, _ :: _, _, ⟨w, ws, h1, h2, h3⟩ => by subst h1; exact SR.drop n h3
theorem OV.list {ρ : List Addr} {v w : Option Value} (h : OV ρ v w) : SR ρ v.toList w.toList := by
  cases v with
  | none => cases h; exact rfl
  | some v => obtain ⟨u, rfl, h⟩ := h; exact ⟨u, [], rfl, h, rfl⟩
theorem LR.get {ρ : List Addr} {L : List Slot} {A : Array Slot} (h : LR ρ L A) {k : Nat} {v : Value} (g : getL L k = some v) : ∃ w, VR ρ v w ∧ A[k]? = some (.val w) := by
  unfold getL at g
  split at g
  · rename_i u q
    cases g
    exact h.2.2 k _ q
  · cases g
theorem forget_get : ∀ (er : List Bool) (L : List Slot) (i : Nat) (s : Slot), (forget er L)[i]? = some s → s = .unset ∨ L[i]? = some s
  | [], L, i, s, h => Or.inr h
  | _ :: _, [], i, s, h => by simp [forget] at h
  | true :: r, t :: L, 0, s, h => by simp [forget] at h; exact Or.inl h.symm
  | false :: r, t :: L, 0, s, h => by simp [forget] at h; exact Or.inr (by simp [h])
  | true :: r, t :: L, i + 1, s, h => by simp [forget] at h; simpa using forget_get r L i s h
  | false :: r, t :: L, i + 1, s, h => by simp [forget] at h; simpa using forget_get r L i s h
theorem forget_len : ∀ (er : List Bool) (L : List Slot), (forget er L).length = L.length
  | [], _ => rfl
  | _ :: _, [] => rfl
  | true :: r, _ :: L => by simp [forget, forget_len r L]
  | false :: r, _ :: L => by simp [forget, forget_len r L]
theorem LR.forget {ρ : List Addr} {A : Array Slot} (er : List Bool) {L : List Slot} (h : LR ρ L A) : LR ρ (forget er L) A :=
  ⟨by rw [forget_len]; exact h.1, h.2.1, fun i s q => by
    rcases forget_get er L i s q with rfl | z
    · trivial
    · exact h.2.2 i s z⟩
/-! Stores -/
theorem setAt_ok {A : Array Slot} {i : Nat} (h : i < A.size) (x : Slot) : setAt A i x = some (A.setIfInBounds i x) := by simp [setAt, h]
theorem get_set (A : Array Slot) (i j : Nat) (x : Slot) : (A.setIfInBounds i x)[j]? = if i = j then (if i < A.size then some x else none) else A[j]? := by
  rw [Array.getElem?_setIfInBounds]
theorem sl_unset {A : Array Slot} {k : Nat} {w : Value} (h : A[k]? = some .unset) : storeLocals A k w = storeSelf A k w := by
  unfold storeLocals; rw [h]; rfl
theorem sl_second {A : Array Slot} {k : Nat} {w : Value} (h : A[k]? = some .second) (hk : k - 1 < A.size) : storeLocals A k w = storeSelf (A.setIfInBounds (k - 1) .unset) k w := by
  unfold storeLocals; rw [h]
  show (setAt A (k - 1) .unset).bind _ = _
  rw [setAt_ok hk]; rfl
theorem sl_val2 {A : Array Slot} {k : Nat} {w u : Value} (h : A[k]? = some (.val u)) (hu : u.category = 2) (hk : k + 1 < A.size) : storeLocals A k w = storeSelf (A.setIfInBounds (k + 1) .unset) k w := by
  unfold storeLocals; rw [h]
  show (if u.category = 2 then (setAt A (k + 1) .unset).bind _ else _) = _
  rw [if_pos hu, setAt_ok hk]; rfl
theorem sl_val1 {A : Array Slot} {k : Nat} {w u : Value} (h : A[k]? = some (.val u)) (hu : ¬ u.category = 2) : storeLocals A k w = storeSelf A k w := by
  unfold storeLocals; rw [h]
  show (if u.category = 2 then (setAt A (k + 1) .unset).bind _ else _) = _
  rw [if_neg hu]
theorem ss_1 {A : Array Slot} {k : Nat} {w : Value} (hk : k < A.size) (hw : ¬ w.category = 2) : storeSelf A k w = some (A.setIfInBounds k (.val w)) := by
  unfold storeSelf; rw [setAt_ok hk]
  show (if w.category = 2 then _ else _) = _
  rw [if_neg hw]
theorem ss_2c {A : Array Slot} {k : Nat} {w u : Value} (hk : k < A.size) (hk1 : k + 1 < A.size) (hk2 : k + 2 < A.size) (hw : w.category = 2) (h : (A.setIfInBounds k (.val w))[k + 1]? = some (.val u)) (hu : u.category = 2) : storeSelf A k w = some (((A.setIfInBounds k (.val w)).setIfInBounds (k + 2) .unset).setIfInBounds (k + 1) .second) := by
  unfold storeSelf; rw [setAt_ok hk]
  show (if w.category = 2 then _ else _) = _
  rw [if_pos hw, h]
  show (if u.category = 2 then (setAt _ (k + 2) .unset).bind _ else _) = _
  rw [if_pos hu, setAt_ok (by simpa using hk2)]
  exact setAt_ok (by simpa using hk1) _
theorem ss_2 {A : Array Slot} {k : Nat} {w : Value} {o : Slot} (hk : k < A.size) (hk1 : k + 1 < A.size) (hw : w.category = 2) (h : (A.setIfInBounds k (.val w))[k + 1]? = some o) (ho : ¬ ∃ u, o = .val u ∧ u.category = 2) : storeSelf A k w = some ((A.setIfInBounds k (.val w)).setIfInBounds (k + 1) .second) := by
  unfold storeSelf; rw [setAt_ok hk]
  show (if w.category = 2 then _ else _) = _
  rw [if_pos hw, h]
  cases o with
  | unset => exact setAt_ok (by simpa using hk1) _
  | second => exact setAt_ok (by simpa using hk1) _
  | val u =>
    show (if u.category = 2 then _ else _) = _
    rw [if_neg fun z => ho ⟨u, rfl, z⟩]
    exact setAt_ok (by simpa using hk1) _
theorem store1_sim {ρ : List Addr} {L : List Slot} {A : Array Slot} (h : LR ρ L A) {k : Nat} {v w : Value} {L' : List Slot} (hs : st1 L k v = some L') (hv : VR ρ v w) (hc : w.category = 1) : ∃ A', storeLocals A k w = some A' ∧ LR ρ L' A' := by
  unfold st1 at hs
  split at hs
  · rename_i q
    cases hs
    simp only [Bool.and_eq_true] at q
    obtain ⟨⟨q1, q2⟩, q3⟩ := q
    obtain ⟨hA, ⟨w1, w2⟩, hl⟩ := h
    have hk : k < L.length := by
      rcases Nat.lt_or_ge k L.length with z | z
      · exact z
      · rw [List.getElem?_eq_none z] at q1; cases q1
    have hkA : k < A.size := hA ▸ hk
    obtain ⟨sl, hsl⟩ : ∃ sl, A[k]? = some sl := ⟨A[k], Array.getElem?_eq_getElem hkA⟩
    have hc2 : ¬ w.category = 2 := by rw [hc]; decide
    classical
    have key : ∃ A', storeLocals A k w = some A' ∧ A'.size = A.size ∧ (∀ j, A'[j]? = if j = k then some (.val w) else if (sl = .second ∧ j + 1 = k) ∨ ((∃ u, sl = .val u ∧ u.category = 2) ∧ j = k + 1) then some .unset else A[j]?) := by
      cases sl with
      | unset =>
        refine ⟨A.setIfInBounds k (.val w), by rw [sl_unset hsl]; exact ss_1 hkA hc2, by simp, fun j => ?_⟩
        rw [get_set]
        by_cases e : k = j
        · subst e; simp [hkA]
        · have e' : ¬ j = k := fun z => e z.symm
          simp [e, e']
      | second =>
        obtain ⟨j0, u, rfl, g1, g2⟩ := w2 k hsl
        refine ⟨(A.setIfInBounds j0 .unset).setIfInBounds (j0 + 1) (.val w), by rw [sl_second hsl (show j0 + 1 - 1 < A.size by omega)]; exact ss_1 (by simpa using hkA) hc2, by simp, fun j => ?_⟩
        rw [get_set, get_set]
        by_cases e : j0 + 1 = j
        · subst e; simp [hkA]
        · by_cases e2 : j0 = j
          · subst e2; simp; omega
          · have e' : ¬ j = j0 + 1 := fun z => e z.symm
            have e2' : ¬ j = j0 := fun z => e2 z.symm
            simp [e, e', e2, e2']
      | val u =>
        by_cases hu : u.category = 2
        · have g := w1 k u hsl hu
          have hk1 : k + 1 < A.size := (Array.getElem?_eq_some_iff.mp g).1
          refine ⟨(A.setIfInBounds (k + 1) .unset).setIfInBounds k (.val w), by rw [sl_val2 hsl hu hk1]; exact ss_1 (by simpa using hkA) hc2, by simp, fun j => ?_⟩
          rw [get_set, get_set]
          by_cases e : k = j
          · subst e; simp [hkA]
          · have e' : ¬ j = k := fun z => e z.symm
            by_cases e2 : k + 1 = j
            · subst e2; simp [hk1, hu]
            · have e2' : ¬ j = k + 1 := fun z => e2 z.symm
              simp [e, e', e2, e2']
        · refine ⟨A.setIfInBounds k (.val w), by rw [sl_val1 hsl hu]; exact ss_1 hkA hc2, by simp, fun j => ?_⟩
          rw [get_set]
          by_cases e : k = j
          · subst e; simp [hkA]
          · have e' : ¬ j = k := fun z => e z.symm
            simp [e, e', hu]
    obtain ⟨A', k1, k2, k3⟩ := key
    refine ⟨A', k1, by rw [k2, hA]; simp, ⟨fun i u g1 g2 => ?_, fun i g1 => ?_⟩, fun i s g => ?_⟩
    · rw [k3] at g1
      split at g1
      · cases g1; exact absurd g2 hc2
      · rename_i e1
        split at g1
        · cases g1
        · rename_i e2
          have g3 := w1 i u g1 g2
          rw [k3]
          split
          · rename_i e3
            have : sl = .second := by rw [← e3] at hsl; exact Option.some.inj (hsl.symm.trans g3)
            exact absurd (Or.inl ⟨this, e3⟩) e2
          · rename_i e3
            split
            · rename_i e4
              rcases e4 with ⟨z1, z2⟩ | ⟨⟨u', z1, z2⟩, z3⟩
              · exfalso
                have : k = i + 1 + 1 := z2.symm
                subst this
                rw [z1] at hsl
                obtain ⟨j0, u0, y1, y2, y3⟩ := w2 _ hsl
                have : j0 = i + 1 := by omega
                subst this
                rw [g3] at y2; cases y2
              · exact absurd (by omega) e1
            · exact g3
    · rw [k3] at g1
      split at g1
      · cases g1
      · rename_i e1
        split at g1
        · cases g1
        · rename_i e2
          obtain ⟨j, u, z1, z2, z3⟩ := w2 i g1
          refine ⟨j, u, z1, ?_, z3⟩
          rw [k3]
          split
          · rename_i e3
            subst e3
            have : sl = .val u := Option.some.inj (hsl.symm.trans z2)
            exact absurd (Or.inr ⟨⟨u, this, z3⟩, z1⟩) e2
          · split
            · rename_i e3 e4
              rcases e4 with ⟨y1, y2⟩ | ⟨⟨u', y1, y2⟩, y3⟩
              · exact absurd (z1.trans y2) e1
              · subst y3
                have g5 := w1 k u' (y1 ▸ hsl) y2
                rw [z2] at g5; cases g5
            · exact z2
    · rw [List.getElem?_set] at g
      split at g
      · rename_i e
        subst e
        cases g
        exact ⟨w, hv, by rw [k3]; simp⟩
      · rename_i e
        have e' : ¬ i = k := fun z => e z.symm
        have g2 := hl i s g
        rw [k3, if_neg e']
        split
        · rename_i e4
          cases s with
          | unset => trivial
          | second =>
            exfalso
            have g2' : A[i]? = some .second := g2
            rcases e4 with ⟨y1, y2⟩ | ⟨⟨u', y1, y2⟩, y3⟩
            · obtain ⟨j0, u0, x1, x2, x3⟩ := w2 k (y1 ▸ hsl)
              have : i = j0 := by omega
              subst this
              rw [x2] at g2'; cases g2'
            · subst y3
              rw [g] at q3
              simp [isSec] at q3
          | val v0 =>
            exfalso
            obtain ⟨w0, x1, x2⟩ := g2
            rcases e4 with ⟨y1, y2⟩ | ⟨⟨u', y1, y2⟩, y3⟩
            · obtain ⟨j0, u0, z1, z2, z3⟩ := w2 k (y1 ▸ hsl)
              have : i = j0 := by omega
              subst this
              have hw0 : w0 = u0 := by rw [x2] at z2; cases z2; rfl
              have hcat : v0.category = 2 := by rw [← x1.cat, hw0]; exact z3
              subst y2
              have : L[i + 1 - 1]? = some (.val v0) := g
              rw [this] at q2
              simp [isC2, hcat] at q2
            · subst y3
              have g5 := w1 k u' (y1 ▸ hsl) y2
              rw [x2] at g5; cases g5
        · exact g2
  · cases hs
end Jvm.Own
namespace Jvm.Own
open Jvm Jvm.ClassFile Sem Op Lib Jvm.Free Jvm.Stand Jvm.LawKit Jvm.RoadKit Bundle
theorem store2_sim {ρ : List Addr} {L : List Slot} {A : Array Slot} (h : LR ρ L A) {k : Nat} {v w : Value} {L' : List Slot} (hs : st2 L k v = some L') (hv : VR ρ v w) (hc : w.category = 2) : ∃ A', storeLocals A k w = some A' ∧ LR ρ L' A' := by
  unfold st2 at hs
  split at hs
  · rename_i q
    cases hs
    simp only [Bool.and_eq_true] at q
    obtain ⟨⟨q1, q2⟩, q3⟩ := q
    obtain ⟨hA, ⟨w1, w2⟩, hl⟩ := h
    have hk1 : k + 1 < L.length := by
      rcases Nat.lt_or_ge (k + 1) L.length with z | z
      · exact z
      · rw [List.getElem?_eq_none z] at q1
        cases h0 : L[k]? with
        | none => rw [h0] at q1; cases q1
        | some s0 => rw [h0] at q1; cases s0 <;> cases q1
    have hk : k < L.length := by omega
    have hkA : k < A.size := hA ▸ hk
    have hkA1 : k + 1 < A.size := hA ▸ hk1
    obtain ⟨sl, hsl⟩ : ∃ sl, A[k]? = some sl := ⟨A[k], Array.getElem?_eq_getElem hkA⟩
    obtain ⟨sm, hsm⟩ : ∃ sm, A[k + 1]? = some sm := ⟨A[k + 1], Array.getElem?_eq_getElem hkA1⟩
    have n1 : ¬ k = k + 1 := by omega
    have n2 : ¬ k + 2 = k + 1 := by omega
    have n3 : ¬ k + 2 = k := by omega
    classical
    have key : ∃ A', storeLocals A k w = some A' ∧ A'.size = A.size ∧ (∀ j, A'[j]? = if j = k then some (.val w) else if j = k + 1 then some .second else if (sl = .second ∧ j + 1 = k) ∨ ((∃ u, sm = .val u ∧ u.category = 2) ∧ j = k + 2) then some .unset else A[j]?) := by
      by_cases hm : ∃ u, sm = .val u ∧ u.category = 2
      · obtain ⟨u, rfl, hu⟩ := hm
        have g := w1 (k + 1) u hsm hu
        have hk2 : k + 2 < A.size := (Array.getElem?_eq_some_iff.mp g).1
        cases sl with
        | unset =>
          refine ⟨((A.setIfInBounds k (.val w)).setIfInBounds (k + 2) .unset).setIfInBounds (k + 1) .second, ?_, by simp, fun j => ?_⟩
          · rw [sl_unset hsl]; exact ss_2c hkA hkA1 hk2 hc (by rw [get_set, if_neg n1]; exact hsm) hu
          · rw [get_set, get_set, get_set]
            by_cases e0 : j = k
            · subst e0; simp [hkA]
            · by_cases e1 : j = k + 1
              · subst e1; simp [hkA1]
              · by_cases e2 : j = k + 2
                · subst e2; simp [hk2, hu]
                · have e0' : ¬ k = j := fun z => e0 z.symm
                  have e1' : ¬ k + 1 = j := fun z => e1 z.symm
                  have e2' : ¬ k + 2 = j := fun z => e2 z.symm
                  simp [e0, e1, e2, e0', e1', e2']
        | second =>
          obtain ⟨j0, u0, rfl, g1, g2⟩ := w2 k hsl
          have hj0 : j0 < A.size := by omega
          refine ⟨(((A.setIfInBounds j0 .unset).setIfInBounds (j0 + 1) (.val w)).setIfInBounds (j0 + 1 + 2) .unset).setIfInBounds (j0 + 1 + 1) .second, ?_, by simp, fun j => ?_⟩
          · have m1 : ¬ j0 + 1 = j0 + 1 + 1 := by omega
            have m2 : ¬ j0 = j0 + 1 + 1 := by omega
            rw [sl_second hsl (show j0 + 1 - 1 < A.size by omega)]
            exact ss_2c (by simpa using hkA) (by simpa using hkA1) (by simpa using hk2) hc (by rw [get_set, if_neg m1, get_set, if_neg (by omega)]; exact hsm) hu
          · rw [get_set, get_set, get_set, get_set]
            by_cases e0 : j = j0 + 1
            · subst e0; simp [hkA]
            · by_cases e1 : j = j0 + 1 + 1
              · subst e1; simp [hkA1]
              · by_cases e2 : j = j0 + 1 + 2
                · subst e2; simp [hk2, hu]
                · by_cases e3 : j = j0
                  · subst e3
                    rw [if_neg (by omega), if_neg (by omega), if_neg (by omega), if_pos rfl, if_pos hj0, if_neg (by omega), if_neg (by omega), if_pos (Or.inl ⟨rfl, rfl⟩)]
                  · have e0' : ¬ j0 + 1 = j := fun z => e0 z.symm
                    have e1' : ¬ j0 + 1 + 1 = j := fun z => e1 z.symm
                    have e2' : ¬ j0 + 1 + 2 = j := fun z => e2 z.symm
                    have e3' : ¬ j0 = j := fun z => e3 z.symm
                    simp [e0, e1, e2, e3, e0', e1', e2', e3']
        | val u1 =>
          have hu1 : ¬ u1.category = 2 := fun z => by have := w1 k u1 hsl z; rw [hsm] at this; cases this
          refine ⟨((A.setIfInBounds k (.val w)).setIfInBounds (k + 2) .unset).setIfInBounds (k + 1) .second, ?_, by simp, fun j => ?_⟩
          · rw [sl_val1 hsl hu1]; exact ss_2c hkA hkA1 hk2 hc (by rw [get_set, if_neg n1]; exact hsm) hu
          · rw [get_set, get_set, get_set]
            by_cases e0 : j = k
            · subst e0; simp [hkA]
            · by_cases e1 : j = k + 1
              · subst e1; simp [hkA1]
              · by_cases e2 : j = k + 2
                · subst e2; simp [hk2, hu]
                · have e0' : ¬ k = j := fun z => e0 z.symm
                  have e1' : ¬ k + 1 = j := fun z => e1 z.symm
                  have e2' : ¬ k + 2 = j := fun z => e2 z.symm
                  simp [e0, e1, e2, e0', e1', e2']
      · cases sl with
        | unset =>
          refine ⟨(A.setIfInBounds k (.val w)).setIfInBounds (k + 1) .second, ?_, by simp, fun j => ?_⟩
          · rw [sl_unset hsl]; exact ss_2 hkA hkA1 hc (by rw [get_set, if_neg n1]; exact hsm) hm
          · rw [get_set, get_set]
            by_cases e0 : j = k
            · subst e0; simp [hkA]
            · by_cases e1 : j = k + 1
              · subst e1; simp [hkA1]
              · have e0' : ¬ k = j := fun z => e0 z.symm
                have e1' : ¬ k + 1 = j := fun z => e1 z.symm
                simp [e0, e1, e0', e1', hm]
        | second =>
          obtain ⟨j0, u0, rfl, g1, g2⟩ := w2 k hsl
          have hj0 : j0 < A.size := by omega
          have m1 : ¬ j0 + 1 = j0 + 1 + 1 := by omega
          have m2 : ¬ j0 = j0 + 1 + 1 := by omega
          refine ⟨((A.setIfInBounds j0 .unset).setIfInBounds (j0 + 1) (.val w)).setIfInBounds (j0 + 1 + 1) .second, ?_, by simp, fun j => ?_⟩
          · rw [sl_second hsl (show j0 + 1 - 1 < A.size by omega)]
            exact ss_2 (by simpa using hkA) (by simpa using hkA1) hc (by rw [get_set, if_neg m1, get_set, if_neg (by omega)]; exact hsm) hm
          · rw [get_set, get_set, get_set]
            by_cases e0 : j = j0 + 1
            · subst e0; simp [hkA]
            · by_cases e1 : j = j0 + 1 + 1
              · subst e1; simp [hkA1]
              · by_cases e3 : j = j0
                · subst e3
                  rw [if_neg (by omega), if_neg (by omega), if_pos rfl, if_pos hj0, if_neg (by omega), if_neg (by omega), if_pos (Or.inl ⟨rfl, rfl⟩)]
                · have e0' : ¬ j0 + 1 = j := fun z => e0 z.symm
                  have e1' : ¬ j0 + 1 + 1 = j := fun z => e1 z.symm
                  have e3' : ¬ j0 = j := fun z => e3 z.symm
                  simp [e0, e1, e3, e0', e1', e3', hm]
        | val u1 =>
          by_cases hu1 : u1.category = 2
          · refine ⟨((A.setIfInBounds (k + 1) .unset).setIfInBounds k (.val w)).setIfInBounds (k + 1) .second, ?_, by simp, fun j => ?_⟩
            · rw [sl_val2 hsl hu1 hkA1]
              exact ss_2 (o := .unset) (by simpa using hkA) (by simpa using hkA1) hc (by rw [get_set, if_neg n1, get_set, if_pos rfl, if_pos hkA1]) (by rintro ⟨u, z, -⟩; cases z)
            · rw [get_set, get_set, get_set]
              by_cases e0 : j = k
              · subst e0; simp [hkA]
              · by_cases e1 : j = k + 1
                · subst e1; simp [hkA1]
                · have e0' : ¬ k = j := fun z => e0 z.symm
                  have e1' : ¬ k + 1 = j := fun z => e1 z.symm
                  simp [e0, e1, e0', e1', hm]
          · refine ⟨(A.setIfInBounds k (.val w)).setIfInBounds (k + 1) .second, ?_, by simp, fun j => ?_⟩
            · rw [sl_val1 hsl hu1]; exact ss_2 hkA hkA1 hc (by rw [get_set, if_neg n1]; exact hsm) hm
            · rw [get_set, get_set]
              by_cases e0 : j = k
              · subst e0; simp [hkA]
              · by_cases e1 : j = k + 1
                · subst e1; simp [hkA1]
                · have e0' : ¬ k = j := fun z => e0 z.symm
                  have e1' : ¬ k + 1 = j := fun z => e1 z.symm
                  simp [e0, e1, e0', e1', hm]
    obtain ⟨A', k1, k2, k3⟩ := key
    refine ⟨A', k1, by rw [k2, hA]; simp, ⟨fun i u g1 g2 => ?_, fun i g1 => ?_⟩, fun i s g => ?_⟩
    · by_cases e1 : i = k
      · subst e1; rw [k3]; simp
      · have g1' := g1
        rw [k3, if_neg e1] at g1'
        split at g1'
        · cases g1'
        · rename_i e2
          split at g1'
          · cases g1'
          · rename_i e4
            have g3 := w1 i u g1' g2
            rw [k3]
            have c1 : ¬ i + 1 = k := fun e3 => by
              have : sl = .second := by rw [← e3] at hsl; exact Option.some.inj (hsl.symm.trans g3)
              exact e4 (Or.inl ⟨this, e3⟩)
            have c2 : ¬ i + 1 = k + 1 := by omega
            have c3 : ¬ ((sl = .second ∧ i + 1 + 1 = k) ∨ ((∃ u, sm = .val u ∧ u.category = 2) ∧ i + 1 = k + 2)) := fun z => by
              rcases z with ⟨z1, z2⟩ | ⟨z1, z2⟩
              · subst z2
                rw [z1] at hsl
                obtain ⟨j0, u0, y1, y2, y3⟩ := w2 _ hsl
                have : j0 = i + 1 := by omega
                subst this
                rw [g3] at y2; cases y2
              · omega
            rw [if_neg c1, if_neg c2, if_neg c3]
            exact g3
    · rw [k3] at g1
      split at g1
      · cases g1
      · rename_i e1
        split at g1
        · rename_i e2
          exact ⟨k, w, e2, by rw [k3]; simp, hc⟩
        · rename_i e2
          split at g1
          · cases g1
          · rename_i e4
            obtain ⟨j, u, z1, z2, z3⟩ := w2 i g1
            refine ⟨j, u, z1, ?_, z3⟩
            rw [k3]
            have c1 : ¬ j = k := by omega
            have c2 : ¬ j = k + 1 := fun e => by
              subst e
              exact e4 (Or.inr ⟨⟨u, Option.some.inj (hsm.symm.trans z2), z3⟩, by omega⟩)
            have c3 : ¬ ((sl = .second ∧ j + 1 = k) ∨ ((∃ u, sm = .val u ∧ u.category = 2) ∧ j = k + 2)) := fun z => by
              rcases z with ⟨y1, y2⟩ | ⟨⟨u', y1, y2⟩, y3⟩
              · exact e1 (z1.trans y2)
              · subst y3
                have g5 := w1 (k + 1) u' (y1 ▸ hsm) y2
                rw [z2] at g5; cases g5
            rw [if_neg c1, if_neg c2, if_neg c3]
            exact z2
    · rw [List.getElem?_set] at g
      split at g
      · rename_i e
        subst e
        have : k + 1 < (L.set k (.val v)).length := by simp [hk1]
        rw [if_pos this] at g
        cases g
        show A'[k + 1]? = some .second
        rw [k3]; simp
      · rename_i e
        have e' : ¬ i = k + 1 := fun z => e z.symm
        rw [List.getElem?_set] at g
        split at g
        · rename_i e0
          subst e0
          cases g
          exact ⟨w, hv, by rw [k3]; simp⟩
        · rename_i e0
          have e0' : ¬ i = k := fun z => e0 z.symm
          have g2 := hl i s g
          rw [k3, if_neg e0', if_neg e']
          split
          · rename_i e4
            cases s with
            | unset => trivial
            | second =>
              exfalso
              have g2' : A[i]? = some .second := g2
              rcases e4 with ⟨y1, y2⟩ | ⟨⟨u', y1, y2⟩, y3⟩
              · obtain ⟨j0, u0, x1, x2, x3⟩ := w2 k (y1 ▸ hsl)
                have : i = j0 := by omega
                subst this
                rw [x2] at g2'; cases g2'
              · subst y3
                rw [g] at q3
                simp [isSec] at q3
            | val v0 =>
              exfalso
              obtain ⟨w0, x1, x2⟩ := g2
              rcases e4 with ⟨y1, y2⟩ | ⟨⟨u', y1, y2⟩, y3⟩
              · obtain ⟨j0, u0, z1, z2, z3⟩ := w2 k (y1 ▸ hsl)
                have : i = j0 := by omega
                subst this
                have hw0 : w0 = u0 := by rw [x2] at z2; cases z2; rfl
                have hcat : v0.category = 2 := by rw [← x1.cat, hw0]; exact z3
                subst y2
                have : L[i + 1 - 1]? = some (.val v0) := g
                rw [this] at q2
                simp [isC2, hcat] at q2
              · subst y3
                have g5 := w1 (k + 1) u' (y1 ▸ hsm) y2
                rw [x2] at g5; cases g5
          · exact g2
  · cases hs
/-! The frame with which a method is entered -/
theorem entA_app (ws : List Value) : ∀ acc : Array Slot, ws.foldl (fun acc v => if v.category = 2 then (acc.push (.val v)).push .second else acc.push (.val v)) acc = acc ++ (entA ws).toArray := by
  induction ws with
  | nil => intro acc; simp [entA]
  | cons v r ih =>
    intro acc
    rw [List.foldl_cons, ih]
    show _ = acc ++ (if v.category = 2 then .val v :: .second :: entA r else .val v :: entA r).toArray
    by_cases h : v.category = 2
    · rw [if_pos h, if_pos h]; simp
    · rw [if_neg h, if_neg h]; simp
theorem argsToLocals_eq (ws : List Value) (n : Nat) : argsToLocals ws.toArray n = (entL ws n).toArray := by
  unfold argsToLocals entL
  have h := entA_app ws #[]
  simp only [List.foldl_toArray', List.size_toArray] at *
  simp [h]
theorem entA_len {ρ : List Addr} : ∀ {v w : List Value}, SR ρ v w → (entA w).length = (entA v).length
  | [], _, h => by cases h; rfl
  | _ :: _, _, ⟨w, ws, h1, h2, h3⟩ => by
    subst h1
    unfold entA
    rw [h2.cat]
    split <;> simp [entA_len h3]
theorem entA_rel {ρ : List Addr} : ∀ {v w : List Value}, SR ρ v w → ∀ (m i : Nat) (s : Slot), (entA v ++ List.replicate m .unset)[i]? = some s → SlR ρ s (entA w ++ List.replicate m .unset)[i]?
  | [], _, h, m, i, s, q => by
    cases h
    simp only [entA, List.nil_append] at q ⊢
    rw [List.getElem?_replicate] at q
    split at q
    · cases q; trivial
    · cases q
  | v :: vs, _, ⟨w, ws, h1, h2, h3⟩, m, i, s, q => by
    subst h1
    unfold entA at q ⊢
    rw [h2.cat]
    split
    · rename_i c
      rw [if_pos c] at q
      match i, q with
      | 0, q => simp at q; subst q; exact ⟨w, h2, by simp⟩
      | 1, q => simp at q; subst q; simp [SlR]
      | i + 2, q => simp at q ⊢; exact entA_rel h3 m i s q
    · rename_i c
      rw [if_neg c] at q
      match i, q with
      | 0, q => simp at q; subst q; exact ⟨w, h2, by simp⟩
      | i + 1, q => simp at q ⊢; exact entA_rel h3 m i s q
theorem entA_wf : ∀ (ws : List Value) (m : Nat), (∀ (i : Nat) w, (entA ws ++ List.replicate m .unset)[i]? = some (.val w) → w.category = 2 → (entA ws ++ List.replicate m .unset)[i + 1]? = some .second) ∧
    ∀ (i : Nat), (entA ws ++ List.replicate m .unset)[i]? = some .second → ∃ j w, i = j + 1 ∧ (entA ws ++ List.replicate m .unset)[j]? = some (.val w) ∧ w.category = 2
  | [], m => by
    constructor
    · intro i w q
      simp only [entA, List.nil_append, List.getElem?_replicate] at q
      split at q <;> cases q
    · intro i q
      simp only [entA, List.nil_append, List.getElem?_replicate] at q
      split at q <;> cases q
  | v :: vs, m => by
    obtain ⟨h1, h2⟩ := entA_wf vs m
    unfold entA
    split
    · rename_i c
      constructor
      · intro i w q
        match i, q with
        | 0, q => intro _; simp
        | 1, q => simp at q
        | i + 2, q => simp at q ⊢; exact h1 i w q
      · intro i q
        match i, q with
        | 0, q => simp at q
        | 1, q => exact ⟨0, v, rfl, by simp, c⟩
        | i + 2, q =>
          simp at q
          obtain ⟨j, w, e, g1, g2⟩ := h2 i q
          exact ⟨j + 2, w, by omega, by simpa using g1, g2⟩
    · rename_i c
      constructor
      · intro i w q
        match i, q with
        | 0, q => intro z; simp at q; subst q; exact absurd z c
        | i + 1, q => simp at q ⊢; exact h1 i w q
      · intro i q
        match i, q with
        | 0, q => simp at q
        | i + 1, q =>
          simp at q
          obtain ⟨j, w, e, g1, g2⟩ := h2 i q
          exact ⟨j + 1, w, by omega, by simpa using g1, g2⟩
theorem LR.enter {ρ : List Addr} {v w : List Value} (h : SR ρ v w) {n : Nat} (hn : (entA v).length ≤ n) : LR ρ (entL v n) (argsToLocals w.toArray n) ∧ (argsToLocals w.toArray n).size = n := by
  rw [argsToLocals_eq]
  have hl := entA_len h
  refine ⟨⟨by simp [entL, hl], ?_, fun i s q => ?_⟩, by simp [entL, hl]; omega⟩
  · obtain ⟨h1, h2⟩ := entA_wf w (n - (entA w).length)
    exact ⟨fun i u q c => by simpa [entL] using h1 i u (by simpa [entL] using q) c, fun i q => by
      obtain ⟨j, u, e, g1, g2⟩ := h2 i (by simpa [entL] using q)
      exact ⟨j, u, e, by simpa [entL] using g1, g2⟩⟩
  · unfold entL at q ⊢
    rw [hl]
    simpa using entA_rel h _ i s q
end Jvm.Own
namespace Jvm.RoadKit
open Sem ClassFile Op Lib Jvm.Stand Jvm.Free Jvm.LawKit
section New
variable {p : Program} {l : Launch} {e : Env} {R : Room} {s : State} {m : MethodId} {args : Array Value} {below : List Frame} {meth : Method} {c : Code} {T : State} {locs : List Loc} {cells slots : Nat}
theorem retI (X : Stand p l e R s m args below meth c T locs cells slots) (hx : p.tables.exec = Jvm.exec) {pc : Nat} {Ls : Array Slot} {z : Int32} {rest : List Value} (hret : meth.sig.returnType = some .int) (hd : decode c.code pc = .ok (.ireturn, 1)) {fs : List Frame}
    (hl : ∀ (f : JFrame) (acts : List Action), f.method = m → f.locked = none → f.entered = [] → (doReturn e (T.setTop f) acts (some (.int z))).1 = T.setFrames fs) : Steps p.tables e below (T.setTop (mkF m pc Ls (.int z :: rest))) (T.setFrames fs) := by
  have hm' : T.vm.method? m = some meth := X.method'
  have hn : narrow .int (.int z) = .int z := rfl
  show Steps p.tables e below (T.setTop { method := m, pc := pc, locals := Ls, stack := _ :: rest, locked := none }) _
  jvm_step X.here [X.here.top, hx, hd, hm', hret, hn]
  first | (intro acts; rw [hl _ acts rfl rfl rfl]) | rw [hl _ _ rfl rfl rfl]
  exact Steps.refl _
end New
end Jvm.RoadKit
namespace Jvm.Own
open Jvm Jvm.ClassFile Sem Op Lib Jvm.Free Jvm.Stand Jvm.LawKit Jvm.RoadKit Bundle
/-! The plain heap and the real one -/
def tyA (b : Bool) : FieldType := if b then .boolean else .int
def CR (P : PD) (Z : State) (h : Heap) (ρ : List Addr) (a : Addr) : ACell → Prop
  | .inl (c, fs) => ∃ cd, P.cls[c]? = some cd ∧ Exa Z h a cd.1 ∧ fs.length = cd.2.2.length ∧ ∀ (i : Nat) v fd, fs[i]? = some v → cd.2.2[i]? = some fd → ∃ w, VR ρ v w ∧ Fld Z h a cd.1 fd.1 fd.2.1 w
  | .inr (.inl (b, L)) => ∃ cl, Arr Z h a cl (tyA b) ∧ cl.slots.size = L.length ∧ L.length < 2 ^ 31 ∧ ∀ (i : Nat) x, L[i]? = some x → cl.slots[i]? = some (.int x)
  | .inr (.inr L) => ∃ cl, Arr Z h a cl .long ∧ cl.slots.size = L.length ∧ L.length < 2 ^ 31 ∧ ∀ (i : Nat) x, L[i]? = some x → cl.slots[i]? = some (.long x)
def HR (P : PD) (Z : State) (n0 : Nat) (h : Heap) (ρ : List Addr) (H : AHeap) : Prop :=
  n0 ≤ h.size ∧ ρ.length = H.length ∧ (∀ (i j : Nat) a, ρ[i]? = some a → ρ[j]? = some a → i = j) ∧ (∀ (k : Nat) a, ρ[k]? = some a → P.nr ≤ k → n0 ≤ a) ∧ ∀ (k : Nat) a c, ρ[k]? = some a → H[k]? = some c → CR P Z h ρ a c
section Heaps
variable {P : PD} {Z : State} {n0 : Nat} {h h' : Heap} {ρ : List Addr} {H : AHeap} {a : Addr} {k : Nat} {a0 : Array Value}
theorem CR.lt {c : ACell} (q : CR P Z h ρ a c) : a < h.size := by
  match c, q with
  | .inl (_, _), q => obtain ⟨cd, -, E, -⟩ := q; exact E.lt
  | .inr (.inl (_, _)), q => obtain ⟨cl, A, -⟩ := q; exact A.lt
  | .inr (.inr _), q => obtain ⟨cl, A, -⟩ := q; exact A.lt
theorem HR.at (q : HR P Z n0 h ρ H) {c : ACell} (hc : H[k]? = some c) : ∃ a, ρ[k]? = some a ∧ CR P Z h ρ a c := by
  obtain ⟨-, q1, -, -, q4⟩ := q
  have hk : k < ρ.length := by rw [q1]; exact (List.getElem?_eq_some_iff.mp hc).1
  exact ⟨ρ[k], List.getElem?_eq_getElem hk, q4 k _ c (List.getElem?_eq_getElem hk) hc⟩
theorem HR.lt (q : HR P Z n0 h ρ H) (hk : ρ[k]? = some a) : a < h.size := by
  obtain ⟨-, q1, -, -, q4⟩ := q
  have hk' : k < H.length := by rw [← q1]; exact (List.getElem?_eq_some_iff.mp hk).1
  exact (q4 k a _ hk (List.getElem?_eq_getElem hk')).lt
theorem CR.grow {t : List Addr} {c : ACell} (E : Ext h h') (q : CR P Z h ρ a c) : CR P Z h' (ρ ++ t) a c := by
  match c, q with
  | .inl (_, _), ⟨cd, q1, q2, q3, q4⟩ => exact ⟨cd, q1, q2.ext E, q3, fun i v fd g1 g2 => by obtain ⟨w, z1, z2⟩ := q4 i v fd g1 g2; exact ⟨w, z1.mono, z2.ext E⟩⟩
  | .inr (.inl (_, _)), ⟨cl, q1, q2⟩ => exact ⟨cl, q1.ext E, q2⟩
  | .inr (.inr _), ⟨cl, q1, q2⟩ => exact ⟨cl, q1.ext E, q2⟩
theorem HR.push {c : ACell} (q : HR P Z n0 h ρ H) (E : Ext h h') (hc : CR P Z h' (ρ ++ [h.size]) h.size c) : HR P Z n0 h' (ρ ++ [h.size]) (H ++ [c]) := by
  have q0 := q
  obtain ⟨q1, q2, q3, q4, q5⟩ := q
  have old : ∀ (i : Nat) b, (ρ ++ [h.size])[i]? = some b → (ρ[i]? = some b ∧ b < h.size) ∨ (i = ρ.length ∧ b = h.size) := fun i b g => by
    rw [List.getElem?_append] at g
    split at g
    · exact Or.inl ⟨g, q0.lt g⟩
    · rename_i z
      right
      have : i - ρ.length = 0 := by
        rcases Nat.eq_zero_or_pos (i - ρ.length) with y | y
        · exact y
        · rw [List.getElem?_eq_none (by simp; omega)] at g; cases g
      rw [this] at g
      simp at g
      exact ⟨by omega, g.symm⟩
  refine ⟨Nat.le_trans q1 E.1, by simp [q2], fun i j b g1 g2 => ?_, fun i b g1 g2 => ?_, fun i b c' g1 g2 => ?_⟩
  · rcases old i b g1 with ⟨y1, y2⟩ | ⟨y1, y2⟩ <;> rcases old j b g2 with ⟨z1, z2⟩ | ⟨z1, z2⟩
    · exact q3 i j b y1 z1
    · exact absurd (z2 ▸ y2) (Nat.lt_irrefl _)
    · exact absurd (y2 ▸ z2) (Nat.lt_irrefl _)
    · rw [y1, z1]
  · rcases old i b g1 with ⟨y1, y2⟩ | ⟨y1, y2⟩
    · exact q4 i b y1 g2
    · rw [y2]; exact q1
  · rcases old i b g1 with ⟨y1, y2⟩ | ⟨y1, y2⟩
    · have hi : i < H.length := by rw [← q2]; exact (List.getElem?_eq_some_iff.mp y1).1
      rw [List.getElem?_append_left hi] at g2
      exact (q5 i b c' y1 g2).grow E
    · subst y1 y2
      rw [q2] at g2
      simp at g2
      subst g2
      exact hc
theorem CR.other {v : Value} {sl : Nat} {b : Addr} {c : ACell} (W : Wr h h' a sl v) (ne : b ≠ a) (q : CR P Z h ρ b c) : CR P Z h' ρ b c := by
  match c, q with
  | .inl (_, _), ⟨cd, q1, q2, q3, q4⟩ => exact ⟨cd, q1, q2.wr W, q3, fun i v fd g1 g2 => by obtain ⟨w, z1, z2⟩ := q4 i v fd g1 g2; exact ⟨w, z1, z2.other W (Or.inl ne)⟩⟩
  | .inr (.inl (_, _)), ⟨cl, q1, q2⟩ => exact ⟨cl, q1.other W ne, q2⟩
  | .inr (.inr _), ⟨cl, q1, q2⟩ => exact ⟨cl, q1.other W ne, q2⟩
theorem HR.set {v : Value} {sl : Nat} {c : ACell} (q : HR P Z n0 h ρ H) (hk : ρ[k]? = some a) (W : Wr h h' a sl v) (hc : CR P Z h' ρ a c) : HR P Z n0 h' ρ (H.set k c) := by
  obtain ⟨q1, q2, q3, q4, q5⟩ := q
  refine ⟨by rw [W.size]; exact q1, by simp [q2], q3, q4, fun i b c' g1 g2 => ?_⟩
  rw [List.getElem?_set] at g2
  split at g2
  · rename_i e
    subst e
    split at g2
    · cases g2
      rw [hk] at g1; cases g1
      exact hc
    · cases g2
  · rename_i e
    exact (q5 i b c' g1 g2).other W fun z => e (q3 k i a hk (z ▸ g1))
theorem nodup_ne : ∀ {l : List String}, nodup l = true → ∀ {i j : Nat} {x y : String}, l[i]? = some x → l[j]? = some y → i ≠ j → x ≠ y
  | [], _, i, j, x, y, h1, _, _ => by simp at h1
  | z :: r, hn, i, j, x, y, h1, h2, ne => by
    simp only [nodup, Bool.and_eq_true, Bool.not_eq_true', List.contains_eq_mem, decide_eq_false_iff_not] at hn
    match i, j, h1, h2, ne with
    | 0, 0, _, _, ne => exact absurd rfl ne
    | 0, j + 1, h1, h2, _ => simp at h1 h2; subst h1; exact fun e => hn.1 (e ▸ List.mem_of_getElem? h2)
    | i + 1, 0, h1, h2, _ => simp at h1 h2; subst h2; exact fun e => hn.1 (e ▸ List.mem_of_getElem? h1)
    | i + 1, j + 1, h1, h2, ne => simp at h1 h2; exact nodup_ne hn.2 h1 h2 (fun e => ne (by rw [e]))
theorem laid_of {C : String} {f : FD} (w : (fWord C f).before a0 Z = true) : Laid Z a0 C C f.1 f.2.1 := by
  unfold fWord at w
  split at w
  · exact Or.inr w
  · exact Or.inl w
theorem HR.putF {c j : Nat} {fs : List Value} {cd : CD} {fd : FD} {v w : Value} (q : HR P Z n0 h ρ H) (hk : ρ[k]? = some a) (hc : H[k]? = some (.inl (c, fs))) (hcd : P.cls[c]? = some cd) (hfd : cd.2.2[j]? = some fd)
    (hck : cChk cd = true) (hl : ∀ f ∈ cd.2.2, (fWord cd.1 f).before a0 Z = true) (W : Wr h h' a (RoadKit.slotOf Z cd.1 fd.1 fd.2.1) w) (hv : VR ρ v w) : HR P Z n0 h' ρ (H.set k (.inl (c, fs.set j v))) := by
  obtain ⟨a', ha, cr⟩ := q.at hc
  rw [hk] at ha; cases ha
  obtain ⟨cd', q1, q2, q3, q4⟩ := cr
  rw [hcd] at q1; cases q1
  refine q.set hk W ⟨cd, hcd, q2.wr W, by simp [q3], fun i v0 fd' g1 g2 => ?_⟩
  simp only [cChk, Bool.and_eq_true, List.all_eq_true] at hck
  obtain ⟨n1, n2⟩ := hck
  by_cases e : j = i
  · subst e
    rw [hfd] at g2; cases g2
    rw [List.getElem?_set] at g1
    split at g1
    · split at g1
      · cases g1
        rename_i z
        obtain ⟨w0, -, F⟩ := q4 j _ fd (List.getElem?_eq_getElem z) hfd
        exact ⟨w, hv, F.same W⟩
      · cases g1
    · rename_i z; exact absurd rfl z
  · rw [List.getElem?_set_ne e] at g1
    obtain ⟨w0, z1, F⟩ := q4 i v0 fd' g1 g2
    refine ⟨w0, z1, F.other W (Or.inr ?_)⟩
    have m1 := List.mem_of_getElem? hfd
    have m2 := List.mem_of_getElem? g2
    have f1 := n2 fd m1
    have f2 := n2 fd' m2
    simp only [fChk, Bool.and_eq_true, decide_eq_true_eq] at f1 f2
    refine slot_ne (laid_of (hl fd' m2)) (laid_of (hl fd m1)) ?_ f2.1 f1.1
    exact nodup_ne n1 (i := i) (j := j) (by simp [g2]) (by simp [hfd]) (fun z => e z.symm)
theorem HR.wrI {b : Bool} {L : List Int32} {i : Nat} {x : Int32} (q : HR P Z n0 h ρ H) (hk : ρ[k]? = some a) (hc : H[k]? = some (.inr (.inl (b, L)))) (W : Wr h h' a i (.int x)) : HR P Z n0 h' ρ (H.set k (.inr (.inl (b, L.set i x)))) := by
  obtain ⟨a', ha, cr⟩ := q.at hc
  rw [hk] at ha; cases ha
  obtain ⟨cl, A, q2, q3, q4⟩ := cr
  have lt : i < cl.slots.size := by
    obtain ⟨cl', z1, -, z3, -⟩ := W
    rw [A.1] at z1; cases z1
    exact z3
  refine q.set hk W ⟨_, A.same W, by simp [sz_set, q2], by simpa using q3, fun j y g => ?_⟩
  rw [List.getElem?_set] at g
  split at g
  · rename_i e
    subst e
    split at g
    · cases g; simp [Cell.setSlot, lt]
    · cases g
  · rename_i e
    have := q4 j y g
    simp [Cell.setSlot, Array.getElem?_setIfInBounds, e, this]
theorem HR.wrJ {L : List Int64} {i : Nat} {x : Int64} (q : HR P Z n0 h ρ H) (hk : ρ[k]? = some a) (hc : H[k]? = some (.inr (.inr L))) (W : Wr h h' a i (.long x)) : HR P Z n0 h' ρ (H.set k (.inr (.inr (L.set i x)))) := by
  obtain ⟨a', ha, cr⟩ := q.at hc
  rw [hk] at ha; cases ha
  obtain ⟨cl, A, q2, q3, q4⟩ := cr
  have lt : i < cl.slots.size := by
    obtain ⟨cl', z1, -, z3, -⟩ := W
    rw [A.1] at z1; cases z1
    exact z3
  refine q.set hk W ⟨_, A.same W, by simp [sz_set, q2], by simpa using q3, fun j y g => ?_⟩
  rw [List.getElem?_set] at g
  split at g
  · rename_i e
    subst e
    split at g
    · cases g; simp [Cell.setSlot, lt]
    · cases g
  · rename_i e
    have := q4 j y g
    simp [Cell.setSlot, Array.getElem?_setIfInBounds, e, this]
end Heaps
theorem SR.int {ρ : List Addr} {x : Int32} {S Sc : List Value} (h : SR ρ (.int x :: S) Sc) : ∃ Sc', Sc = .int x :: Sc' ∧ SR ρ S Sc' := by
  obtain ⟨w, ws, h1, h2, h3⟩ := h
  exact ⟨ws, by rw [h1, show w = .int x from h2], h3⟩
theorem SR.long {ρ : List Addr} {x : Int64} {S Sc : List Value} (h : SR ρ (.long x :: S) Sc) : ∃ Sc', Sc = .long x :: Sc' ∧ SR ρ S Sc' := by
  obtain ⟨w, ws, h1, h2, h3⟩ := h
  exact ⟨ws, by rw [h1, show w = .long x from h2], h3⟩
theorem SR.ref {ρ : List Addr} {x : Nat} {S Sc : List Value} (h : SR ρ (.ref x :: S) Sc) : ∃ a Sc', ρ[x]? = some a ∧ Sc = .ref a :: Sc' ∧ SR ρ S Sc' := by
  obtain ⟨w, ws, h1, ⟨a, h2, h4⟩, h3⟩ := h
  exact ⟨a, ws, h2, by rw [h1, h4], h3⟩
theorem rdA_spec {α : Type} {L : List α} {j : Int32} {x : α} (h : rdA L j = some x) : ¬ j < 0 ∧ L[j.toNatClampNeg]? = some x := by
  unfold rdA at h
  split at h
  · cases h
  · rename_i q; exact ⟨q, h⟩
theorem wrA_spec {α : Type} {L L' : List α} {j : Int32} {x : α} (h : wrA L j x = some L') : ¬ j < 0 ∧ j.toNatClampNeg < L.length ∧ L' = L.set j.toNatClampNeg x := by
  unfold wrA at h
  split at h
  · cases h
  · rename_i q
    split at h
    · rename_i z; cases h; exact ⟨q, z, rfl⟩
    · cases h
end Jvm.Own
namespace Jvm.Own
open Jvm Jvm.ClassFile Sem Op Lib Jvm.Free Jvm.Stand Jvm.LawKit Jvm.RoadKit Bundle
theorem st1_len {L L' : List Slot} {k : Nat} {v : Value} (h : st1 L k v = some L') : L'.length = L.length := by
  unfold st1 at h
  split at h
  · cases h; simp
  · cases h
theorem st2_len {L L' : List Slot} {k : Nat} {v : Value} (h : st2 L k v = some L') : L'.length = L.length := by
  unfold st2 at h
  split at h
  · cases h; simp
  · cases h
theorem lrem_mod (x y : Int64) : x - (x / y) * y = x % y := by
  apply Int64.toInt_inj.mp
  have h1 := Int64.le_toInt (x % y)
  have h2 := Int64.toInt_lt (x % y)
  rw [Int64.toInt_sub, Int64.toInt_mul, Int64.toInt_div, Int.bmod_mul_bmod, Int.sub_bmod_bmod, Int.mul_comm (x.toInt.tdiv y.toInt), ← Int.tmod_def, ← Int64.toInt_mod]
  exact Int.bmod_eq_of_le_mul_two (by omega) (by omega)
theorem putOk_sim {ρ : List Addr} {ty : FieldType} {v w : Value} (h : putOk ty v = true) (hv : VR ρ v w) : narrow ty w = w ∧ fits ty w = true := by
  cases ty <;> cases v <;> first | (simp [putOk] at h; done) | skip
  · cases hv; exact ⟨rfl, rfl⟩
  · cases hv; exact ⟨rfl, rfl⟩
  · rename_i x
    cases hv
    simp only [putOk, Bool.or_eq_true, beq_iff_eq] at h
    rcases h with rfl | rfl
    · exact ⟨rfl, rfl⟩
    · exact ⟨rfl, rfl⟩
  · obtain ⟨a, -, rfl⟩ := hv; exact ⟨rfl, rfl⟩
theorem dflt_sim {ρ : List Addr} {ty : FieldType} (h : dfOk ty = true) : VR ρ (dflt ty) (defaultValue ty) := by
  cases ty <;> first | (simp [dfOk] at h; done) | exact rfl
theorem fieldOf_spec {P : PD} {c a : Nat} {cd : CD} {f : FD} (h1 : P.cls[c]? = some cd) (h2 : cd.2.2[a]? = some f) : fieldOf P c a = some f := by simp [fieldOf, h1, h2]
theorem in_wordsOf {P : PD} {d : MD} {x : Nat × It} {w : Jvm.Cond} (hd : d ∈ P.mth) (hx : x ∈ d.code) (hw : w ∈ iWords P d x) : w ∈ wordsOf P :=
  List.mem_append_right _ (List.mem_flatMap.mpr ⟨d, hd, List.mem_flatMap.mpr ⟨x, hx, hw⟩⟩)
theorem in_wordsC {P : PD} {cd : CD} {w : Jvm.Cond} (hd : cd ∈ P.cls) (hw : w ∈ cWords cd) : w ∈ wordsOf P :=
  List.mem_append_left _ (List.mem_append_left _ (List.mem_flatMap.mpr ⟨cd, hd, hw⟩))
theorem in_wordsM {P : PD} {y : MD} {j : Nat} {w : Jvm.Cond} (hd : P.mth[j]? = some y) (hj : 0 < j) (hw : w ∈ mWords y) : w ∈ wordsOf P := by
  refine List.mem_append_left _ (List.mem_append_right _ (List.mem_flatMap.mpr ⟨y, ?_, hw⟩))
  have : (P.mth.drop 1)[j - 1]? = some y := by rw [List.getElem?_drop]; rw [show 1 + (j - 1) = j by omega]; exact hd
  exact List.mem_of_getElem? this
theorem fWord_in {cd : CD} {f : FD} (h : f ∈ cd.2.2) : fWord cd.1 f ∈ cWords cd := List.mem_cons_of_mem _ (List.mem_cons_of_mem _ (List.mem_map.mpr ⟨f, h, rfl⟩))
theorem cChk_of {P : PD} (hP : chk P = true) {cd : CD} (h : cd ∈ P.cls) : cChk cd = true := by
  simp only [chk, Bool.and_eq_true, List.all_eq_true] at hP
  exact hP.1 cd h
theorem mChk_of {P : PD} (hP : chk P = true) {d : MD} (h : d ∈ P.mth) : mChk P d = true := by
  simp only [chk, Bool.and_eq_true, List.all_eq_true] at hP
  exact hP.2 d h
theorem cid_of {P : PD} (hP : chk P = true) {d : MD} (h : d ∈ P.mth) {cd : CD} (hc : P.cls[d.cid]? = some cd) : cd.1 = d.name.cls := by
  have := mChk_of hP h
  simp only [mChk, Bool.and_eq_true] at this
  have h4 := this.1.1.1.2
  unfold clsChk at h4
  rw [hc] at h4
  simpa using h4
section Step
variable {P : PD} {Z : State} {n0 : Nat} {a0 : Array Value} {l : Launch} {p : Program} {e : Env} {R : Room} {s : State} {m : MethodId} {args : Array Value} {below : List Frame} {meth : Method} {c : Code} {T : State} {locs : List Loc} {cells slots : Nat} {d : MD}
def Nxt (P : PD) (Z : State) (n0 : Nat) (l : Launch) (p : Program) (e : Env) (R : Room) (s : State) (m : MethodId) (args : Array Value) (below : List Frame) (meth : Method) (c : Code) (T : State) (cells slots : Nat) (ρ : List Addr) (g : JFrame) (pc' : Nat) (L L' : List Slot) (S' : List Value) (H1 : AHeap) : Prop :=
  ∃ T' locs' A' Sc', Stand p l e R s m args below meth c T' locs' cells slots ∧ L'.length = L.length ∧ LR ρ L' A' ∧ SR ρ S' Sc' ∧ HR P Z n0 T'.heap ρ H1 ∧ Fr n0 locs' ∧
    ∀ target, Steps p.tables e below (T'.setTop (mkF m pc' A' Sc')) target → Steps p.tables e below (T.setTop g) target
theorem Nxt.pure {ρ : List Addr} {H : AHeap} {g : JFrame} {pc' : Nat} {L L' : List Slot} {S' Sc' : List Value} {A' : Array Slot} (X : Stand p l e R s m args below meth c T locs cells slots) (hl : L'.length = L.length) (hL : LR ρ L' A') (hS : SR ρ S' Sc') (hH : HR P Z n0 T.heap ρ H) (hF : Fr n0 locs)
    (k : ∀ target, Steps p.tables e below (T.setTop (mkF m pc' A' Sc')) target → Steps p.tables e below (T.setTop g) target) : Nxt P Z n0 l p e R s m args below meth c T cells slots ρ g pc' L L' S' H :=
  ⟨T, locs, A', Sc', X, hl, hL, hS, hH, hF, k⟩
theorem Nxt.mem {ρ : List Addr} {H1 : AHeap} {g : JFrame} {pc' : Nat} {L L' : List Slot} {S' Sc' : List Value} {A' : Array Slot} {T' : State} {locs' : List Loc} (X : Stand p l e R s m args below meth c T' locs' cells slots) (hl : L'.length = L.length) (hL : LR ρ L' A') (hS : SR ρ S' Sc') (hH : HR P Z n0 T'.heap ρ H1) (hF : Fr n0 locs')
    (k : ∀ target, Steps p.tables e below (T'.setTop (mkF m pc' A' Sc')) target → Steps p.tables e below (T.setTop g) target) : Nxt P Z n0 l p e R s m args below meth c T cells slots ρ g pc' L L' S' H1 :=
  ⟨T', locs', A', Sc', X, hl, hL, hS, hH, hF, k⟩
set_option maxHeartbeats 4000000 in
theorem stepX (X : Stand p l e R s m args below meth c T locs cells slots) (hx : p.tables.exec = Jvm.exec) (hZ : Z.Warmed39 s.vm) (hown : s.vm.findClass d.name.cls = some m.cls) (hnm : meth.name = d.name.name) (hP : chk P = true) (hW : ∀ w ∈ wordsOf P, w.before a0 Z = true) (hdm : d ∈ P.mth)
    {pc len a : Nat} {er : List Bool} {b : Int} {i : Instr} (hit : (pc, i, len, er, a, b) ∈ d.code) (hd : decode c.code pc = .ok (i, len)) (hlen : lenOk i len = true) {ρ : List Addr} {L L' : List Slot} {S S' Sc : List Value} {H H1 : AHeap} {A : Array Slot}
    (hL : LR ρ L A) (hS : SR ρ S Sc) (hH : HR P Z n0 T.heap ρ H) (hF : Fr n0 locs) (h : xI P (d.name.name == "<init>") d.cid i a b L S H = some (L', S', H1)) :
    Nxt P Z n0 l p e R s m args below meth c T cells slots ρ (mkF m pc A Sc) (pc + len) L L' S' H1 := by
  have hWi : ∀ w ∈ iWords P d (pc, i, len, er, a, b), w.before a0 Z = true := fun w q => hW w (in_wordsOf hdm hit q)
  cases i with
  | aload_n k =>
    obtain rfl : len = 1 := by simpa [lenOk] using hlen
    simp only [xI] at h
    split at h
    · rename_i x q
      cases h
      obtain ⟨w, hv, hg⟩ := hL.get q
      obtain ⟨ad, h1, rfl⟩ := hv
      exact Nxt.pure X rfl hL ⟨_, _, rfl, ⟨ad, h1, rfl⟩, hS⟩ hH hF (fun t z => XS.aloadN (g := mkF m pc A Sc) X.here hx rfl hd hg rfl z)
    · cases h
  | aload k =>
    obtain rfl : len = 2 := by simpa [lenOk] using hlen
    simp only [xI] at h
    split at h
    · rename_i x q
      cases h
      obtain ⟨w, hv, hg⟩ := hL.get q
      obtain ⟨ad, h1, rfl⟩ := hv
      exact Nxt.pure X rfl hL ⟨_, _, rfl, ⟨ad, h1, rfl⟩, hS⟩ hH hF (fun t z => XS.aload (g := mkF m pc A Sc) X.here hx rfl hd hg rfl z)
    · cases h
  | iload_n k =>
    obtain rfl : len = 1 := by simpa [lenOk] using hlen
    simp only [xI] at h
    split at h
    · rename_i x q
      cases h
      obtain ⟨w, hv, hg⟩ := hL.get q
      obtain rfl : w = .int _ := hv
      exact Nxt.pure X rfl hL ⟨_, _, rfl, rfl, hS⟩ hH hF (fun t z => XS.iloadN (g := mkF m pc A Sc) X.here hx rfl hd hg z)
    · cases h
  | iload k =>
    obtain rfl : len = 2 := by simpa [lenOk] using hlen
    simp only [xI] at h
    split at h
    · rename_i x q
      cases h
      obtain ⟨w, hv, hg⟩ := hL.get q
      obtain rfl : w = .int _ := hv
      exact Nxt.pure X rfl hL ⟨_, _, rfl, rfl, hS⟩ hH hF (fun t z => XS.iload (g := mkF m pc A Sc) X.here hx rfl hd hg z)
    · cases h
  | lload_n k =>
    obtain rfl : len = 1 := by simpa [lenOk] using hlen
    simp only [xI] at h
    split at h
    · rename_i x q
      cases h
      obtain ⟨w, hv, hg⟩ := hL.get q
      obtain rfl : w = .long _ := hv
      exact Nxt.pure X rfl hL ⟨_, _, rfl, rfl, hS⟩ hH hF (fun t z => XT.lloadN (g := mkF m pc A Sc) X.here hx rfl hd hg z)
    · cases h
  | lload k =>
    obtain rfl : len = 2 := by simpa [lenOk] using hlen
    simp only [xI] at h
    split at h
    · rename_i x q
      cases h
      obtain ⟨w, hv, hg⟩ := hL.get q
      obtain rfl : w = .long _ := hv
      exact Nxt.pure X rfl hL ⟨_, _, rfl, rfl, hS⟩ hH hF (fun t z => XT.lload (g := mkF m pc A Sc) X.here hx rfl hd hg z)
    · cases h
  | istore_n k =>
    obtain rfl : len = 1 := by simpa [lenOk] using hlen
    simp only [xI] at h
    split at h
    · rename_i x S0
      obtain ⟨L1, q, e1⟩ := Option.map_eq_some_iff.mp h
      cases e1
      obtain ⟨S2, rfl, h2⟩ := hS.int
      obtain ⟨A', z1, z2⟩ := store1_sim hL q (show VR ρ (.int x) (.int x) from rfl) rfl
      exact Nxt.pure X (st1_len q) z2 h2 hH hF (fun t z => XS.istoreN (g := mkF m pc A _) X.here hx rfl hd rfl z1 z)
    · cases h
  | istore k =>
    obtain rfl : len = 2 := by simpa [lenOk] using hlen
    simp only [xI] at h
    split at h
    · rename_i x S0
      obtain ⟨L1, q, e1⟩ := Option.map_eq_some_iff.mp h
      cases e1
      obtain ⟨S2, rfl, h2⟩ := hS.int
      obtain ⟨A', z1, z2⟩ := store1_sim hL q (show VR ρ (.int x) (.int x) from rfl) rfl
      exact Nxt.pure X (st1_len q) z2 h2 hH hF (fun t z => XS.istore (g := mkF m pc A _) X.here hx rfl hd rfl z1 z)
    · cases h
  | astore_n k =>
    obtain rfl : len = 1 := by simpa [lenOk] using hlen
    simp only [xI] at h
    split at h
    · rename_i x S0
      obtain ⟨L1, q, e1⟩ := Option.map_eq_some_iff.mp h
      cases e1
      obtain ⟨ad, S2, h1, rfl, h2⟩ := hS.ref
      obtain ⟨A', z1, z2⟩ := store1_sim hL q (show VR ρ (.ref x) (.ref ad) from ⟨ad, h1, rfl⟩) rfl
      exact Nxt.pure X (st1_len q) z2 h2 hH hF (fun t z => XS.astoreN (g := mkF m pc A _) X.here hx rfl hd rfl rfl z1 z)
    · cases h
  | astore k =>
    obtain rfl : len = 2 := by simpa [lenOk] using hlen
    simp only [xI] at h
    split at h
    · rename_i x S0
      obtain ⟨L1, q, e1⟩ := Option.map_eq_some_iff.mp h
      cases e1
      obtain ⟨ad, S2, h1, rfl, h2⟩ := hS.ref
      obtain ⟨A', z1, z2⟩ := store1_sim hL q (show VR ρ (.ref x) (.ref ad) from ⟨ad, h1, rfl⟩) rfl
      exact Nxt.pure X (st1_len q) z2 h2 hH hF (fun t z => XS.astore (g := mkF m pc A _) X.here hx rfl hd rfl rfl z1 z)
    · cases h
  | lstore_n k =>
    obtain rfl : len = 1 := by simpa [lenOk] using hlen
    simp only [xI] at h
    split at h
    · rename_i x S0
      obtain ⟨L1, q, e1⟩ := Option.map_eq_some_iff.mp h
      cases e1
      obtain ⟨S2, rfl, h2⟩ := hS.long
      obtain ⟨A', z1, z2⟩ := store2_sim hL q (show VR ρ (.long x) (.long x) from rfl) rfl
      exact Nxt.pure X (st2_len q) z2 h2 hH hF (fun t z => XT.lstoreN (g := mkF m pc A _) X.here hx rfl hd rfl z1 z)
    · cases h
  | lstore k =>
    obtain rfl : len = 2 := by simpa [lenOk] using hlen
    simp only [xI] at h
    split at h
    · rename_i x S0
      obtain ⟨L1, q, e1⟩ := Option.map_eq_some_iff.mp h
      cases e1
      obtain ⟨S2, rfl, h2⟩ := hS.long
      obtain ⟨A', z1, z2⟩ := store2_sim hL q (show VR ρ (.long x) (.long x) from rfl) rfl
      exact Nxt.pure X (st2_len q) z2 h2 hH hF (fun t z => XT.lstore (g := mkF m pc A _) X.here hx rfl hd rfl z1 z)
    · cases h
  | iinc k dd =>
    obtain rfl : len = 3 := by simpa [lenOk] using hlen
    simp only [xI] at h
    split at h
    · rename_i x q0
      obtain ⟨L1, q, e1⟩ := Option.map_eq_some_iff.mp h
      cases e1
      obtain ⟨w, hv, hg⟩ := hL.get q0
      obtain rfl : w = .int _ := hv
      obtain ⟨A', z1, z2⟩ := store1_sim hL q (show VR ρ (.int (x + Int32.ofInt dd)) (.int (x + Int32.ofInt dd)) from rfl) rfl
      exact Nxt.pure X (st1_len q) z2 hS hH hF (fun t z => XS.iinc (g := mkF m pc A Sc) X.here hx rfl hd hg z1 z)
    · cases h
  | iconst v =>
    obtain rfl : len = 1 := by simpa [lenOk] using hlen
    simp only [xI] at h
    cases h
    exact Nxt.pure X rfl hL ⟨_, _, rfl, rfl, hS⟩ hH hF (fun t z => XS.iconst (g := mkF m pc A Sc) X.here hx rfl hd z)
  | bipush v =>
    obtain rfl : len = 2 := by simpa [lenOk] using hlen
    simp only [xI] at h
    cases h
    exact Nxt.pure X rfl hL ⟨_, _, rfl, rfl, hS⟩ hH hF (fun t z => XS.bipush (g := mkF m pc A Sc) X.here hx rfl hd z)
  | sipush v =>
    obtain rfl : len = 3 := by simpa [lenOk] using hlen
    simp only [xI] at h
    cases h
    exact Nxt.pure X rfl hL ⟨_, _, rfl, rfl, hS⟩ hH hF (fun t z => XS.sipush (g := mkF m pc A Sc) X.here hx rfl hd z)
  | lconst v =>
    obtain rfl : len = 1 := by simpa [lenOk] using hlen
    simp only [xI] at h
    cases h
    exact Nxt.pure X rfl hL ⟨_, _, rfl, rfl, hS⟩ hH hF (fun t z => XT.lconst (g := mkF m pc A Sc) X.here hx rfl hd z)
  | ldc k =>
    obtain rfl : len = 2 := by simpa [lenOk] using hlen
    simp only [xI] at h
    cases h
    have w1 := hWi (.constant d.name.cls k (Int32.ofInt b)) (List.mem_singleton.mpr rfl)
    exact Nxt.pure X rfl hL ⟨_, _, rfl, rfl, hS⟩ hH hF (fun t z => X.ldcInt hx hown (mvT hZ w1) (g := mkF m pc A Sc) rfl hd t z)
  | ldc2_w k =>
    obtain rfl : len = 3 := by simpa [lenOk] using hlen
    simp only [xI] at h
    cases h
    have w1 := hWi (.constantLong d.name.cls k (Int64.ofInt b)) (List.mem_singleton.mpr rfl)
    exact Nxt.pure X rfl hL ⟨_, _, rfl, rfl, hS⟩ hH hF (fun t z => X.ldc2Long hx hown (mvT hZ w1) (g := mkF m pc A Sc) rfl hd t z)
  | iadd =>
    obtain rfl : len = 1 := by simpa [lenOk] using hlen
    simp only [xI] at h
    split at h
    · rename_i y x S0
      cases h
      obtain ⟨S1, rfl, h1⟩ := hS.int
      obtain ⟨S2, rfl, h2⟩ := h1.int
      exact Nxt.pure X rfl hL ⟨_, _, rfl, rfl, h2⟩ hH hF (fun t z => XS.iadd (g := mkF m pc A _) X.here hx rfl hd rfl z)
    · cases h
  | isub =>
    obtain rfl : len = 1 := by simpa [lenOk] using hlen
    simp only [xI] at h
    split at h
    · rename_i y x S0
      cases h
      obtain ⟨S1, rfl, h1⟩ := hS.int
      obtain ⟨S2, rfl, h2⟩ := h1.int
      exact Nxt.pure X rfl hL ⟨_, _, rfl, rfl, h2⟩ hH hF (fun t z => XS.isub (g := mkF m pc A _) X.here hx rfl hd rfl z)
    · cases h
  | imul =>
    obtain rfl : len = 1 := by simpa [lenOk] using hlen
    simp only [xI] at h
    split at h
    · rename_i y x S0
      cases h
      obtain ⟨S1, rfl, h1⟩ := hS.int
      obtain ⟨S2, rfl, h2⟩ := h1.int
      exact Nxt.pure X rfl hL ⟨_, _, rfl, rfl, h2⟩ hH hF (fun t z => XS.imul (g := mkF m pc A _) X.here hx rfl hd rfl z)
    · cases h
  | iand =>
    obtain rfl : len = 1 := by simpa [lenOk] using hlen
    simp only [xI] at h
    split at h
    · rename_i y x S0
      cases h
      obtain ⟨S1, rfl, h1⟩ := hS.int
      obtain ⟨S2, rfl, h2⟩ := h1.int
      exact Nxt.pure X rfl hL ⟨_, _, rfl, rfl, h2⟩ hH hF (fun t z => XS.iand (g := mkF m pc A _) X.here hx rfl hd rfl z)
    · cases h
  | ior =>
    obtain rfl : len = 1 := by simpa [lenOk] using hlen
    simp only [xI] at h
    split at h
    · rename_i y x S0
      cases h
      obtain ⟨S1, rfl, h1⟩ := hS.int
      obtain ⟨S2, rfl, h2⟩ := h1.int
      exact Nxt.pure X rfl hL ⟨_, _, rfl, rfl, h2⟩ hH hF (fun t z => XT.ior (g := mkF m pc A _) X.here hx rfl hd rfl z)
    · cases h
  | ixor =>
    obtain rfl : len = 1 := by simpa [lenOk] using hlen
    simp only [xI] at h
    split at h
    · rename_i y x S0
      cases h
      obtain ⟨S1, rfl, h1⟩ := hS.int
      obtain ⟨S2, rfl, h2⟩ := h1.int
      exact Nxt.pure X rfl hL ⟨_, _, rfl, rfl, h2⟩ hH hF (fun t z => XT.ixor (g := mkF m pc A _) X.here hx rfl hd rfl z)
    · cases h
  | ishl =>
    obtain rfl : len = 1 := by simpa [lenOk] using hlen
    simp only [xI] at h
    split at h
    · rename_i y x S0
      cases h
      obtain ⟨S1, rfl, h1⟩ := hS.int
      obtain ⟨S2, rfl, h2⟩ := h1.int
      exact Nxt.pure X rfl hL ⟨_, _, rfl, rfl, h2⟩ hH hF (fun t z => XT.ishl (g := mkF m pc A _) X.here hx rfl hd rfl z)
    · cases h
  | ishr =>
    obtain rfl : len = 1 := by simpa [lenOk] using hlen
    simp only [xI] at h
    split at h
    · rename_i y x S0
      cases h
      obtain ⟨S1, rfl, h1⟩ := hS.int
      obtain ⟨S2, rfl, h2⟩ := h1.int
      exact Nxt.pure X rfl hL ⟨_, _, rfl, rfl, h2⟩ hH hF (fun t z => XT.ishr (g := mkF m pc A _) X.here hx rfl hd rfl z)
    · cases h
  | iushr =>
    obtain rfl : len = 1 := by simpa [lenOk] using hlen
    simp only [xI] at h
    split at h
    · rename_i y x S0
      cases h
      obtain ⟨S1, rfl, h1⟩ := hS.int
      obtain ⟨S2, rfl, h2⟩ := h1.int
      exact Nxt.pure X rfl hL ⟨_, _, rfl, rfl, h2⟩ hH hF (fun t z => XT.iushr (g := mkF m pc A _) X.here hx rfl hd rfl z)
    · cases h
  | ladd =>
    obtain rfl : len = 1 := by simpa [lenOk] using hlen
    simp only [xI] at h
    split at h
    · rename_i y x S0
      cases h
      obtain ⟨S1, rfl, h1⟩ := hS.long
      obtain ⟨S2, rfl, h2⟩ := h1.long
      exact Nxt.pure X rfl hL ⟨_, _, rfl, rfl, h2⟩ hH hF (fun t z => XT.ladd (g := mkF m pc A _) X.here hx rfl hd rfl z)
    · cases h
  | lsub =>
    obtain rfl : len = 1 := by simpa [lenOk] using hlen
    simp only [xI] at h
    split at h
    · rename_i y x S0
      cases h
      obtain ⟨S1, rfl, h1⟩ := hS.long
      obtain ⟨S2, rfl, h2⟩ := h1.long
      exact Nxt.pure X rfl hL ⟨_, _, rfl, rfl, h2⟩ hH hF (fun t z => XT.lsub (g := mkF m pc A _) X.here hx rfl hd rfl z)
    · cases h
  | lmul =>
    obtain rfl : len = 1 := by simpa [lenOk] using hlen
    simp only [xI] at h
    split at h
    · rename_i y x S0
      cases h
      obtain ⟨S1, rfl, h1⟩ := hS.long
      obtain ⟨S2, rfl, h2⟩ := h1.long
      exact Nxt.pure X rfl hL ⟨_, _, rfl, rfl, h2⟩ hH hF (fun t z => XT.lmul (g := mkF m pc A _) X.here hx rfl hd rfl z)
    · cases h
  | land =>
    obtain rfl : len = 1 := by simpa [lenOk] using hlen
    simp only [xI] at h
    split at h
    · rename_i y x S0
      cases h
      obtain ⟨S1, rfl, h1⟩ := hS.long
      obtain ⟨S2, rfl, h2⟩ := h1.long
      exact Nxt.pure X rfl hL ⟨_, _, rfl, rfl, h2⟩ hH hF (fun t z => XT.land (g := mkF m pc A _) X.here hx rfl hd rfl z)
    · cases h
  | lor =>
    obtain rfl : len = 1 := by simpa [lenOk] using hlen
    simp only [xI] at h
    split at h
    · rename_i y x S0
      cases h
      obtain ⟨S1, rfl, h1⟩ := hS.long
      obtain ⟨S2, rfl, h2⟩ := h1.long
      exact Nxt.pure X rfl hL ⟨_, _, rfl, rfl, h2⟩ hH hF (fun t z => XT.lor (g := mkF m pc A _) X.here hx rfl hd rfl z)
    · cases h
  | lxor =>
    obtain rfl : len = 1 := by simpa [lenOk] using hlen
    simp only [xI] at h
    split at h
    · rename_i y x S0
      cases h
      obtain ⟨S1, rfl, h1⟩ := hS.long
      obtain ⟨S2, rfl, h2⟩ := h1.long
      exact Nxt.pure X rfl hL ⟨_, _, rfl, rfl, h2⟩ hH hF (fun t z => XT.lxor (g := mkF m pc A _) X.here hx rfl hd rfl z)
    · cases h
  | lcmp =>
    obtain rfl : len = 1 := by simpa [lenOk] using hlen
    simp only [xI] at h
    split at h
    · rename_i y x S0
      cases h
      obtain ⟨S1, rfl, h1⟩ := hS.long
      obtain ⟨S2, rfl, h2⟩ := h1.long
      exact Nxt.pure X rfl hL ⟨_, _, rfl, rfl, h2⟩ hH hF (fun t z => XT.lcmp (g := mkF m pc A _) X.here hx rfl hd rfl z)
    · cases h
  | lshl =>
    obtain rfl : len = 1 := by simpa [lenOk] using hlen
    simp only [xI] at h
    split at h
    · rename_i y x S0
      cases h
      obtain ⟨S1, rfl, h1⟩ := hS.int
      obtain ⟨S2, rfl, h2⟩ := h1.long
      exact Nxt.pure X rfl hL ⟨_, _, rfl, rfl, h2⟩ hH hF (fun t z => XT.lshl (g := mkF m pc A _) X.here hx rfl hd rfl z)
    · cases h
  | lshr =>
    obtain rfl : len = 1 := by simpa [lenOk] using hlen
    simp only [xI] at h
    split at h
    · rename_i y x S0
      cases h
      obtain ⟨S1, rfl, h1⟩ := hS.int
      obtain ⟨S2, rfl, h2⟩ := h1.long
      exact Nxt.pure X rfl hL ⟨_, _, rfl, rfl, h2⟩ hH hF (fun t z => XT.lshr (g := mkF m pc A _) X.here hx rfl hd rfl z)
    · cases h
  | lushr =>
    obtain rfl : len = 1 := by simpa [lenOk] using hlen
    simp only [xI] at h
    split at h
    · rename_i y x S0
      cases h
      obtain ⟨S1, rfl, h1⟩ := hS.int
      obtain ⟨S2, rfl, h2⟩ := h1.long
      exact Nxt.pure X rfl hL ⟨_, _, rfl, rfl, h2⟩ hH hF (fun t z => XT.lushr (g := mkF m pc A _) X.here hx rfl hd rfl z)
    · cases h
  | idiv =>
    obtain rfl : len = 1 := by simpa [lenOk] using hlen
    simp only [xI] at h
    split at h
    · rename_i y x S0
      split at h
      · cases h
      · rename_i hy
        cases h
        obtain ⟨S1, rfl, h1⟩ := hS.int
        obtain ⟨S2, rfl, h2⟩ := h1.int
        exact Nxt.pure X rfl hL ⟨_, _, rfl, rfl, h2⟩ hH hF (fun t z => XS.idiv (g := mkF m pc A _) X.here hx rfl hd rfl hy z)
    · cases h
  | irem =>
    obtain rfl : len = 1 := by simpa [lenOk] using hlen
    simp only [xI] at h
    split at h
    · rename_i y x S0
      split at h
      · cases h
      · rename_i hy
        cases h
        obtain ⟨S1, rfl, h1⟩ := hS.int
        obtain ⟨S2, rfl, h2⟩ := h1.int
        exact Nxt.pure X rfl hL ⟨_, _, rfl, rfl, h2⟩ hH hF (fun t z => iremM (g := mkF m pc A _) X hx rfl hd rfl hy z)
    · cases h
  | ldiv =>
    obtain rfl : len = 1 := by simpa [lenOk] using hlen
    simp only [xI] at h
    split at h
    · rename_i y x S0
      split at h
      · cases h
      · rename_i hy
        cases h
        obtain ⟨S1, rfl, h1⟩ := hS.long
        obtain ⟨S2, rfl, h2⟩ := h1.long
        exact Nxt.pure X rfl hL ⟨_, _, rfl, rfl, h2⟩ hH hF (fun t z => XT.ldiv (g := mkF m pc A _) X.here hx rfl hd rfl hy z)
    · cases h
  | lrem =>
    obtain rfl : len = 1 := by simpa [lenOk] using hlen
    simp only [xI] at h
    split at h
    · rename_i y x S0
      split at h
      · cases h
      · rename_i hy
        cases h
        obtain ⟨S1, rfl, h1⟩ := hS.long
        obtain ⟨S2, rfl, h2⟩ := h1.long
        exact Nxt.pure X rfl hL ⟨_, _, rfl, rfl, h2⟩ hH hF (fun t z => XT.lrem (g := mkF m pc A _) X.here hx rfl hd rfl hy (by rw [lrem_mod]; exact z))
    · cases h
  | i2l =>
    obtain rfl : len = 1 := by simpa [lenOk] using hlen
    simp only [xI] at h
    split at h
    · rename_i x S0
      cases h
      obtain ⟨S1, rfl, h1⟩ := hS.int
      exact Nxt.pure X rfl hL ⟨_, _, rfl, rfl, h1⟩ hH hF (fun t z => XT.i2l (g := mkF m pc A _) X.here hx rfl hd rfl z)
    · cases h
  | l2i =>
    obtain rfl : len = 1 := by simpa [lenOk] using hlen
    simp only [xI] at h
    split at h
    · rename_i x S0
      cases h
      obtain ⟨S1, rfl, h1⟩ := hS.long
      exact Nxt.pure X rfl hL ⟨_, _, rfl, rfl, h1⟩ hH hF (fun t z => XT.l2i (g := mkF m pc A _) X.here hx rfl hd rfl z)
    · cases h
  | dup =>
    obtain rfl : len = 1 := by simpa [lenOk] using hlen
    simp only [xI] at h
    split at h
    · rename_i x S0
      cases h
      obtain ⟨S1, rfl, h1⟩ := hS.int
      exact Nxt.pure X rfl hL ⟨_, _, rfl, rfl, _, _, rfl, rfl, h1⟩ hH hF (fun t z => XS.dup (g := mkF m pc A _) X.here hx rfl hd rfl rfl z)
    · rename_i x S0
      cases h
      obtain ⟨ad, S1, g1, rfl, h1⟩ := hS.ref
      exact Nxt.pure X rfl hL ⟨_, _, rfl, ⟨ad, g1, rfl⟩, _, _, rfl, ⟨ad, g1, rfl⟩, h1⟩ hH hF (fun t z => XS.dup (g := mkF m pc A _) X.here hx rfl hd rfl rfl z)
    · cases h
  | dup2 =>
    obtain rfl : len = 1 := by simpa [lenOk] using hlen
    simp only [xI] at h
    split at h
    · rename_i x y S0
      cases h
      obtain ⟨S1, rfl, h1⟩ := hS.int
      obtain ⟨ad, S2, g1, rfl, h2⟩ := h1.ref
      exact Nxt.pure X rfl hL ⟨_, _, rfl, rfl, _, _, rfl, ⟨ad, g1, rfl⟩, _, _, rfl, rfl, _, _, rfl, ⟨ad, g1, rfl⟩, h2⟩ hH hF (fun t z => XT.dup2 (g := mkF m pc A _) X.here hx rfl hd rfl rfl rfl z)
    · rename_i x S0
      cases h
      obtain ⟨S1, rfl, h1⟩ := hS.long
      exact Nxt.pure X rfl hL ⟨_, _, rfl, rfl, _, _, rfl, rfl, h1⟩ hH hF (fun t z => XT.dup2L (g := mkF m pc A _) X.here hx rfl hd rfl z)
    · cases h
  | pop =>
    obtain rfl : len = 1 := by simpa [lenOk] using hlen
    simp only [xI] at h
    split at h
    · rename_i x S0
      cases h
      obtain ⟨S1, rfl, h1⟩ := hS.int
      exact Nxt.pure X rfl hL h1 hH hF (fun t z => XT.pop (g := mkF m pc A _) X.here hx rfl hd rfl rfl z)
    · cases h
  | getfield k =>
    obtain rfl : len = 3 := by simpa [lenOk] using hlen
    simp only [xI] at h
    split at h
    · rename_i o S0
      obtain ⟨ad, S1, g1, rfl, h1⟩ := hS.ref
      split at h
      · rename_i c0 fs hc0
        split at h
        · rename_i ec
          subst ec
          obtain ⟨ad', g2, cd, q1, q2, q3, q4⟩ := hH.at hc0
          rw [g1] at g2; cases g2
          have hcd := cid_of hP hdm q1
          have core : ∀ v, fs[a]? = some v → ∃ w T2, VR ρ v w ∧ Stand p l e R s m args below meth c T2 locs cells slots ∧ T2.heap = T.heap ∧ ∀ target, Steps p.tables e below (T2.setTop (mkF m (pc + 3) A (w :: S1))) target → Steps p.tables e below (T.setTop (mkF m pc A (.ref ad :: S1))) target := fun v hv => by
            have ha : a < cd.2.2.length := by rw [← q3]; exact (List.getElem?_eq_some_iff.mp hv).1
            obtain ⟨w, hvw, F⟩ := q4 a v _ hv (List.getElem?_eq_getElem ha)
            have w1 := hWi (.fieldLink d.name.cls k d.name.cls cd.2.2[a].1 cd.2.2[a].2.1) (by
              show _ ∈ fLink P d k a
              unfold fLink
              rw [fieldOf_spec q1 (List.getElem?_eq_getElem ha)]
              exact List.mem_singleton.mpr rfl)
            rw [hcd] at F
            obtain ⟨T2, X2, e2, st2⟩ := getF X hx hZ hown (host := "") (Or.inl w1) Via.refl rfl F (g := mkF m pc A (.ref ad :: S1)) rfl rfl hd
            exact ⟨w, T2, hvw, X2, e2, st2⟩
          split at h
          · rename_i x hv
            cases h
            obtain ⟨w, T2, hvw, X2, e2, st2⟩ := core _ hv
            exact Nxt.mem X2 rfl hL ⟨_, _, rfl, hvw, h1⟩ (by rw [e2]; exact hH) hF st2
          · rename_i x hv
            cases h
            obtain ⟨w, T2, hvw, X2, e2, st2⟩ := core _ hv
            exact Nxt.mem X2 rfl hL ⟨_, _, rfl, hvw, h1⟩ (by rw [e2]; exact hH) hF st2
          · rename_i x hv
            cases h
            obtain ⟨w, T2, hvw, X2, e2, st2⟩ := core _ hv
            exact Nxt.mem X2 rfl hL ⟨_, _, rfl, hvw, h1⟩ (by rw [e2]; exact hH) hF st2
          · cases h
        · cases h
      · cases h
    · cases h
  | putfield k =>
    obtain rfl : len = 3 := by simpa [lenOk] using hlen
    simp only [xI] at h
    split at h
    · rename_i v o S0
      obtain ⟨w, Sx, rfl, hvw, hS1⟩ := hS
      obtain ⟨ad, S1, g1, rfl, h1⟩ := hS1.ref
      split at h
      · rename_i c0 fs hc0
        split at h
        · rename_i ec
          obtain ⟨ec, enr⟩ := ec
          subst ec
          split at h
          · rename_i nm ds ty fin hf
            split at h
            · rename_i hok
              cases h
              simp only [Bool.and_eq_true] at hok
              obtain ⟨hok, hfin⟩ := hok
              obtain ⟨ad', g2, cd, q1, q2, q3, q4⟩ := hH.at hc0
              rw [g1] at g2; cases g2
              have hcd := cid_of hP hdm q1
              rw [q1] at hf
              have hf' : cd.2.2[a]? = some (nm, ds, ty, fin) := hf
              have ha : a < fs.length := by rw [q3]; exact (List.getElem?_eq_some_iff.mp hf').1
              obtain ⟨w0, -, F⟩ := q4 a _ _ (List.getElem?_eq_getElem ha) hf'
              have w1 := hWi (.fieldLink d.name.cls k d.name.cls nm ds) (by
                show _ ∈ fLink P d k a
                unfold fLink
                rw [fieldOf_spec q1 hf']
                exact List.mem_singleton.mpr rfl)
              have hcm : cd ∈ P.cls := List.mem_of_getElem? q1
              have w2 := hW _ (in_wordsC hcm (fWord_in (List.mem_of_getElem? hf')))
              have w3 := hW (.instantiable cd.1 cd.2.1) (in_wordsC hcm (List.mem_cons_self ..))
              have hck := cChk_of hP hcm
              have hck' := hck
              simp only [cChk, Bool.and_eq_true, List.all_eq_true] at hck'
              have f1 := hck'.2 _ (List.mem_of_getElem? hf')
              simp only [fChk, Bool.and_eq_true, decide_eq_true_eq] at f1
              obtain ⟨p1, p2⟩ := putOk_sim hok hvw
              have Ly : (Jvm.Cond.lays cd.1 cd.1 nm ds).before a0 Z = true ∨ ((Jvm.Cond.laysFinal cd.1 cd.1 nm ds).before a0 Z = true ∧ d.name.cls = cd.1 ∧ meth.name = "<init>") := by
                unfold fWord at w2
                cases fin with
                | false => exact Or.inl w2
                | true => exact Or.inr ⟨w2, hcd.symm, by rw [hnm]; simpa using hfin⟩
              obtain ⟨T2, h2, X2, e2, W2, st2⟩ := putF X hx hZ hown (host := "") (R0 := d.name.cls) (O := cd.1) (Or.inl w1) (by rw [hcd]; exact Via.refl) rfl F q2 Ly w3 f1.1 p1 p2 (g := mkF m pc A (w :: .ref ad :: S1)) rfl rfl hd
              have hH2 := hH.putF (a0 := a0) g1 hc0 q1 hf' hck (fun f hfm => hW _ (in_wordsC hcm (fWord_in hfm))) W2 hvw
              exact Nxt.mem X2 rfl hL h1 (by rw [e2]; exact hH2) (Fr.snoc X2 hF (hH.2.2.2.1 _ _ g1 enr)) st2
            · cases h
          · cases h
        · cases h
      · cases h
    · cases h
  | iaload =>
    obtain rfl : len = 1 := by simpa [lenOk] using hlen
    simp only [xI] at h
    split at h
    · rename_i j o S0
      obtain ⟨S1, rfl, h1⟩ := hS.int
      obtain ⟨ad, S2, g1, rfl, h2⟩ := h1.ref
      split at h
      · rename_i B hc0
        obtain ⟨x, q, e1⟩ := Option.map_eq_some_iff.mp h
        cases e1
        obtain ⟨hj, hat⟩ := rdA_spec q
        obtain ⟨ad', g2, cl, Ar, z1, z2, z3⟩ := hH.at hc0
        rw [g1] at g2; cases g2
        have hin : ¬ (j < 0 ∨ cl.slots.size ≤ j.toNatClampNeg) := by
          have := (List.getElem?_eq_some_iff.mp hat).1
          rintro (y | y)
          · exact hj y
          · omega
        exact Nxt.pure X rfl hL ⟨_, _, rfl, rfl, h2⟩ hH hF (fun t z => X.iaload hx (j := j) (v := .int x) Ar.1 (State.isArrayOf_alike hZ.alike Ar.2.1) Ar.2.2 hin (z3 _ _ hat) (g := mkF m pc A _) rfl rfl hd t z)
      · cases h
    · cases h
  | baload =>
    obtain rfl : len = 1 := by simpa [lenOk] using hlen
    simp only [xI] at h
    split at h
    · rename_i j o S0
      obtain ⟨S1, rfl, h1⟩ := hS.int
      obtain ⟨ad, S2, g1, rfl, h2⟩ := h1.ref
      split at h
      · rename_i B hc0
        obtain ⟨x, q, e1⟩ := Option.map_eq_some_iff.mp h
        cases e1
        obtain ⟨hj, hat⟩ := rdA_spec q
        obtain ⟨ad', g2, cl, Ar, z1, z2, z3⟩ := hH.at hc0
        rw [g1] at g2; cases g2
        have hin : ¬ (j < 0 ∨ cl.slots.size ≤ j.toNatClampNeg) := by
          have := (List.getElem?_eq_some_iff.mp hat).1
          rintro (y | y)
          · exact hj y
          · omega
        exact Nxt.pure X rfl hL ⟨_, _, rfl, rfl, h2⟩ hH hF (fun t z => X.baloadBooleans hx (j := j) (v := .int x) Ar.1 (State.isArrayOf_alike hZ.alike Ar.2.1) Ar.2.2 hin (z3 _ _ hat) (g := mkF m pc A _) rfl rfl hd t z)
      · cases h
    · cases h
  | laload =>
    obtain rfl : len = 1 := by simpa [lenOk] using hlen
    simp only [xI] at h
    split at h
    · rename_i j o S0
      obtain ⟨S1, rfl, h1⟩ := hS.int
      obtain ⟨ad, S2, g1, rfl, h2⟩ := h1.ref
      split at h
      · rename_i B hc0
        obtain ⟨x, q, e1⟩ := Option.map_eq_some_iff.mp h
        cases e1
        obtain ⟨hj, hat⟩ := rdA_spec q
        obtain ⟨ad', g2, cl, Ar, z1, z2, z3⟩ := hH.at hc0
        rw [g1] at g2; cases g2
        have hin : ¬ (j < 0 ∨ cl.slots.size ≤ j.toNatClampNeg) := by
          have := (List.getElem?_eq_some_iff.mp hat).1
          rintro (y | y)
          · exact hj y
          · omega
        exact Nxt.pure X rfl hL ⟨_, _, rfl, rfl, h2⟩ hH hF (fun t z => X.laload hx (j := j) (v := .long x) Ar.1 (State.isArrayOf_alike hZ.alike Ar.2.1) Ar.2.2 hin (z3 _ _ hat) (g := mkF m pc A _) rfl rfl hd t z)
      · cases h
    · cases h
  | iastore =>
    obtain rfl : len = 1 := by simpa [lenOk] using hlen
    simp only [xI] at h
    split at h
    · rename_i x j o S0
      obtain ⟨S1, rfl, h1⟩ := hS.int
      obtain ⟨S2, rfl, h2⟩ := h1.int
      obtain ⟨ad, S3, g1, rfl, h3⟩ := h2.ref
      split at h
      · rename_i B hc0
        split at h
        · rename_i enr
          obtain ⟨B', q, e1⟩ := Option.map_eq_some_iff.mp h
          cases e1
          obtain ⟨hj, hlt, rfl⟩ := wrA_spec q
          obtain ⟨ad', g2, cl, Ar, z1, z2, z3⟩ := hH.at hc0
          rw [g1] at g2; cases g2
          have hin : ¬ (j < 0 ∨ cl.slots.size ≤ j.toNatClampNeg) := by
            rintro (y | y)
            · exact hj y
            · omega
          obtain ⟨T2, h2', X2, e2, W2, st2⟩ := stI X hx hZ rfl Ar (j := j) (x := x) hin (g := mkF m pc A _) rfl rfl hd
          exact Nxt.mem X2 rfl hL h3 (by rw [e2]; exact hH.wrI g1 hc0 W2) (Fr.snoc X2 hF (hH.2.2.2.1 _ _ g1 enr)) st2
        · cases h
      · cases h
    · cases h
  | bastore =>
    obtain rfl : len = 1 := by simpa [lenOk] using hlen
    simp only [xI] at h
    split at h
    · rename_i x j o S0
      obtain ⟨S1, rfl, h1⟩ := hS.int
      obtain ⟨S2, rfl, h2⟩ := h1.int
      obtain ⟨ad, S3, g1, rfl, h3⟩ := h2.ref
      split at h
      · rename_i B hc0
        split at h
        · rename_i enr
          obtain ⟨B', q, e1⟩ := Option.map_eq_some_iff.mp h
          cases e1
          obtain ⟨hj, hlt, rfl⟩ := wrA_spec q
          obtain ⟨ad', g2, cl, Ar, z1, z2, z3⟩ := hH.at hc0
          rw [g1] at g2; cases g2
          have hin : ¬ (j < 0 ∨ cl.slots.size ≤ j.toNatClampNeg) := by
            rintro (y | y)
            · exact hj y
            · omega
          obtain ⟨T2, h2', X2, e2, W2, st2⟩ := stZ X hx hZ rfl Ar (j := j) (x := x) hin (g := mkF m pc A _) rfl rfl hd
          exact Nxt.mem X2 rfl hL h3 (by rw [e2]; exact hH.wrI g1 hc0 W2) (Fr.snoc X2 hF (hH.2.2.2.1 _ _ g1 enr)) st2
        · cases h
      · cases h
    · cases h
  | lastore =>
    obtain rfl : len = 1 := by simpa [lenOk] using hlen
    simp only [xI] at h
    split at h
    · rename_i x j o S0
      obtain ⟨S1, rfl, h1⟩ := hS.long
      obtain ⟨S2, rfl, h2⟩ := h1.int
      obtain ⟨ad, S3, g1, rfl, h3⟩ := h2.ref
      split at h
      · rename_i B hc0
        split at h
        · rename_i enr
          obtain ⟨B', q, e1⟩ := Option.map_eq_some_iff.mp h
          cases e1
          obtain ⟨hj, hlt, rfl⟩ := wrA_spec q
          obtain ⟨ad', g2, cl, Ar, z1, z2, z3⟩ := hH.at hc0
          rw [g1] at g2; cases g2
          have hin : ¬ (j < 0 ∨ cl.slots.size ≤ j.toNatClampNeg) := by
            rintro (y | y)
            · exact hj y
            · omega
          obtain ⟨T2, h2', X2, e2, W2, st2⟩ := stJ X hx hZ rfl Ar (j := j) (x := x) hin (g := mkF m pc A _) rfl rfl hd
          exact Nxt.mem X2 rfl hL h3 (by rw [e2]; exact hH.wrJ g1 hc0 W2) (Fr.snoc X2 hF (hH.2.2.2.1 _ _ g1 enr)) st2
        · cases h
      · cases h
    · cases h
  | arraylength =>
    obtain rfl : len = 1 := by simpa [lenOk] using hlen
    simp only [xI] at h
    split at h
    · rename_i o S0
      obtain ⟨ad, S1, g1, rfl, h1⟩ := hS.ref
      split at h
      · rename_i bb B hc0
        cases h
        obtain ⟨ad', g2, cl, Ar, z1, z2, z3⟩ := hH.at hc0
        rw [g1] at g2; cases g2
        exact Nxt.pure X rfl hL ⟨_, _, rfl, rfl, h1⟩ hH hF (fun t z => X.arraylength hx (cell := cl) Ar.1 (State.isArrayOf_alike hZ.alike Ar.2.1) (g := mkF m pc A _) rfl rfl hd t (by rw [z1]; exact z))
      · cases h
    · cases h
  | _ => simp [xI] at h
set_option maxHeartbeats 4000000 in
theorem stepN (X : Stand p l e R s m args below meth c T locs cells slots) (hx : p.tables.exec = Jvm.exec) (hZ : Z.Warmed39 s.vm) (hown : s.vm.findClass d.name.cls = some m.cls) (hP : chk P = true) (hW : ∀ w ∈ wordsOf P, w.before a0 Z = true) (hdm : d ∈ P.mth)
    {pc len a ks : Nat} {er : List Bool} {b : Int} {i : Instr} (hit : (pc, i, len, er, a, b) ∈ d.code) (hd : decode c.code pc = .ok (i, len)) (hlen : lenOk i len = true) {ρ : List Addr} {S S' Sc : List Value} {H H1 : AHeap} {A : Array Slot}
    (hS : SR ρ S Sc) (hH : HR P Z n0 T.heap ρ H) (h : xN P i a S H = some (S', H1, ks)) (hc : cells + 1 ≤ R.cells) (hl : slots + ks ≤ R.slots) :
    ∃ T' ad Sc', Stand p l e R s m args below meth c T' locs (cells + 1) (slots + ks) ∧ SR (ρ ++ [ad]) S' Sc' ∧ HR P Z n0 T'.heap (ρ ++ [ad]) H1 ∧
      ∀ target, Steps p.tables e below (T'.setTop (mkF m (pc + len) A Sc')) target → Steps p.tables e below (T.setTop (mkF m pc A Sc)) target := by
  have hWi : ∀ w ∈ iWords P d (pc, i, len, er, a, b), w.before a0 Z = true := fun w q => hW w (in_wordsOf hdm hit q)
  cases i with
  | new k =>
    obtain rfl : len = 3 := by simpa [lenOk] using hlen
    simp only [xN] at h
    split at h
    · rename_i cd q1
      cases h
      have hcm : cd ∈ P.cls := List.mem_of_getElem? q1
      have w1 := hWi (.classLink d.name.cls k cd.1) (by simp only [iWords, q1]; exact List.mem_singleton.mpr rfl)
      have w2 := hW (.instantiable cd.1 cd.2.1) (in_wordsC hcm (List.mem_cons_self ..))
      have w3 := hW (.initialized cd.1) (in_wordsC hcm (List.mem_cons_of_mem _ (List.mem_cons_self ..)))
      obtain ⟨T2, h2, X2, e2, E2, A2, D2, -, st2⟩ := newO X hx hZ hown w1 w2 w3 rfl (g := mkF m pc A Sc) rfl hd hc hl
      have hck := cChk_of hP hcm
      simp only [cChk, Bool.and_eq_true, List.all_eq_true] at hck
      have hcr : CR P Z h2 (ρ ++ [T.heap.size]) T.heap.size (.inl (a, cd.2.2.map fun f => dflt f.2.2.1)) := by
        refine ⟨cd, q1, A2, by simp, fun j v fd y1 y2 => ?_⟩
        rw [List.getElem?_map, y2] at y1
        cases y1
        have f1 := hck.2 _ (List.mem_of_getElem? y2)
        simp only [fChk, Bool.and_eq_true, decide_eq_true_eq] at f1
        exact ⟨_, dflt_sim f1.2, D2 (laid_of (hW _ (in_wordsC hcm (fWord_in (List.mem_of_getElem? y2))))) f1.1⟩
      refine ⟨T2, T.heap.size, _, X2, ⟨_, _, rfl, ⟨T.heap.size, ?_, rfl⟩, hS.mono⟩, (by rw [e2]; exact hH.push E2 hcr), st2⟩
      rw [← hH.2.1]; simp
    · cases h
  | newarray t =>
    obtain rfl : len = 2 := by simpa [lenOk] using hlen
    simp only [xN] at h
    split at h
    · rename_i n S0
      obtain ⟨S1, rfl, h1⟩ := hS.int
      split at h
      · cases h
      · rename_i hn
        have hn1 : ¬ n < 0 := fun z => hn (Or.inl z)
        have hn2 : n.toNatClampNeg ≤ 100000 := Nat.le_of_not_lt fun z => hn (Or.inr z)
        have w1 := hWi (.arrayClass (newarray.typeOf t)) (List.mem_singleton.mpr rfl)
        have top : (ρ ++ [T.heap.size])[H.length]? = some T.heap.size := by rw [← hH.2.1]; simp
        split at h
        · cases h
          obtain ⟨T2, h2, cA, X2, e2, E2, A2, st2⟩ := newP X hx hZ w1 rfl (g := mkF m pc A _) rfl hd rfl hn1 (cap := n.toNatClampNeg) (Nat.le_refl _) (by omega) hc hl
          have hcr : CR P Z h2 (ρ ++ [T.heap.size]) T.heap.size ((.inr (.inl (false, List.replicate n.toNatClampNeg 0)) : ACell)) := by
            refine ⟨_, A2, by simp [sz_new], by simp; omega, fun j x y => ?_⟩
            rw [List.getElem?_replicate] at y
            split at y
            · rename_i lt
              cases y
              simp [newA, lt, newarray.typeOf, defaultValue]
            · cases y
          exact ⟨T2, T.heap.size, _, X2, ⟨_, _, rfl, ⟨T.heap.size, top, rfl⟩, h1.mono⟩, (by rw [e2]; exact hH.push E2 hcr), st2⟩
        · cases h
          obtain ⟨T2, h2, cA, X2, e2, E2, A2, st2⟩ := newP X hx hZ w1 rfl (g := mkF m pc A _) rfl hd rfl hn1 (cap := n.toNatClampNeg) (Nat.le_refl _) (by omega) hc hl
          have hcr : CR P Z h2 (ρ ++ [T.heap.size]) T.heap.size ((.inr (.inl (true, List.replicate n.toNatClampNeg 0)) : ACell)) := by
            refine ⟨_, A2, by simp [sz_new], by simp; omega, fun j x y => ?_⟩
            rw [List.getElem?_replicate] at y
            split at y
            · rename_i lt
              cases y
              simp [newA, lt, newarray.typeOf, defaultValue]
            · cases y
          exact ⟨T2, T.heap.size, _, X2, ⟨_, _, rfl, ⟨T.heap.size, top, rfl⟩, h1.mono⟩, (by rw [e2]; exact hH.push E2 hcr), st2⟩
        · cases h
          obtain ⟨T2, h2, cA, X2, e2, E2, A2, st2⟩ := newP X hx hZ w1 rfl (g := mkF m pc A _) rfl hd rfl hn1 (cap := n.toNatClampNeg) (Nat.le_refl _) (by omega) hc hl
          have hcr : CR P Z h2 (ρ ++ [T.heap.size]) T.heap.size ((.inr (.inr (List.replicate n.toNatClampNeg 0)) : ACell)) := by
            refine ⟨_, A2, by simp [sz_new], by simp; omega, fun j x y => ?_⟩
            rw [List.getElem?_replicate] at y
            split at y
            · rename_i lt
              cases y
              simp [newA, lt, newarray.typeOf, defaultValue]
            · cases y
          exact ⟨T2, T.heap.size, _, X2, ⟨_, _, rfl, ⟨T.heap.size, top, rfl⟩, h1.mono⟩, (by rw [e2]; exact hH.push E2 hcr), st2⟩
        · cases h
    · cases h
  | _ => simp [xN] at h
end Step
end Jvm.Own
namespace Jvm.Own
open Jvm Jvm.ClassFile Sem Op Lib Jvm.Free Jvm.Stand Jvm.LawKit Jvm.RoadKit Bundle
theorem fetch_mem : ∀ {l : List (Nat × It)} {pc : Nat} {i : It}, fetch l pc = some i → (pc, i) ∈ l
  | [], _, _, h => by simp [fetch] at h
  | (q, j) :: r, pc, i, h => by
    unfold fetch at h
    split at h
    · rename_i e; cases h; subst e; exact List.mem_cons_self ..
    · exact List.mem_cons_of_mem _ (fetch_mem h)
theorem tgt_spec {pc q : Nat} {o : Int} (h : tgt pc o = some q) : 0 ≤ (pc : Int) + o ∧ ((pc : Int) + o).toNat = q := by
  unfold tgt at h
  split at h
  · rename_i z; cases h; exact ⟨z, rfl⟩
  · cases h
/-- the end of a method's run -/
def Done (P : PD) (Z : State) (n0 : Nat) (p : Program) (e : Env) (below : List Frame) (s : State) (ρ : List Addr) (v : Option Value) (H' : AHeap) (kc ks : Nat) (t0 : State) : Prop :=
  ∃ s₂ v' L' t, Steps p.tables e below t0 s₂ ∧ s₂.status = .running ∧ Ended s₂ below (.returned v') ∧ OV (ρ ++ t) v v' ∧ HR P Z n0 s₂.heap (ρ ++ t) H' ∧ Fr n0 L' ∧ FrameEnd s (.returned v') s₂ L' kc ks
def Cx (P : PD) (Z : State) (p : Program) (R : Room) (s : State) (m : MethodId) (meth : Method) (c : Code) (d : MD) : Prop :=
  p.tables.exec = Jvm.exec ∧ Z.Warmed39 s.vm ∧ c.code = d.bytes ∧ c.maxLocals = d.maxL ∧ s.vm.findClass d.name.cls = some m.cls ∧ meth.name = d.name.name ∧ meth.sig.returnType = d.ret ∧ meth.locks = false ∧ d.rf ≤ R.frames ∧ d.rw ≤ R.locals
/-- what the machine says of a run that has come to pc is what the model does -/
def Says (P : PD) (Z : State) (n0 : Nat) (l : Launch) (n : Nat) : Prop :=
  ∀ (mi pc : Nat) (L : List Slot) (S : List Value) (H : AHeap) (v : Option Value) (H' : AHeap) (kc ks : Nat), exe P n mi pc L S H = some (v, H', kc, ks) → ∀ d, P.mth[mi]? = some d →
    ∀ (p : Program) (e : Env) (R : Room) (s : State) (m : MethodId) (args : Array Value) (below : List Frame) (meth : Method) (c : Code) (T : State) (locs : List Loc) (cells slots : Nat),
      Stand p l e R s m args below meth c T locs cells slots → Cx P Z p R s m meth c d → cells + kc ≤ R.cells → slots + ks ≤ R.slots →
      ∀ (ρ : List Addr) (A : Array Slot) (Sc : List Value), LR ρ L A → L.length = d.maxL → SR ρ S Sc → HR P Z n0 T.heap ρ H → Fr n0 locs →
        Done P Z n0 p e below s ρ v H' (cells + kc) (slots + ks) (T.setTop (mkF m pc A Sc))
def QQ (P : PD) (Z : State) (n0 : Nat) (ρ : List Addr) (v : Option Value) (H1 : AHeap) (v' : Option Value) (h' : Heap) (L : List Loc) : Prop := Fr n0 L ∧ ∃ t, OV (ρ ++ t) v v' ∧ HR P Z n0 h' (ρ ++ t) H1
theorem met_of {P : PD} {Z : State} {n0 : Nat} {l : Launch} {n : Nat} (ih : Says P Z n0 l n) {j : Nat} {y : MD} (hy : P.mth[j]? = some y) (hpn : plainName y.name.cls = true) {as ws : List Value} {H H1 : AHeap} {v : Option Value} {kc ks : Nat} (he : exe P n j 0 (entL as y.maxL) [] H = some (v, H1, kc, ks)) {ρ : List Addr} (hS : SR ρ as ws) (hlen : (entA as).length ≤ y.maxL) {h : Heap} (hH : HR P Z n0 h ρ H) (w0 : List Jvm.Cond) (rm : Room) (r1 : y.rf ≤ rm.frames) (r2 : y.rw ≤ rm.locals) (r3 : kc ≤ rm.cells) (r4 : ks ≤ rm.slots) :
    MetFree l y.name (head1 (Jvm.Cond.code y.name y.bytes y.maxL y.ret :: w0) rm) (fun a U => a = ws.toArray ∧ Z.Warmed39 U.vm ∧ U.heap = h) (fun _ _ _ _ _ => True)
      (fun _ U o U' => ∃ v' L, o = .returned v' ∧ QQ P Z n0 ρ v H1 v' U'.heap L ∧ FrameEnd U o U' L kc ks) := by
  refine MetFree.of_bodySF (plainFor_of_name hpn) hisR ?_
  intro p e s m args below meth c s₁ Bd hml0 hP hK
  obtain ⟨rfl, hZ, hh⟩ := hP
  have X0 : Stand p l e rm s m ws.toArray below meth c s₁ [] 0 0 := Stand.of_body Bd
  have e0 : s₁.heap = h := by rw [← hh, Bd.state]; rfl
  obtain ⟨hL, hsz⟩ := LR.enter hS hlen
  have hLl : (entL as y.maxL).length = y.maxL := by rw [← hL.1]; exact hsz
  obtain ⟨s₂, v', L', t, h1, h2, h3, h4, h5, h6, h7⟩ := ih j 0 _ [] H v H1 kc ks he y hy p e _ s m ws.toArray below meth c s₁ [] 0 0 X0
    ⟨Bd.exec, hZ, Bd.bytes, hml0, findClass_of_methodNamed Bd.named, (name_of_methodNamed Bd.named Bd.method).1, Bd.returns, BodyLoose.notSynchronized Bd, r1, r2⟩
    (by rw [Nat.zero_add]; exact r3) (by rw [Nat.zero_add]; exact r4) ρ _ [] hL hLl rfl (by rw [e0]; exact hH) (Fr.nil n0)
  refine ⟨s₂, _, h1, h2, h3, v', L', rfl, ⟨h6, t, h4, h5⟩, ?_⟩
  rw [Nat.zero_add, Nat.zero_add] at h7
  exact h7
section Sound
variable {P : PD} {Z : State} {n0 : Nat} {a0 : Array Value} {l : Launch}
theorem Done.step {p : Program} {e : Env} {below : List Frame} {s : State} {ρ t : List Addr} {v : Option Value} {H' : AHeap} {kc ks : Nat} {t0 t1 : State} (h : Done P Z n0 p e below s (ρ ++ t) v H' kc ks t1) (k : ∀ target, Steps p.tables e below t1 target → Steps p.tables e below t0 target) : Done P Z n0 p e below s ρ v H' kc ks t0 := by
  obtain ⟨s₂, v', L', t', h1, h2, h3, h4, h5, h6, h7⟩ := h
  exact ⟨s₂, v', L', t ++ t', k _ h1, h2, h3, by rw [← List.append_assoc]; exact h4, by rw [← List.append_assoc]; exact h5, h6, h7⟩
theorem argsOf_spec {n : Nat} {S as rest : List Value} (h : argsOf n S = some (as, rest)) : n ≤ S.length ∧ as = (S.take n).reverse ∧ rest = S.drop n := by
  unfold argsOf at h
  split at h
  · rename_i z; cases h; exact ⟨z, rfl, rfl⟩
  · cases h
theorem res_ext {α : Type} {o : Option Res} {v : Option Value} {H' : AHeap} {kc ks c1 s1 : Nat} (h : (o.map fun r => addR r c1 s1) = some (v, H', kc, ks)) : ∃ kc' ks', o = some (v, H', kc', ks') ∧ kc = kc' + c1 ∧ ks = ks' + s1 := by
  obtain ⟨⟨v0, H0, c0, s0⟩, h1, h2⟩ := Option.map_eq_some_iff.mp h
  simp only [addR] at h2
  cases h2
  exact ⟨c0, s0, h1, rfl, rfl⟩
set_option maxHeartbeats 4000000 in
theorem sound (hP : chk P = true) (hW : ∀ w ∈ wordsOf P, w.before a0 Z = true) : ∀ n, Says P Z n0 l n
  | 0 => fun mi pc L S H v H' kc ks h => by simp [exe] at h
  | n + 1 => by
    have ih := sound hP hW n
    intro mi pc L S H v H' kc ks h d hmi
    unfold exe at h
    rw [hmi] at h
    simp only at h
    have hdm : d ∈ P.mth := List.mem_of_getElem? hmi
    split at h
    · cases h
    rename_i it i len er a b hft
    have hit := fetch_mem hft
    have hmc := mChk_of hP hdm
    simp only [mChk, Bool.and_eq_true] at hmc
    obtain ⟨⟨⟨⟨⟨⟨mc1, mc2⟩, mc3⟩, mc4⟩, mc5⟩, mc6⟩, mc7⟩ := hmc
    unfold codeChk at mc3
    rw [List.all_eq_true] at mc3
    have hci := mc3 _ hit
    simp only [Bool.and_eq_true, decide_eq_true_eq] at hci
    obtain ⟨hdec, hlenOk⟩ := hci
    -- a jump, or a fall through
    have jump : ∀ (q : Nat) (S1 : List Value) (h1 : exe P n mi q (forget er L) S1 H = some (v, H', kc, ks)),
        (∀ (p : Program) (e : Env) (R : Room) (s : State) (m : MethodId) (args : Array Value) (below : List Frame) (meth : Method) (c : Code) (T : State) (locs : List Loc) (cells slots : Nat),
          Stand p l e R s m args below meth c T locs cells slots → Cx P Z p R s m meth c d → ∀ (ρ : List Addr) (A : Array Slot) (Sc : List Value), LR ρ L A → SR ρ S Sc → ∃ Sc1, SR ρ S1 Sc1 ∧ ∀ target, Steps p.tables e below (T.setTop (mkF m q A Sc1)) target → Steps p.tables e below (T.setTop (mkF m pc A Sc)) target) →
        ∀ (p : Program) (e : Env) (R : Room) (s : State) (m : MethodId) (args : Array Value) (below : List Frame) (meth : Method) (c : Code) (T : State) (locs : List Loc) (cells slots : Nat),
          Stand p l e R s m args below meth c T locs cells slots → Cx P Z p R s m meth c d → cells + kc ≤ R.cells → slots + ks ≤ R.slots →
          ∀ (ρ : List Addr) (A : Array Slot) (Sc : List Value), LR ρ L A → L.length = d.maxL → SR ρ S Sc → HR P Z n0 T.heap ρ H → Fr n0 locs →
            Done P Z n0 p e below s ρ v H' (cells + kc) (slots + ks) (T.setTop (mkF m pc A Sc)) := by
      intro q S1 h1 st p e R s m args below meth c T locs cells slots X cx k1 k2 ρ A Sc hL hLl hS hH hF
      obtain ⟨Sc1, hS1, st1⟩ := st p e R s m args below meth c T locs cells slots X cx ρ A Sc hL hS
      have := ih mi q _ S1 H v H' kc ks h1 d hmi p e R s m args below meth c T locs cells slots X cx k1 k2 ρ A Sc1 (hL.forget er) (by rw [forget_len]; exact hLl) hS1 hH hF
      exact Done.step (t := []) (by rw [List.append_nil]; exact this) st1
    have dec : ∀ {c : Code}, c.code = d.bytes → decode c.code pc = .ok (i, len) := fun hc => by rw [hc]; exact hdec
    split at h
    · -- goto
      rename_i o
      split at h
      · rename_i q hq
        obtain ⟨t1, t2⟩ := tgt_spec hq
        have m3 := jump q S h
        obtain rfl : len = 3 := by simpa [lenOk] using hlenOk
        exact m3 fun p e R s m args below meth c T locs cells slots X cx ρ A Sc hL hS => ⟨Sc, hS, fun t z => XS.goto (g := mkF m pc A Sc) X.here cx.1 rfl (pc0 := pc) (pc' := q) rfl (dec cx.2.2.1) t1 t2 z⟩
      · cases h
    · -- if_icmp
      rename_i cd o
      split at h
      · rename_i y x S1
        obtain rfl : len = 3 := by simpa [lenOk] using hlenOk
        split at h
        · rename_i hc
          split at h
          · rename_i q hq
            obtain ⟨t1, t2⟩ := tgt_spec hq
            have m3 := jump q S1 h
            exact m3 fun p e R s m args below meth c T locs cells slots X cx ρ A Sc hL hS => by
              obtain ⟨Sa, rfl, ha⟩ := hS.int
              obtain ⟨Sb, rfl, hb⟩ := ha.int
              exact ⟨Sb, hb, fun t z => XS.icmpYes (g := mkF m pc A _) X.here cx.1 rfl (pc0 := pc) (pc' := q) rfl (dec cx.2.2.1) rfl hc t1 t2 z⟩
          · cases h
        · rename_i hc
          have m3 := jump (pc + 3) S1 h
          exact m3 fun p e R s m args below meth c T locs cells slots X cx ρ A Sc hL hS => by
            obtain ⟨Sa, rfl, ha⟩ := hS.int
            obtain ⟨Sb, rfl, hb⟩ := ha.int
            exact ⟨Sb, hb, fun t z => XS.icmpNo (g := mkF m pc A _) X.here cx.1 rfl (dec cx.2.2.1) rfl (by simpa using hc) z⟩
      · cases h
    · -- ifCond
      rename_i cd o
      split at h
      · rename_i x S1
        obtain rfl : len = 3 := by simpa [lenOk] using hlenOk
        split at h
        · rename_i hc
          split at h
          · rename_i q hq
            obtain ⟨t1, t2⟩ := tgt_spec hq
            have m3 := jump q S1 h
            exact m3 fun p e R s m args below meth c T locs cells slots X cx ρ A Sc hL hS => by
              obtain ⟨Sa, rfl, ha⟩ := hS.int
              exact ⟨Sa, ha, fun t z => XS.ifYes (g := mkF m pc A _) X.here cx.1 rfl (pc0 := pc) (pc' := q) rfl (dec cx.2.2.1) rfl hc t1 t2 z⟩
          · cases h
        · rename_i hc
          have m3 := jump (pc + 3) S1 h
          exact m3 fun p e R s m args below meth c T locs cells slots X cx ρ A Sc hL hS => by
            obtain ⟨Sa, rfl, ha⟩ := hS.int
            exact ⟨Sa, ha, fun t z => XS.ifNo (g := mkF m pc A _) X.here cx.1 rfl (dec cx.2.2.1) rfl (by simpa using hc) z⟩
      · cases h
    · -- ifnonnull
      rename_i o
      split at h
      · rename_i x S1
        split at h
        · rename_i q hq
          obtain ⟨t1, t2⟩ := tgt_spec hq
          have m3 := jump q S1 h
          obtain rfl : len = 3 := by simpa [lenOk] using hlenOk
          exact m3 fun p e R s m args below meth c T locs cells slots X cx ρ A Sc hL hS => by
            obtain ⟨ad, Sa, -, rfl, ha⟩ := hS.ref
            exact ⟨Sa, ha, fun t z => XT.ifnonnullYes (g := mkF m pc A _) X.here cx.1 rfl (pc0 := pc) (pc' := q) rfl (dec cx.2.2.1) rfl t1 t2 z⟩
        · cases h
      · cases h
    · -- ireturn
      split at h
      · rename_i x
        split at h
        · rename_i v0 hv0
          cases h
          obtain rfl : len = 1 := by simpa [lenOk] using hlenOk
          intro p e R s m args below meth c T locs cells slots X cx k1 k2 ρ A Sc hL hLl hS hH hF
          obtain ⟨hx, hZ, hby, hml, hown, hnm, hret, hlk, -, -⟩ := cx
          obtain ⟨Sa, rfl, ha⟩ := hS.int
          unfold retV at hv0
          split at hv0
          · rename_i hr0
            cases hv0
            obtain ⟨fs, hr, hrun, hended, hWm, hsame⟩ := X.leave (v := some (.int x)) (fun q => by rw [hret, hr0] at q; cases q) hlk
            exact ⟨_, _, locs, [], retI X hx (by rw [hret, hr0]) (dec hby) hr, hrun, hended, ⟨_, rfl, rfl⟩, by rw [List.append_nil]; exact hH, hF, ⟨_, rfl⟩, hWm, hsame⟩
          · rename_i hr0
            cases hv0
            obtain ⟨fs, hr, hrun, hended, hWm, hsame⟩ := X.leave (v := some (.int (x &&& 1))) (fun q => by rw [hret, hr0] at q; cases q) hlk
            exact ⟨_, _, locs, [], retN X hx (t := .boolean) (by rw [hret, hr0]) (by simp) (dec hby) hr, hrun, hended, ⟨_, rfl, rfl⟩, by rw [List.append_nil]; exact hH, hF, ⟨_, rfl⟩, hWm, hsame⟩
          · cases hv0
        · cases h
      · cases h
    · -- lreturn
      split at h
      · rename_i x
        split at h
        · rename_i hr0
          cases h
          obtain rfl : len = 1 := by simpa [lenOk] using hlenOk
          intro p e R s m args below meth c T locs cells slots X cx k1 k2 ρ A Sc hL hLl hS hH hF
          obtain ⟨hx, hZ, hby, hml, hown, hnm, hret, hlk, -, -⟩ := cx
          obtain ⟨Sa, rfl, ha⟩ := hS.long
          obtain rfl : Sa = [] := ha
          obtain ⟨fs, hr, hrun, hended, hWm, hsame⟩ := X.leave (v := some (.long x)) (fun q => by rw [hret, hr0] at q; cases q) hlk
          exact ⟨_, _, locs, [], X.lreturnOut hx (by rw [hret, hr0]) (dec hby) hr, hrun, hended, ⟨_, rfl, rfl⟩, by rw [List.append_nil]; exact hH, hF, ⟨_, rfl⟩, hWm, hsame⟩
        · cases h
      · cases h
    · -- return
      split at h
      · split at h
        · rename_i hr0
          cases h
          obtain rfl : len = 1 := by simpa [lenOk] using hlenOk
          intro p e R s m args below meth c T locs cells slots X cx k1 k2 ρ A Sc hL hLl hS hH hF
          obtain ⟨hx, hZ, hby, hml, hown, hnm, hret, hlk, -, -⟩ := cx
          obtain rfl : Sc = [] := hS
          obtain ⟨fs, hr, hrun, hended, hWm, hsame⟩ := X.leave (v := none) (fun _ => rfl) hlk
          exact ⟨_, _, locs, [], X.returnOut hx (by rw [hret, hr0]) (dec hby) hr, hrun, hended, rfl, by rw [List.append_nil]; exact hH, hF, ⟨_, rfl⟩, hWm, hsame⟩
        · cases h
      · cases h
    · -- a call, or a plain step
      split at h
      · rename_i hinv
        split at h
        · -- Object.<init>
          rename_i hb1
          subst hb1
          have hk : ∃ k x S1, i = .invokespecial k ∧ S = .ref x :: S1 ∧ (if 1 ≤ d.rf ∧ catSum S1 + 12 ≤ d.rw then exe P n mi (pc + 3) (forget er L) S1 H else none) = some (v, H', kc, ks) := by
            split at h
            · exact ⟨_, _, _, rfl, rfl, h⟩
            · cases h
          clear h
          obtain ⟨k, x, S1, rfl, rfl, h⟩ := hk
          · split at h
            · rename_i hroom
              have m3 := ih mi (pc + 3) _ S1 H v H' kc ks h d hmi
              obtain rfl : len = 3 := by simpa [lenOk] using hlenOk
              have hWi : ∀ w ∈ iWords P d (pc, .invokespecial k, 3, er, a, -1), w.before a0 Z = true := fun w q => hW w (in_wordsOf hdm hit q)
              have hWi' : ∀ w ∈ [Jvm.Cond.methodLink d.name.cls k Lib.objectInit, .instanceMethod Lib.objectInit, .code Lib.objectInit ⟨#[0xb1]⟩ 1 none], w.before a0 Z = true := hWi
              intro p e R s m args below meth c T locs cells slots X cx k1 k2 ρ A Sc hL hLl hS hH hF
              have cx0 := cx
              obtain ⟨hx, hZ, hby, hml, hown, hnm, hret, hlk, hrf, hrw⟩ := cx
              obtain ⟨ad, Sa, -, rfl, ha⟩ := hS.ref
              obtain ⟨T2, X2, e2, st2⟩ := initO X hx hZ hown (hWi' _ (by simp)) (hWi' _ (by simp)) (hWi' _ (by simp)) rfl (g := mkF m pc A (.ref ad :: Sa)) rfl (by rw [hml]; exact hL.1.trans hLl) rfl (dec hby) (by omega) (W := catSum S1) (by show 2 * 0 + _ ≤ _; rw [ha.cat]; omega) (by omega)
              have := m3 p e R s m args below meth c T2 locs cells slots X2 cx0 k1 k2 ρ A Sa (hL.forget er) (by rw [forget_len]; exact hLl) ha (by rw [e2]; exact hH) hF
              exact Done.step (t := []) (by rw [List.append_nil]; exact this) st2
            · cases h
        · rename_i hb1
          split at h
          · cases h
          rename_i y hy
          split at h
          · cases h
          rename_i as rest hao
          split at h
          · rename_i hcond
            simp only [Bool.and_eq_true, decide_eq_true_eq] at hcond
            obtain ⟨⟨⟨⟨hj, hik⟩, hrecv⟩, hroom⟩, hent⟩ := hcond
            split at h
            · rename_i v1 H1 c1 s1 hcal
              obtain ⟨c0, s0, hcon, rfl, rfl⟩ := res_ext (α := Unit) h
              have m3 := ih mi (pc + 3) _ _ H1 v H' c0 s0 hcon d hmi
              intro p e R s m args below meth c T locs cells slots X cx k1 k2 ρ A Sc hL hLl hS hH hF
              have cx0 := cx
              obtain ⟨hx, hZ, hby, hml, hown, hnm, hret, hlk, hrf, hrw⟩ := cx
              have hym : y ∈ P.mth := List.mem_of_getElem? hy
              have hyc := mChk_of hP hym
              simp only [mChk, Bool.and_eq_true, decide_eq_true_eq] at hyc
              obtain ⟨⟨⟨⟨⟨⟨yc1, yc2⟩, yc3⟩, yc4⟩, yc5⟩, yc6⟩, yc7⟩ := hyc
              simp only [fitsRoom, Bool.and_eq_true, decide_eq_true_eq] at hroom
              obtain ⟨hn, has, hrest⟩ := argsOf_spec hao
              have hnc : nargs y ≤ Sc.length := by rw [hS.len]; exact hn
              have hSa : SR ρ as (Sc.take (nargs y)).reverse := by rw [has]; exact (hS.take _).rev
              have hSr : SR ρ rest (Sc.drop (nargs y)) := by rw [hrest]; exact hS.drop _
              have hsplit : Sc = (Sc.take (nargs y)).reverse.reverse ++ Sc.drop (nargs y) := by rw [List.reverse_reverse, List.take_append_drop]
              obtain ⟨ws, hws⟩ : ∃ ws, ws = (Sc.take (nargs y)).reverse := ⟨_, rfl⟩
              obtain ⟨rc, hrc⟩ : ∃ rc, rc = Sc.drop (nargs y) := ⟨_, rfl⟩
              have hwl : ws.length = nargs y := by rw [hws]; simp; omega
              rw [← hws] at hSa hsplit
              rw [← hrc] at hSr hsplit
              have wcode := hW (.code y.name y.bytes y.maxL y.ret) (in_wordsM hy hj (List.mem_cons_self ..))
              have winit := hW (.initialized y.name.cls) (in_wordsM hy hj (List.mem_cons_of_mem _ (List.mem_cons_self ..)))
              have wmore : ∀ w ∈ (if y.kind = 0 then [Jvm.Cond.static y.name] else if y.kind = 1 then [.instanceMethod y.name] else if y.kind = 2 then [.instanceMethod y.name, .privateMethod y.name] else [.declares y.name, .selects y.name.cls y.name y.name, .instanceMethod y.name]), w.before a0 Z = true := fun w q => hW w (in_wordsM hy hj (List.mem_cons_of_mem _ (List.mem_cons_of_mem _ q)))
              have hMH : y.name.cls ≠ "java/lang/invoke/MethodHandle" ∧ y.name.cls ≠ "java/lang/invoke/VarHandle" := ⟨yc5, yc6⟩
              have back := backOf (W := catSum rest) (len := 3) (R := R) (p := p) (e := e) (below := below) (s := s) (args := args) (met_of ih hy yc1 hcal hSa hent hH [] ({ frames := y.rf, cells := c1, slots := s1, locals := y.rw } : Room) (Nat.le_refl _) (Nat.le_refl _) (Nat.le_refl _) (Nat.le_refl _)) hZ wcode winit (by show y.rf + 1 ≤ _; omega) (by show _ + y.rw ≤ _; omega)
              have hWW : 2 * (mkF m pc A Sc).monitorRoom + (rc.map fun v => v.category).sum ≤ catSum rest := by show 2 * 0 + _ ≤ _; rw [hSr.cat]; omega
              have hpar : ∀ sig, parseMethodDescriptor y.name.desc = some sig → sig.parameters.length = y.npar := fun sig q => by
                unfold sigChk at yc2
                rw [q] at yc2
                simpa using yc2
              have fin : ∀ (v1' : Option Value) (T2 : State) (Lc : List Loc), Stand p l e R s m args below meth c T2 (locs ++ Lc) (cells + c1) (slots + s1) → QQ P Z n0 ρ v1 H1 v1' T2.heap Lc →
                  (∀ target, Steps p.tables e below (T2.setTop (mkF m (pc + 3) A (v1'.toList ++ rc))) target → Steps p.tables e below (T.setTop (mkF m pc A Sc)) target) →
                  Done P Z n0 p e below s ρ v H' (cells + (c0 + c1)) (slots + (s0 + s1)) (T.setTop (mkF m pc A Sc)) := by
                intro v1' T2 Lc X2 hq st2
                obtain ⟨hF2, t, hov, hH2⟩ := hq
                have := m3 p e R s m args below meth c T2 (locs ++ Lc) _ _ X2 cx0 (by omega) (by omega) (ρ ++ t) A (v1'.toList ++ rc) (hL.forget er).mono (by rw [forget_len]; exact hLl) (hov.list.app hSr.mono) hH2 (hF.app hF2)
                have q1 : cells + c1 + c0 = cells + (c0 + c1) := by omega
                have q2 : slots + s1 + s0 = slots + (s0 + s1) := by omega
                rw [q1, q2] at this
                exact this.step st2
              have hcR : cells + c1 ≤ R.cells := by omega
              have hsR : slots + s1 ≤ R.slots := by omega
              cases i with
              | invokestatic k =>
                obtain rfl : len = 3 := by simpa [lenOk] using hlenOk
                have hk0 : y.kind = 0 := by simpa [invKind] using hik
                have wl := hW (.methodLink d.name.cls k y.name) (in_wordsOf hdm hit (by show _ ∈ mLink P d k a b; unfold mLink; rw [if_neg hb1, hy]; exact List.mem_singleton.mpr rfl))
                have wst := wmore (.static y.name) (by rw [if_pos hk0]; exact List.mem_singleton.mpr rfl)
                have hna : nargs y = y.npar := by simp [nargs, hk0]
                obtain ⟨v1', _, ⟨T2, L2, k2', n2⟩, -, X2, ⟨Lc, hQ, l2, y2, z2⟩, st2⟩ := Jvm.LawKit.callS X hx (y := y.name) hown (mvT hZ wl) (mvT hZ wst) (mvT hZ winit) (mvT hZ wcode) hMH back (g := mkF m pc A Sc) rfl (by rw [hml]; exact hL.1.trans hLl) (argsL := ws) (rest := rc) (fun sig q => by rw [hpar sig q, hwl, hna]) hsplit hWW (dec hby) (fun _ _ => ⟨rfl, rfl, hcR, hsR⟩)
                dsimp only [Pt.U, Pt.locs, Pt.cells, Pt.slots] at X2 l2 y2 z2 st2 hQ
                subst l2 y2 z2
                exact fin v1' T2 Lc X2 hQ st2
              | invokespecial k =>
                obtain rfl : len = 3 := by simpa [lenOk] using hlenOk
                have hk1 : y.kind = 1 := by simpa [invKind] using hik
                have wl := hW (.methodLink d.name.cls k y.name) (in_wordsOf hdm hit (by show _ ∈ mLink P d k a b; unfold mLink; rw [if_neg hb1, hy]; exact List.mem_singleton.mpr rfl))
                have wst := wmore (.instanceMethod y.name) (by rw [if_neg (by omega), if_pos hk1]; exact List.mem_singleton.mpr rfl)
                have hna : nargs y = y.npar + 1 := by simp [nargs, hk1]
                simp [hk1] at yc7
                have wcode' : (Jvm.Cond.code y.name y.bytes y.maxL none).before a0 Z = true := by rw [← yc7.2]; exact wcode
                unfold recvOk at hrecv
                rw [if_neg (by omega)] at hrecv
                split at hrecv
                · rename_i o as'
                  obtain ⟨ad, ws', g1, rfl, ha'⟩ := hSa.ref
                  have hst : Sc = ws'.reverse ++ .ref ad :: rc := by rw [hsplit]; simp
                  obtain ⟨v1', _, ⟨T2, L2, k2', n2⟩, -, X2, ⟨Lc, hQ, l2, y2, z2⟩, st2⟩ := X.specialBack hx (y := y.name) yc7.1 hown (mvT hZ wl) (mvT hZ wst) (mvT hZ wcode') hMH back (g := mkF m pc A Sc) rfl (by rw [hml]; exact hL.1.trans hLl) (Steps.refl _) (a := ad) (argsL := ws') (rest := rc) (fun sig q => by rw [hpar sig q]; simp [hna] at hwl; omega) hst hWW (dec hby) (fun _ _ => ⟨rfl, rfl, hcR, hsR⟩)
                  dsimp only [Pt.U, Pt.locs, Pt.cells, Pt.slots] at X2 l2 y2 z2 st2 hQ
                  subst l2 y2 z2
                  exact fin v1' T2 Lc X2 hQ fun t z => st2.trans z
                · cases hrecv
              | invokevirtual k =>
                obtain rfl : len = 3 := by simpa [lenOk] using hlenOk
                have wl := hW (.methodLink d.name.cls k y.name) (in_wordsOf hdm hit (by show _ ∈ mLink P d k a b; unfold mLink; rw [if_neg hb1, hy]; exact List.mem_singleton.mpr rfl))
                have hk23 : y.kind = 2 ∨ y.kind = 3 := by simpa [invKind] using hik
                have hk0 : ¬ y.kind = 0 := by omega
                have hk1 : ¬ y.kind = 1 := by omega
                have hna : nargs y = y.npar + 1 := by simp [nargs, hk0]
                unfold recvOk at hrecv
                rw [if_neg hk0] at hrecv
                split at hrecv
                · rename_i o as'
                  obtain ⟨ad, ws', g1, rfl, ha'⟩ := hSa.ref
                  have hst : Sc = ws'.reverse ++ .ref ad :: rc := by rw [hsplit]; simp
                  split at hrecv
                  · rename_i c0 fs hc0
                    obtain rfl : c0 = y.cid := by simpa using hrecv
                    obtain ⟨ad', g2, cd, q1, q2, q3, q4⟩ := hH.at hc0
                    rw [g1] at g2; cases g2
                    have hcd := cid_of hP hym q1
                    have hcm : cd ∈ P.cls := List.mem_of_getElem? q1
                    rw [hcd] at q2
                    by_cases hk2 : y.kind = 2
                    · have w1 := wmore (.instanceMethod y.name) (by rw [if_neg hk0, if_neg hk1, if_pos hk2]; simp)
                      have w2 := wmore (.privateMethod y.name) (by rw [if_neg hk0, if_neg hk1, if_pos hk2]; simp)
                      have w3 := hW (.instantiable cd.1 cd.2.1) (in_wordsC hcm (List.mem_cons_self ..))
                      rw [hcd] at w3
                      obtain ⟨cI, kI, i1, i2, i3, i4, -⟩ := Cond.instantiable_spec (mvT hZ w3 (args := args) : (Jvm.Cond.instantiable y.name.cls cd.2.1).before args s = true)
                      have hsel := selects_self_of_private (args := args) i1 i2 (by simp at i4; exact i4.1) (Cond.privateMethod_at (mvP hZ w2 (args := #[]))) (mvT hZ w1) hMH
                      obtain ⟨cq, hq1, hq2⟩ := q2.cell
                      obtain ⟨v1', _, ⟨T2, L2, k2', n2⟩, -, X2, ⟨Lc, hQ, l2, y2, z2⟩, st2⟩ := X.privateBack hx (y := y.name) hown (mvT hZ wl) (mvT hZ w1) hsel (Cond.privateMethod_at (mvP hZ w2 (args := #[]))) (mvT hZ wcode) hMH back (g := mkF m pc A Sc) rfl (by rw [hml]; exact hL.1.trans hLl) (Steps.refl _) (a := ad) hq1 hq2 (argsL := ws') (rest := rc) (fun sig q => by rw [hpar sig q]; simp [hna] at hwl; omega) hst hWW (dec hby) (fun _ _ => ⟨rfl, rfl, hcR, hsR⟩)
                      dsimp only [Pt.U, Pt.locs, Pt.cells, Pt.slots] at X2 l2 y2 z2 st2 hQ
                      subst l2 y2 z2
                      exact fin v1' T2 Lc X2 hQ fun t z => st2.trans z
                    · have w1 := wmore (.declares y.name) (by rw [if_neg hk0, if_neg hk1, if_neg hk2]; simp)
                      have w2 := wmore (.selects y.name.cls y.name y.name) (by rw [if_neg hk0, if_neg hk1, if_neg hk2]; simp)
                      have w3 := wmore (.instanceMethod y.name) (by rw [if_neg hk0, if_neg hk1, if_neg hk2]; simp)
                      obtain ⟨cq, kq, qa, qb, qc⟩ := isOf hZ rfl q2
                      obtain ⟨v1', _, ⟨T2, L2, k2', n2⟩, -, X2, ⟨Lc, hQ, l2, y2, z2⟩, st2⟩ := X.virtualBack hx (y := y.name) (z := y.name) hown (mvT hZ wl) (mvT hZ w1) (notFace_of_selects (args := #[]) (mvT hZ w2)) (mvT hZ w2) (mvT hZ w3) hMH back qa qc (g := mkF m pc A Sc) rfl (by rw [hml]; exact hL.1.trans hLl) (Steps.refl _) (argsL := ws') (rest := rc) (fun sig q => by rw [hpar sig q]; simp [hna] at hwl; omega) hst hWW (dec hby) (fun _ _ => ⟨rfl, rfl, hcR, hsR⟩)
                      dsimp only [Pt.U, Pt.locs, Pt.cells, Pt.slots] at X2 l2 y2 z2 st2 hQ
                      subst l2 y2 z2
                      exact fin v1' T2 Lc X2 hQ fun t z => st2.trans z
                  · cases hrecv
                · cases hrecv
              | _ => simp [isInv] at hinv
            · cases h
          · cases h
      · split at h
        · split at h
          · rename_i S1 H1 k1' hxN
            obtain ⟨c0, s0, hcon, rfl, rfl⟩ := res_ext (α := Unit) h
            have m3 := ih mi (pc + len) _ S1 H1 v H' c0 s0 hcon d hmi
            intro p e R s m args below meth c T locs cells slots X cx k1 k2 ρ A Sc hL hLl hS hH hF
            have cx0 := cx
            obtain ⟨hx, hZ, hby, hml, hown, hnm, hret, hlk, hrf, hrw⟩ := cx
            obtain ⟨T2, ad, Sc2, X2, hS2, hH2, st2⟩ := stepN (A := A) X hx hZ hown hP hW hdm hit (dec hby) hlenOk hS hH hxN (by omega) (by omega)
            have := m3 p e R s m args below meth c T2 locs _ _ X2 cx0 (by omega) (by omega) (ρ ++ [ad]) A Sc2 (hL.forget er).mono (by rw [forget_len]; exact hLl) hS2 hH2 hF
            have q1 : cells + 1 + c0 = cells + (c0 + 1) := by omega
            have q2 : slots + k1' + s0 = slots + (s0 + k1') := by omega
            rw [q1, q2] at this
            exact this.step st2
          · cases h
        · split at h
          · rename_i L1 S1 H1 hxI
            have m3 := ih mi (pc + len) L1 S1 H1 v H' kc ks h d hmi
            intro p e R s m args below meth c T locs cells slots X cx k1 k2 ρ A Sc hL hLl hS hH hF
            have cx0 := cx
            obtain ⟨hx, hZ, hby, hml, hown, hnm, hret, hlk, hrf, hrw⟩ := cx
            obtain ⟨T2, locs2, A2, Sc2, X2, x3, hL2, hS2, hH2, hF2, st2⟩ := stepX X hx hZ hown hnm hP hW hdm hit (dec hby) hlenOk (hL.forget er) hS hH hF hxI
            have := m3 p e R s m args below meth c T2 locs2 cells slots X2 cx0 k1 k2 ρ A2 Sc2 hL2 (by rw [x3, forget_len]; exact hLl) hS2 hH2 hF2
            exact Done.step (t := []) (by rw [List.append_nil]; exact this) st2
          · cases h
end Sound
end Jvm.Own
namespace Jvm.Own
open Jvm Jvm.ClassFile Sem Op Lib Jvm.Free Jvm.Stand Jvm.LawKit Jvm.RoadKit Bundle
/-! Runs of the plain machine, rule by rule -/
def OEnds (P : PD) (mi pc : Nat) (L : List Slot) (S : List Value) (H : AHeap) (r : Res) : Prop := ∃ n0, ∀ n, n0 ≤ n → exe P n mi pc L S H = some r
def plainI : Instr → Bool
  | .goto _ => false
  | .if_icmp _ _ => false
  | .ifCond _ _ => false
  | .ifnonnull _ => false
  | .ireturn => false
  | .lreturn => false
  | .return_ => false
  | .invokestatic _ => false
  | .invokespecial _ => false
  | .invokevirtual _ => false
  | .new _ => false
  | .newarray _ => false
  | _ => true
section Rules
variable {P : PD} {mi pc len a q : Nat} {er : List Bool} {b : Int} {i : Instr} {d y : MD} {L L' : List Slot} {S S' as rest : List Value} {H H' H1 : AHeap} {r : Res} {kc ks : Nat} {v : Option Value}
theorem OEnds.up (h : ∀ n, exe P n mi q L' S' H' = some r → exe P (n + 1) mi pc L S H = some r) (E : OEnds P mi q L' S' H' r) : OEnds P mi pc L S H r := by
  obtain ⟨n0, E⟩ := E
  refine ⟨n0 + 1, fun n hn => ?_⟩
  obtain ⟨k, rfl⟩ : ∃ k, n = k + 1 := ⟨n - 1, by omega⟩
  exact h k (E k (by omega))
theorem OEnds.plain (hm : P.mth[mi]? = some d) (hf : fetch d.code pc = some (i, len, er, a, b)) (hp : plainI i = true) (hx : xI P (d.name.name == "<init>") d.cid i a b (forget er L) S H = some (L', S', H')) (E : OEnds P mi (pc + len) L' S' H' r) : OEnds P mi pc L S H r := by
  refine E.up fun n h => ?_
  unfold exe
  rw [hm]
  simp only
  rw [hf]
  simp only
  split
  all_goals first | (simp [plainI] at hp; done) | skip
  have h1 : ¬ isInv i = true := by
    cases i <;> first | (simp [plainI] at hp; done) | simp [isInv]
  have h2 : ¬ isNew i = true := by
    cases i <;> first | (simp [plainI] at hp; done) | simp [isNew]
  rw [if_neg h1, if_neg h2, hx]
  exact h
theorem OEnds.goto {o : Int} (hm : P.mth[mi]? = some d) (hf : fetch d.code pc = some (.goto o, len, er, a, b)) (ht : tgt pc o = some q) (E : OEnds P mi q (forget er L) S H r) : OEnds P mi pc L S H r := by
  refine E.up fun n h => ?_
  unfold exe
  rw [hm]
  simp only
  rw [hf]
  simp only
  rw [ht]
  exact h
theorem OEnds.icmpT {o : Int} {cd : ClassFile.Cond} {x z : Int32} (hm : P.mth[mi]? = some d) (hf : fetch d.code pc = some (.if_icmp cd o, len, er, a, b)) (ht : tgt pc o = some q) (hc : if_icmp.holds cd x z = true) (E : OEnds P mi q (forget er L) S H r) : OEnds P mi pc L (.int z :: .int x :: S) H r := by
  refine E.up fun n h => ?_
  unfold exe
  rw [hm]
  simp only
  rw [hf]
  simp only
  rw [if_pos hc, ht]
  exact h
theorem OEnds.icmpF {o : Int} {cd : ClassFile.Cond} {x z : Int32} (hm : P.mth[mi]? = some d) (hf : fetch d.code pc = some (.if_icmp cd o, len, er, a, b)) (hc : if_icmp.holds cd x z = false) (E : OEnds P mi (pc + 3) (forget er L) S H r) : OEnds P mi pc L (.int z :: .int x :: S) H r := by
  refine E.up fun n h => ?_
  unfold exe
  rw [hm]
  simp only
  rw [hf]
  simp only
  rw [if_neg (by rw [hc]; exact Bool.false_ne_true)]
  exact h
theorem OEnds.ifT {o : Int} {cd : ClassFile.Cond} {x : Int32} (hm : P.mth[mi]? = some d) (hf : fetch d.code pc = some (.ifCond cd o, len, er, a, b)) (ht : tgt pc o = some q) (hc : if_icmp.holds cd x 0 = true) (E : OEnds P mi q (forget er L) S H r) : OEnds P mi pc L (.int x :: S) H r := by
  refine E.up fun n h => ?_
  unfold exe
  rw [hm]
  simp only
  rw [hf]
  simp only
  rw [if_pos ((if0 cd x).trans hc), ht]
  exact h
theorem OEnds.ifF {o : Int} {cd : ClassFile.Cond} {x : Int32} (hm : P.mth[mi]? = some d) (hf : fetch d.code pc = some (.ifCond cd o, len, er, a, b)) (hc : if_icmp.holds cd x 0 = false) (E : OEnds P mi (pc + 3) (forget er L) S H r) : OEnds P mi pc L (.int x :: S) H r := by
  refine E.up fun n h => ?_
  unfold exe
  rw [hm]
  simp only
  rw [hf]
  simp only
  rw [if_neg (by rw [if0 cd x, hc]; exact Bool.false_ne_true)]
  exact h
theorem OEnds.nonnull {o : Int} {x : Nat} (hm : P.mth[mi]? = some d) (hf : fetch d.code pc = some (.ifnonnull o, len, er, a, b)) (ht : tgt pc o = some q) (E : OEnds P mi q (forget er L) S H r) : OEnds P mi pc L (.ref x :: S) H r := by
  refine E.up fun n h => ?_
  unfold exe
  rw [hm]
  simp only
  rw [hf]
  simp only
  rw [ht]
  exact h
theorem OEnds.iret {x : Int32} {u : Value} (hm : P.mth[mi]? = some d) (hf : fetch d.code pc = some (.ireturn, len, er, a, b)) (hv : retV d.ret x = some u) : OEnds P mi pc L [.int x] H (some u, H, 0, 0) := by
  refine ⟨1, fun n hn => ?_⟩
  obtain ⟨k, rfl⟩ : ∃ k, n = k + 1 := ⟨n - 1, by omega⟩
  unfold exe
  rw [hm]
  simp only
  rw [hf]
  simp only
  rw [hv]
theorem OEnds.lret {x : Int64} (hm : P.mth[mi]? = some d) (hf : fetch d.code pc = some (.lreturn, len, er, a, b)) (hv : d.ret = some .long) : OEnds P mi pc L [.long x] H (some (.long x), H, 0, 0) := by
  refine ⟨1, fun n hn => ?_⟩
  obtain ⟨k, rfl⟩ : ∃ k, n = k + 1 := ⟨n - 1, by omega⟩
  unfold exe
  rw [hm]
  simp only
  rw [hf]
  simp only
  rw [if_pos hv]
theorem OEnds.vret (hm : P.mth[mi]? = some d) (hf : fetch d.code pc = some (.return_, len, er, a, b)) (hv : d.ret = none) : OEnds P mi pc L [] H (none, H, 0, 0) := by
  refine ⟨1, fun n hn => ?_⟩
  obtain ⟨k, rfl⟩ : ∃ k, n = k + 1 := ⟨n - 1, by omega⟩
  unfold exe
  rw [hm]
  simp only
  rw [hf]
  simp only
  rw [if_pos hv]
theorem OEnds.oinit {k x : Nat} (hm : P.mth[mi]? = some d) (hf : fetch d.code pc = some (.invokespecial k, len, er, a, -1)) (hr : 1 ≤ d.rf ∧ catSum S + 12 ≤ d.rw) (E : OEnds P mi (pc + 3) (forget er L) S H r) : OEnds P mi pc L (.ref x :: S) H r := by
  refine E.up fun n h => ?_
  unfold exe
  rw [hm]
  simp only
  rw [hf]
  simp only [isInv, if_true]
  rw [if_pos hr]
  exact h
theorem OEnds.call (hm : P.mth[mi]? = some d) (hf : fetch d.code pc = some (i, len, er, a, b)) (hi : isInv i = true) (hb : ¬ b = -1) (hy : P.mth[a]? = some y) (hao : argsOf (nargs y) S = some (as, rest))
    (hc : (decide (0 < a) && invKind i y.kind && recvOk P H y as && fitsRoom d y rest && decide ((entA as).length ≤ y.maxL)) = true) (E1 : OEnds P a 0 (entL as y.maxL) [] H (v, H1, kc, ks)) (E2 : OEnds P mi (pc + 3) (forget er L) (v.toList ++ rest) H1 r) : OEnds P mi pc L S H (addR r kc ks) := by
  obtain ⟨n1, E1⟩ := E1
  obtain ⟨n2, E2⟩ := E2
  refine ⟨n1 + n2 + 1, fun n hn => ?_⟩
  obtain ⟨k, rfl⟩ : ∃ k, n = k + 1 := ⟨n - 1, by omega⟩
  have e1 := E1 k (by omega)
  have e2 := E2 k (by omega)
  unfold exe
  rw [hm]
  simp only
  rw [hf]
  simp only
  split
  all_goals first | (simp [isInv] at hi; done) | skip
  rw [if_pos hi, if_neg hb, hy]
  simp only
  rw [hao]
  simp only
  rw [if_pos hc, e1]
  simp only
  rw [e2]
  rfl
theorem OEnds.call0 (hm : P.mth[mi]? = some d) (hf : fetch d.code pc = some (i, len, er, a, b)) (hi : isInv i = true) (hb : ¬ b = -1) (hy : P.mth[a]? = some y) (hao : argsOf (nargs y) S = some (as, rest))
    (hc : (decide (0 < a) && invKind i y.kind && recvOk P H y as && fitsRoom d y rest && decide ((entA as).length ≤ y.maxL)) = true) (E1 : OEnds P a 0 (entL as y.maxL) [] H (v, H1, 0, 0)) (E2 : OEnds P mi (pc + 3) (forget er L) (v.toList ++ rest) H1 r) : OEnds P mi pc L S H r :=
  OEnds.call (r := r) hm hf hi hb hy hao hc E1 E2
theorem OEnds.made (hm : P.mth[mi]? = some d) (hf : fetch d.code pc = some (i, len, er, a, b)) (hi : isNew i = true) (hx : xN P i a S H = some (S', H', ks)) (E : OEnds P mi (pc + len) (forget er L) S' H' r) : OEnds P mi pc L S H (addR r 1 ks) := by
  obtain ⟨n0, E⟩ := E
  refine ⟨n0 + 1, fun n hn => ?_⟩
  obtain ⟨k, rfl⟩ : ∃ k, n = k + 1 := ⟨n - 1, by omega⟩
  have e1 := E k (by omega)
  unfold exe
  rw [hm]
  simp only
  rw [hf]
  simp only
  split
  all_goals first | (simp [isNew] at hi; done) | skip
  have h1 : ¬ isInv i = true := by
    cases i <;> first | (simp [isNew] at hi; done) | simp [isInv]
  rw [if_neg h1, if_pos hi, hx]
  simp only
  rw [e1]
  rfl
end Rules
/-- k plain instructions and jumps in one go -/
def adv (P : PD) (d : MD) : Nat → Nat → List Slot → List Value → AHeap → Option (Nat × List Slot × List Value × AHeap)
  | 0, pc, L, S, H => some (pc, L, S, H)
  | k + 1, pc, L, S, H => match fetch d.code pc with
    | some (i, len, er, a, b) => match i with
      | .goto o => match tgt pc o with
        | some q => adv P d k q (forget er L) S H
        | none => none
      | i => if plainI i = true then match xI P (d.name.name == "<init>") d.cid i a b (forget er L) S H with
          | some (L', S', H') => adv P d k (pc + len) L' S' H'
          | none => none
        else none
    | none => none
theorem OEnds.adv {P : PD} {mi : Nat} {d : MD} (hm : P.mth[mi]? = some d) {r : Res} : ∀ (k : Nat) {pc pc' : Nat} {L L' : List Slot} {S S' : List Value} {H H' : AHeap}, adv P d k pc L S H = some (pc', L', S', H') → OEnds P mi pc' L' S' H' r → OEnds P mi pc L S H r
  | 0, _, _, _, _, _, _, _, _, h, E => by
    unfold Own.adv at h
    cases h
    exact E
  | k + 1, pc, pc', L, L', S, S', H, H', h, E => by
    unfold Own.adv at h
    split at h
    · rename_i it i len er a b hf
      split at h
      · rename_i o
        split at h
        · rename_i q hq
          exact OEnds.goto hm hf hq (OEnds.adv hm k h E)
        · cases h
      · split at h
        · rename_i hp
          split at h
          · rename_i L1 S1 H1 hx
            exact OEnds.plain hm hf hp hx (OEnds.adv hm k h E)
          · cases h
        · cases h
    · cases h
theorem x_iaload {P : PD} {ini : Bool} {cid a o : Nat} {b : Int} {L : List Slot} {S : List Value} {H : AHeap} {A : List Int32} {j x : Int32} (h : H[o]? = some (.inr (.inl (false, A)))) (hx : rdA A j = some x) : xI P ini cid .iaload a b L (.int j :: .ref o :: S) H = some (L, .int x :: S, H) := by simp [xI, h, hx]
theorem x_baload {P : PD} {ini : Bool} {cid a o : Nat} {b : Int} {L : List Slot} {S : List Value} {H : AHeap} {A : List Int32} {j x : Int32} (h : H[o]? = some (.inr (.inl (true, A)))) (hx : rdA A j = some x) : xI P ini cid .baload a b L (.int j :: .ref o :: S) H = some (L, .int x :: S, H) := by simp [xI, h, hx]
theorem x_laload {P : PD} {ini : Bool} {cid a o : Nat} {b : Int} {L : List Slot} {S : List Value} {H : AHeap} {A : List Int64} {j : Int32} {x : Int64} (h : H[o]? = some (.inr (.inr A))) (hx : rdA A j = some x) : xI P ini cid .laload a b L (.int j :: .ref o :: S) H = some (L, .long x :: S, H) := by simp [xI, h, hx]
theorem x_iastore {P : PD} {ini : Bool} {cid a o : Nat} {b : Int} {L : List Slot} {S : List Value} {H : AHeap} {A A' : List Int32} {j x : Int32} (h : H[o]? = some (.inr (.inl (false, A)))) (hn : P.nr ≤ o) (hx : wrA A j x = some A') : xI P ini cid .iastore a b L (.int x :: .int j :: .ref o :: S) H = some (L, S, H.set o (.inr (.inl (false, A')))) := by simp [xI, h, hx, hn]
theorem x_bastore {P : PD} {ini : Bool} {cid a o : Nat} {b : Int} {L : List Slot} {S : List Value} {H : AHeap} {A A' : List Int32} {j x : Int32} (h : H[o]? = some (.inr (.inl (true, A)))) (hn : P.nr ≤ o) (hx : wrA A j (x &&& 1) = some A') : xI P ini cid .bastore a b L (.int x :: .int j :: .ref o :: S) H = some (L, S, H.set o (.inr (.inl (true, A')))) := by simp [xI, h, hx, hn]
theorem x_lastore {P : PD} {ini : Bool} {cid a o : Nat} {b : Int} {L : List Slot} {S : List Value} {H : AHeap} {A A' : List Int64} {j : Int32} {x : Int64} (h : H[o]? = some (.inr (.inr A))) (hn : P.nr ≤ o) (hx : wrA A j x = some A') : xI P ini cid .lastore a b L (.long x :: .int j :: .ref o :: S) H = some (L, S, H.set o (.inr (.inr A'))) := by simp [xI, h, hx, hn]
theorem x_irem {P : PD} {ini : Bool} {cid a : Nat} {b : Int} {L : List Slot} {S : List Value} {H : AHeap} {x y : Int32} (h : ¬ y = 0) : xI P ini cid .irem a b L (.int y :: .int x :: S) H = some (L, .int (x % y) :: S, H) := by simp [xI, h]
theorem x_idiv {P : PD} {ini : Bool} {cid a : Nat} {b : Int} {L : List Slot} {S : List Value} {H : AHeap} {x y : Int32} (h : ¬ y = 0) : xI P ini cid .idiv a b L (.int y :: .int x :: S) H = some (L, .int (x / y) :: S, H) := by simp [xI, h]
theorem x_lrem {P : PD} {ini : Bool} {cid a : Nat} {b : Int} {L : List Slot} {S : List Value} {H : AHeap} {x y : Int64} (h : ¬ y = 0) : xI P ini cid .lrem a b L (.long y :: .long x :: S) H = some (L, .long (x % y) :: S, H) := by simp [xI, h]
theorem x_ldiv {P : PD} {ini : Bool} {cid a : Nat} {b : Int} {L : List Slot} {S : List Value} {H : AHeap} {x y : Int64} (h : ¬ y = 0) : xI P ini cid .ldiv a b L (.long y :: .long x :: S) H = some (L, .long (x / y) :: S, H) := by simp [xI, h]
theorem c_lt {x y : Int64} : XT.cmpL x y < 0 ↔ x < y := by
  unfold XT.cmpL; split <;> (try split) <;> simp_all [Int64.lt_iff_toInt_lt, ← Int64.toInt_inj] <;> omega
theorem c_gt {x y : Int64} : 0 < XT.cmpL x y ↔ y < x := by
  unfold XT.cmpL; split <;> (try split) <;> simp_all [Int64.lt_iff_toInt_lt, ← Int64.toInt_inj] <;> omega
theorem c_eq {x y : Int64} : XT.cmpL x y = 0 ↔ x = y := by
  unfold XT.cmpL; split <;> (try split) <;> simp_all [Int64.lt_iff_toInt_lt, ← Int64.toInt_inj] <;> omega
end Jvm.Own
namespace Jvm.Own
open Jvm Jvm.ClassFile Sem Op Lib Jvm.Free Jvm.Stand Jvm.LawKit Jvm.RoadKit Bundle
theorem bnd {α β : Type} {o : Option α} {f : α → Option β} {b : β} (h : o.bind f = some b) : ∃ a, o = some a ∧ f a = some b := Option.bind_eq_some_iff.mp h
theorem x_putZ {P : PD} {ini : Bool} {k cid a o : Nat} {b : Int} {L : List Slot} {S : List Value} {H : AHeap} {fs : List Value} {nm ds : String} {x : Int32} (h : H[o]? = some (.inl (cid, fs))) (hn : P.nr ≤ o) (hf : ((P.cls[cid]?).bind fun cd => cd.2.2[a]?) = some (nm, ds, .boolean, false)) (hx : x = 0 ∨ x = 1) :
    xI P ini cid (.putfield k) a b L (.int x :: .ref o :: S) H = some (L, S, H.set o (.inl (cid, fs.set a (.int x)))) := by
  rcases hx with rfl | rfl <;> simp [xI, h, hn, hf, putOk]
section Rules
variable {P : PD} {mi pc len a q : Nat} {er : List Bool} {b : Int} {i : Instr} {d y : MD} {L L' : List Slot} {S S' as rest : List Value} {H H' H1 : AHeap} {r : Res} {kc ks : Nat} {v : Option Value}
theorem OEnds.made1 {w : Option Value} {Hf : AHeap} (hm : P.mth[mi]? = some d) (hf : fetch d.code pc = some (i, len, er, a, b)) (hi : isNew i = true) (hx : xN P i a S H = some (S', H', ks)) {c0 s0 c1 s1 : Nat} (hr : (c1, s1) = (c0 + 1, s0 + ks)) (E : OEnds P mi (pc + len) (forget er L) S' H' (w, Hf, c0, s0)) : OEnds P mi pc L S H (w, Hf, c1, s1) := by
  cases hr
  exact OEnds.made (r := (w, Hf, c0, s0)) hm hf hi hx E
/-! The same, of a run whose end is told by a property -/
def OEndsQ (P : PD) (mi pc : Nat) (L : List Slot) (S : List Value) (H : AHeap) (Q : Res → Prop) : Prop := ∃ r, OEnds P mi pc L S H r ∧ Q r
variable {Q : Res → Prop}
theorem OEndsQ.plain (hm : P.mth[mi]? = some d) (hf : fetch d.code pc = some (i, len, er, a, b)) (hp : plainI i = true) (hx : xI P (d.name.name == "<init>") d.cid i a b (forget er L) S H = some (L', S', H')) (E : OEndsQ P mi (pc + len) L' S' H' Q) : OEndsQ P mi pc L S H Q := by
  obtain ⟨r, E, hq⟩ := E; exact ⟨r, OEnds.plain hm hf hp hx E, hq⟩
theorem OEndsQ.icmpT {o : Int} {cd : ClassFile.Cond} {x z : Int32} (hm : P.mth[mi]? = some d) (hf : fetch d.code pc = some (.if_icmp cd o, len, er, a, b)) (ht : tgt pc o = some q) (hc : if_icmp.holds cd x z = true) (E : OEndsQ P mi q (forget er L) S H Q) : OEndsQ P mi pc L (.int z :: .int x :: S) H Q := by
  obtain ⟨r, E, hq⟩ := E; exact ⟨r, OEnds.icmpT hm hf ht hc E, hq⟩
theorem OEndsQ.icmpF {o : Int} {cd : ClassFile.Cond} {x z : Int32} (hm : P.mth[mi]? = some d) (hf : fetch d.code pc = some (.if_icmp cd o, len, er, a, b)) (hc : if_icmp.holds cd x z = false) (E : OEndsQ P mi (pc + 3) (forget er L) S H Q) : OEndsQ P mi pc L (.int z :: .int x :: S) H Q := by
  obtain ⟨r, E, hq⟩ := E; exact ⟨r, OEnds.icmpF hm hf hc E, hq⟩
theorem OEndsQ.ifT {o : Int} {cd : ClassFile.Cond} {x : Int32} (hm : P.mth[mi]? = some d) (hf : fetch d.code pc = some (.ifCond cd o, len, er, a, b)) (ht : tgt pc o = some q) (hc : if_icmp.holds cd x 0 = true) (E : OEndsQ P mi q (forget er L) S H Q) : OEndsQ P mi pc L (.int x :: S) H Q := by
  obtain ⟨r, E, hq⟩ := E; exact ⟨r, OEnds.ifT hm hf ht hc E, hq⟩
theorem OEndsQ.ifF {o : Int} {cd : ClassFile.Cond} {x : Int32} (hm : P.mth[mi]? = some d) (hf : fetch d.code pc = some (.ifCond cd o, len, er, a, b)) (hc : if_icmp.holds cd x 0 = false) (E : OEndsQ P mi (pc + 3) (forget er L) S H Q) : OEndsQ P mi pc L (.int x :: S) H Q := by
  obtain ⟨r, E, hq⟩ := E; exact ⟨r, OEnds.ifF hm hf hc E, hq⟩
theorem OEndsQ.nonnull {o : Int} {x : Nat} (hm : P.mth[mi]? = some d) (hf : fetch d.code pc = some (.ifnonnull o, len, er, a, b)) (ht : tgt pc o = some q) (E : OEndsQ P mi q (forget er L) S H Q) : OEndsQ P mi pc L (.ref x :: S) H Q := by
  obtain ⟨r, E, hq⟩ := E; exact ⟨r, OEnds.nonnull hm hf ht E, hq⟩
theorem OEndsQ.call0 (hm : P.mth[mi]? = some d) (hf : fetch d.code pc = some (i, len, er, a, b)) (hi : isInv i = true) (hb : ¬ b = -1) (hy : P.mth[a]? = some y) (hao : argsOf (nargs y) S = some (as, rest))
    (hc : (decide (0 < a) && invKind i y.kind && recvOk P H y as && fitsRoom d y rest && decide ((entA as).length ≤ y.maxL)) = true) (E1 : OEnds P a 0 (entL as y.maxL) [] H (v, H1, 0, 0)) (E2 : OEndsQ P mi (pc + 3) (forget er L) (v.toList ++ rest) H1 Q) : OEndsQ P mi pc L S H Q := by
  obtain ⟨r, E, hq⟩ := E2; exact ⟨r, OEnds.call0 hm hf hi hb hy hao hc E1 E, hq⟩
theorem OEndsQ.adv (hm : P.mth[mi]? = some d) (k : Nat) {pc' : Nat} (h : adv P d k pc L S H = some (pc', L', S', H')) (E : OEndsQ P mi pc' L' S' H' Q) : OEndsQ P mi pc L S H Q := by
  obtain ⟨r, E, hq⟩ := E; exact ⟨r, OEnds.adv hm k h E, hq⟩
/-- what a law's run ends with: its answer, and at the most so many cells and slots made -/
def LawQ (x : Int32) (kc ks : Nat) (r : Res) : Prop := r.1 = some (.int x) ∧ r.2.2.1 ≤ kc ∧ r.2.2.2 ≤ ks
theorem OEndsQ.iret {x u : Int32} (hm : P.mth[mi]? = some d) (hf : fetch d.code pc = some (.ireturn, len, er, a, b)) (hv : retV d.ret x = some (.int u)) : OEndsQ P mi pc L [.int x] H (LawQ u kc ks) :=
  ⟨_, OEnds.iret hm hf hv, rfl, Nat.zero_le _, Nat.zero_le _⟩
theorem OEndsQ.weak {x : Int32} {c0 s0 : Nat} (h1 : c0 ≤ kc) (h2 : s0 ≤ ks) (E : OEndsQ P mi pc L S H (LawQ x c0 s0)) : OEndsQ P mi pc L S H (LawQ x kc ks) := by
  obtain ⟨r, E, q1, q2, q3⟩ := E; exact ⟨r, E, q1, Nat.le_trans q2 h1, Nat.le_trans q3 h2⟩
theorem OEndsQ.made {x : Int32} {c0 s0 c1 s1 : Nat} (hm : P.mth[mi]? = some d) (hf : fetch d.code pc = some (i, len, er, a, b)) (hi : isNew i = true) (hx : xN P i a S H = some (S', H', ks)) (h1 : c0 + 1 ≤ c1) (h2 : s0 + ks ≤ s1) (E : OEndsQ P mi (pc + len) (forget er L) S' H' (LawQ x c0 s0)) : OEndsQ P mi pc L S H (LawQ x c1 s1) := by
  obtain ⟨⟨v, Hf, k, n⟩, E, q1, q2, q3⟩ := E
  dsimp only at q1 q2 q3
  exact ⟨_, OEnds.made hm hf hi hx E, q1, by show k + 1 ≤ c1; omega, by show n + ks ≤ s1; omega⟩
theorem OEndsQ.callN {x : Int32} {c0 s0 c1 s1 : Nat} (hm : P.mth[mi]? = some d) (hf : fetch d.code pc = some (i, len, er, a, b)) (hi : isInv i = true) (hb : ¬ b = -1) (hy : P.mth[a]? = some y) (hao : argsOf (nargs y) S = some (as, rest))
    (hc : (decide (0 < a) && invKind i y.kind && recvOk P H y as && fitsRoom d y rest && decide ((entA as).length ≤ y.maxL)) = true) (E1 : OEnds P a 0 (entL as y.maxL) [] H (v, H1, kc, ks)) (h1 : c0 + kc ≤ c1) (h2 : s0 + ks ≤ s1) (E2 : OEndsQ P mi (pc + 3) (forget er L) (v.toList ++ rest) H1 (LawQ x c0 s0)) : OEndsQ P mi pc L S H (LawQ x c1 s1) := by
  obtain ⟨⟨v, Hf, k, n⟩, E, q1, q2, q3⟩ := E2
  dsimp only at q1 q2 q3
  exact ⟨_, OEnds.call hm hf hi hb hy hao hc E1 E, q1, by show k + kc ≤ c1; omega, by show n + ks ≤ s1; omega⟩
end Rules
/-! From the machine to the claim -/
theorem law_met {P : PD} {Z : State} {a0 : Array Value} {l : Launch} {y : MD} {as ws : List Value} {H : AHeap} {ρ : List Addr} {n0 kc ks : Nat} {h : Heap} (hP : chk P = true) (hW : ∀ w ∈ wordsOf P, w.before a0 Z = true) (hy : P.mth[0]? = some y)
    (E : OEndsQ P 0 0 (entL as y.maxL) [] H (LawQ 1 kc ks)) (hS : SR ρ as ws) (hlen : (entA as).length ≤ y.maxL) (hH : HR P Z n0 h ρ H) (w0 : List Jvm.Cond) (rm : Room) (r1 : y.rf ≤ rm.frames) (r2 : y.rw ≤ rm.locals) (r3 : kc ≤ rm.cells) (r4 : ks ≤ rm.slots) :
    MetFree l y.name (head1 (Jvm.Cond.code y.name y.bytes y.maxL y.ret :: w0) rm) (fun a U => a = ws.toArray ∧ Z.Warmed39 U.vm ∧ U.heap = h) (fun _ _ _ _ _ => True)
      (fun _ U o U' => ∃ L, o = .returned (some (.int 1)) ∧ Fr n0 L ∧ FrameEnd U o U' L kc ks) := by
  obtain ⟨⟨v, H1, c1, s1⟩, ⟨n, E⟩, q1, q2, q3⟩ := E
  dsimp only at q1 q2 q3
  subst q1
  have hpn : plainName y.name.cls = true := by
    have := mChk_of hP (List.mem_of_getElem? hy)
    simp only [mChk, Bool.and_eq_true] at this
    exact this.1.1.1.1.1.1
  have M := met_of (l := l) (n := n) (sound hP hW n) hy hpn (E n (Nat.le_refl _)) hS hlen hH w0 rm r1 r2 (Nat.le_trans q2 r3) (Nat.le_trans q3 r4)
  intro p e ha hc hk s m args below hf happ hp hK
  obtain ⟨n', o, h1, h2, h3, v', L, rfl, ⟨hF, t, ⟨u, rfl, hu⟩, -⟩, hq⟩ := M p e ha hc hk s m args below hf happ hp hK
  obtain rfl : u = .int 1 := hu
  exact ⟨n', _, h1, h2, h3, L, rfl, hF, hq.1, hq.2.1, hq.2.2.mono q2 q3⟩
end Jvm.Own
namespace Jvm.Own
open Jvm Jvm.ClassFile Sem Op Lib Jvm.Free Jvm.Stand Jvm.LawKit Jvm.RoadKit Bundle
/-- the law's script: an int array of at most 260 -/
theorem script_of {s : State} {ad : Addr} {cl : Cell} (hf : Fit s) (A : Arr s s.heap ad cl .int) (e0 : (Term.arg 0).eval #[.ref ad] s none [] s = some (.ref ad)) (hn : (Jvm.Cond.le (.length (.arg 0)) (.int 260)).value #[.ref ad] s none s [] = some true) :
    ∃ scr : List Int32, cl.slots.size = scr.length ∧ scr.length ≤ 260 ∧ ∀ (i : Nat) x, scr[i]? = some x → cl.slots[i]? = some (.int x) := by
  obtain ⟨u, v, g1, g2, -, -⟩ := cmp_v (Or.inr (Or.inr hn))
  obtain ⟨a', cl', z1, z2, z3⟩ := Term.length_spec g1
  have hat := A.fin (Vm.Alike.refl _)
  rw [e0] at z1
  cases z1
  rw [hat] at z2
  cases z2
  have hsz : cl.slots.size < 2 ^ 31 := by
    rcases Nat.lt_or_ge cl.slots.size (2 ^ 31) with q | q
    · exact q
    · exfalso
      simp [Term.eval, hat] at g1
      omega
  subst z3
  have hv : v = .int 260 := by simpa [Term.eval] using g2.symm
  subst hv
  have hle : cl.slots.size.toInt32 ≤ 260 := by
    simpa [Cond.value, g1, g2] using hn
  have hle' : cl.slots.size ≤ 260 := by
    rw [Int32.le_iff_toInt_le, len_toInt hsz] at hle
    have : (260 : Int32).toInt = 260 := rfl
    rw [this] at hle
    omega
  have key : ∀ i, i < cl.slots.size → ∃ x, cl.slots[i]? = some (.int x) := fun i hi => by
    have hj := idx_in hi hsz
    obtain ⟨v, e1, e2⟩ := elem_fit hf A hj
    have : i.toInt32.toNatClampNeg = i := by
      have h1 : i.toInt32.toInt = i := len_toInt (by omega)
      simp [Int32.toNatClampNeg, h1]
    rw [this] at e1
    obtain ⟨x, rfl⟩ := fit_I e2 (Or.inl rfl)
    exact ⟨x, e1⟩
  refine ⟨cl.slots.toList.map fun v => match v with | .int x => x | _ => 0, by simp, by simpa using hle', fun i x hx => ?_⟩
  rw [List.getElem?_map] at hx
  obtain ⟨v, h1, h2⟩ := Option.map_eq_some_iff.mp hx
  have h1' : cl.slots[i]? = some v := by simpa using h1
  obtain ⟨y, hy⟩ := key i (Array.getElem?_eq_some_iff.mp h1').1
  rw [h1'] at hy
  cases hy
  rw [h1']
  simp at h2
  rw [h2]
theorem hr_script {P : PD} {s : State} {ad : Addr} {cl : Cell} {scr : List Int32} (hnr : P.nr = 1) (A : Arr s s.heap ad cl .int) (h1 : cl.slots.size = scr.length) (h2 : scr.length ≤ 260) (h3 : ∀ (i : Nat) x, scr[i]? = some x → cl.slots[i]? = some (.int x)) : HR P s s.heap.size s.heap [ad] [.inr (.inl (false, scr))] := by
  refine ⟨Nat.le_refl _, rfl, fun i j a g1 g2 => ?_, fun k a g1 g2 => ?_, fun k a c g1 g2 => ?_⟩
  · match i, j, g1, g2 with
    | 0, 0, _, _ => rfl
    | i + 1, _, g1, _ => simp at g1
    | 0, j + 1, _, g2 => simp at g2
  · match k, g1, g2 with
    | 0, _, g2 => rw [hnr] at g2; omega
    | k + 1, g1, _ => simp at g1
  · match k, g1, g2 with
    | 0, g1, g2 =>
      simp at g1 g2
      subst g1 g2
      exact ⟨cl, A, h1, by omega, h3⟩
    | k + 1, g1, _ => simp at g1
end Jvm.Own
namespace Jvm.Own
open Jvm
/-! Ints in range, arrays -/
theorem ilt {a b : Int32} : a < b ↔ a.toInt < b.toInt := Int32.lt_iff_toInt_lt
theorem ile {a b : Int32} : a ≤ b ↔ a.toInt ≤ b.toInt := Int32.le_iff_toInt_le
theorem ieq {a b : Int32} : a = b ↔ a.toInt = b.toInt := Int32.toInt_inj.symm
theorem irng (a : Int32) : -2147483648 ≤ a.toInt ∧ a.toInt < 2147483648 := ⟨Int32.le_toInt a, Int32.toInt_lt a⟩
theorem iadd_i {a b : Int32} (h1 : -2147483648 ≤ a.toInt + b.toInt) (h2 : a.toInt + b.toInt < 2147483648) : (a + b).toInt = a.toInt + b.toInt := by
  rw [Int32.toInt_add]; exact Int.bmod_eq_of_le (by omega) (by omega)
theorem isub_i {a b : Int32} (h1 : -2147483648 ≤ a.toInt - b.toInt) (h2 : a.toInt - b.toInt < 2147483648) : (a - b).toInt = a.toInt - b.toInt := by
  rw [Int32.toInt_sub]; exact Int.bmod_eq_of_le (by omega) (by omega)
theorem imul_i {a b : Int32} (h1 : -2147483648 ≤ a.toInt * b.toInt) (h2 : a.toInt * b.toInt < 2147483648) : (a * b).toInt = a.toInt * b.toInt := by
  rw [Int32.toInt_mul]; exact Int.bmod_eq_of_le (by omega) (by omega)
theorem rdA_nn {α : Type} {L : List α} {j : Int32} (h0 : 0 ≤ j.toInt) : rdA L j = L[j.toInt.toNat]? := by
  unfold rdA
  rw [if_neg (by rw [ilt]; exact Int.not_lt.mpr h0)]
  rfl
theorem rdA_in {α : Type} {L : List α} {j : Int32} (h0 : 0 ≤ j.toInt) (h1 : j.toInt.toNat < L.length) : rdA L j = some L[j.toInt.toNat] := by
  rw [rdA_nn h0, List.getElem?_eq_getElem h1]
theorem wrA_in {α : Type} {L : List α} {j : Int32} {x : α} (h0 : 0 ≤ j.toInt) (h1 : j.toInt.toNat < L.length) : wrA L j x = some (L.set j.toInt.toNat x) := by
  unfold wrA
  rw [if_neg (by rw [ilt]; exact Int.not_lt.mpr h0)]
  exact if_pos h1
theorem rdA_rep {α : Type} {n : Nat} {x : α} {j : Int32} (h0 : 0 ≤ j.toInt) (h1 : j.toInt < n) : rdA (List.replicate n x) j = some x := by
  rw [rdA_nn h0, List.getElem?_replicate, if_pos (by omega)]
end Jvm.Own
namespace Jvm.Own
open Jvm
/-! Sums of ints with their wrap, for omega; runs that answer, and what they answer -/
theorem bmod32 (x : Int) : x.bmod (2 ^ 32) = (x + 2147483648) % 4294967296 - 2147483648 := by
  rw [Int.bmod_def]
  split <;> omega
theorem iadd_e (a b : Int32) : (a + b).toInt = (a.toInt + b.toInt + 2147483648) % 4294967296 - 2147483648 := by
  rw [Int32.toInt_add, bmod32]
theorem isub_e (a b : Int32) : (a - b).toInt = (a.toInt - b.toInt + 2147483648) % 4294967296 - 2147483648 := by
  rw [Int32.toInt_sub, bmod32]
theorem imul_e (a b : Int32) : (a * b).toInt = (a.toInt * b.toInt + 2147483648) % 4294967296 - 2147483648 := by
  rw [Int32.toInt_mul, bmod32]
theorem iscr {n : Nat} (h : n ≤ 260) : (n.toInt32).toInt = n := Int32.toInt_ofNat_of_lt (by omega)
def Tot {α : Type} (x : Option α) (P : α → Prop) : Prop := ∃ r, x = some r ∧ P r
theorem Tot.mk {α : Type} {P : α → Prop} {a : α} (h : P a) : Tot (some a) P := ⟨a, rfl, h⟩
theorem Tot.bind {α β : Type} {x : Option α} {f : α → Option β} {P : α → Prop} {Q : β → Prop} (h : Tot x P) (g : ∀ a, P a → Tot (f a) Q) : Tot (x.bind f) Q := by
  obtain ⟨r, e, p⟩ := h
  rw [e]
  exact g r p
theorem Tot.mono {α : Type} {x : Option α} {P Q : α → Prop} (h : Tot x P) (g : ∀ a, P a → Q a) : Tot x Q := by
  obtain ⟨r, e, p⟩ := h
  exact ⟨r, e, g r p⟩
theorem Tot.ite {α : Type} {c : Prop} [Decidable c] {a b : Option α} {Q : α → Prop} (h1 : c → Tot a Q) (h2 : ¬ c → Tot b Q) : Tot (if c then a else b) Q := by
  by_cases h : c
  · rw [if_pos h]; exact h1 h
  · rw [if_neg h]; exact h2 h
theorem Tot.rd {α β : Type} {L : List α} {j : Int32} {f : α → Option β} {Q : β → Prop} (h0 : 0 ≤ j.toInt) (h1 : j.toInt < L.length) (g : ∀ a, L[j.toInt.toNat]? = some a → Tot (f a) Q) : Tot ((rdA L j).bind f) Q := by
  have h2 : j.toInt.toNat < L.length := by omega
  rw [rdA_in h0 h2]
  exact g _ (List.getElem?_eq_getElem h2)
theorem Tot.wr {α β : Type} {L : List α} {j : Int32} {x : α} {f : List α → Option β} {Q : β → Prop} (h0 : 0 ≤ j.toInt) (h1 : j.toInt < L.length) (g : ∀ L' : List α, L' = L.set j.toInt.toNat x → L'.length = L.length → Tot (f L') Q) : Tot ((wrA L j x).bind f) Q := by
  rw [wrA_in h0 (by omega)]
  exact g _ rfl (by simp)
theorem Tot.eq {α : Type} {x : Option α} {a : α} (h : Tot x (fun r => r = a)) : x = some a := by
  obtain ⟨r, e, p⟩ := h
  rw [e, p]
theorem Tot.of {α : Type} {x : Option α} {a : α} {P : α → Prop} (e : x = some a) (p : P a) : Tot x P := ⟨a, e, p⟩
/-- a bit mask at 15, 31 .. -/
theorem iand_rng (x : Int32) (m : Int32) (h : 0 ≤ m.toInt) : 0 ≤ (x &&& m).toInt ∧ (x &&& m).toInt ≤ m.toInt := by
  have hm : m.toBitVec.msb = false := by
    rw [BitVec.msb_eq_toInt]; simpa using h
  have hx : (x &&& m).toBitVec.msb = false := by
    rw [Int32.toBitVec_and, BitVec.msb_and, hm, Bool.and_false]
  have e1 : m.toInt = (m.toBitVec.toNat : Int) := BitVec.toInt_eq_toNat_of_msb hm
  have e2 : (x &&& m).toInt = (((x &&& m).toBitVec).toNat : Int) := BitVec.toInt_eq_toNat_of_msb hx
  have e3 : ((x &&& m).toBitVec).toNat ≤ m.toBitVec.toNat := by
    rw [Int32.toBitVec_and, BitVec.toNat_and]; exact Nat.and_le_right
  omega
def gI (L : List Int32) (j : Int32) : Int32 := (rdA L j).getD 0
theorem rdg {L : List Int32} {j : Int32} (h0 : 0 ≤ j.toInt) (h1 : j.toInt < L.length) : rdA L j = some (gI L j) := by
  have h2 : j.toInt.toNat < L.length := by omega
  unfold gI
  rw [rdA_in h0 h2]
  (first | done | rfl | simp)
theorem gset {L : List Int32} {i j : Int32} {x : Int32} (hi : 0 ≤ i.toInt) (hl : i.toInt < L.length) (hj : 0 ≤ j.toInt) : gI (L.set i.toInt.toNat x) j = if i = j then x else gI L j := by
  unfold gI
  rw [rdA_nn hj, rdA_nn hj]
  by_cases h : i = j
  · subst h
    rw [if_pos rfl, List.getElem?_set_self (by omega)]
    (first | done | rfl | simp)
  · rw [if_neg h, List.getElem?_set_ne (by rw [ieq] at h; omega)]
theorem gext {A B : List Int32} (hl : A.length < 100000) (ha : A.length = B.length) (h : ∀ i : Int32, 0 ≤ i.toInt → i.toInt < A.length → gI A i = gI B i) : A = B := by
  apply List.ext_getElem ha
  intro k h1 h2
  have e : (Int32.ofNat k).toInt = k := Int32.toInt_ofNat_of_lt (by omega)
  have q := h (Int32.ofNat k) (by omega) (by omega)
  unfold gI at q
  rw [rdA_nn (by omega), rdA_nn (by omega), e] at q
  simpa [h1, h2] using q
theorem Tot.rdI {β : Type} {L : List Int32} {j : Int32} {f : Int32 → Option β} {Q : β → Prop} (h0 : 0 ≤ j.toInt) (h1 : j.toInt < L.length) (g : Tot (f (gI L j)) Q) : Tot ((rdA L j).bind f) Q := by
  rw [rdg h0 h1]
  exact g
theorem gI_rep {n : Nat} {x : Int32} {j : Int32} (h0 : 0 ≤ j.toInt) (h1 : j.toInt < n) : gI (List.replicate n x) j = x := by
  unfold gI
  rw [rdA_rep h0 h1]
  (first | done | rfl | simp)
/-! Longs -/
theorem lltI {a b : Int64} : a < b ↔ a.toInt < b.toInt := Int64.lt_iff_toInt_lt
theorem leqI {a b : Int64} : a = b ↔ a.toInt = b.toInt := Int64.toInt_inj.symm
theorem lrng (a : Int64) : -9223372036854775808 ≤ a.toInt ∧ a.toInt < 9223372036854775808 := ⟨Int64.le_toInt a, Int64.toInt_lt a⟩
theorem ladd_i {a b : Int64} (h1 : -9223372036854775808 ≤ a.toInt + b.toInt) (h2 : a.toInt + b.toInt < 9223372036854775808) : (a + b).toInt = a.toInt + b.toInt := by
  rw [Int64.toInt_add]; exact Int.bmod_eq_of_le (by omega) (by omega)
theorem lsub_i {a b : Int64} (h1 : -9223372036854775808 ≤ a.toInt - b.toInt) (h2 : a.toInt - b.toInt < 9223372036854775808) : (a - b).toInt = a.toInt - b.toInt := by
  rw [Int64.toInt_sub]; exact Int.bmod_eq_of_le (by omega) (by omega)
theorem lmul_i {a b : Int64} (h1 : -9223372036854775808 ≤ a.toInt * b.toInt) (h2 : a.toInt * b.toInt < 9223372036854775808) : (a * b).toInt = a.toInt * b.toInt := by
  rw [Int64.toInt_mul]; exact Int.bmod_eq_of_le (by omega) (by omega)
theorem lmod_i {a b : Int64} (h : 0 ≤ a.toInt) : (a % b).toInt = a.toInt % b.toInt := by
  rw [Int64.toInt_mod, Int.tmod_eq_emod_of_nonneg h]
theorem lback {a : Int64} (h1 : -2147483648 ≤ a.toInt) (h2 : a.toInt < 2147483648) : a.toInt32.toInt64 = a := by
  rw [leqI, Int32.toInt_toInt64, Int64.toInt_toInt32, bmod32]
  omega
theorem mulb {a b M : Int} (h0 : 0 ≤ a) (h1 : a ≤ M) (h2 : 0 ≤ b) (h3 : b ≤ M) : 0 ≤ a * b ∧ a * b ≤ M * M :=
  ⟨Int.mul_nonneg h0 h2, Int.mul_le_mul h1 h3 h2 (by omega)⟩
end Jvm.Own
namespace Jvm.Pilot.@@N@@
open Jvm Jvm.ClassFile Sem Op Lib Jvm.Free Jvm.Stand Jvm.LawKit Jvm.RoadKit Bundle Jvm.Own Jvm.Pilot.@@N@@.Jvm.D
def d_0 : MD := (x, code, maxLocals, ret, 0, 1, 999, 6, 142, [(0, .new 8, 3, [], 0, 0), (3, .dup, 1, [], 0, 0), (4, .aload_n 0, 1, [], 0, 0), (5, .iconst 0, 1, [], 0, 0), (6, .invokestatic 15, 3, [], 1, 0), (9, .bipush 7, 2, [], 0, 0), (11, .iand, 1, [], 0, 0), (12, .aload_n 0, 1, [], 0, 0), (13, .iconst 1, 1, [], 0, 0), (14, .invokestatic 15, 3, [], 1, 0), (17, .aload_n 0, 1, [], 0, 0), (18, .iconst 2, 1, [], 0, 0), (19, .invokestatic 15, 3, [], 1, 0), (22, .aload_n 0, 1, [], 0, 0), (23, .iconst 3, 1, [], 0, 0), (24, .invokestatic 15, 3, [], 1, 0), (27, .invokespecial 21, 3, [], 2, 0), (30, .astore_n 1, 1, [], 0, 0), (31, .iconst 0, 1, [], 0, 0), (32, .istore_n 2, 1, [], 0, 0), (33, .iconst 0, 1, [], 0, 0), (34, .istore_n 3, 1, [], 0, 0), (35, .iconst 4, 1, [], 0, 0), (36, .istore 4, 2, [], 0, 0), (38, .iload 4, 2, [false, false, false, false, false, true, true, true, true, true, true, true, true, true, true, true, true, true, true, true, true], 0, 0), (40, .aload_n 0, 1, [], 0, 0), (41, .arraylength, 1, [], 0, 0), (42, .if_icmp .ge 733, 3, [], 0, 0), (45, .iload_n 3, 1, [], 0, 0), (46, .bipush 64, 2, [], 0, 0), (48, .if_icmp .ge 727, 3, [], 0, 0), (51, .aload_n 0, 1, [], 0, 0), (52, .iload 4, 2, [], 0, 0), (54, .invokestatic 15, 3, [], 1, 0), (57, .istore 5, 2, [], 0, 0), (59, .aload_n 0, 1, [], 0, 0), (60, .iload 4, 2, [], 0, 0), (62, .iconst 1, 1, [], 0, 0), (63, .iadd, 1, [], 0, 0), (64, .invokestatic 15, 3, [], 1, 0), (67, .istore 6, 2, [], 0, 0), (69, .aload_n 0, 1, [], 0, 0), (70, .iload 4, 2, [], 0, 0), (72, .iconst 2, 1, [], 0, 0), (73, .iadd, 1, [], 0, 0), (74, .invokestatic 15, 3, [], 1, 0), (77, .istore 7, 2, [], 0, 0), (79, .aload_n 0, 1, [], 0, 0), (80, .iload 4, 2, [], 0, 0), (82, .iconst 3, 1, [], 0, 0), (83, .iadd, 1, [], 0, 0), (84, .invokestatic 15, 3, [], 1, 0), (87, .istore 8, 2, [], 0, 0), (89, .aload_n 0, 1, [], 0, 0), (90, .iload 4, 2, [], 0, 0), (92, .iconst 4, 1, [], 0, 0), (93, .iadd, 1, [], 0, 0), (94, .invokestatic 15, 3, [], 1, 0), (97, .istore 9, 2, [], 0, 0), (99, .iload 5, 2, [], 0, 0), (101, .bipush 7, 2, [], 0, 0), (103, .iand, 1, [], 0, 0), (104, .istore 10, 2, [], 0, 0), (106, .iload 5, 2, [], 0, 0), (108, .iconst 3, 1, [], 0, 0), (109, .iushr, 1, [], 0, 0), (110, .bipush 7, 2, [], 0, 0), (112, .iand, 1, [], 0, 0), (113, .istore 11, 2, [], 0, 0), (115, .iload 10, 2, [], 0, 0), (117, .ifCond .ne 37, 3, [], 0, 0), (120, .aload_n 1, 1, [], 0, 0), (121, .iload 11, 2, [], 0, 0), (123, .iload 6, 2, [], 0, 0), (125, .bipush 7, 2, [], 0, 0), (127, .iand, 1, [], 0, 0), (128, .iload 7, 2, [], 0, 0), (130, .iload 8, 2, [], 0, 0), (132, .iload 9, 2, [], 0, 0), (134, .iconst 1, 1, [], 0, 0), (135, .iand, 1, [], 0, 0), (136, .ifCond .ne 7, 3, [], 0, 0), (139, .iconst 1, 1, [], 0, 0), (140, .goto 4, 3, [], 0, 0), (143, .iconst 0, 1, [], 0, 0), (144, .invokestatic 24, 3, [false, false, false, false, false, true, true, true, true, true, true, true, true, true, true, true, true, true, true, true, true], 16, 0), (147, .invokevirtual 28, 3, [], 17, 0), (150, .pop, 1, [], 0, 0), (151, .goto 615, 3, [], 0, 0), (154, .iload 10, 2, [], 0, 0), (156, .iconst 1, 1, [], 0, 0), (157, .if_icmp .ne 23, 3, [], 0, 0), (160, .aload_n 1, 1, [], 0, 0), (161, .iload 11, 2, [], 0, 0), (163, .iload 6, 2, [], 0, 0), (165, .bipush 7, 2, [], 0, 0), (167, .iand, 1, [], 0, 0), (168, .iload 7, 2, [], 0, 0), (170, .bipush 7, 2, [], 0, 0), (172, .iand, 1, [], 0, 0), (173, .invokevirtual 32, 3, [], 19, 0), (176, .pop, 1, [], 0, 0), (177, .goto 589, 3, [], 0, 0), (180, .iload 10, 2, [], 0, 0), (182, .iconst 2, 1, [], 0, 0), (183, .if_icmp .ne 220, 3, [], 0, 0), (186, .iload 11, 2, [], 0, 0), (188, .istore 12, 2, [], 0, 0), (190, .iload 12, 2, [], 0, 0), (192, .iconst 1, 1, [], 0, 0), (193, .iadd, 1, [], 0, 0), (194, .bipush 7, 2, [], 0, 0), (196, .iand, 1, [], 0, 0), (197, .istore 13, 2, [], 0, 0), (199, .iload 12, 2, [], 0, 0), (201, .iconst 2, 1, [], 0, 0), (202, .iadd, 1, [], 0, 0), (203, .bipush 7, 2, [], 0, 0), (205, .iand, 1, [], 0, 0), (206, .istore 14, 2, [], 0, 0), (208, .iload 12, 2, [], 0, 0), (210, .iconst 3, 1, [], 0, 0), (211, .iadd, 1, [], 0, 0), (212, .bipush 7, 2, [], 0, 0), (214, .iand, 1, [], 0, 0), (215, .istore 15, 2, [], 0, 0), (217, .iload 12, 2, [], 0, 0), (219, .iconst 4, 1, [], 0, 0), (220, .iadd, 1, [], 0, 0), (221, .bipush 7, 2, [], 0, 0), (223, .iand, 1, [], 0, 0), (224, .istore 16, 2, [], 0, 0), (226, .iload 6, 2, [], 0, 0), (228, .iload 7, 2, [], 0, 0), (230, .iload 9, 2, [], 0, 0), (232, .iconst 1, 1, [], 0, 0), (233, .iand, 1, [], 0, 0), (234, .ifCond .ne 7, 3, [], 0, 0), (237, .iconst 1, 1, [], 0, 0), (238, .goto 4, 3, [], 0, 0), (241, .iconst 0, 1, [], 0, 0), (242, .invokestatic 24, 3, [false, false, false, false, false, true, true, true, false, false, true, true, false, false, false, false, false, true, true, true, true], 16, 0), (245, .lstore 17, 2, [], 0, 0), (247, .iload 8, 2, [], 0, 0), (249, .iload 9, 2, [], 0, 0), (251, .iconst 2, 1, [], 0, 0), (252, .iushr, 1, [], 0, 0), (253, .iload 9, 2, [], 0, 0), (255, .iconst 2, 1, [], 0, 0), (256, .iand, 1, [], 0, 0), (257, .ifCond .ne 7, 3, [], 0, 0), (260, .iconst 1, 1, [], 0, 0), (261, .goto 4, 3, [], 0, 0), (264, .iconst 0, 1, [], 0, 0), (265, .invokestatic 24, 3, [false, false, false, false, false, true, true, true, true, true, true, true, false, false, false, false, false, false, false, true, true], 16, 0), (268, .lstore 19, 2, [], 0, 0), (270, .aload_n 1, 1, [], 0, 0), (271, .iload 13, 2, [], 0, 0), (273, .iload 12, 2, [], 0, 0), (275, .lload 17, 2, [], 0, 0), (277, .invokevirtual 28, 3, [], 17, 0), (280, .ifCond .ne 5, 3, [], 0, 0), (283, .iconst 0, 1, [], 0, 0), (284, .ireturn, 1, [], 0, 0), (285, .aload_n 1, 1, [], 0, 0), (286, .iload 14, 2, [], 0, 0), (288, .iload 12, 2, [], 0, 0), (290, .lload 19, 2, [], 0, 0), (292, .invokevirtual 28, 3, [], 17, 0), (295, .ifCond .ne 5, 3, [], 0, 0), (298, .iconst 0, 1, [], 0, 0), (299, .ireturn, 1, [], 0, 0), (300, .aload_n 1, 1, [], 0, 0), (301, .iload 15, 2, [], 0, 0), (303, .iload 13, 2, [], 0, 0), (305, .iload 14, 2, [], 0, 0), (307, .invokevirtual 32, 3, [], 19, 0), (310, .ifCond .ne 5, 3, [], 0, 0), (313, .iconst 0, 1, [], 0, 0), (314, .ireturn, 1, [], 0, 0), (315, .aload_n 1, 1, [], 0, 0), (316, .iload 16, 2, [], 0, 0), (318, .iload 12, 2, [], 0, 0), (320, .lload 17, 2, [], 0, 0), (322, .lload 19, 2, [], 0, 0), (324, .ladd, 1, [], 0, 0), (325, .invokevirtual 28, 3, [], 17, 0), (328, .ifCond .ne 5, 3, [], 0, 0), (331, .iconst 0, 1, [], 0, 0), (332, .ireturn, 1, [], 0, 0), (333, .aload_n 1, 1, [], 0, 0), (334, .iload 15, 2, [], 0, 0), (336, .iload 16, 2, [], 0, 0), (338, .invokestatic 36, 3, [], 20, 0), (341, .ifCond .ne 5, 3, [], 0, 0), (344, .iconst 0, 1, [], 0, 0), (345, .ireturn, 1, [], 0, 0), (346, .aload_n 1, 1, [], 0, 0), (347, .iload 13, 2, [], 0, 0), (349, .iload 12, 2, [], 0, 0), (351, .lconst 1, 1, [], 0, 0), (352, .invokevirtual 28, 3, [], 17, 0), (355, .ifCond .ne 5, 3, [], 0, 0), (358, .iconst 0, 1, [], 0, 0), (359, .ireturn, 1, [], 0, 0), (360, .aload_n 1, 1, [], 0, 0), (361, .iload 13, 2, [], 0, 0), (363, .iload 12, 2, [], 0, 0), (365, .invokestatic 36, 3, [], 20, 0), (368, .ifCond .ne 5, 3, [], 0, 0), (371, .iconst 0, 1, [], 0, 0), (372, .ireturn, 1, [], 0, 0), (373, .aload_n 1, 1, [], 0, 0), (374, .iload 14, 2, [], 0, 0), (376, .iload 12, 2, [], 0, 0), (378, .lconst 0, 1, [], 0, 0), (379, .invokevirtual 28, 3, [], 17, 0), (382, .ifCond .ne 5, 3, [], 0, 0), (385, .iconst 0, 1, [], 0, 0), (386, .ireturn, 1, [], 0, 0), (387, .aload_n 1, 1, [], 0, 0), (388, .iload 14, 2, [], 0, 0), (390, .iconst 2, 1, [], 0, 0), (391, .invokevirtual 7, 3, [], 21, 0), (394, .iconst 1, 1, [], 0, 0), (395, .if_icmp .eq 5, 3, [], 0, 0), (398, .iconst 0, 1, [], 0, 0), (399, .ireturn, 1, [], 0, 0), (400, .goto 366, 3, [], 0, 0), (403, .iload 10, 2, [], 0, 0), (405, .iconst 3, 1, [], 0, 0), (406, .if_icmp .ne 35, 3, [], 0, 0), (409, .iload 11, 2, [], 0, 0), (411, .iconst 3, 1, [], 0, 0), (412, .iand, 1, [], 0, 0), (413, .istore 12, 2, [], 0, 0), (415, .aload_n 1, 1, [], 0, 0), (416, .iload 12, 2, [], 0, 0), (418, .iload 6, 2, [], 0, 0), (420, .ldc 40, 2, [], 0, 1073741823), (422, .iand, 1, [], 0, 0), (423, .iconst 1, 1, [], 0, 0), (424, .iadd, 1, [], 0, 0), (425, .invokevirtual 41, 3, [], 11, 0), (428, .ifCond .eq 10, 3, [], 0, 0), (431, .iload_n 2, 1, [], 0, 0), (432, .iconst 1, 1, [], 0, 0), (433, .iload 12, 2, [], 0, 0), (435, .ishl, 1, [], 0, 0), (436, .ior, 1, [], 0, 0), (437, .istore_n 2, 1, [], 0, 0), (438, .goto 328, 3, [], 0, 0), (441, .iload 10, 2, [], 0, 0), (443, .iconst 4, 1, [], 0, 0), (444, .if_icmp .ne 105, 3, [], 0, 0), (447, .iload 11, 2, [], 0, 0), (449, .iconst 3, 1, [], 0, 0), (450, .iand, 1, [], 0, 0), (451, .istore 12, 2, [], 0, 0), (453, .iload 6, 2, [], 0, 0), (455, .iconst 3, 1, [], 0, 0), (456, .iand, 1, [], 0, 0), (457, .istore 13, 2, [], 0, 0), (459, .iload 7, 2, [], 0, 0), (461, .bipush 7, 2, [], 0, 0), (463, .iand, 1, [], 0, 0), (464, .istore 14, 2, [], 0, 0), (466, .iload 14, 2, [], 0, 0), (468, .iconst 1, 1, [], 0, 0), (469, .iadd, 1, [], 0, 0), (470, .iload 8, 2, [], 0, 0), (472, .sipush 255, 3, [], 0, 0), (475, .iand, 1, [], 0, 0), (476, .bipush 7, 2, [], 0, 0), (478, .irem, 1, [], 0, 0), (479, .iadd, 1, [], 0, 0), (480, .bipush 7, 2, [], 0, 0), (482, .iand, 1, [], 0, 0), (483, .istore 15, 2, [], 0, 0), (485, .iload_n 2, 1, [], 0, 0), (486, .iconst 1, 1, [], 0, 0), (487, .iload 12, 2, [], 0, 0), (489, .ishl, 1, [], 0, 0), (490, .iand, 1, [], 0, 0), (491, .ifCond .eq 55, 3, [], 0, 0), (494, .iload_n 2, 1, [], 0, 0), (495, .iconst 1, 1, [], 0, 0), (496, .iload 13, 2, [], 0, 0), (498, .ishl, 1, [], 0, 0), (499, .iand, 1, [], 0, 0), (500, .ifCond .eq 46, 3, [], 0, 0), (503, .aload_n 1, 1, [], 0, 0), (504, .iload 14, 2, [], 0, 0), (506, .iload 12, 2, [], 0, 0), (508, .iload 13, 2, [], 0, 0), (510, .invokevirtual 45, 3, [], 37, 0), (513, .ifCond .ne 5, 3, [], 0, 0), (516, .iconst 0, 1, [], 0, 0), (517, .ireturn, 1, [], 0, 0), (518, .aload_n 1, 1, [], 0, 0), (519, .iload 15, 2, [], 0, 0), (521, .iload 13, 2, [], 0, 0), (523, .iload 12, 2, [], 0, 0), (525, .invokevirtual 45, 3, [], 37, 0), (528, .ifCond .ne 5, 3, [], 0, 0), (531, .iconst 0, 1, [], 0, 0), (532, .ireturn, 1, [], 0, 0), (533, .aload_n 1, 1, [], 0, 0), (534, .iload 14, 2, [], 0, 0), (536, .iload 15, 2, [], 0, 0), (538, .invokestatic 36, 3, [], 20, 0), (541, .ifCond .ne 5, 3, [], 0, 0), (544, .iconst 0, 1, [], 0, 0), (545, .ireturn, 1, [], 0, 0), (546, .goto 220, 3, [], 0, 0), (549, .iload 10, 2, [], 0, 0), (551, .iconst 5, 1, [], 0, 0), (552, .if_icmp .ne 46, 3, [], 0, 0), (555, .aload_n 1, 1, [], 0, 0), (556, .iload 6, 2, [], 0, 0), (558, .invokevirtual 48, 3, [], 23, 0), (561, .pop, 1, [], 0, 0), (562, .aload_n 1, 1, [], 0, 0), (563, .iload 7, 2, [], 0, 0), (565, .invokevirtual 48, 3, [], 23, 0), (568, .pop, 1, [], 0, 0), (569, .aload_n 1, 1, [], 0, 0), (570, .iload 8, 2, [], 0, 0), (572, .invokevirtual 48, 3, [], 23, 0), (575, .pop, 1, [], 0, 0), (576, .aload_n 1, 1, [], 0, 0), (577, .iload 9, 2, [], 0, 0), (579, .invokevirtual 48, 3, [], 23, 0), (582, .pop, 1, [], 0, 0), (583, .iload 11, 2, [], 0, 0), (585, .bipush 7, 2, [], 0, 0), (587, .iand, 1, [], 0, 0), (588, .ifCond .ne 178, 3, [], 0, 0), (591, .aload_n 1, 1, [], 0, 0), (592, .invokevirtual 52, 3, [], 24, 0), (595, .goto 171, 3, [], 0, 0), (598, .iload 10, 2, [], 0, 0), (600, .bipush 6, 2, [], 0, 0), (602, .if_icmp .ne 60, 3, [], 0, 0), (605, .iload 11, 2, [], 0, 0), (607, .iconst 3, 1, [], 0, 0), (608, .iand, 1, [], 0, 0), (609, .istore 12, 2, [], 0, 0), (611, .iload 7, 2, [], 0, 0), (613, .iconst 1, 1, [], 0, 0), (614, .iand, 1, [], 0, 0), (615, .ifCond .ne 13, 3, [], 0, 0), (618, .iload 6, 2, [], 0, 0), (620, .bipush 15, 2, [], 0, 0), (622, .iand, 1, [], 0, 0), (623, .iconst 1, 1, [], 0, 0), (624, .iadd, 1, [], 0, 0), (625, .goto 10, 3, [], 0, 0), (628, .iload 6, 2, [], 0, 0), (630, .ldc 14, 2, [], 0, 16777215), (632, .iand, 1, [], 0, 0), (633, .iconst 1, 1, [], 0, 0), (634, .iadd, 1, [], 0, 0), (635, .istore 13, 2, [false, false, false, false, false, true, true, true, true, true, true, true, false, true, true, true, true, true, true, true, true], 0, 0), (637, .aload_n 1, 1, [], 0, 0), (638, .iload 12, 2, [], 0, 0), (640, .iload 13, 2, [], 0, 0), (642, .invokevirtual 55, 3, [], 22, 0), (645, .ifCond .eq 14, 3, [], 0, 0), (648, .aload_n 1, 1, [], 0, 0), (649, .iload 12, 2, [], 0, 0), (651, .invokevirtual 58, 3, [], 36, 0), (654, .ifCond .ne 5, 3, [], 0, 0), (657, .iconst 0, 1, [], 0, 0), (658, .ireturn, 1, [], 0, 0), (659, .goto 107, 3, [], 0, 0), (662, .iload 9, 2, [], 0, 0), (664, .iconst 3, 1, [], 0, 0), (665, .iand, 1, [], 0, 0), (666, .istore 12, 2, [], 0, 0), (668, .iload 12, 2, [], 0, 0), (670, .ifCond .ne 13, 3, [], 0, 0), (673, .aload_n 1, 1, [], 0, 0), (674, .iload 11, 2, [], 0, 0), (676, .invokevirtual 61, 3, [], 33, 0), (679, .pop, 1, [], 0, 0), (680, .goto 86, 3, [], 0, 0), (683, .iload 12, 2, [], 0, 0), (685, .iconst 1, 1, [], 0, 0), (686, .if_icmp .ne 32, 3, [], 0, 0), (689, .aload_n 1, 1, [], 0, 0), (690, .iload 9, 2, [], 0, 0), (692, .iconst 4, 1, [], 0, 0), (693, .iand, 1, [], 0, 0), (694, .ifCond .eq 7, 3, [], 0, 0), (697, .iconst (-1), 1, [], 0, 0), (698, .goto 5, 3, [], 0, 0), (701, .iload 6, 2, [], 0, 0), (703, .iload 7, 2, [false, false, false, false, false, true, true, false, false, true, true, true, true, true, true, true, true, true, true, true, true], 0, 0), (705, .iload 8, 2, [], 0, 0), (707, .ldc 64, 2, [], 0, 2147483647), (709, .iand, 1, [], 0, 0), (710, .i2l, 1, [], 0, 0), (711, .invokevirtual 65, 3, [], 25, 0), (714, .pop, 1, [], 0, 0), (715, .goto 51, 3, [], 0, 0), (718, .iload 12, 2, [], 0, 0), (720, .iconst 2, 1, [], 0, 0), (721, .if_icmp .ne 34, 3, [], 0, 0), (724, .iload 6, 2, [], 0, 0), (726, .bipush 7, 2, [], 0, 0), (728, .iand, 1, [], 0, 0), (729, .istore 13, 2, [], 0, 0), (731, .aload_n 1, 1, [], 0, 0), (732, .iload 11, 2, [], 0, 0), (734, .aload_n 1, 1, [], 0, 0), (735, .iload 13, 2, [], 0, 0), (737, .iconst 0, 1, [], 0, 0), (738, .invokevirtual 7, 3, [], 21, 0), (741, .aload_n 1, 1, [], 0, 0), (742, .iload 13, 2, [], 0, 0), (744, .iconst 1, 1, [], 0, 0), (745, .invokevirtual 7, 3, [], 21, 0), (748, .invokevirtual 68, 3, [], 27, 0), (751, .pop, 1, [], 0, 0), (752, .goto 14, 3, [], 0, 0), (755, .aload_n 1, 1, [], 0, 0), (756, .iload 11, 2, [], 0, 0), (758, .iload 6, 2, [], 0, 0), (760, .iload 7, 2, [], 0, 0), (762, .invokevirtual 68, 3, [], 27, 0), (765, .pop, 1, [], 0, 0), (766, .iinc 4 5, 3, [], 0, 0), (769, .iinc 3 1, 3, [], 0, 0), (772, .goto (-734), 3, [], 0, 0), (775, .iconst 1, 1, [], 0, 0), (776, .ireturn, 1, [], 0, 0)])
def d_1 : MD := (⟨"CurveLadderOwnLaw", "cell", "([II)I"⟩, method_2_code, 2, some .int, 0, 2, 999, 0, 0, [(0, .iload_n 1, 1, [], 0, 0), (1, .aload_n 0, 1, [], 0, 0), (2, .arraylength, 1, [], 0, 0), (3, .if_icmp .ge 9, 3, [], 0, 0), (6, .aload_n 0, 1, [], 0, 0), (7, .iload_n 1, 1, [], 0, 0), (8, .iaload, 1, [], 0, 0), (9, .goto 4, 3, [], 0, 0), (12, .iconst 0, 1, [], 0, 0), (13, .ireturn, 1, [], 0, 0)])
def d_2 : MD := (⟨"CurveLadder", "<init>", "(IIII)V"⟩, prog_1_method_1_code, 7, none, 1, 4, 0, 2, 41, [(0, .aload_n 0, 1, [], 0, 0), (1, .invokespecial 1, 3, [], 0, -1), (4, .aload_n 0, 1, [], 0, 0), (5, .bipush 8, 2, [], 0, 0), (7, .newarray .long, 2, [], 0, 0), (9, .putfield 7, 3, [], 0, 0), (12, .aload_n 0, 1, [], 0, 0), (13, .bipush 8, 2, [], 0, 0), (15, .newarray .long, 2, [], 0, 0), (17, .putfield 13, 3, [], 1, 0), (20, .aload_n 0, 1, [], 0, 0), (21, .bipush 8, 2, [], 0, 0), (23, .newarray .boolean, 2, [], 0, 0), (25, .putfield 16, 3, [], 2, 0), (28, .aload_n 0, 1, [], 0, 0), (29, .iconst 4, 1, [], 0, 0), (30, .newarray .long, 2, [], 0, 0), (32, .putfield 20, 3, [], 3, 0), (35, .aload_n 0, 1, [], 0, 0), (36, .iconst 4, 1, [], 0, 0), (37, .newarray .boolean, 2, [], 0, 0), (39, .putfield 23, 3, [], 4, 0), (42, .aload_n 0, 1, [], 0, 0), (43, .iconst 4, 1, [], 0, 0), (44, .newarray .long, 2, [], 0, 0), (46, .putfield 26, 3, [], 5, 0), (49, .aload_n 0, 1, [], 0, 0), (50, .iconst 4, 1, [], 0, 0), (51, .newarray .long, 2, [], 0, 0), (53, .putfield 29, 3, [], 6, 0), (56, .aload_n 0, 1, [], 0, 0), (57, .iconst 4, 1, [], 0, 0), (58, .newarray .boolean, 2, [], 0, 0), (60, .putfield 32, 3, [], 7, 0), (63, .aload_n 0, 1, [], 0, 0), (64, .bipush 64, 2, [], 0, 0), (66, .newarray .int, 2, [], 0, 0), (68, .putfield 35, 3, [], 8, 0), (71, .iload_n 1, 1, [], 0, 0), (72, .istore 5, 2, [], 0, 0), (74, .iload 5, 2, [], 0, 0), (76, .ifCond .ge 6, 3, [], 0, 0), (79, .iconst 0, 1, [], 0, 0), (80, .istore 5, 2, [], 0, 0), (82, .iload 5, 2, [false, true, false, false, false, false, true], 0, 0), (84, .bipush 7, 2, [], 0, 0), (86, .if_icmp .le 7, 3, [], 0, 0), (89, .bipush 7, 2, [], 0, 0), (91, .istore 5, 2, [], 0, 0), (93, .aload_n 0, 1, [false, true, false, false, false, false, true], 0, 0), (94, .aload_n 0, 1, [], 0, 0), (95, .iload 5, 2, [], 0, 0), (97, .invokevirtual 39, 3, [], 3, 0), (100, .putfield 43, 3, [], 9, 0), (103, .aload_n 0, 1, [], 0, 0), (104, .aload_n 0, 1, [], 0, 0), (105, .iload_n 2, 1, [], 0, 0), (106, .invokevirtual 47, 3, [], 4, 0), (109, .putfield 50, 3, [], 10, 0), (112, .aload_n 0, 1, [], 0, 0), (113, .aload_n 0, 1, [], 0, 0), (114, .iload_n 3, 1, [], 0, 0), (115, .invokevirtual 47, 3, [], 4, 0), (118, .putfield 53, 3, [], 11, 0), (121, .aload_n 0, 1, [], 0, 0), (122, .aload_n 0, 1, [], 0, 0), (123, .iload 4, 2, [], 0, 0), (125, .invokevirtual 47, 3, [], 4, 0), (128, .putfield 56, 3, [], 12, 0), (131, .aload_n 0, 1, [], 0, 0), (132, .aload_n 0, 1, [], 0, 0), (133, .invokevirtual 59, 3, [], 5, 0), (136, .putfield 63, 3, [], 13, 0), (139, .iconst 0, 1, [], 0, 0), (140, .istore 6, 2, [], 0, 0), (142, .iload 6, 2, [false, true, true, true, true, true], 0, 0), (144, .bipush 8, 2, [], 0, 0), (146, .if_icmp .ge 44, 3, [], 0, 0), (149, .aload_n 0, 1, [], 0, 0), (150, .invokevirtual 66, 3, [], 8, 0), (153, .lconst 0, 1, [], 0, 0), (154, .lcmp, 1, [], 0, 0), (155, .ifCond .eq 6, 3, [], 0, 0), (158, .goto 32, 3, [], 0, 0), (161, .aload_n 0, 1, [], 0, 0), (162, .aload_n 0, 1, [], 0, 0), (163, .getfield 50, 3, [], 10, 0), (166, .lconst 1, 1, [], 0, 0), (167, .ladd, 1, [], 0, 0), (168, .aload_n 0, 1, [], 0, 0), (169, .getfield 43, 3, [], 9, 0), (172, .lrem, 1, [], 0, 0), (173, .putfield 50, 3, [], 10, 0), (176, .aload_n 0, 1, [], 0, 0), (177, .aload_n 0, 1, [], 0, 0), (178, .invokevirtual 59, 3, [], 5, 0), (181, .putfield 63, 3, [], 13, 0), (184, .iinc 6 1, 3, [], 0, 0), (187, .goto (-45), 3, [], 0, 0), (190, .iconst 0, 1, [], 0, 0), (191, .istore 6, 2, [], 0, 0), (193, .iload 6, 2, [false, true, true, true, true, true], 0, 0), (195, .bipush 8, 2, [], 0, 0), (197, .if_icmp .ge 18, 3, [], 0, 0), (200, .aload_n 0, 1, [], 0, 0), (201, .iload 6, 2, [], 0, 0), (203, .lconst 0, 1, [], 0, 0), (204, .lconst 0, 1, [], 0, 0), (205, .iconst 1, 1, [], 0, 0), (206, .invokevirtual 69, 3, [], 10, 0), (209, .iinc 6 1, 3, [], 0, 0), (212, .goto (-19), 3, [], 0, 0), (215, .aload_n 0, 1, [false, true, true, true, true, true, true], 0, 0), (216, .iconst 0, 1, [], 0, 0), (217, .aload_n 0, 1, [], 0, 0), (218, .getfield 53, 3, [], 11, 0), (221, .aload_n 0, 1, [], 0, 0), (222, .getfield 56, 3, [], 12, 0), (225, .iconst 0, 1, [], 0, 0), (226, .invokevirtual 69, 3, [], 10, 0), (229, .aload_n 0, 1, [], 0, 0), (230, .iconst 0, 1, [], 0, 0), (231, .putfield 73, 3, [], 14, 0), (234, .aload_n 0, 1, [], 0, 0), (235, .lconst 0, 1, [], 0, 0), (236, .putfield 77, 3, [], 15, 0), (239, .aload_n 0, 1, [], 0, 0), (240, .lconst 0, 1, [], 0, 0), (241, .putfield 80, 3, [], 16, 0), (244, .aload_n 0, 1, [], 0, 0), (245, .iconst 1, 1, [], 0, 0), (246, .putfield 83, 3, [], 17, 0), (249, .aload_n 0, 1, [], 0, 0), (250, .lconst 0, 1, [], 0, 0), (251, .putfield 87, 3, [], 18, 0), (254, .aload_n 0, 1, [], 0, 0), (255, .iconst 0, 1, [], 0, 0), (256, .putfield 90, 3, [], 19, 0), (259, .return_, 1, [], 0, 0)])
def d_3 : MD := (⟨"CurveLadder", "primeAt", "(I)J"⟩, prog_1_method_17_code, 2, some .long, 2, 1, 0, 0, 0, [(0, .iload_n 1, 1, [], 0, 0), (1, .ifCond .ne 7, 3, [], 0, 0), (4, .ldc2_w 136, 3, [], 0, 8191), (7, .lreturn, 1, [], 0, 0), (8, .iload_n 1, 1, [], 0, 0), (9, .iconst 1, 1, [], 0, 0), (10, .if_icmp .ne 7, 3, [], 0, 0), (13, .ldc2_w 138, 3, [], 0, 65521), (16, .lreturn, 1, [], 0, 0), (17, .iload_n 1, 1, [], 0, 0), (18, .iconst 2, 1, [], 0, 0), (19, .if_icmp .ne 7, 3, [], 0, 0), (22, .ldc2_w 140, 3, [], 0, 65537), (25, .lreturn, 1, [], 0, 0), (26, .iload_n 1, 1, [], 0, 0), (27, .iconst 3, 1, [], 0, 0), (28, .if_icmp .ne 7, 3, [], 0, 0), (31, .ldc2_w 142, 3, [], 0, 131071), (34, .lreturn, 1, [], 0, 0), (35, .iload_n 1, 1, [], 0, 0), (36, .iconst 4, 1, [], 0, 0), (37, .if_icmp .ne 7, 3, [], 0, 0), (40, .ldc2_w 144, 3, [], 0, 524287), (43, .lreturn, 1, [], 0, 0), (44, .iload_n 1, 1, [], 0, 0), (45, .iconst 5, 1, [], 0, 0), (46, .if_icmp .ne 7, 3, [], 0, 0), (49, .ldc2_w 146, 3, [], 0, 998244353), (52, .lreturn, 1, [], 0, 0), (53, .iload_n 1, 1, [], 0, 0), (54, .bipush 6, 2, [], 0, 0), (56, .if_icmp .ne 7, 3, [], 0, 0), (59, .ldc2_w 148, 3, [], 0, 1000000007), (62, .lreturn, 1, [], 0, 0), (63, .ldc2_w 150, 3, [], 0, 2147483647), (66, .lreturn, 1, [], 0, 0)])
def d_4 : MD := (⟨"CurveLadder", "clampField", "(I)J"⟩, prog_1_method_18_code, 4, some .long, 2, 1, 0, 0, 0, [(0, .iload_n 1, 1, [], 0, 0), (1, .i2l, 1, [], 0, 0), (2, .lstore_n 2, 1, [], 0, 0), (3, .lload_n 2, 1, [], 0, 0), (4, .lconst 0, 1, [], 0, 0), (5, .lcmp, 1, [], 0, 0), (6, .ifCond .ge 5, 3, [], 0, 0), (9, .lconst 0, 1, [], 0, 0), (10, .lreturn, 1, [], 0, 0), (11, .lload_n 2, 1, [], 0, 0), (12, .aload_n 0, 1, [], 0, 0), (13, .getfield 43, 3, [], 9, 0), (16, .lconst 1, 1, [], 0, 0), (17, .lsub, 1, [], 0, 0), (18, .lcmp, 1, [], 0, 0), (19, .ifCond .le 10, 3, [], 0, 0), (22, .aload_n 0, 1, [], 0, 0), (23, .getfield 43, 3, [], 9, 0), (26, .lconst 1, 1, [], 0, 0), (27, .lsub, 1, [], 0, 0), (28, .lreturn, 1, [], 0, 0), (29, .lload_n 2, 1, [], 0, 0), (30, .lreturn, 1, [], 0, 0)])
def d_5 : MD := (⟨"CurveLadder", "computeB", "()J"⟩, prog_1_method_19_code, 11, some .long, 2, 0, 0, 1, 18, [(0, .aload_n 0, 1, [], 0, 0), (1, .aload_n 0, 1, [], 0, 0), (2, .getfield 56, 3, [], 12, 0), (5, .aload_n 0, 1, [], 0, 0), (6, .getfield 56, 3, [], 12, 0), (9, .invokevirtual 152, 3, [], 6, 0), (12, .lstore_n 1, 1, [], 0, 0), (13, .aload_n 0, 1, [], 0, 0), (14, .aload_n 0, 1, [], 0, 0), (15, .getfield 53, 3, [], 11, 0), (18, .aload_n 0, 1, [], 0, 0), (19, .getfield 53, 3, [], 11, 0), (22, .invokevirtual 152, 3, [], 6, 0), (25, .lstore_n 3, 1, [], 0, 0), (26, .aload_n 0, 1, [], 0, 0), (27, .lload_n 3, 1, [], 0, 0), (28, .aload_n 0, 1, [], 0, 0), (29, .getfield 53, 3, [], 11, 0), (32, .invokevirtual 152, 3, [], 6, 0), (35, .lstore 5, 2, [], 0, 0), (37, .aload_n 0, 1, [], 0, 0), (38, .aload_n 0, 1, [], 0, 0), (39, .getfield 50, 3, [], 10, 0), (42, .aload_n 0, 1, [], 0, 0), (43, .getfield 53, 3, [], 11, 0), (46, .invokevirtual 152, 3, [], 6, 0), (49, .lstore 7, 2, [], 0, 0), (51, .aload_n 0, 1, [], 0, 0), (52, .lload_n 1, 1, [], 0, 0), (53, .lload 5, 2, [], 0, 0), (55, .invokevirtual 156, 3, [], 7, 0), (58, .lstore 9, 2, [], 0, 0), (60, .aload_n 0, 1, [], 0, 0), (61, .lload 9, 2, [], 0, 0), (63, .lload 7, 2, [], 0, 0), (65, .invokevirtual 156, 3, [], 7, 0), (68, .lreturn, 1, [], 0, 0)])
def d_6 : MD := (⟨"CurveLadder", "mulMod", "(JJ)J"⟩, prog_1_method_26_code, 5, some .long, 2, 2, 0, 0, 0, [(0, .lload_n 1, 1, [], 0, 0), (1, .lload_n 3, 1, [], 0, 0), (2, .lmul, 1, [], 0, 0), (3, .aload_n 0, 1, [], 0, 0), (4, .getfield 43, 3, [], 9, 0), (7, .lrem, 1, [], 0, 0), (8, .lreturn, 1, [], 0, 0)])
def d_7 : MD := (⟨"CurveLadder", "subMod", "(JJ)J"⟩, prog_1_method_28_code, 7, some .long, 2, 2, 0, 0, 0, [(0, .lload_n 1, 1, [], 0, 0), (1, .lload_n 3, 1, [], 0, 0), (2, .lsub, 1, [], 0, 0), (3, .lstore 5, 2, [], 0, 0), (5, .lload 5, 2, [], 0, 0), (7, .lconst 0, 1, [], 0, 0), (8, .lcmp, 1, [], 0, 0), (9, .ifCond .ge 12, 3, [], 0, 0), (12, .lload 5, 2, [], 0, 0), (14, .aload_n 0, 1, [], 0, 0), (15, .getfield 43, 3, [], 9, 0), (18, .ladd, 1, [], 0, 0), (19, .lstore 5, 2, [], 0, 0), (21, .lload 5, 2, [], 0, 0), (23, .lreturn, 1, [], 0, 0)])
def d_8 : MD := (⟨"CurveLadder", "discriminant", "()J"⟩, prog_1_method_20_code, 11, some .long, 2, 0, 0, 1, 18, [(0, .aload_n 0, 1, [], 0, 0), (1, .aload_n 0, 1, [], 0, 0), (2, .getfield 50, 3, [], 10, 0), (5, .aload_n 0, 1, [], 0, 0), (6, .getfield 50, 3, [], 10, 0), (9, .invokevirtual 152, 3, [], 6, 0), (12, .lstore_n 1, 1, [], 0, 0), (13, .aload_n 0, 1, [], 0, 0), (14, .lload_n 1, 1, [], 0, 0), (15, .aload_n 0, 1, [], 0, 0), (16, .getfield 50, 3, [], 10, 0), (19, .invokevirtual 152, 3, [], 6, 0), (22, .lstore_n 3, 1, [], 0, 0), (23, .aload_n 0, 1, [], 0, 0), (24, .ldc2_w 159, 3, [], 0, 4), (27, .lload_n 3, 1, [], 0, 0), (28, .invokevirtual 152, 3, [], 6, 0), (31, .lstore 5, 2, [], 0, 0), (33, .aload_n 0, 1, [], 0, 0), (34, .aload_n 0, 1, [], 0, 0), (35, .getfield 63, 3, [], 13, 0), (38, .aload_n 0, 1, [], 0, 0), (39, .getfield 63, 3, [], 13, 0), (42, .invokevirtual 152, 3, [], 6, 0), (45, .lstore 7, 2, [], 0, 0), (47, .aload_n 0, 1, [], 0, 0), (48, .ldc2_w 161, 3, [], 0, 27), (51, .lload 7, 2, [], 0, 0), (53, .invokevirtual 152, 3, [], 6, 0), (56, .lstore 9, 2, [], 0, 0), (58, .aload_n 0, 1, [], 0, 0), (59, .lload 5, 2, [], 0, 0), (61, .lload 9, 2, [], 0, 0), (63, .invokevirtual 163, 3, [], 9, 0), (66, .lreturn, 1, [], 0, 0)])
def d_9 : MD := (⟨"CurveLadder", "addMod", "(JJ)J"⟩, prog_1_method_27_code, 7, some .long, 2, 2, 0, 0, 0, [(0, .lload_n 1, 1, [], 0, 0), (1, .lload_n 3, 1, [], 0, 0), (2, .ladd, 1, [], 0, 0), (3, .lstore 5, 2, [], 0, 0), (5, .lload 5, 2, [], 0, 0), (7, .aload_n 0, 1, [], 0, 0), (8, .getfield 43, 3, [], 9, 0), (11, .lcmp, 1, [], 0, 0), (12, .ifCond .lt 12, 3, [], 0, 0), (15, .lload 5, 2, [], 0, 0), (17, .aload_n 0, 1, [], 0, 0), (18, .getfield 43, 3, [], 9, 0), (21, .lsub, 1, [], 0, 0), (22, .lstore 5, 2, [], 0, 0), (24, .lload 5, 2, [], 0, 0), (26, .lreturn, 1, [], 0, 0)])
def d_10 : MD := (⟨"CurveLadder", "setRegister", "(IJJZ)V"⟩, prog_1_method_24_code, 7, none, 2, 4, 0, 0, 0, [(0, .aload_n 0, 1, [], 0, 0), (1, .getfield 16, 3, [], 2, 0), (4, .iload_n 1, 1, [], 0, 0), (5, .iload 6, 2, [], 0, 0), (7, .bastore, 1, [], 0, 0), (8, .aload_n 0, 1, [], 0, 0), (9, .getfield 7, 3, [], 0, 0), (12, .iload_n 1, 1, [], 0, 0), (13, .iload 6, 2, [], 0, 0), (15, .ifCond .eq 7, 3, [], 0, 0), (18, .lconst 0, 1, [], 0, 0), (19, .goto 4, 3, [], 0, 0), (22, .lload_n 2, 1, [], 0, 0), (23, .lastore, 1, [false, false, true, true], 0, 0), (24, .aload_n 0, 1, [], 0, 0), (25, .getfield 13, 3, [], 1, 0), (28, .iload_n 1, 1, [], 0, 0), (29, .iload 6, 2, [], 0, 0), (31, .ifCond .eq 7, 3, [], 0, 0), (34, .lconst 0, 1, [], 0, 0), (35, .goto 5, 3, [], 0, 0), (38, .lload 4, 2, [], 0, 0), (40, .lastore, 1, [true, true, true, true, true, true, true], 0, 0), (41, .return_, 1, [], 0, 0)])
def d_11 : MD := (⟨"CurveLadder", "genKey", "(II)Z"⟩, prog_1_method_8_code, 3, some .boolean, 3, 2, 0, 5, 120, [(0, .aload_n 0, 1, [], 0, 0), (1, .iload_n 1, 1, [], 0, 0), (2, .invokevirtual 124, 3, [], 12, 0), (5, .ifCond .eq 8, 3, [], 0, 0), (8, .iload_n 2, 1, [], 0, 0), (9, .iconst 1, 1, [], 0, 0), (10, .if_icmp .ge 5, 3, [], 0, 0), (13, .iconst 0, 1, [], 0, 0), (14, .ireturn, 1, [], 0, 0), (15, .aload_n 0, 1, [], 0, 0), (16, .aload_n 0, 1, [], 0, 0), (17, .getfield 53, 3, [], 11, 0), (20, .aload_n 0, 1, [], 0, 0), (21, .getfield 56, 3, [], 12, 0), (24, .iconst 0, 1, [], 0, 0), (25, .iload_n 2, 1, [], 0, 0), (26, .i2l, 1, [], 0, 0), (27, .invokevirtual 120, 3, [], 13, 0), (30, .aload_n 0, 1, [], 0, 0), (31, .getfield 20, 3, [], 3, 0), (34, .iload_n 1, 1, [], 0, 0), (35, .iload_n 2, 1, [], 0, 0), (36, .i2l, 1, [], 0, 0), (37, .lastore, 1, [], 0, 0), (38, .aload_n 0, 1, [], 0, 0), (39, .getfield 23, 3, [], 4, 0), (42, .iload_n 1, 1, [], 0, 0), (43, .iconst 1, 1, [], 0, 0), (44, .bastore, 1, [], 0, 0), (45, .aload_n 0, 1, [], 0, 0), (46, .getfield 26, 3, [], 5, 0), (49, .iload_n 1, 1, [], 0, 0), (50, .aload_n 0, 1, [], 0, 0), (51, .getfield 109, 3, [], 21, 0), (54, .lastore, 1, [], 0, 0), (55, .aload_n 0, 1, [], 0, 0), (56, .getfield 29, 3, [], 6, 0), (59, .iload_n 1, 1, [], 0, 0), (60, .aload_n 0, 1, [], 0, 0), (61, .getfield 112, 3, [], 22, 0), (64, .lastore, 1, [], 0, 0), (65, .aload_n 0, 1, [], 0, 0), (66, .getfield 32, 3, [], 7, 0), (69, .iload_n 1, 1, [], 0, 0), (70, .aload_n 0, 1, [], 0, 0), (71, .getfield 115, 3, [], 20, 0), (74, .bastore, 1, [], 0, 0), (75, .iconst 1, 1, [], 0, 0), (76, .ireturn, 1, [], 0, 0)])
def d_12 : MD := (⟨"CurveLadder", "validParty", "(I)Z"⟩, prog_1_method_22_code, 2, some .boolean, 2, 1, 0, 0, 0, [(0, .iload_n 1, 1, [], 0, 0), (1, .ifCond .lt 12, 3, [], 0, 0), (4, .iload_n 1, 1, [], 0, 0), (5, .iconst 4, 1, [], 0, 0), (6, .if_icmp .ge 7, 3, [], 0, 0), (9, .iconst 1, 1, [], 0, 0), (10, .goto 4, 3, [], 0, 0), (13, .iconst 0, 1, [], 0, 0), (14, .ireturn, 1, [], 0, 0)])
def d_13 : MD := (⟨"CurveLadder", "scalarMul", "(JJZJ)V"⟩, prog_1_method_35_code, 14, none, 2, 4, 0, 4, 95, [(0, .lconst 0, 1, [], 0, 0), (1, .lstore 8, 2, [], 0, 0), (3, .lconst 0, 1, [], 0, 0), (4, .lstore 10, 2, [], 0, 0), (6, .iconst 1, 1, [], 0, 0), (7, .istore 12, 2, [], 0, 0), (9, .bipush 47, 2, [], 0, 0), (11, .istore 13, 2, [], 0, 0), (13, .iload 13, 2, [], 0, 0), (15, .ifCond .lt 87, 3, [], 0, 0), (18, .aload_n 0, 1, [], 0, 0), (19, .lload 8, 2, [], 0, 0), (21, .lload 10, 2, [], 0, 0), (23, .iload 12, 2, [], 0, 0), (25, .lload 8, 2, [], 0, 0), (27, .lload 10, 2, [], 0, 0), (29, .iload 12, 2, [], 0, 0), (31, .invokevirtual 105, 3, [], 14, 0), (34, .aload_n 0, 1, [], 0, 0), (35, .getfield 109, 3, [], 21, 0), (38, .lstore 8, 2, [], 0, 0), (40, .aload_n 0, 1, [], 0, 0), (41, .getfield 112, 3, [], 22, 0), (44, .lstore 10, 2, [], 0, 0), (46, .aload_n 0, 1, [], 0, 0), (47, .getfield 115, 3, [], 20, 0), (50, .istore 12, 2, [], 0, 0), (52, .lload 6, 2, [], 0, 0), (54, .iload 13, 2, [], 0, 0), (56, .lushr, 1, [], 0, 0), (57, .lconst 1, 1, [], 0, 0), (58, .land, 1, [], 0, 0), (59, .lconst 1, 1, [], 0, 0), (60, .lcmp, 1, [], 0, 0), (61, .ifCond .ne 35, 3, [], 0, 0), (64, .aload_n 0, 1, [], 0, 0), (65, .lload 8, 2, [], 0, 0), (67, .lload 10, 2, [], 0, 0), (69, .iload 12, 2, [], 0, 0), (71, .lload_n 1, 1, [], 0, 0), (72, .lload_n 3, 1, [], 0, 0), (73, .iload 5, 2, [], 0, 0), (75, .invokevirtual 105, 3, [], 14, 0), (78, .aload_n 0, 1, [], 0, 0), (79, .getfield 109, 3, [], 21, 0), (82, .lstore 8, 2, [], 0, 0), (84, .aload_n 0, 1, [], 0, 0), (85, .getfield 112, 3, [], 22, 0), (88, .lstore 10, 2, [], 0, 0), (90, .aload_n 0, 1, [], 0, 0), (91, .getfield 115, 3, [], 20, 0), (94, .istore 12, 2, [], 0, 0), (96, .iinc 13 (-1), 3, [], 0, 0), (99, .goto (-86), 3, [], 0, 0), (102, .aload_n 0, 1, [false, true, true, true, true, true, true, true, false, false, false, false, false, true], 0, 0), (103, .lload 8, 2, [], 0, 0), (105, .lload 10, 2, [], 0, 0), (107, .iload 12, 2, [], 0, 0), (109, .invokevirtual 175, 3, [], 15, 0), (112, .return_, 1, [], 0, 0)])
def d_14 : MD := (⟨"CurveLadder", "pointAdd", "(JJZJJZ)V"⟩, prog_1_method_34_code, 31, none, 2, 6, 0, 3, 53, [(0, .iload 5, 2, [], 0, 0), (2, .ifCond .eq 14, 3, [], 0, 0), (5, .aload_n 0, 1, [], 0, 0), (6, .lload 6, 2, [], 0, 0), (8, .lload 8, 2, [], 0, 0), (10, .iload 10, 2, [], 0, 0), (12, .invokevirtual 175, 3, [], 15, 0), (15, .return_, 1, [], 0, 0), (16, .iload 10, 2, [], 0, 0), (18, .ifCond .eq 11, 3, [], 0, 0), (21, .aload_n 0, 1, [], 0, 0), (22, .lload_n 1, 1, [], 0, 0), (23, .lload_n 3, 1, [], 0, 0), (24, .iconst 0, 1, [], 0, 0), (25, .invokevirtual 175, 3, [], 15, 0), (28, .return_, 1, [], 0, 0), (29, .lload_n 1, 1, [], 0, 0), (30, .lload 6, 2, [], 0, 0), (32, .lcmp, 1, [], 0, 0), (33, .ifCond .ne 23, 3, [], 0, 0), (36, .aload_n 0, 1, [], 0, 0), (37, .lload_n 3, 1, [], 0, 0), (38, .lload 8, 2, [], 0, 0), (40, .invokevirtual 163, 3, [], 9, 0), (43, .lconst 0, 1, [], 0, 0), (44, .lcmp, 1, [], 0, 0), (45, .ifCond .ne 11, 3, [], 0, 0), (48, .aload_n 0, 1, [], 0, 0), (49, .lconst 0, 1, [], 0, 0), (50, .lconst 0, 1, [], 0, 0), (51, .iconst 1, 1, [], 0, 0), (52, .invokevirtual 175, 3, [], 15, 0), (55, .return_, 1, [], 0, 0), (56, .lload_n 1, 1, [false, false, false, false, false, true, false, false, false, false, true, true, true, true, true, true, true, true, true, true, true, true, true, true, true, true, true, true, true, true, true], 0, 0), (57, .lload 6, 2, [], 0, 0), (59, .lcmp, 1, [], 0, 0), (60, .ifCond .ne 52, 3, [], 0, 0), (63, .lload_n 3, 1, [], 0, 0), (64, .lload 8, 2, [], 0, 0), (66, .lcmp, 1, [], 0, 0), (67, .ifCond .ne 45, 3, [], 0, 0), (70, .aload_n 0, 1, [], 0, 0), (71, .lload_n 1, 1, [], 0, 0), (72, .lload_n 1, 1, [], 0, 0), (73, .invokevirtual 152, 3, [], 6, 0), (76, .lstore 15, 2, [], 0, 0), (78, .aload_n 0, 1, [], 0, 0), (79, .ldc2_w 179, 3, [], 0, 3), (82, .lload 15, 2, [], 0, 0), (84, .invokevirtual 152, 3, [], 6, 0), (87, .lstore 17, 2, [], 0, 0), (89, .aload_n 0, 1, [], 0, 0), (90, .lload 17, 2, [], 0, 0), (92, .aload_n 0, 1, [], 0, 0), (93, .getfield 50, 3, [], 10, 0), (96, .invokevirtual 163, 3, [], 9, 0), (99, .lstore 11, 2, [], 0, 0), (101, .aload_n 0, 1, [], 0, 0), (102, .lload_n 3, 1, [], 0, 0), (103, .lload_n 3, 1, [], 0, 0), (104, .invokevirtual 163, 3, [], 9, 0), (107, .lstore 13, 2, [], 0, 0), (109, .goto 21, 3, [], 0, 0), (112, .aload_n 0, 1, [false, false, false, false, false, true, false, false, false, false, true, true, true, true, true, true, true, true, true, true, true, true, true, true, true, true, true, true, true, true, true], 0, 0), (113, .lload 8, 2, [], 0, 0), (115, .lload_n 3, 1, [], 0, 0), (116, .invokevirtual 156, 3, [], 7, 0), (119, .lstore 11, 2, [], 0, 0), (121, .aload_n 0, 1, [], 0, 0), (122, .lload 6, 2, [], 0, 0), (124, .lload_n 1, 1, [], 0, 0), (125, .invokevirtual 156, 3, [], 7, 0), (128, .lstore 13, 2, [], 0, 0), (130, .aload_n 0, 1, [false, false, false, false, false, true, false, false, true, true, true, false, false, false, false, true, true, true, true, true, true, true, true, true, true, true, true, true, true, true, true], 0, 0), (131, .lload 13, 2, [], 0, 0), (133, .invokevirtual 181, 3, [], 31, 0), (136, .lstore 15, 2, [], 0, 0), (138, .aload_n 0, 1, [], 0, 0), (139, .lload 11, 2, [], 0, 0), (141, .lload 15, 2, [], 0, 0), (143, .invokevirtual 152, 3, [], 6, 0), (146, .lstore 17, 2, [], 0, 0), (148, .aload_n 0, 1, [], 0, 0), (149, .lload 17, 2, [], 0, 0), (151, .lload 17, 2, [], 0, 0), (153, .invokevirtual 152, 3, [], 6, 0), (156, .lstore 19, 2, [], 0, 0), (158, .aload_n 0, 1, [], 0, 0), (159, .lload 19, 2, [], 0, 0), (161, .lload_n 1, 1, [], 0, 0), (162, .invokevirtual 156, 3, [], 7, 0), (165, .lstore 21, 2, [], 0, 0), (167, .aload_n 0, 1, [], 0, 0), (168, .lload 21, 2, [], 0, 0), (170, .lload 6, 2, [], 0, 0), (172, .invokevirtual 156, 3, [], 7, 0), (175, .lstore 23, 2, [], 0, 0), (177, .aload_n 0, 1, [], 0, 0), (178, .lload_n 1, 1, [], 0, 0), (179, .lload 23, 2, [], 0, 0), (181, .invokevirtual 156, 3, [], 7, 0), (184, .lstore 25, 2, [], 0, 0), (186, .aload_n 0, 1, [], 0, 0), (187, .lload 17, 2, [], 0, 0), (189, .lload 25, 2, [], 0, 0), (191, .invokevirtual 152, 3, [], 6, 0), (194, .lstore 27, 2, [], 0, 0), (196, .aload_n 0, 1, [], 0, 0), (197, .lload 27, 2, [], 0, 0), (199, .lload_n 3, 1, [], 0, 0), (200, .invokevirtual 156, 3, [], 7, 0), (203, .lstore 29, 2, [], 0, 0), (205, .aload_n 0, 1, [], 0, 0), (206, .lload 23, 2, [], 0, 0), (208, .lload 29, 2, [], 0, 0), (210, .iconst 0, 1, [], 0, 0), (211, .invokevirtual 175, 3, [], 15, 0), (214, .return_, 1, [], 0, 0)])
def d_15 : MD := (⟨"CurveLadder", "setResult", "(JJZ)V"⟩, prog_1_method_33_code, 6, none, 2, 3, 0, 0, 0, [(0, .aload_n 0, 1, [], 0, 0), (1, .iload 5, 2, [], 0, 0), (3, .putfield 115, 3, [], 20, 0), (6, .aload_n 0, 1, [], 0, 0), (7, .iload 5, 2, [], 0, 0), (9, .ifCond .eq 7, 3, [], 0, 0), (12, .lconst 0, 1, [], 0, 0), (13, .goto 4, 3, [], 0, 0), (16, .lload_n 1, 1, [], 0, 0), (17, .putfield 109, 3, [false, true, true], 21, 0), (20, .aload_n 0, 1, [], 0, 0), (21, .iload 5, 2, [], 0, 0), (23, .ifCond .eq 7, 3, [], 0, 0), (26, .lconst 0, 1, [], 0, 0), (27, .goto 4, 3, [], 0, 0), (30, .lload_n 3, 1, [], 0, 0), (31, .putfield 112, 3, [true, true, true, true, true, true], 22, 0), (34, .return_, 1, [], 0, 0)])
def d_16 : MD := (⟨"CurveLadderOwnLaw", "scalar", "(IIZ)J"⟩, method_4_code, 3, some .long, 0, 3, 999, 0, 0, [(0, .iload_n 2, 1, [], 0, 0), (1, .ifCond .eq 9, 3, [], 0, 0), (4, .iload_n 1, 1, [], 0, 0), (5, .bipush 15, 2, [], 0, 0), (7, .iand, 1, [], 0, 0), (8, .i2l, 1, [], 0, 0), (9, .lreturn, 1, [], 0, 0), (10, .iload_n 0, 1, [], 0, 0), (11, .ldc 13, 2, [], 0, 8388607), (13, .iand, 1, [], 0, 0), (14, .i2l, 1, [], 0, 0), (15, .bipush 24, 2, [], 0, 0), (17, .lshl, 1, [], 0, 0), (18, .iload_n 1, 1, [], 0, 0), (19, .ldc 14, 2, [], 0, 16777215), (21, .iand, 1, [], 0, 0), (22, .i2l, 1, [], 0, 0), (23, .lor, 1, [], 0, 0), (24, .lreturn, 1, [], 0, 0)])
def d_17 : MD := (⟨"CurveLadder", "mul", "(IIJ)Z"⟩, prog_1_method_6_code, 5, some .boolean, 3, 3, 0, 5, 120, [(0, .aload_n 0, 1, [], 0, 0), (1, .iload_n 1, 1, [], 0, 0), (2, .invokevirtual 93, 3, [], 18, 0), (5, .ifCond .eq 11, 3, [], 0, 0), (8, .aload_n 0, 1, [], 0, 0), (9, .iload_n 2, 1, [], 0, 0), (10, .invokevirtual 93, 3, [], 18, 0), (13, .ifCond .ne 5, 3, [], 0, 0), (16, .iconst 0, 1, [], 0, 0), (17, .ireturn, 1, [], 0, 0), (18, .lload_n 3, 1, [], 0, 0), (19, .lconst 0, 1, [], 0, 0), (20, .lcmp, 1, [], 0, 0), (21, .ifCond .lt 11, 3, [], 0, 0), (24, .lload_n 3, 1, [], 0, 0), (25, .ldc2_w 118, 3, [], 0, 281474976710656), (28, .lcmp, 1, [], 0, 0), (29, .ifCond .lt 5, 3, [], 0, 0), (32, .iconst 0, 1, [], 0, 0), (33, .ireturn, 1, [], 0, 0), (34, .aload_n 0, 1, [], 0, 0), (35, .aload_n 0, 1, [], 0, 0), (36, .getfield 7, 3, [], 0, 0), (39, .iload_n 2, 1, [], 0, 0), (40, .laload, 1, [], 0, 0), (41, .aload_n 0, 1, [], 0, 0), (42, .getfield 13, 3, [], 1, 0), (45, .iload_n 2, 1, [], 0, 0), (46, .laload, 1, [], 0, 0), (47, .aload_n 0, 1, [], 0, 0), (48, .getfield 16, 3, [], 2, 0), (51, .iload_n 2, 1, [], 0, 0), (52, .baload, 1, [], 0, 0), (53, .lload_n 3, 1, [], 0, 0), (54, .invokevirtual 120, 3, [], 13, 0), (57, .aload_n 0, 1, [], 0, 0), (58, .iload_n 1, 1, [], 0, 0), (59, .aload_n 0, 1, [], 0, 0), (60, .getfield 109, 3, [], 21, 0), (63, .aload_n 0, 1, [], 0, 0), (64, .getfield 112, 3, [], 22, 0), (67, .aload_n 0, 1, [], 0, 0), (68, .getfield 115, 3, [], 20, 0), (71, .invokevirtual 69, 3, [], 10, 0), (74, .iconst 1, 1, [], 0, 0), (75, .ireturn, 1, [], 0, 0)])
def d_18 : MD := (⟨"CurveLadder", "validRegister", "(I)Z"⟩, prog_1_method_21_code, 2, some .boolean, 2, 1, 0, 0, 0, [(0, .iload_n 1, 1, [], 0, 0), (1, .ifCond .lt 13, 3, [], 0, 0), (4, .iload_n 1, 1, [], 0, 0), (5, .bipush 8, 2, [], 0, 0), (7, .if_icmp .ge 7, 3, [], 0, 0), (10, .iconst 1, 1, [], 0, 0), (11, .goto 4, 3, [], 0, 0), (14, .iconst 0, 1, [], 0, 0), (15, .ireturn, 1, [], 0, 0)])
def d_19 : MD := (⟨"CurveLadder", "add", "(III)Z"⟩, prog_1_method_5_code, 4, some .boolean, 3, 3, 0, 4, 95, [(0, .aload_n 0, 1, [], 0, 0), (1, .iload_n 1, 1, [], 0, 0), (2, .invokevirtual 93, 3, [], 18, 0), (5, .ifCond .eq 19, 3, [], 0, 0), (8, .aload_n 0, 1, [], 0, 0), (9, .iload_n 2, 1, [], 0, 0), (10, .invokevirtual 93, 3, [], 18, 0), (13, .ifCond .eq 11, 3, [], 0, 0), (16, .aload_n 0, 1, [], 0, 0), (17, .iload_n 3, 1, [], 0, 0), (18, .invokevirtual 93, 3, [], 18, 0), (21, .ifCond .ne 5, 3, [], 0, 0), (24, .iconst 0, 1, [], 0, 0), (25, .ireturn, 1, [], 0, 0), (26, .aload_n 0, 1, [], 0, 0), (27, .aload_n 0, 1, [], 0, 0), (28, .getfield 7, 3, [], 0, 0), (31, .iload_n 2, 1, [], 0, 0), (32, .laload, 1, [], 0, 0), (33, .aload_n 0, 1, [], 0, 0), (34, .getfield 13, 3, [], 1, 0), (37, .iload_n 2, 1, [], 0, 0), (38, .laload, 1, [], 0, 0), (39, .aload_n 0, 1, [], 0, 0), (40, .getfield 16, 3, [], 2, 0), (43, .iload_n 2, 1, [], 0, 0), (44, .baload, 1, [], 0, 0), (45, .aload_n 0, 1, [], 0, 0), (46, .getfield 7, 3, [], 0, 0), (49, .iload_n 3, 1, [], 0, 0), (50, .laload, 1, [], 0, 0), (51, .aload_n 0, 1, [], 0, 0), (52, .getfield 13, 3, [], 1, 0), (55, .iload_n 3, 1, [], 0, 0), (56, .laload, 1, [], 0, 0), (57, .aload_n 0, 1, [], 0, 0), (58, .getfield 16, 3, [], 2, 0), (61, .iload_n 3, 1, [], 0, 0), (62, .baload, 1, [], 0, 0), (63, .invokevirtual 105, 3, [], 14, 0), (66, .aload_n 0, 1, [], 0, 0), (67, .iload_n 1, 1, [], 0, 0), (68, .aload_n 0, 1, [], 0, 0), (69, .getfield 109, 3, [], 21, 0), (72, .aload_n 0, 1, [], 0, 0), (73, .getfield 112, 3, [], 22, 0), (76, .aload_n 0, 1, [], 0, 0), (77, .getfield 115, 3, [], 20, 0), (80, .invokevirtual 69, 3, [], 10, 0), (83, .iconst 1, 1, [], 0, 0), (84, .ireturn, 1, [], 0, 0)])
def d_20 : MD := (⟨"CurveLadderOwnLaw", "same", "(LCurveLadder;II)Z"⟩, method_3_code, 4, some .boolean, 0, 3, 999, 2, 28, [(0, .iconst 0, 1, [], 0, 0), (1, .istore_n 3, 1, [], 0, 0), (2, .iload_n 3, 1, [], 0, 0), (3, .iconst 3, 1, [], 0, 0), (4, .if_icmp .ge 26, 3, [], 0, 0), (7, .aload_n 0, 1, [], 0, 0), (8, .iload_n 1, 1, [], 0, 0), (9, .iload_n 3, 1, [], 0, 0), (10, .invokevirtual 7, 3, [], 21, 0), (13, .aload_n 0, 1, [], 0, 0), (14, .iload_n 2, 1, [], 0, 0), (15, .iload_n 3, 1, [], 0, 0), (16, .invokevirtual 7, 3, [], 21, 0), (19, .if_icmp .eq 5, 3, [], 0, 0), (22, .iconst 0, 1, [], 0, 0), (23, .ireturn, 1, [], 0, 0), (24, .iinc 3 1, 3, [], 0, 0), (27, .goto (-25), 3, [], 0, 0), (30, .iconst 1, 1, [], 0, 0), (31, .ireturn, 1, [], 0, 0)])
def d_21 : MD := (⟨"CurveLadder", "coord", "(II)I"⟩, prog_1_method_7_code, 3, some .int, 3, 2, 0, 1, 13, [(0, .aload_n 0, 1, [], 0, 0), (1, .iload_n 1, 1, [], 0, 0), (2, .invokevirtual 93, 3, [], 18, 0), (5, .ifCond .ne 5, 3, [], 0, 0), (8, .iconst (-1), 1, [], 0, 0), (9, .ireturn, 1, [], 0, 0), (10, .iload_n 2, 1, [], 0, 0), (11, .ifCond .ne 24, 3, [], 0, 0), (14, .aload_n 0, 1, [], 0, 0), (15, .getfield 16, 3, [], 2, 0), (18, .iload_n 1, 1, [], 0, 0), (19, .baload, 1, [], 0, 0), (20, .ifCond .eq 7, 3, [], 0, 0), (23, .iconst 0, 1, [], 0, 0), (24, .goto 10, 3, [], 0, 0), (27, .aload_n 0, 1, [], 0, 0), (28, .getfield 7, 3, [], 0, 0), (31, .iload_n 1, 1, [], 0, 0), (32, .laload, 1, [], 0, 0), (33, .l2i, 1, [], 0, 0), (34, .ireturn, 1, [], 0, 0), (35, .iload_n 2, 1, [], 0, 0), (36, .iconst 1, 1, [], 0, 0), (37, .if_icmp .ne 24, 3, [], 0, 0), (40, .aload_n 0, 1, [], 0, 0), (41, .getfield 16, 3, [], 2, 0), (44, .iload_n 1, 1, [], 0, 0), (45, .baload, 1, [], 0, 0), (46, .ifCond .eq 7, 3, [], 0, 0), (49, .iconst 0, 1, [], 0, 0), (50, .goto 10, 3, [], 0, 0), (53, .aload_n 0, 1, [], 0, 0), (54, .getfield 13, 3, [], 1, 0), (57, .iload_n 1, 1, [], 0, 0), (58, .laload, 1, [], 0, 0), (59, .l2i, 1, [], 0, 0), (60, .ireturn, 1, [], 0, 0), (61, .iload_n 2, 1, [], 0, 0), (62, .iconst 2, 1, [], 0, 0), (63, .if_icmp .ne 18, 3, [], 0, 0), (66, .aload_n 0, 1, [], 0, 0), (67, .getfield 16, 3, [], 2, 0), (70, .iload_n 1, 1, [], 0, 0), (71, .baload, 1, [], 0, 0), (72, .ifCond .eq 7, 3, [], 0, 0), (75, .iconst 1, 1, [], 0, 0), (76, .goto 4, 3, [], 0, 0), (79, .iconst 0, 1, [], 0, 0), (80, .ireturn, 1, [], 0, 0), (81, .iconst (-1), 1, [], 0, 0), (82, .ireturn, 1, [], 0, 0)])
def d_22 : MD := (⟨"CurveLadder", "sign", "(II)Z"⟩, prog_1_method_13_code, 11, some .boolean, 3, 2, 0, 5, 120, [(0, .aload_n 0, 1, [], 0, 0), (1, .iload_n 1, 1, [], 0, 0), (2, .invokevirtual 124, 3, [], 12, 0), (5, .ifCond .eq 17, 3, [], 0, 0), (8, .aload_n 0, 1, [], 0, 0), (9, .getfield 23, 3, [], 4, 0), (12, .iload_n 1, 1, [], 0, 0), (13, .baload, 1, [], 0, 0), (14, .ifCond .eq 8, 3, [], 0, 0), (17, .iload_n 2, 1, [], 0, 0), (18, .iconst 1, 1, [], 0, 0), (19, .if_icmp .ge 5, 3, [], 0, 0), (22, .iconst 0, 1, [], 0, 0), (23, .ireturn, 1, [], 0, 0), (24, .aload_n 0, 1, [], 0, 0), (25, .aload_n 0, 1, [], 0, 0), (26, .getfield 53, 3, [], 11, 0), (29, .aload_n 0, 1, [], 0, 0), (30, .getfield 56, 3, [], 12, 0), (33, .iconst 0, 1, [], 0, 0), (34, .iload_n 2, 1, [], 0, 0), (35, .i2l, 1, [], 0, 0), (36, .invokevirtual 120, 3, [], 13, 0), (39, .aload_n 0, 1, [], 0, 0), (40, .getfield 109, 3, [], 21, 0), (43, .lstore_n 3, 1, [], 0, 0), (44, .aload_n 0, 1, [], 0, 0), (45, .getfield 112, 3, [], 22, 0), (48, .lstore 5, 2, [], 0, 0), (50, .aload_n 0, 1, [], 0, 0), (51, .getfield 115, 3, [], 20, 0), (54, .istore 7, 2, [], 0, 0), (56, .aload_n 0, 1, [], 0, 0), (57, .iload 7, 2, [], 0, 0), (59, .lload_n 3, 1, [], 0, 0), (60, .lload 5, 2, [], 0, 0), (62, .aload_n 0, 1, [], 0, 0), (63, .getfield 32, 3, [], 7, 0), (66, .iload_n 1, 1, [], 0, 0), (67, .baload, 1, [], 0, 0), (68, .aload_n 0, 1, [], 0, 0), (69, .getfield 26, 3, [], 5, 0), (72, .iload_n 1, 1, [], 0, 0), (73, .laload, 1, [], 0, 0), (74, .aload_n 0, 1, [], 0, 0), (75, .getfield 29, 3, [], 6, 0), (78, .iload_n 1, 1, [], 0, 0), (79, .laload, 1, [], 0, 0), (80, .invokevirtual 127, 3, [], 34, 0), (83, .istore 8, 2, [], 0, 0), (85, .iload_n 2, 1, [], 0, 0), (86, .i2l, 1, [], 0, 0), (87, .iload 8, 2, [], 0, 0), (89, .i2l, 1, [], 0, 0), (90, .aload_n 0, 1, [], 0, 0), (91, .getfield 20, 3, [], 3, 0), (94, .iload_n 1, 1, [], 0, 0), (95, .laload, 1, [], 0, 0), (96, .lmul, 1, [], 0, 0), (97, .ladd, 1, [], 0, 0), (98, .lstore 9, 2, [], 0, 0), (100, .aload_n 0, 1, [], 0, 0), (101, .lload_n 3, 1, [], 0, 0), (102, .lload 5, 2, [], 0, 0), (104, .iload 7, 2, [], 0, 0), (106, .lload 9, 2, [], 0, 0), (108, .invokevirtual 131, 3, [], 26, 0), (111, .aload_n 0, 1, [], 0, 0), (112, .iload 8, 2, [], 0, 0), (114, .putfield 90, 3, [], 19, 0), (117, .iconst 1, 1, [], 0, 0), (118, .ireturn, 1, [], 0, 0)])
def d_23 : MD := (⟨"CurveLadder", "feed", "(I)Z"⟩, prog_1_method_11_code, 2, some .boolean, 3, 1, 0, 0, 0, [(0, .aload_n 0, 1, [], 0, 0), (1, .getfield 73, 3, [], 14, 0), (4, .bipush 64, 2, [], 0, 0), (6, .if_icmp .lt 5, 3, [], 0, 0), (9, .iconst 0, 1, [], 0, 0), (10, .ireturn, 1, [], 0, 0), (11, .aload_n 0, 1, [], 0, 0), (12, .getfield 35, 3, [], 8, 0), (15, .aload_n 0, 1, [], 0, 0), (16, .getfield 73, 3, [], 14, 0), (19, .iload_n 1, 1, [], 0, 0), (20, .sipush 255, 3, [], 0, 0), (23, .iand, 1, [], 0, 0), (24, .iastore, 1, [], 0, 0), (25, .aload_n 0, 1, [], 0, 0), (26, .dup, 1, [], 0, 0), (27, .getfield 73, 3, [], 14, 0), (30, .iconst 1, 1, [], 0, 0), (31, .iadd, 1, [], 0, 0), (32, .putfield 73, 3, [], 14, 0), (35, .iconst 1, 1, [], 0, 0), (36, .ireturn, 1, [], 0, 0)])
def d_24 : MD := (⟨"CurveLadder", "clearMessage", "()V"⟩, prog_1_method_12_code, 1, none, 3, 0, 0, 0, 0, [(0, .aload_n 0, 1, [], 0, 0), (1, .iconst 0, 1, [], 0, 0), (2, .putfield 73, 3, [], 14, 0), (5, .return_, 1, [], 0, 0)])
def d_25 : MD := (⟨"CurveLadder", "setSig", "(IIJ)Z"⟩, prog_1_method_14_code, 5, some .boolean, 3, 3, 0, 1, 19, [(0, .lload_n 3, 1, [], 0, 0), (1, .lconst 0, 1, [], 0, 0), (2, .lcmp, 1, [], 0, 0), (3, .ifCond .lt 11, 3, [], 0, 0), (6, .lload_n 3, 1, [], 0, 0), (7, .ldc2_w 118, 3, [], 0, 281474976710656), (10, .lcmp, 1, [], 0, 0), (11, .ifCond .lt 5, 3, [], 0, 0), (14, .iconst 0, 1, [], 0, 0), (15, .ireturn, 1, [], 0, 0), (16, .iload_n 1, 1, [], 0, 0), (17, .iconst (-1), 1, [], 0, 0), (18, .if_icmp .ne 13, 3, [], 0, 0), (21, .aload_n 0, 1, [], 0, 0), (22, .lconst 0, 1, [], 0, 0), (23, .lconst 0, 1, [], 0, 0), (24, .iconst 1, 1, [], 0, 0), (25, .lload_n 3, 1, [], 0, 0), (26, .invokevirtual 131, 3, [], 26, 0), (29, .iconst 1, 1, [], 0, 0), (30, .ireturn, 1, [], 0, 0), (31, .aload_n 0, 1, [], 0, 0), (32, .iload_n 1, 1, [], 0, 0), (33, .i2l, 1, [], 0, 0), (34, .invokevirtual 97, 3, [], 28, 0), (37, .ifCond .eq 12, 3, [], 0, 0), (40, .aload_n 0, 1, [], 0, 0), (41, .iload_n 2, 1, [], 0, 0), (42, .i2l, 1, [], 0, 0), (43, .invokevirtual 97, 3, [], 28, 0), (46, .ifCond .ne 5, 3, [], 0, 0), (49, .iconst 0, 1, [], 0, 0), (50, .ireturn, 1, [], 0, 0), (51, .aload_n 0, 1, [], 0, 0), (52, .iload_n 1, 1, [], 0, 0), (53, .i2l, 1, [], 0, 0), (54, .iload_n 2, 1, [], 0, 0), (55, .i2l, 1, [], 0, 0), (56, .iconst 0, 1, [], 0, 0), (57, .lload_n 3, 1, [], 0, 0), (58, .invokevirtual 131, 3, [], 26, 0), (61, .iconst 1, 1, [], 0, 0), (62, .ireturn, 1, [], 0, 0)])
def d_26 : MD := (⟨"CurveLadder", "storeSig", "(JJZJ)V"⟩, prog_1_method_25_code, 8, none, 2, 4, 0, 0, 0, [(0, .aload_n 0, 1, [], 0, 0), (1, .iload 5, 2, [], 0, 0), (3, .putfield 83, 3, [], 17, 0), (6, .aload_n 0, 1, [], 0, 0), (7, .iload 5, 2, [], 0, 0), (9, .ifCond .eq 7, 3, [], 0, 0), (12, .lconst 0, 1, [], 0, 0), (13, .goto 4, 3, [], 0, 0), (16, .lload_n 1, 1, [], 0, 0), (17, .putfield 77, 3, [false, true, true], 15, 0), (20, .aload_n 0, 1, [], 0, 0), (21, .iload 5, 2, [], 0, 0), (23, .ifCond .eq 7, 3, [], 0, 0), (26, .lconst 0, 1, [], 0, 0), (27, .goto 4, 3, [], 0, 0), (30, .lload_n 3, 1, [], 0, 0), (31, .putfield 80, 3, [false, true, true, true, true, true], 16, 0), (34, .aload_n 0, 1, [], 0, 0), (35, .lload 6, 2, [], 0, 0), (37, .putfield 87, 3, [], 18, 0), (40, .return_, 1, [], 0, 0)])
def d_27 : MD := (⟨"CurveLadder", "load", "(III)Z"⟩, prog_1_method_3_code, 4, some .boolean, 3, 3, 0, 3, 60, [(0, .aload_n 0, 1, [], 0, 0), (1, .iload_n 1, 1, [], 0, 0), (2, .invokevirtual 93, 3, [], 18, 0), (5, .ifCond .ne 5, 3, [], 0, 0), (8, .iconst 0, 1, [], 0, 0), (9, .ireturn, 1, [], 0, 0), (10, .aload_n 0, 1, [], 0, 0), (11, .iload_n 2, 1, [], 0, 0), (12, .i2l, 1, [], 0, 0), (13, .invokevirtual 97, 3, [], 28, 0), (16, .ifCond .eq 12, 3, [], 0, 0), (19, .aload_n 0, 1, [], 0, 0), (20, .iload_n 3, 1, [], 0, 0), (21, .i2l, 1, [], 0, 0), (22, .invokevirtual 97, 3, [], 28, 0), (25, .ifCond .ne 5, 3, [], 0, 0), (28, .iconst 0, 1, [], 0, 0), (29, .ireturn, 1, [], 0, 0), (30, .aload_n 0, 1, [], 0, 0), (31, .iload_n 2, 1, [], 0, 0), (32, .i2l, 1, [], 0, 0), (33, .iload_n 3, 1, [], 0, 0), (34, .i2l, 1, [], 0, 0), (35, .invokevirtual 101, 3, [], 29, 0), (38, .ifCond .ne 5, 3, [], 0, 0), (41, .iconst 0, 1, [], 0, 0), (42, .ireturn, 1, [], 0, 0), (43, .aload_n 0, 1, [], 0, 0), (44, .iload_n 1, 1, [], 0, 0), (45, .iload_n 2, 1, [], 0, 0), (46, .i2l, 1, [], 0, 0), (47, .iload_n 3, 1, [], 0, 0), (48, .i2l, 1, [], 0, 0), (49, .iconst 0, 1, [], 0, 0), (50, .invokevirtual 69, 3, [], 10, 0), (53, .iconst 1, 1, [], 0, 0), (54, .ireturn, 1, [], 0, 0)])
def d_28 : MD := (⟨"CurveLadder", "inField", "(J)Z"⟩, prog_1_method_23_code, 3, some .boolean, 2, 1, 0, 0, 0, [(0, .lload_n 1, 1, [], 0, 0), (1, .lconst 0, 1, [], 0, 0), (2, .lcmp, 1, [], 0, 0), (3, .ifCond .lt 18, 3, [], 0, 0), (6, .lload_n 1, 1, [], 0, 0), (7, .aload_n 0, 1, [], 0, 0), (8, .getfield 43, 3, [], 9, 0), (11, .lconst 1, 1, [], 0, 0), (12, .lsub, 1, [], 0, 0), (13, .lcmp, 1, [], 0, 0), (14, .ifCond .gt 7, 3, [], 0, 0), (17, .iconst 1, 1, [], 0, 0), (18, .goto 4, 3, [], 0, 0), (21, .iconst 0, 1, [], 0, 0), (22, .ireturn, 1, [], 0, 0)])
def d_29 : MD := (⟨"CurveLadder", "onCurve", "(JJ)Z"⟩, prog_1_method_32_code, 7, some .boolean, 2, 2, 0, 2, 42, [(0, .aload_n 0, 1, [], 0, 0), (1, .lload_n 3, 1, [], 0, 0), (2, .lload_n 3, 1, [], 0, 0), (3, .invokevirtual 152, 3, [], 6, 0), (6, .lstore 5, 2, [], 0, 0), (8, .lload 5, 2, [], 0, 0), (10, .aload_n 0, 1, [], 0, 0), (11, .lload_n 1, 1, [], 0, 0), (12, .invokevirtual 171, 3, [], 30, 0), (15, .lcmp, 1, [], 0, 0), (16, .ifCond .ne 7, 3, [], 0, 0), (19, .iconst 1, 1, [], 0, 0), (20, .goto 4, 3, [], 0, 0), (23, .iconst 0, 1, [], 0, 0), (24, .ireturn, 1, [], 0, 0)])
def d_30 : MD := (⟨"CurveLadder", "curveRhs", "(J)J"⟩, prog_1_method_31_code, 11, some .long, 2, 1, 0, 1, 18, [(0, .aload_n 0, 1, [], 0, 0), (1, .lload_n 1, 1, [], 0, 0), (2, .lload_n 1, 1, [], 0, 0), (3, .invokevirtual 152, 3, [], 6, 0), (6, .lstore_n 3, 1, [], 0, 0), (7, .aload_n 0, 1, [], 0, 0), (8, .lload_n 3, 1, [], 0, 0), (9, .lload_n 1, 1, [], 0, 0), (10, .invokevirtual 152, 3, [], 6, 0), (13, .lstore 5, 2, [], 0, 0), (15, .aload_n 0, 1, [], 0, 0), (16, .aload_n 0, 1, [], 0, 0), (17, .getfield 50, 3, [], 10, 0), (20, .lload_n 1, 1, [], 0, 0), (21, .invokevirtual 152, 3, [], 6, 0), (24, .lstore 7, 2, [], 0, 0), (26, .aload_n 0, 1, [], 0, 0), (27, .lload 5, 2, [], 0, 0), (29, .lload 7, 2, [], 0, 0), (31, .invokevirtual 163, 3, [], 9, 0), (34, .lstore 9, 2, [], 0, 0), (36, .aload_n 0, 1, [], 0, 0), (37, .lload 9, 2, [], 0, 0), (39, .aload_n 0, 1, [], 0, 0), (40, .getfield 63, 3, [], 13, 0), (43, .invokevirtual 163, 3, [], 9, 0), (46, .lreturn, 1, [], 0, 0)])
def d_31 : MD := (⟨"CurveLadder", "inv", "(J)J"⟩, prog_1_method_30_code, 3, some .long, 2, 1, 0, 2, 39, [(0, .aload_n 0, 1, [], 0, 0), (1, .lload_n 1, 1, [], 0, 0), (2, .aload_n 0, 1, [], 0, 0), (3, .getfield 43, 3, [], 9, 0), (6, .ldc2_w 166, 3, [], 0, 2), (9, .lsub, 1, [], 0, 0), (10, .invokevirtual 168, 3, [], 32, 0), (13, .lreturn, 1, [], 0, 0)])
def d_32 : MD := (⟨"CurveLadder", "powMod", "(JJ)J"⟩, prog_1_method_29_code, 12, some .long, 2, 2, 0, 1, 16, [(0, .lconst 1, 1, [], 0, 0), (1, .aload_n 0, 1, [], 0, 0), (2, .getfield 43, 3, [], 9, 0), (5, .lrem, 1, [], 0, 0), (6, .lstore 5, 2, [], 0, 0), (8, .lload_n 1, 1, [], 0, 0), (9, .aload_n 0, 1, [], 0, 0), (10, .getfield 43, 3, [], 9, 0), (13, .lrem, 1, [], 0, 0), (14, .lstore 7, 2, [], 0, 0), (16, .lload_n 3, 1, [], 0, 0), (17, .lstore 9, 2, [], 0, 0), (19, .iconst 0, 1, [], 0, 0), (20, .istore 11, 2, [], 0, 0), (22, .iload 11, 2, [false, true, true, true, true], 0, 0), (24, .bipush 64, 2, [], 0, 0), (26, .if_icmp .ge 51, 3, [], 0, 0), (29, .lload 9, 2, [], 0, 0), (31, .lconst 0, 1, [], 0, 0), (32, .lcmp, 1, [], 0, 0), (33, .ifCond .le 44, 3, [], 0, 0), (36, .lload 9, 2, [], 0, 0), (38, .lconst 1, 1, [], 0, 0), (39, .land, 1, [], 0, 0), (40, .lconst 1, 1, [], 0, 0), (41, .lcmp, 1, [], 0, 0), (42, .ifCond .ne 13, 3, [], 0, 0), (45, .aload_n 0, 1, [], 0, 0), (46, .lload 5, 2, [], 0, 0), (48, .lload 7, 2, [], 0, 0), (50, .invokevirtual 152, 3, [], 6, 0), (53, .lstore 5, 2, [], 0, 0), (55, .aload_n 0, 1, [false, true, true, true, true], 0, 0), (56, .lload 7, 2, [], 0, 0), (58, .lload 7, 2, [], 0, 0), (60, .invokevirtual 152, 3, [], 6, 0), (63, .lstore 7, 2, [], 0, 0), (65, .lload 9, 2, [], 0, 0), (67, .iconst 1, 1, [], 0, 0), (68, .lushr, 1, [], 0, 0), (69, .lstore 9, 2, [], 0, 0), (71, .iinc 11 1, 3, [], 0, 0), (74, .goto (-52), 3, [], 0, 0), (77, .lload 5, 2, [], 0, 0), (79, .lreturn, 1, [], 0, 0)])
def d_33 : MD := (⟨"CurveLadder", "loadInfinity", "(I)Z"⟩, prog_1_method_4_code, 2, some .boolean, 3, 1, 0, 1, 18, [(0, .aload_n 0, 1, [], 0, 0), (1, .iload_n 1, 1, [], 0, 0), (2, .invokevirtual 93, 3, [], 18, 0), (5, .ifCond .ne 5, 3, [], 0, 0), (8, .iconst 0, 1, [], 0, 0), (9, .ireturn, 1, [], 0, 0), (10, .aload_n 0, 1, [], 0, 0), (11, .iload_n 1, 1, [], 0, 0), (12, .lconst 0, 1, [], 0, 0), (13, .lconst 0, 1, [], 0, 0), (14, .iconst 1, 1, [], 0, 0), (15, .invokevirtual 69, 3, [], 10, 0), (18, .iconst 1, 1, [], 0, 0), (19, .ireturn, 1, [], 0, 0)])
def d_34 : MD := (⟨"CurveLadder", "challenge", "(ZJJZJJ)I"⟩, prog_1_method_37_code, 14, some .int, 2, 6, 0, 1, 15, [(0, .ldc 185, 2, [], 0, 1779033703), (2, .istore 11, 2, [], 0, 0), (4, .iload_n 1, 1, [], 0, 0), (5, .ifCond .eq 7, 3, [], 0, 0), (8, .iconst 1, 1, [], 0, 0), (9, .goto 4, 3, [], 0, 0), (12, .iconst 0, 1, [], 0, 0), (13, .istore 12, 2, [false, false, false, false, false, false, false, false, false, false, false, false, true, true], 0, 0), (15, .aload_n 0, 1, [], 0, 0), (16, .iload 11, 2, [], 0, 0), (18, .iload 12, 2, [], 0, 0), (20, .invokevirtual 186, 3, [], 35, 0), (23, .istore 11, 2, [], 0, 0), (25, .iload_n 1, 1, [], 0, 0), (26, .ifCond .eq 7, 3, [], 0, 0), (29, .iconst 0, 1, [], 0, 0), (30, .goto 5, 3, [], 0, 0), (33, .lload_n 2, 1, [], 0, 0), (34, .l2i, 1, [], 0, 0), (35, .istore 12, 2, [false, false, true, true, false, false, false, false, false, false, false, false, true, true], 0, 0), (37, .aload_n 0, 1, [], 0, 0), (38, .iload 11, 2, [], 0, 0), (40, .iload 12, 2, [], 0, 0), (42, .invokevirtual 186, 3, [], 35, 0), (45, .istore 11, 2, [], 0, 0), (47, .iload_n 1, 1, [], 0, 0), (48, .ifCond .eq 7, 3, [], 0, 0), (51, .iconst 0, 1, [], 0, 0), (52, .goto 6, 3, [], 0, 0), (55, .lload 4, 2, [], 0, 0), (57, .l2i, 1, [], 0, 0), (58, .istore 12, 2, [false, true, true, true, true, true, false, false, false, false, false, false, true, true], 0, 0), (60, .aload_n 0, 1, [], 0, 0), (61, .iload 11, 2, [], 0, 0), (63, .iload 12, 2, [], 0, 0), (65, .invokevirtual 186, 3, [], 35, 0), (68, .istore 11, 2, [], 0, 0), (70, .iload 6, 2, [], 0, 0), (72, .ifCond .eq 7, 3, [], 0, 0), (75, .iconst 1, 1, [], 0, 0), (76, .goto 4, 3, [], 0, 0), (79, .iconst 0, 1, [], 0, 0), (80, .istore 12, 2, [false, true, true, true, true, true, false, false, false, false, false, false, true, true], 0, 0), (82, .aload_n 0, 1, [], 0, 0), (83, .iload 11, 2, [], 0, 0), (85, .iload 12, 2, [], 0, 0), (87, .invokevirtual 186, 3, [], 35, 0), (90, .istore 11, 2, [], 0, 0), (92, .iload 6, 2, [], 0, 0), (94, .ifCond .eq 7, 3, [], 0, 0), (97, .iconst 0, 1, [], 0, 0), (98, .goto 6, 3, [], 0, 0), (101, .lload 7, 2, [], 0, 0), (103, .l2i, 1, [], 0, 0), (104, .istore 12, 2, [false, true, true, true, true, true, false, true, true, false, false, false, true, true], 0, 0), (106, .aload_n 0, 1, [], 0, 0), (107, .iload 11, 2, [], 0, 0), (109, .iload 12, 2, [], 0, 0), (111, .invokevirtual 186, 3, [], 35, 0), (114, .istore 11, 2, [], 0, 0), (116, .iload 6, 2, [], 0, 0), (118, .ifCond .eq 7, 3, [], 0, 0), (121, .iconst 0, 1, [], 0, 0), (122, .goto 6, 3, [], 0, 0), (125, .lload 9, 2, [], 0, 0), (127, .l2i, 1, [], 0, 0), (128, .istore 12, 2, [false, true, true, true, true, true, true, true, true, true, true, false, true, true], 0, 0), (130, .aload_n 0, 1, [], 0, 0), (131, .iload 11, 2, [], 0, 0), (133, .iload 12, 2, [], 0, 0), (135, .invokevirtual 186, 3, [], 35, 0), (138, .istore 11, 2, [], 0, 0), (140, .aload_n 0, 1, [], 0, 0), (141, .iload 11, 2, [], 0, 0), (143, .aload_n 0, 1, [], 0, 0), (144, .getfield 73, 3, [], 14, 0), (147, .invokevirtual 186, 3, [], 35, 0), (150, .istore 11, 2, [], 0, 0), (152, .iconst 0, 1, [], 0, 0), (153, .istore 13, 2, [], 0, 0), (155, .iload 13, 2, [false, true, true, true, true, true, true, true, true, true, true, false, true], 0, 0), (157, .aload_n 0, 1, [], 0, 0), (158, .getfield 73, 3, [], 14, 0), (161, .if_icmp .ge 31, 3, [], 0, 0), (164, .iload 13, 2, [], 0, 0), (166, .bipush 64, 2, [], 0, 0), (168, .if_icmp .ge 24, 3, [], 0, 0), (171, .aload_n 0, 1, [], 0, 0), (172, .iload 11, 2, [], 0, 0), (174, .aload_n 0, 1, [], 0, 0), (175, .getfield 35, 3, [], 8, 0), (178, .iload 13, 2, [], 0, 0), (180, .iaload, 1, [], 0, 0), (181, .invokevirtual 186, 3, [], 35, 0), (184, .istore 11, 2, [], 0, 0), (186, .iinc 13 1, 3, [], 0, 0), (189, .goto (-34), 3, [], 0, 0), (192, .iload 11, 2, [true, true, true, true, true, true, true, true, true, true, true, false, true, true], 0, 0), (194, .iload 11, 2, [], 0, 0), (196, .bipush 16, 2, [], 0, 0), (198, .iushr, 1, [], 0, 0), (199, .ixor, 1, [], 0, 0), (200, .ldc 190, 2, [], 0, 65535), (202, .iand, 1, [], 0, 0), (203, .ireturn, 1, [], 0, 0)])
def d_35 : MD := (⟨"CurveLadder", "mix", "(II)I"⟩, prog_1_method_36_code, 4, some .int, 2, 2, 0, 0, 0, [(0, .iload_n 1, 1, [], 0, 0), (1, .iload_n 2, 1, [], 0, 0), (2, .iadd, 1, [], 0, 0), (3, .istore_n 3, 1, [], 0, 0), (4, .iload_n 3, 1, [], 0, 0), (5, .iload_n 3, 1, [], 0, 0), (6, .bipush 7, 2, [], 0, 0), (8, .ishl, 1, [], 0, 0), (9, .iload_n 3, 1, [], 0, 0), (10, .bipush 25, 2, [], 0, 0), (12, .iushr, 1, [], 0, 0), (13, .ior, 1, [], 0, 0), (14, .ixor, 1, [], 0, 0), (15, .istore_n 3, 1, [], 0, 0), (16, .iload_n 3, 1, [], 0, 0), (17, .ldc 184, 2, [], 0, -1640531527), (19, .iadd, 1, [], 0, 0), (20, .istore_n 3, 1, [], 0, 0), (21, .iload_n 3, 1, [], 0, 0), (22, .ireturn, 1, [], 0, 0)])
def d_36 : MD := (⟨"CurveLadder", "verify", "(I)Z"⟩, prog_1_method_15_code, 8, some .boolean, 3, 1, 0, 5, 120, [(0, .aload_n 0, 1, [], 0, 0), (1, .iload_n 1, 1, [], 0, 0), (2, .invokevirtual 124, 3, [], 12, 0), (5, .ifCond .eq 12, 3, [], 0, 0), (8, .aload_n 0, 1, [], 0, 0), (9, .getfield 23, 3, [], 4, 0), (12, .iload_n 1, 1, [], 0, 0), (13, .baload, 1, [], 0, 0), (14, .ifCond .ne 5, 3, [], 0, 0), (17, .iconst 0, 1, [], 0, 0), (18, .ireturn, 1, [], 0, 0), (19, .aload_n 0, 1, [], 0, 0), (20, .getfield 83, 3, [], 17, 0), (23, .ifCond .ne 20, 3, [], 0, 0), (26, .aload_n 0, 1, [], 0, 0), (27, .aload_n 0, 1, [], 0, 0), (28, .getfield 77, 3, [], 15, 0), (31, .aload_n 0, 1, [], 0, 0), (32, .getfield 80, 3, [], 16, 0), (35, .invokevirtual 101, 3, [], 29, 0), (38, .ifCond .ne 5, 3, [], 0, 0), (41, .iconst 0, 1, [], 0, 0), (42, .ireturn, 1, [], 0, 0), (43, .aload_n 0, 1, [false, false, true, true, true, true, true, true], 0, 0), (44, .aload_n 0, 1, [], 0, 0), (45, .getfield 83, 3, [], 17, 0), (48, .aload_n 0, 1, [], 0, 0), (49, .getfield 77, 3, [], 15, 0), (52, .aload_n 0, 1, [], 0, 0), (53, .getfield 80, 3, [], 16, 0), (56, .aload_n 0, 1, [], 0, 0), (57, .getfield 32, 3, [], 7, 0), (60, .iload_n 1, 1, [], 0, 0), (61, .baload, 1, [], 0, 0), (62, .aload_n 0, 1, [], 0, 0), (63, .getfield 26, 3, [], 5, 0), (66, .iload_n 1, 1, [], 0, 0), (67, .laload, 1, [], 0, 0), (68, .aload_n 0, 1, [], 0, 0), (69, .getfield 29, 3, [], 6, 0), (72, .iload_n 1, 1, [], 0, 0), (73, .laload, 1, [], 0, 0), (74, .invokevirtual 127, 3, [], 34, 0), (77, .istore_n 2, 1, [], 0, 0), (78, .aload_n 0, 1, [], 0, 0), (79, .aload_n 0, 1, [], 0, 0), (80, .getfield 53, 3, [], 11, 0), (83, .aload_n 0, 1, [], 0, 0), (84, .getfield 56, 3, [], 12, 0), (87, .iconst 0, 1, [], 0, 0), (88, .aload_n 0, 1, [], 0, 0), (89, .getfield 87, 3, [], 18, 0), (92, .invokevirtual 120, 3, [], 13, 0), (95, .aload_n 0, 1, [], 0, 0), (96, .getfield 109, 3, [], 21, 0), (99, .lstore_n 3, 1, [], 0, 0), (100, .aload_n 0, 1, [], 0, 0), (101, .getfield 112, 3, [], 22, 0), (104, .lstore 5, 2, [], 0, 0), (106, .aload_n 0, 1, [], 0, 0), (107, .getfield 115, 3, [], 20, 0), (110, .istore 7, 2, [], 0, 0), (112, .aload_n 0, 1, [], 0, 0), (113, .aload_n 0, 1, [], 0, 0), (114, .getfield 26, 3, [], 5, 0), (117, .iload_n 1, 1, [], 0, 0), (118, .laload, 1, [], 0, 0), (119, .aload_n 0, 1, [], 0, 0), (120, .getfield 29, 3, [], 6, 0), (123, .iload_n 1, 1, [], 0, 0), (124, .laload, 1, [], 0, 0), (125, .aload_n 0, 1, [], 0, 0), (126, .getfield 32, 3, [], 7, 0), (129, .iload_n 1, 1, [], 0, 0), (130, .baload, 1, [], 0, 0), (131, .iload_n 2, 1, [], 0, 0), (132, .i2l, 1, [], 0, 0), (133, .invokevirtual 120, 3, [], 13, 0), (136, .aload_n 0, 1, [], 0, 0), (137, .aload_n 0, 1, [], 0, 0), (138, .getfield 77, 3, [], 15, 0), (141, .aload_n 0, 1, [], 0, 0), (142, .getfield 80, 3, [], 16, 0), (145, .aload_n 0, 1, [], 0, 0), (146, .getfield 83, 3, [], 17, 0), (149, .aload_n 0, 1, [], 0, 0), (150, .getfield 109, 3, [], 21, 0), (153, .aload_n 0, 1, [], 0, 0), (154, .getfield 112, 3, [], 22, 0), (157, .aload_n 0, 1, [], 0, 0), (158, .getfield 115, 3, [], 20, 0), (161, .invokevirtual 105, 3, [], 14, 0), (164, .iload 7, 2, [], 0, 0), (166, .ifCond .ne 10, 3, [], 0, 0), (169, .aload_n 0, 1, [], 0, 0), (170, .getfield 115, 3, [], 20, 0), (173, .ifCond .eq 18, 3, [], 0, 0), (176, .iload 7, 2, [false, true, true, true, true, true, true], 0, 0), (178, .aload_n 0, 1, [], 0, 0), (179, .getfield 115, 3, [], 20, 0), (182, .if_icmp .ne 7, 3, [], 0, 0), (185, .iconst 1, 1, [], 0, 0), (186, .goto 4, 3, [], 0, 0), (189, .iconst 0, 1, [], 0, 0), (190, .ireturn, 1, [], 0, 0), (191, .lload_n 3, 1, [], 0, 0), (192, .aload_n 0, 1, [], 0, 0), (193, .getfield 109, 3, [], 21, 0), (196, .lcmp, 1, [], 0, 0), (197, .ifCond .ne 17, 3, [], 0, 0), (200, .lload 5, 2, [], 0, 0), (202, .aload_n 0, 1, [], 0, 0), (203, .getfield 112, 3, [], 22, 0), (206, .lcmp, 1, [], 0, 0), (207, .ifCond .ne 7, 3, [], 0, 0), (210, .iconst 1, 1, [], 0, 0), (211, .goto 4, 3, [], 0, 0), (214, .iconst 0, 1, [], 0, 0), (215, .ireturn, 1, [], 0, 0)])
def d_37 : MD := (⟨"CurveLadder", "shared", "(III)Z"⟩, prog_1_method_10_code, 4, some .boolean, 3, 3, 0, 5, 120, [(0, .aload_n 0, 1, [], 0, 0), (1, .iload_n 1, 1, [], 0, 0), (2, .invokevirtual 93, 3, [], 18, 0), (5, .ifCond .eq 19, 3, [], 0, 0), (8, .aload_n 0, 1, [], 0, 0), (9, .iload_n 2, 1, [], 0, 0), (10, .invokevirtual 124, 3, [], 12, 0), (13, .ifCond .eq 11, 3, [], 0, 0), (16, .aload_n 0, 1, [], 0, 0), (17, .iload_n 3, 1, [], 0, 0), (18, .invokevirtual 124, 3, [], 12, 0), (21, .ifCond .ne 5, 3, [], 0, 0), (24, .iconst 0, 1, [], 0, 0), (25, .ireturn, 1, [], 0, 0), (26, .aload_n 0, 1, [], 0, 0), (27, .getfield 23, 3, [], 4, 0), (30, .iload_n 2, 1, [], 0, 0), (31, .baload, 1, [], 0, 0), (32, .ifCond .eq 12, 3, [], 0, 0), (35, .aload_n 0, 1, [], 0, 0), (36, .getfield 23, 3, [], 4, 0), (39, .iload_n 3, 1, [], 0, 0), (40, .baload, 1, [], 0, 0), (41, .ifCond .ne 5, 3, [], 0, 0), (44, .iconst 0, 1, [], 0, 0), (45, .ireturn, 1, [], 0, 0), (46, .aload_n 0, 1, [], 0, 0), (47, .aload_n 0, 1, [], 0, 0), (48, .getfield 26, 3, [], 5, 0), (51, .iload_n 3, 1, [], 0, 0), (52, .laload, 1, [], 0, 0), (53, .aload_n 0, 1, [], 0, 0), (54, .getfield 29, 3, [], 6, 0), (57, .iload_n 3, 1, [], 0, 0), (58, .laload, 1, [], 0, 0), (59, .aload_n 0, 1, [], 0, 0), (60, .getfield 32, 3, [], 7, 0), (63, .iload_n 3, 1, [], 0, 0), (64, .baload, 1, [], 0, 0), (65, .aload_n 0, 1, [], 0, 0), (66, .getfield 20, 3, [], 3, 0), (69, .iload_n 2, 1, [], 0, 0), (70, .laload, 1, [], 0, 0), (71, .invokevirtual 120, 3, [], 13, 0), (74, .aload_n 0, 1, [], 0, 0), (75, .iload_n 1, 1, [], 0, 0), (76, .aload_n 0, 1, [], 0, 0), (77, .getfield 109, 3, [], 21, 0), (80, .aload_n 0, 1, [], 0, 0), (81, .getfield 112, 3, [], 22, 0), (84, .aload_n 0, 1, [], 0, 0), (85, .getfield 115, 3, [], 20, 0), (88, .invokevirtual 69, 3, [], 10, 0), (91, .iconst 1, 1, [], 0, 0), (92, .ireturn, 1, [], 0, 0)])
def own_P : PD := ([("CurveLadder", 23, [("regX", "[J", (.array .long), false), ("regY", "[J", (.array .long), false), ("regInf", "[Z", (.array .boolean), false), ("privKey", "[J", (.array .long), false), ("hasKey", "[Z", (.array .boolean), false), ("pubX", "[J", (.array .long), false), ("pubY", "[J", (.array .long), false), ("pubInf", "[Z", (.array .boolean), false), ("msg", "[I", (.array .int), false), ("p", "J", .long, false), ("a", "J", .long, false), ("gx", "J", .long, false), ("gy", "J", .long, false), ("b", "J", .long, false), ("msgLen", "I", .int, false), ("sigX", "J", .long, false), ("sigY", "J", .long, false), ("sigInf", "Z", .boolean, false), ("sigS", "J", .long, false), ("sigE", "I", .int, false), ("resInf", "Z", .boolean, false), ("resX", "J", .long, false), ("resY", "J", .long, false)])], [d_0, d_1, d_2, d_3, d_4, d_5, d_6, d_7, d_8, d_9, d_10, d_11, d_12, d_13, d_14, d_15, d_16, d_17, d_18, d_19, d_20, d_21, d_22, d_23, d_24, d_25, d_26, d_27, d_28, d_29, d_30, d_31, d_32, d_33, d_34, d_35, d_36, d_37], 1)
theorem hm_0 : own_P.mth[0]? = some d_0 := rfl
theorem hm_1 : own_P.mth[1]? = some d_1 := rfl
theorem hm_2 : own_P.mth[2]? = some d_2 := rfl
theorem hm_3 : own_P.mth[3]? = some d_3 := rfl
theorem hm_4 : own_P.mth[4]? = some d_4 := rfl
theorem hm_5 : own_P.mth[5]? = some d_5 := rfl
theorem hm_6 : own_P.mth[6]? = some d_6 := rfl
theorem hm_7 : own_P.mth[7]? = some d_7 := rfl
theorem hm_8 : own_P.mth[8]? = some d_8 := rfl
theorem hm_9 : own_P.mth[9]? = some d_9 := rfl
theorem hm_10 : own_P.mth[10]? = some d_10 := rfl
theorem hm_11 : own_P.mth[11]? = some d_11 := rfl
theorem hm_12 : own_P.mth[12]? = some d_12 := rfl
theorem hm_13 : own_P.mth[13]? = some d_13 := rfl
theorem hm_14 : own_P.mth[14]? = some d_14 := rfl
theorem hm_15 : own_P.mth[15]? = some d_15 := rfl
theorem hm_16 : own_P.mth[16]? = some d_16 := rfl
theorem hm_17 : own_P.mth[17]? = some d_17 := rfl
theorem hm_18 : own_P.mth[18]? = some d_18 := rfl
theorem hm_19 : own_P.mth[19]? = some d_19 := rfl
theorem hm_20 : own_P.mth[20]? = some d_20 := rfl
theorem hm_21 : own_P.mth[21]? = some d_21 := rfl
theorem hm_22 : own_P.mth[22]? = some d_22 := rfl
theorem hm_23 : own_P.mth[23]? = some d_23 := rfl
theorem hm_24 : own_P.mth[24]? = some d_24 := rfl
theorem hm_25 : own_P.mth[25]? = some d_25 := rfl
theorem hm_26 : own_P.mth[26]? = some d_26 := rfl
theorem hm_27 : own_P.mth[27]? = some d_27 := rfl
theorem hm_28 : own_P.mth[28]? = some d_28 := rfl
theorem hm_29 : own_P.mth[29]? = some d_29 := rfl
theorem hm_30 : own_P.mth[30]? = some d_30 := rfl
theorem hm_31 : own_P.mth[31]? = some d_31 := rfl
theorem hm_32 : own_P.mth[32]? = some d_32 := rfl
theorem hm_33 : own_P.mth[33]? = some d_33 := rfl
theorem hm_34 : own_P.mth[34]? = some d_34 := rfl
theorem hm_35 : own_P.mth[35]? = some d_35 := rfl
theorem hm_36 : own_P.mth[36]? = some d_36 := rfl
theorem hm_37 : own_P.mth[37]? = some d_37 := rfl
set_option maxRecDepth 100000 in
theorem own_chk : chk own_P = true := by decide +kernel
def own_ix : List Nat := [1, 2, 15, 17, 20, 22, 24, 26, 28, 30, 33, 40, 46, 48, 50, 64, 80, 82, 84, 86, 88, 90, 114, 116, 118, 6, 5, 4, 9, 2, 8, 37, 2, 35, 36, 44, 2, 42, 43, 54, 2, 52, 53, 58, 2, 56, 57, 62, 2, 60, 61, 68, 2, 66, 67, 74, 2, 72, 73, 78, 2, 76, 77, 96, 2, 93, 95, 94, 100, 2, 98, 99, 104, 2, 102, 103, 108, 2, 106, 107, 112, 2, 110, 111, 121, 5, 120, 128, 2, 125, 127, 126, 132, 2, 130, 131, 138, 2, 135, 137, 136, 141, 5, 140, 146, 2, 143, 145, 144, 152, 2, 149, 151, 150, 157, 2, 154, 156, 155, 162, 2, 159, 161, 160, 168, 2, 165, 167, 166, 172, 2, 170, 171, 177, 2, 174, 176, 175, 181, 2, 179, 180, 185, 2, 183, 184, 189, 2, 187, 188, 194, 2, 192, 193, 199, 2, 197, 198, 205, 2, 202, 204, 203, 209, 2, 207, 208, 214, 2, 212, 213, 221, 2, 218, 220, 219, 226, 2, 223, 225, 224, 0, 3, 3, 3, 3, 7, 3, 3, 3, 3, 3, 119, 124, 134, 119, 119, 124, 124, 134, 124, 139, 124, 139, 124, 142, 91, 92, 222, 222, 139, 153, 153, 153, 153, 158, 123, 148, 217, 201, 163, 164, 142, 142, 173, 173, 10, 11, 12, 13, 14, 13, 16, 18, 19, 13, 21, 18, 23, 13, 25, 13, 27, 18, 29, 31, 32, 34, 39, 41, 45, 41, 47, 41, 49, 51, 63, 65, 45, 39, 45, 51, 63, 75, 47, 49, 75, 79, 81, 83, 85, 87, 89, 147, 230, 200, 38, 231, 227, 229, 228, 39, 39, 49, 49, 55, 47, 47, 55, 47, 55, 45, 47, 55, 59, 59, 39, 39, 45, 45, 55, 45, 55, 69, 55, 63, 63, 55, 70, 55, 71, 39, 39, 19, 14, 16, 97, 47, 49, 101, 21, 23, 25, 115, 27, 117, 29, 113, 105, 115, 117, 113, 105, 115, 117, 113, 109, 109, 109, 71, 109, 55, 190, 55, 45, 71, 71, 59, 59, 191, 55, 55, 59, 59, 59, 55, 59, 109, 113, 115, 117, 122, 123, 129, 129, 133, 14, 16, 19, 101, 115, 117, 113, 75, 129, 129, 129, 14, 16, 19, 14, 16, 19, 105, 115, 117, 113, 75, 142, 142, 129, 19, 14, 19, 16, 19, 97, 23, 47, 49, 101, 115, 117, 113, 29, 25, 27, 206, 21, 169, 89, 79, 32, 79, 79, 79, 79, 133, 169, 178, 178, 169, 85, 81, 83, 87, 129, 178, 178, 182, 75, 39, 55, 186, 55, 55, 45, 55, 71, 63, 71, 39, 195, 196, 39, 39, 55, 55, 129, 75, 210, 211, 211, 211, 211, 211, 211, 79, 211, 79, 32, 211, 216, 215, 97, 23, 85, 81, 83, 182, 85, 81, 83, 29, 25, 27, 206, 47, 49, 87, 101, 115, 117, 113, 25, 27, 29, 101, 81, 83, 85, 115, 117, 113, 105, 113, 113, 115, 117, 129, 97, 97, 23, 23, 25, 27, 29, 21, 101, 115, 117, 113, 75]
set_option maxRecDepth 100000 in
theorem own_words : (wordsOf own_P).map some = own_ix.map fun k => tables_1[k]? := rfl
theorem own_in : ∀ d ∈ wordsOf own_P, d ∈ tables_1 := fun d hd => by
  have h1 : some d ∈ (wordsOf own_P).map some := List.mem_map.mpr ⟨d, hd, rfl⟩
  rw [own_words] at h1
  obtain ⟨k, -, hk⟩ := List.mem_map.mp h1
  exact List.mem_of_getElem? hk
abbrev bk0 (s_regX : List Int64) (s_regY : List Int64) (s_regInf : List Int32) (s_privKey : List Int64) (s_hasKey : List Int32) (s_pubX : List Int64) (s_pubY : List Int64) (s_pubInf : List Int32) (s_msg : List Int32) (s_p : Int64) (s_a : Int64) (s_gx : Int64) (s_gy : Int64) (s_b : Int64) (s_msgLen : Int32) (s_sigX : Int64) (s_sigY : Int64) (s_sigInf : Int32) (s_sigS : Int64) (s_sigE : Int32) (s_resInf : Int32) (s_resX : Int64) (s_resY : Int64) (po : List ACell) : List ACell := .inl (0, [.ref 2, .ref 3, .ref 4, .ref 5, .ref 6, .ref 7, .ref 8, .ref 9, .ref 10, .long s_p, .long s_a, .long s_gx, .long s_gy, .long s_b, .int s_msgLen, .long s_sigX, .long s_sigY, .int s_sigInf, .long s_sigS, .int s_sigE, .int s_resInf, .long s_resX, .long s_resY]) :: .inr (.inr s_regX) :: .inr (.inr s_regY) :: .inr (.inl (true, s_regInf)) :: .inr (.inr s_privKey) :: .inr (.inl (true, s_hasKey)) :: .inr (.inr s_pubX) :: .inr (.inr s_pubY) :: .inr (.inl (true, s_pubInf)) :: .inr (.inl (false, s_msg)) :: po
def f_L_cell (scr : List Int32) (v1 : Int32) : Option (Int32) :=
  if v1 < scr.length.toInt32 then
    (rdA scr v1).bind fun x1 =>
    some x1
  else
    some (0 : Int32)
def f_primeAt (v1 : Int32) : Option (Int64) :=
  some (if v1 = (0 : Int32) then (8191 : Int64) else (if v1 = (1 : Int32) then (65521 : Int64) else (if v1 = (2 : Int32) then (65537 : Int64) else (if v1 = (3 : Int32) then (131071 : Int64) else (if v1 = (4 : Int32) then (524287 : Int64) else (if v1 = (5 : Int32) then (998244353 : Int64) else (if v1 = (6 : Int32) then (1000000007 : Int64) else (2147483647 : Int64))))))))
def f_clampField (za : Int64) (v1 : Int32) : Option (Int64) :=
  some (if v1.toInt64 < (0 : Int64) then (0 : Int64) else (if (za - (1 : Int64)) < v1.toInt64 then (za - (1 : Int64)) else v1.toInt64))
def f_mulMod (za v1 v3 : Int64) : Option (Int64) :=
  if za = 0 then none else
  some ((v1 * v3) % za)
def f_subMod (za v1 v3 : Int64) : Option (Int64) :=
  some (if (v1 - v3) < (0 : Int64) then ((v1 - v3) + za) else (v1 - v3))
def f_computeB (za zb ze zk : Int64) : Option (Int64) :=
  (f_mulMod za zk zk).bind fun r2 =>
  (f_mulMod za ze ze).bind fun r3 =>
  (f_mulMod za r3 ze).bind fun r4 =>
  (f_mulMod za zb ze).bind fun r5 =>
  (f_subMod za r2 r4).bind fun r6 =>
  (f_subMod za r6 r5).bind fun r7 =>
  some r7
def f_addMod (za v1 v3 : Int64) : Option (Int64) :=
  some (if (v1 + v3) < za then (v1 + v3) else ((v1 + v3) - za))
def f_discriminant (za zb zp : Int64) : Option (Int64) :=
  (f_mulMod za zb zb).bind fun r8 =>
  (f_mulMod za r8 zb).bind fun r9 =>
  (f_mulMod za (4 : Int64) r9).bind fun r10 =>
  (f_mulMod za zp zp).bind fun r11 =>
  (f_mulMod za (27 : Int64) r11).bind fun r12 =>
  (f_addMod za r10 r12).bind fun r13 =>
  some r13
def f_setRegister_40 (zm zg : List Int64) (zh : List Int32) (t0 : Int64) (t1 : Int32) : Option (List Int64 × List Int64 × List Int32) :=
  (wrA zg t1 t0).bind fun A16 =>
  some (zm, A16, zh)
def f_setRegister_23 (zm zg : List Int64) (zh : List Int32) (v1 : Int32) (v4 : Int64) (v6 : Int32) (t0 : Int64) (t1 : Int32) : Option (List Int64 × List Int64 × List Int32) :=
  (wrA zm t1 t0).bind fun A15 =>
  f_setRegister_40 A15 zg zh (if v6 = (0 : Int32) then v4 else (0 : Int64)) v1
def f_setRegister (zm zg : List Int64) (zh : List Int32) (v1 : Int32) (v2 v4 : Int64) (v6 : Int32) : Option (List Int64 × List Int64 × List Int32) :=
  (wrA zh v1 (v6 &&& 1)).bind fun A14 =>
  f_setRegister_23 zm zg A14 v1 v4 v6 (if v6 = (0 : Int32) then v2 else (0 : Int64)) v1
def f_init_215 (zm zg : List Int64) (zh : List Int32) (zv : List Int64) (zu : List Int32) (zt zs : List Int64) (zr zd : List Int32) (za zb ze zk zp : Int64) (zc : Int32) (zi zf : Int64) (zj : Int32) (zq : Int64) (zw zl : Int32) (zo zn : Int64) : Option (List Int64 × List Int64 × List Int32 × List Int64 × List Int32 × List Int64 × List Int64 × List Int32 × List Int32 × Int64 × Int64 × Int64 × Int64 × Int64 × Int32 × Int64 × Int64 × Int32 × Int64 × Int32 × Int32 × Int64 × Int64) :=
  (f_setRegister zm zg zh (0 : Int32) ze zk (0 : Int32)).bind fun (s27, s28, s29) =>
  some (s27, s28, s29, zv, zu, zt, zs, zr, zd, za, zb, ze, zk, zp, (0 : Int32), (0 : Int64), (0 : Int64), (1 : Int32), (0 : Int64), (0 : Int32), zl, zo, zn)
def f_init_193 (k215 : List Int64 → List Int64 → List Int32 → List Int64 → List Int32 → List Int64 → List Int64 → List Int32 → List Int32 → Int64 → Int64 → Int64 → Int64 → Int64 → Int32 → Int64 → Int64 → Int32 → Int64 → Int32 → Int32 → Int64 → Int64 → Option (List Int64 × List Int64 × List Int32 × List Int64 × List Int32 × List Int64 × List Int64 × List Int32 × List Int32 × Int64 × Int64 × Int64 × Int64 × Int64 × Int32 × Int64 × Int64 × Int32 × Int64 × Int32 × Int32 × Int64 × Int64)) : Nat → List Int64 → List Int64 → List Int32 → List Int64 → List Int32 → List Int64 → List Int64 → List Int32 → List Int32 → Int64 → Int64 → Int64 → Int64 → Int64 → Int32 → Int64 → Int64 → Int32 → Int64 → Int32 → Int32 → Int64 → Int64 → Int32 → Option (List Int64 × List Int64 × List Int32 × List Int64 × List Int32 × List Int64 × List Int64 × List Int32 × List Int32 × Int64 × Int64 × Int64 × Int64 × Int64 × Int32 × Int64 × Int64 × Int32 × Int64 × Int32 × Int32 × Int64 × Int64)
  | 0, _, _, _, _, _, _, _, _, _, _, _, _, _, _, _, _, _, _, _, _, _, _, _, _ => none
  | n + 1, zm, zg, zh, zv, zu, zt, zs, zr, zd, za, zb, ze, zk, zp, zc, zi, zf, zj, zq, zw, zl, zo, zn, v6 =>
    if v6 < (8 : Int32) then
      (f_setRegister zm zg zh v6 (0 : Int64) (0 : Int64) (1 : Int32)).bind fun (s24, s25, s26) =>
      f_init_193 k215 n s24 s25 s26 zv zu zt zs zr zd za zb ze zk zp zc zi zf zj zq zw zl zo zn (v6 + (1 : Int32))
    else
      k215 zm zg zh zv zu zt zs zr zd za zb ze zk zp zc zi zf zj zq zw zl zo zn
def f_init_142 (k193 : List Int64 → List Int64 → List Int32 → List Int64 → List Int32 → List Int64 → List Int64 → List Int32 → List Int32 → Int64 → Int64 → Int64 → Int64 → Int64 → Int32 → Int64 → Int64 → Int32 → Int64 → Int32 → Int32 → Int64 → Int64 → Int32 → Option (List Int64 × List Int64 × List Int32 × List Int64 × List Int32 × List Int64 × List Int64 × List Int32 × List Int32 × Int64 × Int64 × Int64 × Int64 × Int64 × Int32 × Int64 × Int64 × Int32 × Int64 × Int32 × Int32 × Int64 × Int64)) : Nat → List Int64 → List Int64 → List Int32 → List Int64 → List Int32 → List Int64 → List Int64 → List Int32 → List Int32 → Int64 → Int64 → Int64 → Int64 → Int64 → Int32 → Int64 → Int64 → Int32 → Int64 → Int32 → Int32 → Int64 → Int64 → Int32 → Option (List Int64 × List Int64 × List Int32 × List Int64 × List Int32 × List Int64 × List Int64 × List Int32 × List Int32 × Int64 × Int64 × Int64 × Int64 × Int64 × Int32 × Int64 × Int64 × Int32 × Int64 × Int32 × Int32 × Int64 × Int64)
  | 0, _, _, _, _, _, _, _, _, _, _, _, _, _, _, _, _, _, _, _, _, _, _, _, _ => none
  | n + 1, zm, zg, zh, zv, zu, zt, zs, zr, zd, za, zb, ze, zk, zp, zc, zi, zf, zj, zq, zw, zl, zo, zn, v6 =>
    if v6 < (8 : Int32) then
      (f_discriminant za zb zp).bind fun r22 =>
      if r22 = (0 : Int64) then
        if za = 0 then none else
        (f_computeB za ((zb + (1 : Int64)) % za) ze zk).bind fun r23 =>
        f_init_142 k193 n zm zg zh zv zu zt zs zr zd za ((zb + (1 : Int64)) % za) ze zk r23 zc zi zf zj zq zw zl zo zn (v6 + (1 : Int32))
      else
        k193 zm zg zh zv zu zt zs zr zd za zb ze zk zp zc zi zf zj zq zw zl zo zn (0 : Int32)
    else
      k193 zm zg zh zv zu zt zs zr zd za zb ze zk zp zc zi zf zj zq zw zl zo zn (0 : Int32)
def f_init_93 (zm zg : List Int64) (zh : List Int32) (zv : List Int64) (zu : List Int32) (zt zs : List Int64) (zr zd : List Int32) (za zb ze zk zp : Int64) (zc : Int32) (zi zf : Int64) (zj : Int32) (zq : Int64) (zw zl : Int32) (zo zn : Int64) (v2 v3 v4 v5 : Int32) : Option (List Int64 × List Int64 × List Int32 × List Int64 × List Int32 × List Int64 × List Int64 × List Int32 × List Int32 × Int64 × Int64 × Int64 × Int64 × Int64 × Int32 × Int64 × Int64 × Int32 × Int64 × Int32 × Int32 × Int64 × Int64) :=
  (f_primeAt v5).bind fun r17 =>
  (f_clampField r17 v2).bind fun r18 =>
  (f_clampField r17 v3).bind fun r19 =>
  (f_clampField r17 v4).bind fun r20 =>
  (f_computeB r17 r18 r19 r20).bind fun r21 =>
  f_init_142 (f_init_193 f_init_215 100000) 100000 zm zg zh zv zu zt zs zr zd r17 r18 r19 r20 r21 zc zi zf zj zq zw zl zo zn (0 : Int32)
def f_init_82 (zm zg : List Int64) (zh : List Int32) (zv : List Int64) (zu : List Int32) (zt zs : List Int64) (zr zd : List Int32) (za zb ze zk zp : Int64) (zc : Int32) (zi zf : Int64) (zj : Int32) (zq : Int64) (zw zl : Int32) (zo zn : Int64) (v2 v3 v4 v5 : Int32) : Option (List Int64 × List Int64 × List Int32 × List Int64 × List Int32 × List Int64 × List Int64 × List Int32 × List Int32 × Int64 × Int64 × Int64 × Int64 × Int64 × Int32 × Int64 × Int64 × Int32 × Int64 × Int32 × Int32 × Int64 × Int64) :=
  f_init_93 zm zg zh zv zu zt zs zr zd za zb ze zk zp zc zi zf zj zq zw zl zo zn v2 v3 v4 (if (7 : Int32) < v5 then (7 : Int32) else v5)
def f_init (v1 v2 v3 v4 : Int32) : Option (List Int64 × List Int64 × List Int32 × List Int64 × List Int32 × List Int64 × List Int64 × List Int32 × List Int32 × Int64 × Int64 × Int64 × Int64 × Int64 × Int32 × Int64 × Int64 × Int32 × Int64 × Int32 × Int32 × Int64 × Int64) :=
  f_init_82 (List.replicate 8 0) (List.replicate 8 0) (List.replicate 8 0) (List.replicate 4 0) (List.replicate 4 0) (List.replicate 4 0) (List.replicate 4 0) (List.replicate 4 0) (List.replicate 64 0) (0 : Int64) (0 : Int64) (0 : Int64) (0 : Int64) (0 : Int64) (0 : Int32) (0 : Int64) (0 : Int64) (0 : Int32) (0 : Int64) (0 : Int32) (0 : Int32) (0 : Int64) (0 : Int64) v2 v3 v4 (if v1 < (0 : Int32) then (0 : Int32) else v1)
def f_L_scalar (v0 v1 v2 : Int32) : Option (Int64) :=
  some (if v2 = (0 : Int32) then (((v0 &&& (8388607 : Int32)).toInt64 <<< ((24 : Int32).toInt64 &&& 63)) ||| (v1 &&& (16777215 : Int32)).toInt64) else (v1 &&& (15 : Int32)).toInt64)
def f_validRegister (v1 : Int32) : Option (Int32) :=
  some (if v1 < (0 : Int32) then (0 : Int32) else (if v1 < (8 : Int32) then (1 : Int32) else (0 : Int32)))
def f_setResult_31 (zl : Int32) (zo zn t0 : Int64) : Option (Int32 × Int64 × Int64) :=
  some (zl, zo, t0)
def f_setResult_17 (zl : Int32) (zo zn v3 : Int64) (v5 : Int32) (t0 : Int64) : Option (Int32 × Int64 × Int64) :=
  f_setResult_31 zl t0 zn (if v5 = (0 : Int32) then v3 else (0 : Int64))
def f_setResult (zl : Int32) (zo zn v1 v3 : Int64) (v5 : Int32) : Option (Int32 × Int64 × Int64) :=
  if v5 = 0 ∨ v5 = 1 then
    f_setResult_17 v5 zo zn v3 v5 (if v5 = (0 : Int32) then v1 else (0 : Int64))
  else none
def f_powMod_55 (kb : Int64 → Int64 → Int64 → Int32 → Option (Int64)) (za v5 v7 v9 : Int64) (v11 : Int32) : Option (Int64) :=
  (f_mulMod za v7 v7).bind fun r31 =>
  kb v5 r31 (XT.ushrL v9 (1 : Int32)) (v11 + (1 : Int32))
def f_powMod_22 (za : Int64) : Nat → Int64 → Int64 → Int64 → Int32 → Option (Int64)
  | 0, _, _, _, _ => none
  | n + 1, v5, v7, v9, v11 =>
    if v11 < (64 : Int32) then
      if (0 : Int64) < v9 then
        if (v9 &&& (1 : Int64)) = (1 : Int64) then
          (f_mulMod za v5 v7).bind fun r30 =>
          f_powMod_55 (f_powMod_22 za n) za r30 v7 v9 v11
        else
          f_powMod_55 (f_powMod_22 za n) za v5 v7 v9 v11
      else
        some v5
    else
      some v5
def f_powMod (za v1 v3 : Int64) : Option (Int64) :=
  if za = 0 then none else
  if za = 0 then none else
  f_powMod_22 za 100000 ((1 : Int64) % za) (v1 % za) v3 (0 : Int32)
def f_inv (za v1 : Int64) : Option (Int64) :=
  (f_powMod za v1 (za - (2 : Int64))).bind fun r32 =>
  some r32
def f_pointAdd_130 (za zb : Int64) (zl : Int32) (zo zn v1 v3 v6 v11 v13 : Int64) : Option (Int32 × Int64 × Int64) :=
  (f_inv za v13).bind fun r47 =>
  (f_mulMod za v11 r47).bind fun r48 =>
  (f_mulMod za r48 r48).bind fun r49 =>
  (f_subMod za r49 v1).bind fun r50 =>
  (f_subMod za r50 v6).bind fun r51 =>
  (f_subMod za v1 r51).bind fun r52 =>
  (f_mulMod za r48 r52).bind fun r53 =>
  (f_subMod za r53 v3).bind fun r54 =>
  (f_setResult zl zo zn r51 r54 (0 : Int32)).bind fun (s55, s56, s57) =>
  some (s55, s56, s57)
def f_pointAdd_112 (za zb : Int64) (zl : Int32) (zo zn v1 v3 v6 v8 : Int64) : Option (Int32 × Int64 × Int64) :=
  (f_subMod za v8 v3).bind fun r58 =>
  (f_subMod za v6 v1).bind fun r59 =>
  f_pointAdd_130 za zb zl zo zn v1 v3 v6 r58 r59
def f_pointAdd_56 (za zb : Int64) (zl : Int32) (zo zn v1 v3 v6 v8 : Int64) : Option (Int32 × Int64 × Int64) :=
  if v1 = v6 then
    if v3 = v8 then
      (f_mulMod za v1 v1).bind fun r43 =>
      (f_mulMod za (3 : Int64) r43).bind fun r44 =>
      (f_addMod za r44 zb).bind fun r45 =>
      (f_addMod za v3 v3).bind fun r46 =>
      f_pointAdd_130 za zb zl zo zn v1 v3 v6 r45 r46
    else
      f_pointAdd_112 za zb zl zo zn v1 v3 v6 v8
  else
    f_pointAdd_112 za zb zl zo zn v1 v3 v6 v8
def f_pointAdd (za zb : Int64) (zl : Int32) (zo zn v1 v3 : Int64) (v5 : Int32) (v6 v8 : Int64) (v10 : Int32) : Option (Int32 × Int64 × Int64) :=
  if v5 = (0 : Int32) then
    if v10 = (0 : Int32) then
      if v1 = v6 then
        (f_addMod za v3 v8).bind fun r33 =>
        if r33 = (0 : Int64) then
          (f_setResult zl zo zn (0 : Int64) (0 : Int64) (1 : Int32)).bind fun (s34, s35, s36) =>
          some (s34, s35, s36)
        else
          f_pointAdd_56 za zb zl zo zn v1 v3 v6 v8
      else
        f_pointAdd_56 za zb zl zo zn v1 v3 v6 v8
    else
      (f_setResult zl zo zn v1 v3 (0 : Int32)).bind fun (s37, s38, s39) =>
      some (s37, s38, s39)
  else
    (f_setResult zl zo zn v6 v8 v10).bind fun (s40, s41, s42) =>
    some (s40, s41, s42)
def f_scalarMul_102 (za zb : Int64) (zl : Int32) (zo zn v8 v10 : Int64) (v12 : Int32) : Option (Int32 × Int64 × Int64) :=
  (f_setResult zl zo zn v8 v10 v12).bind fun (s66, s67, s68) =>
  some (s66, s67, s68)
def f_scalarMul_13 (k102 : Int32 → Int64 → Int64 → Int64 → Int64 → Int32 → Option (Int32 × Int64 × Int64)) (za zb : Int64) : Nat → Int32 → Int64 → Int64 → Int64 → Int64 → Int32 → Int64 → Int64 → Int64 → Int32 → Int32 → Option (Int32 × Int64 × Int64)
  | 0, _, _, _, _, _, _, _, _, _, _, _ => none
  | n + 1, zl, zo, zn, v1, v3, v5, v6, v8, v10, v12, v13 =>
    if v13 < (0 : Int32) then
      k102 zl zo zn v8 v10 v12
    else
      (f_pointAdd za zb zl zo zn v8 v10 v12 v8 v10 v12).bind fun (s60, s61, s62) =>
      if ((XT.ushrL v6 v13) &&& (1 : Int64)) = (1 : Int64) then
        (f_pointAdd za zb s60 s61 s62 s61 s62 s60 v1 v3 v5).bind fun (s63, s64, s65) =>
        f_scalarMul_13 k102 za zb n s63 s64 s65 v1 v3 v5 v6 s64 s65 s63 (v13 + (-1 : Int32))
      else
        f_scalarMul_13 k102 za zb n s60 s61 s62 v1 v3 v5 v6 s61 s62 s60 (v13 + (-1 : Int32))
def f_scalarMul (za zb : Int64) (zl : Int32) (zo zn v1 v3 : Int64) (v5 : Int32) (v6 : Int64) : Option (Int32 × Int64 × Int64) :=
  f_scalarMul_13 (f_scalarMul_102 za zb) za zb 100000 zl zo zn v1 v3 v5 v6 (0 : Int64) (0 : Int64) (1 : Int32) (47 : Int32)
def f_mul (za zb : Int64) (zm zg : List Int64) (zh : List Int32) (zl : Int32) (zo zn : Int64) (v1 v2 : Int32) (v3 : Int64) : Option (Int32 × List Int64 × List Int64 × List Int32 × Int32 × Int64 × Int64) :=
  (f_validRegister v1).bind fun r69 =>
  if r69 = (0 : Int32) then
    some ((0 : Int32), zm, zg, zh, zl, zo, zn)
  else
    (f_validRegister v2).bind fun r70 =>
    if r70 = (0 : Int32) then
      some ((0 : Int32), zm, zg, zh, zl, zo, zn)
    else
      if v3 < (0 : Int64) then
        some ((0 : Int32), zm, zg, zh, zl, zo, zn)
      else
        if v3 < (281474976710656 : Int64) then
          (rdA zm v2).bind fun x71 =>
          (rdA zg v2).bind fun x72 =>
          (rdA zh v2).bind fun x73 =>
          (f_scalarMul za zb zl zo zn x71 x72 x73 v3).bind fun (s74, s75, s76) =>
          (f_setRegister zm zg zh v1 s75 s76 s74).bind fun (s77, s78, s79) =>
          some ((1 : Int32), s77, s78, s79, s74, s75, s76)
        else
          some ((0 : Int32), zm, zg, zh, zl, zo, zn)
def f_add (za zb : Int64) (zm zg : List Int64) (zh : List Int32) (zl : Int32) (zo zn : Int64) (v1 v2 v3 : Int32) : Option (Int32 × List Int64 × List Int64 × List Int32 × Int32 × Int64 × Int64) :=
  (f_validRegister v1).bind fun r80 =>
  if r80 = (0 : Int32) then
    some ((0 : Int32), zm, zg, zh, zl, zo, zn)
  else
    (f_validRegister v2).bind fun r81 =>
    if r81 = (0 : Int32) then
      some ((0 : Int32), zm, zg, zh, zl, zo, zn)
    else
      (f_validRegister v3).bind fun r82 =>
      if r82 = (0 : Int32) then
        some ((0 : Int32), zm, zg, zh, zl, zo, zn)
      else
        (rdA zm v2).bind fun x83 =>
        (rdA zg v2).bind fun x84 =>
        (rdA zh v2).bind fun x85 =>
        (rdA zm v3).bind fun x86 =>
        (rdA zg v3).bind fun x87 =>
        (rdA zh v3).bind fun x88 =>
        (f_pointAdd za zb zl zo zn x83 x84 x85 x86 x87 x88).bind fun (s89, s90, s91) =>
        (f_setRegister zm zg zh v1 s90 s91 s89).bind fun (s92, s93, s94) =>
        some ((1 : Int32), s92, s93, s94, s89, s90, s91)
def f_coord (zm zg : List Int64) (zh : List Int32) (v1 v2 : Int32) : Option (Int32) :=
  (f_validRegister v1).bind fun r95 =>
  if r95 = (0 : Int32) then
    some (-1 : Int32)
  else
    if v2 = (0 : Int32) then
      (rdA zh v1).bind fun x99 =>
      if x99 = (0 : Int32) then
        (rdA zm v1).bind fun x100 =>
        some x100.toInt32
      else
        some (0 : Int32)
    else
      if v2 = (1 : Int32) then
        (rdA zh v1).bind fun x97 =>
        if x97 = (0 : Int32) then
          (rdA zg v1).bind fun x98 =>
          some x98.toInt32
        else
          some (0 : Int32)
      else
        if v2 = (2 : Int32) then
          (rdA zh v1).bind fun x96 =>
          some (if x96 = (0 : Int32) then (0 : Int32) else (1 : Int32))
        else
          some (-1 : Int32)
def f_L_same_2 (zau zav : List Int64) (zaw : List Int32) : Nat → Int32 → Int32 → Int32 → Option (Int32)
  | 0, _, _, _ => none
  | n + 1, v1, v2, v3 =>
    if v3 < (3 : Int32) then
      (f_coord zau zav zaw v1 v3).bind fun r101 =>
      (f_coord zau zav zaw v2 v3).bind fun r102 =>
      if r101 = r102 then
        f_L_same_2 zau zav zaw n v1 v2 (v3 + (1 : Int32))
      else
        some (0 : Int32)
    else
      some (1 : Int32)
def f_L_same (zau zav : List Int64) (zaw : List Int32) (v1 v2 : Int32) : Option (Int32) :=
  f_L_same_2 zau zav zaw 100000 v1 v2 (0 : Int32)
def f_validParty (v1 : Int32) : Option (Int32) :=
  some (if v1 < (0 : Int32) then (0 : Int32) else (if v1 < (4 : Int32) then (1 : Int32) else (0 : Int32)))
def f_genKey (za zb ze zk : Int64) (zv : List Int64) (zu : List Int32) (zt zs : List Int64) (zr : List Int32) (zl : Int32) (zo zn : Int64) (v1 v2 : Int32) : Option (Int32 × List Int64 × List Int32 × List Int64 × List Int64 × List Int32 × Int32 × Int64 × Int64) :=
  (f_validParty v1).bind fun r103 =>
  if r103 = (0 : Int32) then
    some ((0 : Int32), zv, zu, zt, zs, zr, zl, zo, zn)
  else
    if v2 < (1 : Int32) then
      some ((0 : Int32), zv, zu, zt, zs, zr, zl, zo, zn)
    else
      (f_scalarMul za zb zl zo zn ze zk (0 : Int32) v2.toInt64).bind fun (s104, s105, s106) =>
      (wrA zv v1 v2.toInt64).bind fun A107 =>
      (wrA zu v1 (1 : Int32)).bind fun A108 =>
      (wrA zt v1 s105).bind fun A109 =>
      (wrA zs v1 s106).bind fun A110 =>
      (wrA zr v1 (s104 &&& 1)).bind fun A111 =>
      some ((1 : Int32), A107, A108, A109, A110, A111, s104, s105, s106)
def f_shared (zv : List Int64) (zu : List Int32) (zt zs : List Int64) (zr : List Int32) (za zb : Int64) (zm zg : List Int64) (zh : List Int32) (zl : Int32) (zo zn : Int64) (v1 v2 v3 : Int32) : Option (Int32 × List Int64 × List Int64 × List Int32 × Int32 × Int64 × Int64) :=
  (f_validRegister v1).bind fun r112 =>
  if r112 = (0 : Int32) then
    some ((0 : Int32), zm, zg, zh, zl, zo, zn)
  else
    (f_validParty v2).bind fun r113 =>
    if r113 = (0 : Int32) then
      some ((0 : Int32), zm, zg, zh, zl, zo, zn)
    else
      (f_validParty v3).bind fun r114 =>
      if r114 = (0 : Int32) then
        some ((0 : Int32), zm, zg, zh, zl, zo, zn)
      else
        (rdA zu v2).bind fun x115 =>
        if x115 = (0 : Int32) then
          some ((0 : Int32), zm, zg, zh, zl, zo, zn)
        else
          (rdA zu v3).bind fun x116 =>
          if x116 = (0 : Int32) then
            some ((0 : Int32), zm, zg, zh, zl, zo, zn)
          else
            (rdA zt v3).bind fun x117 =>
            (rdA zs v3).bind fun x118 =>
            (rdA zr v3).bind fun x119 =>
            (rdA zv v2).bind fun x120 =>
            (f_scalarMul za zb zl zo zn x117 x118 x119 x120).bind fun (s121, s122, s123) =>
            (f_setRegister zm zg zh v1 s122 s123 s121).bind fun (s124, s125, s126) =>
            some ((1 : Int32), s124, s125, s126, s121, s122, s123)
def f_feed (zd : List Int32) (zc v1 : Int32) : Option (Int32 × List Int32 × Int32) :=
  if zc < (64 : Int32) then
    (wrA zd zc (v1 &&& (255 : Int32))).bind fun A127 =>
    some ((1 : Int32), A127, (zc + (1 : Int32)))
  else
    some ((0 : Int32), zd, zc)
def f_clearMessage (zc : Int32) : Option (Int32) :=
  some (0 : Int32)
def f_mix (v1 v2 : Int32) : Option (Int32) :=
  some (((v1 + v2) ^^^ (((v1 + v2) <<< ((7 : Int32) &&& 31)) ||| (XT.ushr (v1 + v2) (25 : Int32)))) + (-1640531527 : Int32))
def f_challenge_192 (zd : List Int32) (zc v11 : Int32) : Option (Int32) :=
  some ((v11 ^^^ (XT.ushr v11 (16 : Int32))) &&& (65535 : Int32))
def f_challenge_155 (k192 : Int32 → Option (Int32)) (zd : List Int32) (zc : Int32) : Nat → Int32 → Int32 → Option (Int32)
  | 0, _, _ => none
  | n + 1, v11, v13 =>
    if v13 < zc then
      if v13 < (64 : Int32) then
        (rdA zd v13).bind fun x135 =>
        (f_mix v11 x135).bind fun r136 =>
        f_challenge_155 k192 zd zc n r136 (v13 + (1 : Int32))
      else
        k192 v11
    else
      k192 v11
def f_challenge_128 (zd : List Int32) (zc v11 t0 : Int32) : Option (Int32) :=
  (f_mix v11 t0).bind fun r133 =>
  (f_mix r133 zc).bind fun r134 =>
  f_challenge_155 (f_challenge_192 zd zc) zd zc 100000 r134 (0 : Int32)
def f_challenge_104 (zd : List Int32) (zc v6 : Int32) (v9 : Int64) (v11 t0 : Int32) : Option (Int32) :=
  (f_mix v11 t0).bind fun r132 =>
  f_challenge_128 zd zc r132 (if v6 = (0 : Int32) then v9.toInt32 else (0 : Int32))
def f_challenge_80 (zd : List Int32) (zc v6 : Int32) (v7 v9 : Int64) (v11 t0 : Int32) : Option (Int32) :=
  (f_mix v11 t0).bind fun r131 =>
  f_challenge_104 zd zc v6 v9 r131 (if v6 = (0 : Int32) then v7.toInt32 else (0 : Int32))
def f_challenge_58 (zd : List Int32) (zc v6 : Int32) (v7 v9 : Int64) (v11 t0 : Int32) : Option (Int32) :=
  (f_mix v11 t0).bind fun r130 =>
  f_challenge_80 zd zc v6 v7 v9 r130 (if v6 = (0 : Int32) then (0 : Int32) else (1 : Int32))
def f_challenge_35 (zd : List Int32) (zc v1 : Int32) (v4 : Int64) (v6 : Int32) (v7 v9 : Int64) (v11 t0 : Int32) : Option (Int32) :=
  (f_mix v11 t0).bind fun r129 =>
  f_challenge_58 zd zc v6 v7 v9 r129 (if v1 = (0 : Int32) then v4.toInt32 else (0 : Int32))
def f_challenge_13 (zd : List Int32) (zc v1 : Int32) (v2 v4 : Int64) (v6 : Int32) (v7 v9 : Int64) (v11 t0 : Int32) : Option (Int32) :=
  (f_mix v11 t0).bind fun r128 =>
  f_challenge_35 zd zc v1 v4 v6 v7 v9 r128 (if v1 = (0 : Int32) then v2.toInt32 else (0 : Int32))
def f_challenge (zd : List Int32) (zc v1 : Int32) (v2 v4 : Int64) (v6 : Int32) (v7 v9 : Int64) : Option (Int32) :=
  f_challenge_13 zd zc v1 v2 v4 v6 v7 v9 (1779033703 : Int32) (if v1 = (0 : Int32) then (0 : Int32) else (1 : Int32))
def f_storeSig_31 (zi zf : Int64) (zj : Int32) (zq v6 t0 : Int64) : Option (Int64 × Int64 × Int32 × Int64) :=
  some (zi, t0, zj, v6)
def f_storeSig_17 (zi zf : Int64) (zj : Int32) (zq v3 : Int64) (v5 : Int32) (v6 t0 : Int64) : Option (Int64 × Int64 × Int32 × Int64) :=
  f_storeSig_31 t0 zf zj zq v6 (if v5 = (0 : Int32) then v3 else (0 : Int64))
def f_storeSig (zi zf : Int64) (zj : Int32) (zq v1 v3 : Int64) (v5 : Int32) (v6 : Int64) : Option (Int64 × Int64 × Int32 × Int64) :=
  if v5 = 0 ∨ v5 = 1 then
    f_storeSig_17 zi zf v5 zq v3 v5 v6 (if v5 = (0 : Int32) then v1 else (0 : Int64))
  else none
def f_sign (zv : List Int64) (zu : List Int32) (zt zs : List Int64) (zr zd : List Int32) (za zb ze zk : Int64) (zc : Int32) (zi zf : Int64) (zj : Int32) (zq : Int64) (zw zl : Int32) (zo zn : Int64) (v1 v2 : Int32) : Option (Int32 × Int64 × Int64 × Int32 × Int64 × Int32 × Int32 × Int64 × Int64) :=
  (f_validParty v1).bind fun r137 =>
  if r137 = (0 : Int32) then
    some ((0 : Int32), zi, zf, zj, zq, zw, zl, zo, zn)
  else
    (rdA zu v1).bind fun x138 =>
    if x138 = (0 : Int32) then
      some ((0 : Int32), zi, zf, zj, zq, zw, zl, zo, zn)
    else
      if v2 < (1 : Int32) then
        some ((0 : Int32), zi, zf, zj, zq, zw, zl, zo, zn)
      else
        (f_scalarMul za zb zl zo zn ze zk (0 : Int32) v2.toInt64).bind fun (s139, s140, s141) =>
        (rdA zr v1).bind fun x142 =>
        (rdA zt v1).bind fun x143 =>
        (rdA zs v1).bind fun x144 =>
        (f_challenge zd zc s139 s140 s141 x142 x143 x144).bind fun r145 =>
        (rdA zv v1).bind fun x146 =>
        (f_storeSig zi zf zj zq s140 s141 s139 (v2.toInt64 + (r145.toInt64 * x146))).bind fun (s147, s148, s149, s150) =>
        some ((1 : Int32), s147, s148, s149, s150, r145, s139, s140, s141)
def f_curveRhs (za zb zp v1 : Int64) : Option (Int64) :=
  (f_mulMod za v1 v1).bind fun r151 =>
  (f_mulMod za r151 v1).bind fun r152 =>
  (f_mulMod za zb v1).bind fun r153 =>
  (f_addMod za r152 r153).bind fun r154 =>
  (f_addMod za r154 zp).bind fun r155 =>
  some r155
def f_onCurve (za zb zp v1 v3 : Int64) : Option (Int32) :=
  (f_mulMod za v3 v3).bind fun r156 =>
  (f_curveRhs za zb zp v1).bind fun r157 =>
  some (if r156 = r157 then (1 : Int32) else (0 : Int32))
def f_verify_176 (zu : List Int32) (zt zs : List Int64) (zr zd : List Int32) (za zb ze zk zp : Int64) (zc : Int32) (zi zf : Int64) (zj : Int32) (zq : Int64) (zl : Int32) (zo zn : Int64) (v7 : Int32) : Option (Int32 × Int32 × Int64 × Int64) :=
  some ((if v7 = zl then (1 : Int32) else (0 : Int32)), zl, zo, zn)
def f_verify_43 (zu : List Int32) (zt zs : List Int64) (zr zd : List Int32) (za zb ze zk zp : Int64) (zc : Int32) (zi zf : Int64) (zj : Int32) (zq : Int64) (zl : Int32) (zo zn : Int64) (v1 : Int32) : Option (Int32 × Int32 × Int64 × Int64) :=
  (rdA zr v1).bind fun x161 =>
  (rdA zt v1).bind fun x162 =>
  (rdA zs v1).bind fun x163 =>
  (f_challenge zd zc zj zi zf x161 x162 x163).bind fun r164 =>
  (f_scalarMul za zb zl zo zn ze zk (0 : Int32) zq).bind fun (s165, s166, s167) =>
  (rdA zt v1).bind fun x168 =>
  (rdA zs v1).bind fun x169 =>
  (rdA zr v1).bind fun x170 =>
  (f_scalarMul za zb s165 s166 s167 x168 x169 x170 r164.toInt64).bind fun (s171, s172, s173) =>
  (f_pointAdd za zb s171 s172 s173 zi zf zj s172 s173 s171).bind fun (s174, s175, s176) =>
  if s165 = (0 : Int32) then
    if s174 = (0 : Int32) then
      some ((if s166 = s175 then (if s167 = s176 then (1 : Int32) else (0 : Int32)) else (0 : Int32)), s174, s175, s176)
    else
      f_verify_176 zu zt zs zr zd za zb ze zk zp zc zi zf zj zq s174 s175 s176 s165
  else
    f_verify_176 zu zt zs zr zd za zb ze zk zp zc zi zf zj zq s174 s175 s176 s165
def f_verify (zu : List Int32) (zt zs : List Int64) (zr zd : List Int32) (za zb ze zk zp : Int64) (zc : Int32) (zi zf : Int64) (zj : Int32) (zq : Int64) (zl : Int32) (zo zn : Int64) (v1 : Int32) : Option (Int32 × Int32 × Int64 × Int64) :=
  (f_validParty v1).bind fun r158 =>
  if r158 = (0 : Int32) then
    some ((0 : Int32), zl, zo, zn)
  else
    (rdA zu v1).bind fun x159 =>
    if x159 = (0 : Int32) then
      some ((0 : Int32), zl, zo, zn)
    else
      if zj = (0 : Int32) then
        (f_onCurve za zb zp zi zf).bind fun r160 =>
        if r160 = (0 : Int32) then
          some ((0 : Int32), zl, zo, zn)
        else
          f_verify_43 zu zt zs zr zd za zb ze zk zp zc zi zf zj zq zl zo zn v1
      else
        f_verify_43 zu zt zs zr zd za zb ze zk zp zc zi zf zj zq zl zo zn v1
def f_loadInfinity (zm zg : List Int64) (zh : List Int32) (v1 : Int32) : Option (Int32 × List Int64 × List Int64 × List Int32) :=
  (f_validRegister v1).bind fun r177 =>
  if r177 = (0 : Int32) then
    some ((0 : Int32), zm, zg, zh)
  else
    (f_setRegister zm zg zh v1 (0 : Int64) (0 : Int64) (1 : Int32)).bind fun (s178, s179, s180) =>
    some ((1 : Int32), s178, s179, s180)
def f_inField (za v1 : Int64) : Option (Int32) :=
  some (if v1 < (0 : Int64) then (0 : Int32) else (if (za - (1 : Int64)) < v1 then (0 : Int32) else (1 : Int32)))
def f_setSig (za zi zf : Int64) (zj : Int32) (zq : Int64) (v1 v2 : Int32) (v3 : Int64) : Option (Int32 × Int64 × Int64 × Int32 × Int64) :=
  if v3 < (0 : Int64) then
    some ((0 : Int32), zi, zf, zj, zq)
  else
    if v3 < (281474976710656 : Int64) then
      if v1 = (-1 : Int32) then
        (f_storeSig zi zf zj zq (0 : Int64) (0 : Int64) (1 : Int32) v3).bind fun (s187, s188, s189, s190) =>
        some ((1 : Int32), s187, s188, s189, s190)
      else
        (f_inField za v1.toInt64).bind fun r181 =>
        if r181 = (0 : Int32) then
          some ((0 : Int32), zi, zf, zj, zq)
        else
          (f_inField za v2.toInt64).bind fun r182 =>
          if r182 = (0 : Int32) then
            some ((0 : Int32), zi, zf, zj, zq)
          else
            (f_storeSig zi zf zj zq v1.toInt64 v2.toInt64 (0 : Int32) v3).bind fun (s183, s184, s185, s186) =>
            some ((1 : Int32), s183, s184, s185, s186)
    else
      some ((0 : Int32), zi, zf, zj, zq)
def f_load (za zb zp : Int64) (zm zg : List Int64) (zh : List Int32) (v1 v2 v3 : Int32) : Option (Int32 × List Int64 × List Int64 × List Int32) :=
  (f_validRegister v1).bind fun r191 =>
  if r191 = (0 : Int32) then
    some ((0 : Int32), zm, zg, zh)
  else
    (f_inField za v2.toInt64).bind fun r192 =>
    if r192 = (0 : Int32) then
      some ((0 : Int32), zm, zg, zh)
    else
      (f_inField za v3.toInt64).bind fun r193 =>
      if r193 = (0 : Int32) then
        some ((0 : Int32), zm, zg, zh)
      else
        (f_onCurve za zb zp v2.toInt64 v3.toInt64).bind fun r194 =>
        if r194 = (0 : Int32) then
          some ((0 : Int32), zm, zg, zh)
        else
          (f_setRegister zm zg zh v1 v2.toInt64 v3.toInt64 (0 : Int32)).bind fun (s195, s196, s197) =>
          some ((1 : Int32), s195, s196, s197)
def f_L_law_703 (kb : List Int64 → List Int64 → List Int32 → List Int64 → List Int32 → List Int64 → List Int64 → List Int32 → List Int32 → Int64 → Int64 → Int64 → Int64 → Int64 → Int32 → Int64 → Int64 → Int32 → Int64 → Int32 → Int32 → Int64 → Int64 → Int32 → Int32 → Int32 → Option (Int32)) (scr : List Int32) (zao zap : List Int64) (zaq : List Int32) (zag : List Int64) (zac : List Int32) (zad zae : List Int64) (zaf zah : List Int32) (zx zy zz zaa zab : Int64) (zai : Int32) (zak zal : Int64) (zam : Int32) (zan : Int64) (zaj zar : Int32) (zas zat : Int64) (v2 v3 v4 v7 v8 t0 : Int32) : Option (Int32) :=
  (f_setSig zx zak zal zam zan t0 v7 (v8 &&& (2147483647 : Int32)).toInt64).bind fun (r356, s357, s358, s359, s360) =>
  kb zao zap zaq zag zac zad zae zaf zah zx zy zz zaa zab zai s357 s358 s359 s360 zaj zar zas zat v2 (v3 + (1 : Int32)) (v4 + (5 : Int32))
def f_L_law_635 (kb : List Int64 → List Int64 → List Int32 → List Int64 → List Int32 → List Int64 → List Int64 → List Int32 → List Int32 → Int64 → Int64 → Int64 → Int64 → Int64 → Int32 → Int64 → Int64 → Int32 → Int64 → Int32 → Int32 → Int64 → Int64 → Int32 → Int32 → Int32 → Option (Int32)) (scr : List Int32) (zao zap : List Int64) (zaq : List Int32) (zag : List Int64) (zac : List Int32) (zad zae : List Int64) (zaf zah : List Int32) (zx zy zz zaa zab : Int64) (zai : Int32) (zak zal : Int64) (zam : Int32) (zan : Int64) (zaj zar : Int32) (zas zat : Int64) (v2 v3 v4 v12 t0 : Int32) : Option (Int32) :=
  (f_sign zag zac zad zae zaf zah zx zy zz zaa zai zak zal zam zan zaj zar zas zat v12 t0).bind fun (r343, s344, s345, s346, s347, s348, s349, s350, s351) =>
  if r343 = (0 : Int32) then
    kb zao zap zaq zag zac zad zae zaf zah zx zy zz zaa zab zai s344 s345 s346 s347 s348 s349 s350 s351 v2 (v3 + (1 : Int32)) (v4 + (5 : Int32))
  else
    (f_verify zac zad zae zaf zah zx zy zz zaa zab zai s344 s345 s346 s347 s349 s350 s351 v12).bind fun (r352, s353, s354, s355) =>
    if r352 = (0 : Int32) then
      some (0 : Int32)
    else
      kb zao zap zaq zag zac zad zae zaf zah zx zy zz zaa zab zai s344 s345 s346 s347 s348 s353 s354 s355 v2 (v3 + (1 : Int32)) (v4 + (5 : Int32))
def f_L_law_265 (kb : List Int64 → List Int64 → List Int32 → List Int64 → List Int32 → List Int64 → List Int64 → List Int32 → List Int32 → Int64 → Int64 → Int64 → Int64 → Int64 → Int32 → Int64 → Int64 → Int32 → Int64 → Int32 → Int32 → Int64 → Int64 → Int32 → Int32 → Int32 → Option (Int32)) (scr : List Int32) (zao zap : List Int64) (zaq : List Int32) (zag : List Int64) (zac : List Int32) (zad zae : List Int64) (zaf zah : List Int32) (zx zy zz zaa zab : Int64) (zai : Int32) (zak zal : Int64) (zam : Int32) (zan : Int64) (zaj zar : Int32) (zas zat : Int64) (v2 v3 v4 v12 v13 v14 v15 v16 : Int32) (v17 : Int64) (t0 t1 t2 : Int32) : Option (Int32) :=
  (f_L_scalar t2 t1 t0).bind fun r297 =>
  (f_mul zx zy zao zap zaq zar zas zat v13 v12 v17).bind fun (r298, s299, s300, s301, s302, s303, s304) =>
  if r298 = (0 : Int32) then
    some (0 : Int32)
  else
    (f_mul zx zy s299 s300 s301 s302 s303 s304 v14 v12 r297).bind fun (r305, s306, s307, s308, s309, s310, s311) =>
    if r305 = (0 : Int32) then
      some (0 : Int32)
    else
      (f_add zx zy s306 s307 s308 s309 s310 s311 v15 v13 v14).bind fun (r312, s313, s314, s315, s316, s317, s318) =>
      if r312 = (0 : Int32) then
        some (0 : Int32)
      else
        (f_mul zx zy s313 s314 s315 s316 s317 s318 v16 v12 (v17 + r297)).bind fun (r319, s320, s321, s322, s323, s324, s325) =>
        if r319 = (0 : Int32) then
          some (0 : Int32)
        else
          (f_L_same s320 s321 s322 v15 v16).bind fun r326 =>
          if r326 = (0 : Int32) then
            some (0 : Int32)
          else
            (f_mul zx zy s320 s321 s322 s323 s324 s325 v13 v12 (1 : Int64)).bind fun (r327, s328, s329, s330, s331, s332, s333) =>
            if r327 = (0 : Int32) then
              some (0 : Int32)
            else
              (f_L_same s328 s329 s330 v13 v12).bind fun r334 =>
              if r334 = (0 : Int32) then
                some (0 : Int32)
              else
                (f_mul zx zy s328 s329 s330 s331 s332 s333 v14 v12 (0 : Int64)).bind fun (r335, s336, s337, s338, s339, s340, s341) =>
                if r335 = (0 : Int32) then
                  some (0 : Int32)
                else
                  (f_coord s336 s337 s338 v14 (2 : Int32)).bind fun r342 =>
                  if r342 = (1 : Int32) then
                    kb s336 s337 s338 zag zac zad zae zaf zah zx zy zz zaa zab zai zak zal zam zan zaj s339 s340 s341 v2 (v3 + (1 : Int32)) (v4 + (5 : Int32))
                  else
                    some (0 : Int32)
def f_L_law_242 (kb : List Int64 → List Int64 → List Int32 → List Int64 → List Int32 → List Int64 → List Int64 → List Int32 → List Int32 → Int64 → Int64 → Int64 → Int64 → Int64 → Int32 → Int64 → Int64 → Int32 → Int64 → Int32 → Int32 → Int64 → Int64 → Int32 → Int32 → Int32 → Option (Int32)) (scr : List Int32) (zao zap : List Int64) (zaq : List Int32) (zag : List Int64) (zac : List Int32) (zad zae : List Int64) (zaf zah : List Int32) (zx zy zz zaa zab : Int64) (zai : Int32) (zak zal : Int64) (zam : Int32) (zan : Int64) (zaj zar : Int32) (zas zat : Int64) (v2 v3 v4 v8 v9 v12 v13 v14 v15 v16 t0 t1 t2 : Int32) : Option (Int32) :=
  (f_L_scalar t2 t1 t0).bind fun r296 =>
  f_L_law_265 kb scr zao zap zaq zag zac zad zae zaf zah zx zy zz zaa zab zai zak zal zam zan zaj zar zas zat v2 v3 v4 v12 v13 v14 v15 v16 r296 (if (v9 &&& (2 : Int32)) = (0 : Int32) then (1 : Int32) else (0 : Int32)) (XT.ushr v9 (2 : Int32)) v8
def f_L_law_144 (kb : List Int64 → List Int64 → List Int32 → List Int64 → List Int32 → List Int64 → List Int64 → List Int32 → List Int32 → Int64 → Int64 → Int64 → Int64 → Int64 → Int32 → Int64 → Int64 → Int32 → Int64 → Int32 → Int32 → Int64 → Int64 → Int32 → Int32 → Int32 → Option (Int32)) (scr : List Int32) (zao zap : List Int64) (zaq : List Int32) (zag : List Int64) (zac : List Int32) (zad zae : List Int64) (zaf zah : List Int32) (zx zy zz zaa zab : Int64) (zai : Int32) (zak zal : Int64) (zam : Int32) (zan : Int64) (zaj zar : Int32) (zas zat : Int64) (v2 v3 v4 t0 t1 t2 t3 t4 : Int32) : Option (Int32) :=
  (f_L_scalar t2 t1 t0).bind fun r288 =>
  (f_mul zx zy zao zap zaq zar zas zat t4 t3 r288).bind fun (r289, s290, s291, s292, s293, s294, s295) =>
  kb s290 s291 s292 zag zac zad zae zaf zah zx zy zz zaa zab zai zak zal zam zan zaj s293 s294 s295 v2 (v3 + (1 : Int32)) (v4 + (5 : Int32))
def f_L_law_38 (scr : List Int32) : Nat → List Int64 → List Int64 → List Int32 → List Int64 → List Int32 → List Int64 → List Int64 → List Int32 → List Int32 → Int64 → Int64 → Int64 → Int64 → Int64 → Int32 → Int64 → Int64 → Int32 → Int64 → Int32 → Int32 → Int64 → Int64 → Int32 → Int32 → Int32 → Option (Int32)
  | 0, _, _, _, _, _, _, _, _, _, _, _, _, _, _, _, _, _, _, _, _, _, _, _, _, _, _ => none
  | n + 1, zao, zap, zaq, zag, zac, zad, zae, zaf, zah, zx, zy, zz, zaa, zab, zai, zak, zal, zam, zan, zaj, zar, zas, zat, v2, v3, v4 =>
    if v4 < scr.length.toInt32 then
      if v3 < (64 : Int32) then
        (f_L_cell scr v4).bind fun r225 =>
        (f_L_cell scr (v4 + (1 : Int32))).bind fun r226 =>
        (f_L_cell scr (v4 + (2 : Int32))).bind fun r227 =>
        (f_L_cell scr (v4 + (3 : Int32))).bind fun r228 =>
        (f_L_cell scr (v4 + (4 : Int32))).bind fun r229 =>
        if (r225 &&& (7 : Int32)) = (0 : Int32) then
          f_L_law_144 (f_L_law_38 scr n) scr zao zap zaq zag zac zad zae zaf zah zx zy zz zaa zab zai zak zal zam zan zaj zar zas zat v2 v3 v4 (if (r229 &&& (1 : Int32)) = (0 : Int32) then (1 : Int32) else (0 : Int32)) r228 r227 (r226 &&& (7 : Int32)) ((XT.ushr r225 (3 : Int32)) &&& (7 : Int32))
        else
          if (r225 &&& (7 : Int32)) = (1 : Int32) then
            (f_add zx zy zao zap zaq zar zas zat ((XT.ushr r225 (3 : Int32)) &&& (7 : Int32)) (r226 &&& (7 : Int32)) (r227 &&& (7 : Int32))).bind fun (r281, s282, s283, s284, s285, s286, s287) =>
            f_L_law_38 scr n s282 s283 s284 zag zac zad zae zaf zah zx zy zz zaa zab zai zak zal zam zan zaj s285 s286 s287 v2 (v3 + (1 : Int32)) (v4 + (5 : Int32))
          else
            if (r225 &&& (7 : Int32)) = (2 : Int32) then
              f_L_law_242 (f_L_law_38 scr n) scr zao zap zaq zag zac zad zae zaf zah zx zy zz zaa zab zai zak zal zam zan zaj zar zas zat v2 v3 v4 r228 r229 ((XT.ushr r225 (3 : Int32)) &&& (7 : Int32)) ((((XT.ushr r225 (3 : Int32)) &&& (7 : Int32)) + (1 : Int32)) &&& (7 : Int32)) ((((XT.ushr r225 (3 : Int32)) &&& (7 : Int32)) + (2 : Int32)) &&& (7 : Int32)) ((((XT.ushr r225 (3 : Int32)) &&& (7 : Int32)) + (3 : Int32)) &&& (7 : Int32)) ((((XT.ushr r225 (3 : Int32)) &&& (7 : Int32)) + (4 : Int32)) &&& (7 : Int32)) (if (r229 &&& (1 : Int32)) = (0 : Int32) then (1 : Int32) else (0 : Int32)) r227 r226
            else
              if (r225 &&& (7 : Int32)) = (3 : Int32) then
                (f_genKey zx zy zz zaa zag zac zad zae zaf zar zas zat (((XT.ushr r225 (3 : Int32)) &&& (7 : Int32)) &&& (3 : Int32)) ((r226 &&& (1073741823 : Int32)) + (1 : Int32))).bind fun (r272, s273, s274, s275, s276, s277, s278, s279, s280) =>
                f_L_law_38 scr n zao zap zaq s273 s274 s275 s276 s277 zah zx zy zz zaa zab zai zak zal zam zan zaj s278 s279 s280 (if r272 = (0 : Int32) then v2 else (v2 ||| ((1 : Int32) <<< ((((XT.ushr r225 (3 : Int32)) &&& (7 : Int32)) &&& (3 : Int32)) &&& 31)))) (v3 + (1 : Int32)) (v4 + (5 : Int32))
              else
                if (r225 &&& (7 : Int32)) = (4 : Int32) then
                  if (v2 &&& ((1 : Int32) <<< ((((XT.ushr r225 (3 : Int32)) &&& (7 : Int32)) &&& (3 : Int32)) &&& 31))) = (0 : Int32) then
                    f_L_law_38 scr n zao zap zaq zag zac zad zae zaf zah zx zy zz zaa zab zai zak zal zam zan zaj zar zas zat v2 (v3 + (1 : Int32)) (v4 + (5 : Int32))
                  else
                    if (v2 &&& ((1 : Int32) <<< ((r226 &&& (3 : Int32)) &&& 31))) = (0 : Int32) then
                      f_L_law_38 scr n zao zap zaq zag zac zad zae zaf zah zx zy zz zaa zab zai zak zal zam zan zaj zar zas zat v2 (v3 + (1 : Int32)) (v4 + (5 : Int32))
                    else
                      (f_shared zag zac zad zae zaf zx zy zao zap zaq zar zas zat (r227 &&& (7 : Int32)) (((XT.ushr r225 (3 : Int32)) &&& (7 : Int32)) &&& (3 : Int32)) (r226 &&& (3 : Int32))).bind fun (r257, s258, s259, s260, s261, s262, s263) =>
                      if r257 = (0 : Int32) then
                        some (0 : Int32)
                      else
                        (f_shared zag zac zad zae zaf zx zy s258 s259 s260 s261 s262 s263 ((((r227 &&& (7 : Int32)) + (1 : Int32)) + ((r228 &&& (255 : Int32)) % (7 : Int32))) &&& (7 : Int32)) (r226 &&& (3 : Int32)) (((XT.ushr r225 (3 : Int32)) &&& (7 : Int32)) &&& (3 : Int32))).bind fun (r264, s265, s266, s267, s268, s269, s270) =>
                        if r264 = (0 : Int32) then
                          some (0 : Int32)
                        else
                          (f_L_same s265 s266 s267 (r227 &&& (7 : Int32)) ((((r227 &&& (7 : Int32)) + (1 : Int32)) + ((r228 &&& (255 : Int32)) % (7 : Int32))) &&& (7 : Int32))).bind fun r271 =>
                          if r271 = (0 : Int32) then
                            some (0 : Int32)
                          else
                            f_L_law_38 scr n s265 s266 s267 zag zac zad zae zaf zah zx zy zz zaa zab zai zak zal zam zan zaj s268 s269 s270 v2 (v3 + (1 : Int32)) (v4 + (5 : Int32))
                else
                  if (r225 &&& (7 : Int32)) = (5 : Int32) then
                    (f_feed zah zai r226).bind fun (r244, s245, s246) =>
                    (f_feed s245 s246 r227).bind fun (r247, s248, s249) =>
                    (f_feed s248 s249 r228).bind fun (r250, s251, s252) =>
                    (f_feed s251 s252 r229).bind fun (r253, s254, s255) =>
                    if (((XT.ushr r225 (3 : Int32)) &&& (7 : Int32)) &&& (7 : Int32)) = (0 : Int32) then
                      (f_clearMessage s255).bind fun s256 =>
                      f_L_law_38 scr n zao zap zaq zag zac zad zae zaf s254 zx zy zz zaa zab s256 zak zal zam zan zaj zar zas zat v2 (v3 + (1 : Int32)) (v4 + (5 : Int32))
                    else
                      f_L_law_38 scr n zao zap zaq zag zac zad zae zaf s254 zx zy zz zaa zab s255 zak zal zam zan zaj zar zas zat v2 (v3 + (1 : Int32)) (v4 + (5 : Int32))
                  else
                    if (r225 &&& (7 : Int32)) = (6 : Int32) then
                      f_L_law_635 (f_L_law_38 scr n) scr zao zap zaq zag zac zad zae zaf zah zx zy zz zaa zab zai zak zal zam zan zaj zar zas zat v2 v3 v4 (((XT.ushr r225 (3 : Int32)) &&& (7 : Int32)) &&& (3 : Int32)) (if (r227 &&& (1 : Int32)) = (0 : Int32) then ((r226 &&& (15 : Int32)) + (1 : Int32)) else ((r226 &&& (16777215 : Int32)) + (1 : Int32)))
                    else
                      if (r229 &&& (3 : Int32)) = (0 : Int32) then
                        (f_loadInfinity zao zap zaq ((XT.ushr r225 (3 : Int32)) &&& (7 : Int32))).bind fun (r240, s241, s242, s243) =>
                        f_L_law_38 scr n s241 s242 s243 zag zac zad zae zaf zah zx zy zz zaa zab zai zak zal zam zan zaj zar zas zat v2 (v3 + (1 : Int32)) (v4 + (5 : Int32))
                      else
                        if (r229 &&& (3 : Int32)) = (1 : Int32) then
                          f_L_law_703 (f_L_law_38 scr n) scr zao zap zaq zag zac zad zae zaf zah zx zy zz zaa zab zai zak zal zam zan zaj zar zas zat v2 v3 v4 r227 r228 (if (r229 &&& (4 : Int32)) = (0 : Int32) then r226 else (-1 : Int32))
                        else
                          if (r229 &&& (3 : Int32)) = (2 : Int32) then
                            (f_coord zao zap zaq (r226 &&& (7 : Int32)) (0 : Int32)).bind fun r234 =>
                            (f_coord zao zap zaq (r226 &&& (7 : Int32)) (1 : Int32)).bind fun r235 =>
                            (f_load zx zy zab zao zap zaq ((XT.ushr r225 (3 : Int32)) &&& (7 : Int32)) r234 r235).bind fun (r236, s237, s238, s239) =>
                            f_L_law_38 scr n s237 s238 s239 zag zac zad zae zaf zah zx zy zz zaa zab zai zak zal zam zan zaj zar zas zat v2 (v3 + (1 : Int32)) (v4 + (5 : Int32))
                          else
                            (f_load zx zy zab zao zap zaq ((XT.ushr r225 (3 : Int32)) &&& (7 : Int32)) r226 r227).bind fun (r230, s231, s232, s233) =>
                            f_L_law_38 scr n s231 s232 s233 zag zac zad zae zaf zah zx zy zz zaa zab zai zak zal zam zan zaj zar zas zat v2 (v3 + (1 : Int32)) (v4 + (5 : Int32))
      else
        some (1 : Int32)
    else
      some (1 : Int32)
def f_L_law (scr : List Int32) : Option (Int32) :=
  (f_L_cell scr (0 : Int32)).bind fun r198 =>
  (f_L_cell scr (1 : Int32)).bind fun r199 =>
  (f_L_cell scr (2 : Int32)).bind fun r200 =>
  (f_L_cell scr (3 : Int32)).bind fun r201 =>
  (f_init (r198 &&& (7 : Int32)) r199 r200 r201).bind fun (s202, s203, s204, s205, s206, s207, s208, s209, s210, s211, s212, s213, s214, s215, s216, s217, s218, s219, s220, s221, s222, s223, s224) =>
  f_L_law_38 scr 100000 s202 s203 s204 s205 s206 s207 s208 s209 s210 s211 s212 s213 s214 s215 s216 s217 s218 s219 s220 s221 s222 s223 s224 (0 : Int32) (0 : Int32) (4 : Int32)
set_option maxHeartbeats 4000000
set_option maxRecDepth 10000
abbrev qi (x : Int32) : Slot := .val (.int x)
abbrev ql (x : Int64) : Slot := .val (.long x)
abbrev qr (x : Nat) : Slot := .val (.ref x)
abbrev qu : Slot := .unset
abbrev qw : Slot := .second
abbrev qa (l : List Int32) : ACell := .inr (.inl (false, l))
theorem ok_L_cell {scr : List Int32} {po : List ACell} {v1 res : Int32} (h : f_L_cell scr v1 = some res) : OEnds own_P 1 0 [qr 0, qi v1] [] (qa scr :: po) (some (.int res), (qa scr :: po), 0, 0) := by
  unfold f_L_cell at h
  refine OEnds.adv hm_1 3 (pc' := 3) (L' := [qr 0, qi v1]) (S' := [.int scr.length.toInt32, .int v1]) (H' := (qa scr :: po)) rfl ?_
  by_cases hc1 : v1 < scr.length.toInt32
  · simp only [if_pos hc1] at h
    refine OEnds.icmpF hm_1 rfl ((tlt hc1).2.1) ?_
    refine OEnds.adv hm_1 2 (pc' := 8) (L' := [qr 0, qi v1]) (S' := [.int v1, .ref 0]) (H' := (qa scr :: po)) rfl ?_
    obtain ⟨x1, hx1, h⟩ := bnd h
    refine OEnds.plain hm_1 rfl rfl (x_iaload rfl hx1) ?_
    refine OEnds.adv hm_1 1 (pc' := 13) (L' := [qr 0, qi v1]) (S' := [.int x1]) (H' := (qa scr :: po)) rfl ?_
    cases h
    exact OEnds.iret hm_1 rfl rfl
  · simp only [if_neg hc1] at h
    refine OEnds.icmpT hm_1 rfl (q := 12) rfl ((flt hc1).2.1) ?_
    refine OEnds.adv hm_1 1 (pc' := 13) (L' := [qr 0, qi v1]) (S' := [.int 0]) (H' := (qa scr :: po)) rfl ?_
    cases h
    exact OEnds.iret hm_1 rfl rfl
theorem ok_primeAt {zm zg : List Int64} {zh : List Int32} {zv : List Int64} {zu : List Int32} {zt zs : List Int64} {zr zd : List Int32} {za zb ze zk zp : Int64} {zc : Int32} {zi zf : Int64} {zj : Int32} {zq : Int64} {zw zl : Int32} {zo zn : Int64} {c0 : ACell} {po : List ACell} {v1 : Int32} {res : Int64} (h : f_primeAt v1 = some res) : OEnds own_P 3 0 [qr 1, qi v1] [] (c0 :: bk0 zm zg zh zv zu zt zs zr zd za zb ze zk zp zc zi zf zj zq zw zl zo zn po) (some (.long res), (c0 :: bk0 zm zg zh zv zu zt zs zr zd za zb ze zk zp zc zi zf zj zq zw zl zo zn po), 0, 0) := by
  unfold f_primeAt at h
  refine OEnds.adv hm_3 1 (pc' := 1) (L' := [qr 1, qi v1]) (S' := [.int v1]) (H' := (c0 :: bk0 zm zg zh zv zu zt zs zr zd za zb ze zk zp zc zi zf zj zq zw zl zo zn po)) rfl ?_
  by_cases hc2 : v1 = (0 : Int32)
  · simp only [if_pos hc2] at h
    refine OEnds.ifF hm_3 rfl ((teq hc2).2) ?_
    refine OEnds.adv hm_3 1 (pc' := 7) (L' := [qr 1, qi v1]) (S' := [.long 8191]) (H' := (c0 :: bk0 zm zg zh zv zu zt zs zr zd za zb ze zk zp zc zi zf zj zq zw zl zo zn po)) rfl ?_
    cases h
    exact OEnds.lret hm_3 rfl rfl
  · simp only [if_neg hc2] at h
    refine OEnds.ifT hm_3 rfl (q := 8) rfl ((feq hc2).2) ?_
    refine OEnds.adv hm_3 2 (pc' := 10) (L' := [qr 1, qi v1]) (S' := [.int 1, .int v1]) (H' := (c0 :: bk0 zm zg zh zv zu zt zs zr zd za zb ze zk zp zc zi zf zj zq zw zl zo zn po)) rfl ?_
    by_cases hc3 : v1 = (1 : Int32)
    · simp only [if_pos hc3] at h
      refine OEnds.icmpF hm_3 rfl ((teq hc3).2) ?_
      refine OEnds.adv hm_3 1 (pc' := 16) (L' := [qr 1, qi v1]) (S' := [.long 65521]) (H' := (c0 :: bk0 zm zg zh zv zu zt zs zr zd za zb ze zk zp zc zi zf zj zq zw zl zo zn po)) rfl ?_
      cases h
      exact OEnds.lret hm_3 rfl rfl
    · simp only [if_neg hc3] at h
      refine OEnds.icmpT hm_3 rfl (q := 17) rfl ((feq hc3).2) ?_
      refine OEnds.adv hm_3 2 (pc' := 19) (L' := [qr 1, qi v1]) (S' := [.int 2, .int v1]) (H' := (c0 :: bk0 zm zg zh zv zu zt zs zr zd za zb ze zk zp zc zi zf zj zq zw zl zo zn po)) rfl ?_
      by_cases hc4 : v1 = (2 : Int32)
      · simp only [if_pos hc4] at h
        refine OEnds.icmpF hm_3 rfl ((teq hc4).2) ?_
        refine OEnds.adv hm_3 1 (pc' := 25) (L' := [qr 1, qi v1]) (S' := [.long 65537]) (H' := (c0 :: bk0 zm zg zh zv zu zt zs zr zd za zb ze zk zp zc zi zf zj zq zw zl zo zn po)) rfl ?_
        cases h
        exact OEnds.lret hm_3 rfl rfl
      · simp only [if_neg hc4] at h
        refine OEnds.icmpT hm_3 rfl (q := 26) rfl ((feq hc4).2) ?_
        refine OEnds.adv hm_3 2 (pc' := 28) (L' := [qr 1, qi v1]) (S' := [.int 3, .int v1]) (H' := (c0 :: bk0 zm zg zh zv zu zt zs zr zd za zb ze zk zp zc zi zf zj zq zw zl zo zn po)) rfl ?_
        by_cases hc5 : v1 = (3 : Int32)
        · simp only [if_pos hc5] at h
          refine OEnds.icmpF hm_3 rfl ((teq hc5).2) ?_
          refine OEnds.adv hm_3 1 (pc' := 34) (L' := [qr 1, qi v1]) (S' := [.long 131071]) (H' := (c0 :: bk0 zm zg zh zv zu zt zs zr zd za zb ze zk zp zc zi zf zj zq zw zl zo zn po)) rfl ?_
          cases h
          exact OEnds.lret hm_3 rfl rfl
        · simp only [if_neg hc5] at h
          refine OEnds.icmpT hm_3 rfl (q := 35) rfl ((feq hc5).2) ?_
          refine OEnds.adv hm_3 2 (pc' := 37) (L' := [qr 1, qi v1]) (S' := [.int 4, .int v1]) (H' := (c0 :: bk0 zm zg zh zv zu zt zs zr zd za zb ze zk zp zc zi zf zj zq zw zl zo zn po)) rfl ?_
          by_cases hc6 : v1 = (4 : Int32)
          · simp only [if_pos hc6] at h
            refine OEnds.icmpF hm_3 rfl ((teq hc6).2) ?_
            refine OEnds.adv hm_3 1 (pc' := 43) (L' := [qr 1, qi v1]) (S' := [.long 524287]) (H' := (c0 :: bk0 zm zg zh zv zu zt zs zr zd za zb ze zk zp zc zi zf zj zq zw zl zo zn po)) rfl ?_
            cases h
            exact OEnds.lret hm_3 rfl rfl
          · simp only [if_neg hc6] at h
            refine OEnds.icmpT hm_3 rfl (q := 44) rfl ((feq hc6).2) ?_
            refine OEnds.adv hm_3 2 (pc' := 46) (L' := [qr 1, qi v1]) (S' := [.int 5, .int v1]) (H' := (c0 :: bk0 zm zg zh zv zu zt zs zr zd za zb ze zk zp zc zi zf zj zq zw zl zo zn po)) rfl ?_
            by_cases hc7 : v1 = (5 : Int32)
            · simp only [if_pos hc7] at h
              refine OEnds.icmpF hm_3 rfl ((teq hc7).2) ?_
              refine OEnds.adv hm_3 1 (pc' := 52) (L' := [qr 1, qi v1]) (S' := [.long 998244353]) (H' := (c0 :: bk0 zm zg zh zv zu zt zs zr zd za zb ze zk zp zc zi zf zj zq zw zl zo zn po)) rfl ?_
              obtain rfl := Option.some.inj h
              exact OEnds.lret hm_3 rfl rfl
            · simp only [if_neg hc7] at h
              refine OEnds.icmpT hm_3 rfl (q := 53) rfl ((feq hc7).2) ?_
              refine OEnds.adv hm_3 2 (pc' := 56) (L' := [qr 1, qi v1]) (S' := [.int 6, .int v1]) (H' := (c0 :: bk0 zm zg zh zv zu zt zs zr zd za zb ze zk zp zc zi zf zj zq zw zl zo zn po)) rfl ?_
              by_cases hc8 : v1 = (6 : Int32)
              · simp only [if_pos hc8] at h
                refine OEnds.icmpF hm_3 rfl ((teq hc8).2) ?_
                refine OEnds.adv hm_3 1 (pc' := 62) (L' := [qr 1, qi v1]) (S' := [.long 1000000007]) (H' := (c0 :: bk0 zm zg zh zv zu zt zs zr zd za zb ze zk zp zc zi zf zj zq zw zl zo zn po)) rfl ?_
                obtain rfl := Option.some.inj h
                exact OEnds.lret hm_3 rfl rfl
              · simp only [if_neg hc8] at h
                refine OEnds.icmpT hm_3 rfl (q := 63) rfl ((feq hc8).2) ?_
                refine OEnds.adv hm_3 1 (pc' := 66) (L' := [qr 1, qi v1]) (S' := [.long 2147483647]) (H' := (c0 :: bk0 zm zg zh zv zu zt zs zr zd za zb ze zk zp zc zi zf zj zq zw zl zo zn po)) rfl ?_
                obtain rfl := Option.some.inj h
                exact OEnds.lret hm_3 rfl rfl
theorem ok_clampField {zm zg : List Int64} {zh : List Int32} {zv : List Int64} {zu : List Int32} {zt zs : List Int64} {zr zd : List Int32} {za zb ze zk zp : Int64} {zc : Int32} {zi zf : Int64} {zj : Int32} {zq : Int64} {zw zl : Int32} {zo zn : Int64} {c0 : ACell} {po : List ACell} {v1 : Int32} {res : Int64} (h : f_clampField za v1 = some res) : OEnds own_P 4 0 [qr 1, qi v1, qu, qu] [] (c0 :: bk0 zm zg zh zv zu zt zs zr zd za zb ze zk zp zc zi zf zj zq zw zl zo zn po) (some (.long res), (c0 :: bk0 zm zg zh zv zu zt zs zr zd za zb ze zk zp zc zi zf zj zq zw zl zo zn po), 0, 0) := by
  unfold f_clampField at h
  refine OEnds.adv hm_4 6 (pc' := 6) (L' := [qr 1, qi v1, ql v1.toInt64, qw]) (S' := [.int (XT.cmpL v1.toInt64 (0 : Int64))]) (H' := (c0 :: bk0 zm zg zh zv zu zt zs zr zd za zb ze zk zp zc zi zf zj zq zw zl zo zn po)) rfl ?_
  by_cases hc9 : v1.toInt64 < (0 : Int64)
  · simp only [if_pos hc9] at h
    refine OEnds.ifF hm_4 rfl ((tlt (c_lt.mpr hc9)).2.1) ?_
    refine OEnds.adv hm_4 1 (pc' := 10) (L' := [qr 1, qi v1, ql v1.toInt64, qw]) (S' := [.long 0]) (H' := (c0 :: bk0 zm zg zh zv zu zt zs zr zd za zb ze zk zp zc zi zf zj zq zw zl zo zn po)) rfl ?_
    cases h
    exact OEnds.lret hm_4 rfl rfl
  · simp only [if_neg hc9] at h
    refine OEnds.ifT hm_4 rfl (q := 11) rfl ((flt (mt c_lt.mp hc9)).2.1) ?_
    refine OEnds.adv hm_4 6 (pc' := 19) (L' := [qr 1, qi v1, ql v1.toInt64, qw]) (S' := [.int (XT.cmpL v1.toInt64 (za - (1 : Int64)))]) (H' := (c0 :: bk0 zm zg zh zv zu zt zs zr zd za zb ze zk zp zc zi zf zj zq zw zl zo zn po)) rfl ?_
    by_cases hc10 : (za - (1 : Int64)) < v1.toInt64
    · simp only [if_pos hc10] at h
      refine OEnds.ifF hm_4 rfl ((tlt (c_gt.mpr hc10)).2.2.2) ?_
      refine OEnds.adv hm_4 4 (pc' := 28) (L' := [qr 1, qi v1, ql v1.toInt64, qw]) (S' := [.long (za - (1 : Int64))]) (H' := (c0 :: bk0 zm zg zh zv zu zt zs zr zd za zb ze zk zp zc zi zf zj zq zw zl zo zn po)) rfl ?_
      cases h
      exact OEnds.lret hm_4 rfl rfl
    · simp only [if_neg hc10] at h
      refine OEnds.ifT hm_4 rfl (q := 29) rfl ((flt (mt c_gt.mp hc10)).2.2.2) ?_
      refine OEnds.adv hm_4 1 (pc' := 30) (L' := [qr 1, qi v1, ql v1.toInt64, qw]) (S' := [.long v1.toInt64]) (H' := (c0 :: bk0 zm zg zh zv zu zt zs zr zd za zb ze zk zp zc zi zf zj zq zw zl zo zn po)) rfl ?_
      cases h
      exact OEnds.lret hm_4 rfl rfl
theorem ok_mulMod {zm zg : List Int64} {zh : List Int32} {zv : List Int64} {zu : List Int32} {zt zs : List Int64} {zr zd : List Int32} {za zb ze zk zp : Int64} {zc : Int32} {zi zf : Int64} {zj : Int32} {zq : Int64} {zw zl : Int32} {zo zn : Int64} {c0 : ACell} {po : List ACell} {v1 v3 res : Int64} (h : f_mulMod za v1 v3 = some res) : OEnds own_P 6 0 [qr 1, ql v1, qw, ql v3, qw] [] (c0 :: bk0 zm zg zh zv zu zt zs zr zd za zb ze zk zp zc zi zf zj zq zw zl zo zn po) (some (.long res), (c0 :: bk0 zm zg zh zv zu zt zs zr zd za zb ze zk zp zc zi zf zj zq zw zl zo zn po), 0, 0) := by
  unfold f_mulMod at h
  refine OEnds.adv hm_6 5 (pc' := 7) (L' := [qr 1, ql v1, qw, ql v3, qw]) (S' := [.long za, .long (v1 * v3)]) (H' := (c0 :: bk0 zm zg zh zv zu zt zs zr zd za zb ze zk zp zc zi zf zj zq zw zl zo zn po)) rfl ?_
  by_cases hz11 : za = 0
  · simp only [if_pos hz11] at h
    cases h
  simp only [if_neg hz11] at h
  refine OEnds.plain hm_6 rfl rfl (x_lrem hz11) ?_
  show OEnds own_P 6 8 [qr 1, ql v1, qw, ql v3, qw] [.long ((v1 * v3) % za)] (c0 :: bk0 zm zg zh zv zu zt zs zr zd za zb ze zk zp zc zi zf zj zq zw zl zo zn po) _
  cases h
  exact OEnds.lret hm_6 rfl rfl
theorem ok_subMod {zm zg : List Int64} {zh : List Int32} {zv : List Int64} {zu : List Int32} {zt zs : List Int64} {zr zd : List Int32} {za zb ze zk zp : Int64} {zc : Int32} {zi zf : Int64} {zj : Int32} {zq : Int64} {zw zl : Int32} {zo zn : Int64} {c0 : ACell} {po : List ACell} {v1 v3 res : Int64} (h : f_subMod za v1 v3 = some res) : OEnds own_P 7 0 [qr 1, ql v1, qw, ql v3, qw, qu, qu] [] (c0 :: bk0 zm zg zh zv zu zt zs zr zd za zb ze zk zp zc zi zf zj zq zw zl zo zn po) (some (.long res), (c0 :: bk0 zm zg zh zv zu zt zs zr zd za zb ze zk zp zc zi zf zj zq zw zl zo zn po), 0, 0) := by
  unfold f_subMod at h
  refine OEnds.adv hm_7 7 (pc' := 9) (L' := [qr 1, ql v1, qw, ql v3, qw, ql (v1 - v3), qw]) (S' := [.int (XT.cmpL (v1 - v3) (0 : Int64))]) (H' := (c0 :: bk0 zm zg zh zv zu zt zs zr zd za zb ze zk zp zc zi zf zj zq zw zl zo zn po)) rfl ?_
  by_cases hc12 : (v1 - v3) < (0 : Int64)
  · simp only [if_pos hc12] at h
    refine OEnds.ifF hm_7 rfl ((tlt (c_lt.mpr hc12)).2.1) ?_
    refine OEnds.adv hm_7 6 (pc' := 23) (L' := [qr 1, ql v1, qw, ql v3, qw, ql ((v1 - v3) + za), qw]) (S' := [.long ((v1 - v3) + za)]) (H' := (c0 :: bk0 zm zg zh zv zu zt zs zr zd za zb ze zk zp zc zi zf zj zq zw zl zo zn po)) rfl ?_
    cases h
    exact OEnds.lret hm_7 rfl rfl
  · simp only [if_neg hc12] at h
    refine OEnds.ifT hm_7 rfl (q := 21) rfl ((flt (mt c_lt.mp hc12)).2.1) ?_
    refine OEnds.adv hm_7 1 (pc' := 23) (L' := [qr 1, ql v1, qw, ql v3, qw, ql (v1 - v3), qw]) (S' := [.long (v1 - v3)]) (H' := (c0 :: bk0 zm zg zh zv zu zt zs zr zd za zb ze zk zp zc zi zf zj zq zw zl zo zn po)) rfl ?_
    cases h
    exact OEnds.lret hm_7 rfl rfl
theorem ok_computeB {zm zg : List Int64} {zh : List Int32} {zv : List Int64} {zu : List Int32} {zt zs : List Int64} {zr zd : List Int32} {za zb ze zk zp : Int64} {zc : Int32} {zi zf : Int64} {zj : Int32} {zq : Int64} {zw zl : Int32} {zo zn : Int64} {c0 : ACell} {po : List ACell} {res : Int64} (h : f_computeB za zb ze zk = some res) : OEnds own_P 5 0 [qr 1, qu, qu, qu, qu, qu, qu, qu, qu, qu, qu] [] (c0 :: bk0 zm zg zh zv zu zt zs zr zd za zb ze zk zp zc zi zf zj zq zw zl zo zn po) (some (.long res), (c0 :: bk0 zm zg zh zv zu zt zs zr zd za zb ze zk zp zc zi zf zj zq zw zl zo zn po), 0, 0) := by
  unfold f_computeB at h
  refine OEnds.adv hm_5 5 (pc' := 9) (L' := [qr 1, qu, qu, qu, qu, qu, qu, qu, qu, qu, qu]) (S' := [.long zk, .long zk, .ref 1]) (H' := (c0 :: bk0 zm zg zh zv zu zt zs zr zd za zb ze zk zp zc zi zf zj zq zw zl zo zn po)) rfl ?_
  obtain ⟨r2, hq13, h⟩ := bnd h
  refine OEnds.call0 hm_5 rfl rfl (by decide) rfl (as := [.ref 1, .long zk, .long zk]) (rest := []) rfl rfl (ok_mulMod hq13) ?_
  refine OEnds.adv hm_5 6 (pc' := 22) (L' := [qr 1, ql r2, qw, qu, qu, qu, qu, qu, qu, qu, qu]) (S' := [.long ze, .long ze, .ref 1]) (H' := (c0 :: bk0 zm zg zh zv zu zt zs zr zd za zb ze zk zp zc zi zf zj zq zw zl zo zn po)) rfl ?_
  obtain ⟨r3, hq14, h⟩ := bnd h
  refine OEnds.call0 hm_5 rfl rfl (by decide) rfl (as := [.ref 1, .long ze, .long ze]) (rest := []) rfl rfl (ok_mulMod hq14) ?_
  refine OEnds.adv hm_5 5 (pc' := 32) (L' := [qr 1, ql r2, qw, ql r3, qw, qu, qu, qu, qu, qu, qu]) (S' := [.long ze, .long r3, .ref 1]) (H' := (c0 :: bk0 zm zg zh zv zu zt zs zr zd za zb ze zk zp zc zi zf zj zq zw zl zo zn po)) rfl ?_
  obtain ⟨r4, hq15, h⟩ := bnd h
  refine OEnds.call0 hm_5 rfl rfl (by decide) rfl (as := [.ref 1, .long r3, .long ze]) (rest := []) rfl rfl (ok_mulMod hq15) ?_
  refine OEnds.adv hm_5 6 (pc' := 46) (L' := [qr 1, ql r2, qw, ql r3, qw, ql r4, qw, qu, qu, qu, qu]) (S' := [.long ze, .long zb, .ref 1]) (H' := (c0 :: bk0 zm zg zh zv zu zt zs zr zd za zb ze zk zp zc zi zf zj zq zw zl zo zn po)) rfl ?_
  obtain ⟨r5, hq16, h⟩ := bnd h
  refine OEnds.call0 hm_5 rfl rfl (by decide) rfl (as := [.ref 1, .long zb, .long ze]) (rest := []) rfl rfl (ok_mulMod hq16) ?_
  refine OEnds.adv hm_5 4 (pc' := 55) (L' := [qr 1, ql r2, qw, ql r3, qw, ql r4, qw, ql r5, qw, qu, qu]) (S' := [.long r4, .long r2, .ref 1]) (H' := (c0 :: bk0 zm zg zh zv zu zt zs zr zd za zb ze zk zp zc zi zf zj zq zw zl zo zn po)) rfl ?_
  obtain ⟨r6, hq17, h⟩ := bnd h
  refine OEnds.call0 hm_5 rfl rfl (by decide) rfl (as := [.ref 1, .long r2, .long r4]) (rest := []) rfl rfl (ok_subMod hq17) ?_
  refine OEnds.adv hm_5 4 (pc' := 65) (L' := [qr 1, ql r2, qw, ql r3, qw, ql r4, qw, ql r5, qw, ql r6, qw]) (S' := [.long r5, .long r6, .ref 1]) (H' := (c0 :: bk0 zm zg zh zv zu zt zs zr zd za zb ze zk zp zc zi zf zj zq zw zl zo zn po)) rfl ?_
  obtain ⟨r7, hq18, h⟩ := bnd h
  refine OEnds.call0 hm_5 rfl rfl (by decide) rfl (as := [.ref 1, .long r6, .long r5]) (rest := []) rfl rfl (ok_subMod hq18) ?_
  show OEnds own_P 5 68 [qr 1, ql r2, qw, ql r3, qw, ql r4, qw, ql r5, qw, ql r6, qw] [.long r7] (c0 :: bk0 zm zg zh zv zu zt zs zr zd za zb ze zk zp zc zi zf zj zq zw zl zo zn po) _
  cases h
  exact OEnds.lret hm_5 rfl rfl
theorem ok_addMod {zm zg : List Int64} {zh : List Int32} {zv : List Int64} {zu : List Int32} {zt zs : List Int64} {zr zd : List Int32} {za zb ze zk zp : Int64} {zc : Int32} {zi zf : Int64} {zj : Int32} {zq : Int64} {zw zl : Int32} {zo zn : Int64} {c0 : ACell} {po : List ACell} {v1 v3 res : Int64} (h : f_addMod za v1 v3 = some res) : OEnds own_P 9 0 [qr 1, ql v1, qw, ql v3, qw, qu, qu] [] (c0 :: bk0 zm zg zh zv zu zt zs zr zd za zb ze zk zp zc zi zf zj zq zw zl zo zn po) (some (.long res), (c0 :: bk0 zm zg zh zv zu zt zs zr zd za zb ze zk zp zc zi zf zj zq zw zl zo zn po), 0, 0) := by
  unfold f_addMod at h
  refine OEnds.adv hm_9 8 (pc' := 12) (L' := [qr 1, ql v1, qw, ql v3, qw, ql (v1 + v3), qw]) (S' := [.int (XT.cmpL (v1 + v3) za)]) (H' := (c0 :: bk0 zm zg zh zv zu zt zs zr zd za zb ze zk zp zc zi zf zj zq zw zl zo zn po)) rfl ?_
  by_cases hc19 : (v1 + v3) < za
  · simp only [if_pos hc19] at h
    refine OEnds.ifT hm_9 rfl (q := 24) rfl ((tlt (c_lt.mpr hc19)).1) ?_
    refine OEnds.adv hm_9 1 (pc' := 26) (L' := [qr 1, ql v1, qw, ql v3, qw, ql (v1 + v3), qw]) (S' := [.long (v1 + v3)]) (H' := (c0 :: bk0 zm zg zh zv zu zt zs zr zd za zb ze zk zp zc zi zf zj zq zw zl zo zn po)) rfl ?_
    cases h
    exact OEnds.lret hm_9 rfl rfl
  · simp only [if_neg hc19] at h
    refine OEnds.ifF hm_9 rfl ((flt (mt c_lt.mp hc19)).1) ?_
    refine OEnds.adv hm_9 6 (pc' := 26) (L' := [qr 1, ql v1, qw, ql v3, qw, ql ((v1 + v3) - za), qw]) (S' := [.long ((v1 + v3) - za)]) (H' := (c0 :: bk0 zm zg zh zv zu zt zs zr zd za zb ze zk zp zc zi zf zj zq zw zl zo zn po)) rfl ?_
    cases h
    exact OEnds.lret hm_9 rfl rfl
theorem ok_discriminant {zm zg : List Int64} {zh : List Int32} {zv : List Int64} {zu : List Int32} {zt zs : List Int64} {zr zd : List Int32} {za zb ze zk zp : Int64} {zc : Int32} {zi zf : Int64} {zj : Int32} {zq : Int64} {zw zl : Int32} {zo zn : Int64} {c0 : ACell} {po : List ACell} {res : Int64} (h : f_discriminant za zb zp = some res) : OEnds own_P 8 0 [qr 1, qu, qu, qu, qu, qu, qu, qu, qu, qu, qu] [] (c0 :: bk0 zm zg zh zv zu zt zs zr zd za zb ze zk zp zc zi zf zj zq zw zl zo zn po) (some (.long res), (c0 :: bk0 zm zg zh zv zu zt zs zr zd za zb ze zk zp zc zi zf zj zq zw zl zo zn po), 0, 0) := by
  unfold f_discriminant at h
  refine OEnds.adv hm_8 5 (pc' := 9) (L' := [qr 1, qu, qu, qu, qu, qu, qu, qu, qu, qu, qu]) (S' := [.long zb, .long zb, .ref 1]) (H' := (c0 :: bk0 zm zg zh zv zu zt zs zr zd za zb ze zk zp zc zi zf zj zq zw zl zo zn po)) rfl ?_
  obtain ⟨r8, hq20, h⟩ := bnd h
  refine OEnds.call0 hm_8 rfl rfl (by decide) rfl (as := [.ref 1, .long zb, .long zb]) (rest := []) rfl rfl (ok_mulMod hq20) ?_
  refine OEnds.adv hm_8 5 (pc' := 19) (L' := [qr 1, ql r8, qw, qu, qu, qu, qu, qu, qu, qu, qu]) (S' := [.long zb, .long r8, .ref 1]) (H' := (c0 :: bk0 zm zg zh zv zu zt zs zr zd za zb ze zk zp zc zi zf zj zq zw zl zo zn po)) rfl ?_
  obtain ⟨r9, hq21, h⟩ := bnd h
  refine OEnds.call0 hm_8 rfl rfl (by decide) rfl (as := [.ref 1, .long r8, .long zb]) (rest := []) rfl rfl (ok_mulMod hq21) ?_
  refine OEnds.adv hm_8 4 (pc' := 28) (L' := [qr 1, ql r8, qw, ql r9, qw, qu, qu, qu, qu, qu, qu]) (S' := [.long r9, .long 4, .ref 1]) (H' := (c0 :: bk0 zm zg zh zv zu zt zs zr zd za zb ze zk zp zc zi zf zj zq zw zl zo zn po)) rfl ?_
  obtain ⟨r10, hq22, h⟩ := bnd h
  refine OEnds.call0 hm_8 rfl rfl (by decide) rfl (as := [.ref 1, .long 4, .long r9]) (rest := []) rfl rfl (ok_mulMod hq22) ?_
  refine OEnds.adv hm_8 6 (pc' := 42) (L' := [qr 1, ql r8, qw, ql r9, qw, ql r10, qw, qu, qu, qu, qu]) (S' := [.long zp, .long zp, .ref 1]) (H' := (c0 :: bk0 zm zg zh zv zu zt zs zr zd za zb ze zk zp zc zi zf zj zq zw zl zo zn po)) rfl ?_
  obtain ⟨r11, hq23, h⟩ := bnd h
  refine OEnds.call0 hm_8 rfl rfl (by decide) rfl (as := [.ref 1, .long zp, .long zp]) (rest := []) rfl rfl (ok_mulMod hq23) ?_
  refine OEnds.adv hm_8 4 (pc' := 53) (L' := [qr 1, ql r8, qw, ql r9, qw, ql r10, qw, ql r11, qw, qu, qu]) (S' := [.long r11, .long 27, .ref 1]) (H' := (c0 :: bk0 zm zg zh zv zu zt zs zr zd za zb ze zk zp zc zi zf zj zq zw zl zo zn po)) rfl ?_
  obtain ⟨r12, hq24, h⟩ := bnd h
  refine OEnds.call0 hm_8 rfl rfl (by decide) rfl (as := [.ref 1, .long 27, .long r11]) (rest := []) rfl rfl (ok_mulMod hq24) ?_
  refine OEnds.adv hm_8 4 (pc' := 63) (L' := [qr 1, ql r8, qw, ql r9, qw, ql r10, qw, ql r11, qw, ql r12, qw]) (S' := [.long r12, .long r10, .ref 1]) (H' := (c0 :: bk0 zm zg zh zv zu zt zs zr zd za zb ze zk zp zc zi zf zj zq zw zl zo zn po)) rfl ?_
  obtain ⟨r13, hq25, h⟩ := bnd h
  refine OEnds.call0 hm_8 rfl rfl (by decide) rfl (as := [.ref 1, .long r10, .long r12]) (rest := []) rfl rfl (ok_addMod hq25) ?_
  show OEnds own_P 8 66 [qr 1, ql r8, qw, ql r9, qw, ql r10, qw, ql r11, qw, ql r12, qw] [.long r13] (c0 :: bk0 zm zg zh zv zu zt zs zr zd za zb ze zk zp zc zi zf zj zq zw zl zo zn po) _
  cases h
  exact OEnds.lret hm_8 rfl rfl
theorem ok_setRegister_40 {zv : List Int64} {zu : List Int32} {zt zs : List Int64} {zr zd : List Int32} {za zb ze zk zp : Int64} {zc : Int32} {zi zf : Int64} {zj : Int32} {zq : Int64} {zw zl : Int32} {zo zn : Int64} {c0 : ACell} {po : List ACell} : ∀ {zm zg : List Int64} {zh : List Int32} {t0 : Int64} {t1 : Int32} {d0 d1 d2 d3 d4 d5 d6 : Slot} {w_o_regX w_o_regY : List Int64} {w_o_regInf : List Int32}, f_setRegister_40 zm zg zh t0 t1 = some (w_o_regX, w_o_regY, w_o_regInf) → OEnds own_P 10 40 [d0, d1, d2, d3, d4, d5, d6] [.long t0, .int t1, .ref 3] (c0 :: bk0 zm zg zh zv zu zt zs zr zd za zb ze zk zp zc zi zf zj zq zw zl zo zn po) (none, (c0 :: bk0 w_o_regX w_o_regY w_o_regInf zv zu zt zs zr zd za zb ze zk zp zc zi zf zj zq zw zl zo zn po), 0, 0) := by
  intro zm zg zh t0 t1 d0 d1 d2 d3 d4 d5 d6 w_o_regX w_o_regY w_o_regInf h
  unfold f_setRegister_40 at h
  obtain ⟨A16, hA16, h⟩ := bnd h
  refine OEnds.plain hm_10 rfl rfl (x_lastore rfl (Nat.le_of_ble_eq_true rfl) hA16) ?_
  show OEnds own_P 10 41 [qu, qu, qu, qu, qu, qu, qu] [] (c0 :: bk0 zm A16 zh zv zu zt zs zr zd za zb ze zk zp zc zi zf zj zq zw zl zo zn po) _
  cases h
  exact OEnds.vret hm_10 rfl rfl
theorem ok_setRegister_23 {zv : List Int64} {zu : List Int32} {zt zs : List Int64} {zr zd : List Int32} {za zb ze zk zp : Int64} {zc : Int32} {zi zf : Int64} {zj : Int32} {zq : Int64} {zw zl : Int32} {zo zn : Int64} {c0 : ACell} {po : List ACell} : ∀ {zm zg : List Int64} {zh : List Int32} {v1 : Int32} {v4 : Int64} {v6 : Int32} {t0 : Int64} {t1 : Int32} {d2 d3 : Slot} {w_o_regX w_o_regY : List Int64} {w_o_regInf : List Int32}, f_setRegister_23 zm zg zh v1 v4 v6 t0 t1 = some (w_o_regX, w_o_regY, w_o_regInf) → OEnds own_P 10 23 [qr 1, qi v1, d2, d3, ql v4, qw, qi v6] [.long t0, .int t1, .ref 2] (c0 :: bk0 zm zg zh zv zu zt zs zr zd za zb ze zk zp zc zi zf zj zq zw zl zo zn po) (none, (c0 :: bk0 w_o_regX w_o_regY w_o_regInf zv zu zt zs zr zd za zb ze zk zp zc zi zf zj zq zw zl zo zn po), 0, 0) := by
  intro zm zg zh v1 v4 v6 t0 t1 d2 d3 w_o_regX w_o_regY w_o_regInf h
  unfold f_setRegister_23 at h
  obtain ⟨A15, hA15, h⟩ := bnd h
  refine OEnds.plain hm_10 rfl rfl (x_lastore rfl (Nat.le_of_ble_eq_true rfl) hA15) ?_
  refine OEnds.adv hm_10 4 (pc' := 31) (L' := [qr 1, qi v1, qu, qu, ql v4, qw, qi v6]) (S' := [.int v6, .int v1, .ref 3]) (H' := (c0 :: bk0 A15 zg zh zv zu zt zs zr zd za zb ze zk zp zc zi zf zj zq zw zl zo zn po)) rfl ?_
  by_cases hc26 : v6 = (0 : Int32)
  · simp only [if_pos hc26] at h
    refine OEnds.ifT hm_10 rfl (q := 38) rfl ((teq hc26).1) ?_
    refine OEnds.adv hm_10 1 (pc' := 40) (L' := [qr 1, qi v1, qu, qu, ql v4, qw, qi v6]) (S' := [.long v4, .int v1, .ref 3]) (H' := (c0 :: bk0 A15 zg zh zv zu zt zs zr zd za zb ze zk zp zc zi zf zj zq zw zl zo zn po)) rfl ?_
    exact ok_setRegister_40 h
  · simp only [if_neg hc26] at h
    refine OEnds.ifF hm_10 rfl ((feq hc26).1) ?_
    refine OEnds.adv hm_10 2 (pc' := 40) (L' := [qr 1, qi v1, qu, qu, ql v4, qw, qi v6]) (S' := [.long 0, .int v1, .ref 3]) (H' := (c0 :: bk0 A15 zg zh zv zu zt zs zr zd za zb ze zk zp zc zi zf zj zq zw zl zo zn po)) rfl ?_
    exact ok_setRegister_40 h
theorem ok_setRegister {zv : List Int64} {zu : List Int32} {zt zs : List Int64} {zr zd : List Int32} {za zb ze zk zp : Int64} {zc : Int32} {zi zf : Int64} {zj : Int32} {zq : Int64} {zw zl : Int32} {zo zn : Int64} {c0 : ACell} {po : List ACell} {zm zg : List Int64} {zh : List Int32} {v1 : Int32} {v2 v4 : Int64} {v6 : Int32} {w_o_regX w_o_regY : List Int64} {w_o_regInf : List Int32} (h : f_setRegister zm zg zh v1 v2 v4 v6 = some (w_o_regX, w_o_regY, w_o_regInf)) : OEnds own_P 10 0 [qr 1, qi v1, ql v2, qw, ql v4, qw, qi v6] [] (c0 :: bk0 zm zg zh zv zu zt zs zr zd za zb ze zk zp zc zi zf zj zq zw zl zo zn po) (none, (c0 :: bk0 w_o_regX w_o_regY w_o_regInf zv zu zt zs zr zd za zb ze zk zp zc zi zf zj zq zw zl zo zn po), 0, 0) := by
  unfold f_setRegister at h
  refine OEnds.adv hm_10 4 (pc' := 7) (L' := [qr 1, qi v1, ql v2, qw, ql v4, qw, qi v6]) (S' := [.int v6, .int v1, .ref 4]) (H' := (c0 :: bk0 zm zg zh zv zu zt zs zr zd za zb ze zk zp zc zi zf zj zq zw zl zo zn po)) rfl ?_
  obtain ⟨A14, hA14, h⟩ := bnd h
  refine OEnds.plain hm_10 rfl rfl (x_bastore rfl (Nat.le_of_ble_eq_true rfl) hA14) ?_
  refine OEnds.adv hm_10 4 (pc' := 15) (L' := [qr 1, qi v1, ql v2, qw, ql v4, qw, qi v6]) (S' := [.int v6, .int v1, .ref 2]) (H' := (c0 :: bk0 zm zg A14 zv zu zt zs zr zd za zb ze zk zp zc zi zf zj zq zw zl zo zn po)) rfl ?_
  by_cases hc27 : v6 = (0 : Int32)
  · simp only [if_pos hc27] at h
    refine OEnds.ifT hm_10 rfl (q := 22) rfl ((teq hc27).1) ?_
    refine OEnds.adv hm_10 1 (pc' := 23) (L' := [qr 1, qi v1, ql v2, qw, ql v4, qw, qi v6]) (S' := [.long v2, .int v1, .ref 2]) (H' := (c0 :: bk0 zm zg A14 zv zu zt zs zr zd za zb ze zk zp zc zi zf zj zq zw zl zo zn po)) rfl ?_
    exact ok_setRegister_23 h
  · simp only [if_neg hc27] at h
    refine OEnds.ifF hm_10 rfl ((feq hc27).1) ?_
    refine OEnds.adv hm_10 2 (pc' := 23) (L' := [qr 1, qi v1, ql v2, qw, ql v4, qw, qi v6]) (S' := [.long 0, .int v1, .ref 2]) (H' := (c0 :: bk0 zm zg A14 zv zu zt zs zr zd za zb ze zk zp zc zi zf zj zq zw zl zo zn po)) rfl ?_
    exact ok_setRegister_23 h
theorem ok_init_215 {c0 : ACell} : ∀ {zm zg : List Int64} {zh : List Int32} {zv : List Int64} {zu : List Int32} {zt zs : List Int64} {zr zd : List Int32} {za zb ze zk zp : Int64} {zc : Int32} {zi zf : Int64} {zj : Int32} {zq : Int64} {zw zl : Int32} {zo zn : Int64} {d1 d2 d3 d4 d5 d6 : Slot} {w_o_regX w_o_regY : List Int64} {w_o_regInf : List Int32} {w_o_privKey : List Int64} {w_o_hasKey : List Int32} {w_o_pubX w_o_pubY : List Int64} {w_o_pubInf w_o_msg : List Int32} {w_o_p w_o_a w_o_gx w_o_gy w_o_b : Int64} {w_o_msgLen : Int32} {w_o_sigX w_o_sigY : Int64} {w_o_sigInf : Int32} {w_o_sigS : Int64} {w_o_sigE w_o_resInf : Int32} {w_o_resX : Int64} {w_o_resY : Int64}, f_init_215 zm zg zh zv zu zt zs zr zd za zb ze zk zp zc zi zf zj zq zw zl zo zn = some (w_o_regX, w_o_regY, w_o_regInf, w_o_privKey, w_o_hasKey, w_o_pubX, w_o_pubY, w_o_pubInf, w_o_msg, w_o_p, w_o_a, w_o_gx, w_o_gy, w_o_b, w_o_msgLen, w_o_sigX, w_o_sigY, w_o_sigInf, w_o_sigS, w_o_sigE, w_o_resInf, w_o_resX, w_o_resY) → OEnds own_P 2 215 [qr 1, d1, d2, d3, d4, d5, d6] [] (c0 :: bk0 zm zg zh zv zu zt zs zr zd za zb ze zk zp zc zi zf zj zq zw zl zo zn []) (none, (c0 :: bk0 w_o_regX w_o_regY w_o_regInf w_o_privKey w_o_hasKey w_o_pubX w_o_pubY w_o_pubInf w_o_msg w_o_p w_o_a w_o_gx w_o_gy w_o_b w_o_msgLen w_o_sigX w_o_sigY w_o_sigInf w_o_sigS w_o_sigE w_o_resInf w_o_resX w_o_resY []), 0, 0) := by
  intro zm zg zh zv zu zt zs zr zd za zb ze zk zp zc zi zf zj zq zw zl zo zn d1 d2 d3 d4 d5 d6 w_o_regX w_o_regY w_o_regInf w_o_privKey w_o_hasKey w_o_pubX w_o_pubY w_o_pubInf w_o_msg w_o_p w_o_a w_o_gx w_o_gy w_o_b w_o_msgLen w_o_sigX w_o_sigY w_o_sigInf w_o_sigS w_o_sigE w_o_resInf w_o_resX w_o_resY h
  unfold f_init_215 at h
  refine OEnds.adv hm_2 7 (pc' := 226) (L' := [qr 1, qu, qu, qu, qu, qu, qu]) (S' := [.int 0, .long zk, .long ze, .int 0, .ref 1]) (H' := (c0 :: bk0 zm zg zh zv zu zt zs zr zd za zb ze zk zp zc zi zf zj zq zw zl zo zn [])) rfl ?_
  obtain ⟨⟨s27, s28, s29⟩, hq28, h⟩ := bnd h
  refine OEnds.call0 hm_2 rfl rfl (by decide) rfl (as := [.ref 1, .int 0, .long ze, .long zk, .int 0]) (rest := []) rfl rfl (ok_setRegister hq28) ?_
  refine OEnds.adv hm_2 18 (pc' := 259) (L' := [qr 1, qu, qu, qu, qu, qu, qu]) (S' := []) (H' := (c0 :: bk0 s27 s28 s29 zv zu zt zs zr zd za zb ze zk zp 0 0 0 1 0 0 zl zo zn [])) rfl ?_
  cases h
  exact OEnds.vret hm_2 rfl rfl
theorem ok_init_193 {c0 : ACell} {k215 : List Int64 → List Int64 → List Int32 → List Int64 → List Int32 → List Int64 → List Int64 → List Int32 → List Int32 → Int64 → Int64 → Int64 → Int64 → Int64 → Int32 → Int64 → Int64 → Int32 → Int64 → Int32 → Int32 → Int64 → Int64 → Option (List Int64 × List Int64 × List Int32 × List Int64 × List Int32 × List Int64 × List Int64 × List Int32 × List Int32 × Int64 × Int64 × Int64 × Int64 × Int64 × Int32 × Int64 × Int64 × Int32 × Int64 × Int32 × Int32 × Int64 × Int64)} (hk215 : ∀ {zm zg : List Int64} {zh : List Int32} {zv : List Int64} {zu : List Int32} {zt zs : List Int64} {zr zd : List Int32} {za zb ze zk zp : Int64} {zc : Int32} {zi zf : Int64} {zj : Int32} {zq : Int64} {zw zl : Int32} {zo zn : Int64} {d1 d2 d3 d4 d5 d6 : Slot} {w_o_regX w_o_regY : List Int64} {w_o_regInf : List Int32} {w_o_privKey : List Int64} {w_o_hasKey : List Int32} {w_o_pubX w_o_pubY : List Int64} {w_o_pubInf w_o_msg : List Int32} {w_o_p w_o_a w_o_gx w_o_gy w_o_b : Int64} {w_o_msgLen : Int32} {w_o_sigX w_o_sigY : Int64} {w_o_sigInf : Int32} {w_o_sigS : Int64} {w_o_sigE w_o_resInf : Int32} {w_o_resX : Int64} {w_o_resY : Int64}, k215 zm zg zh zv zu zt zs zr zd za zb ze zk zp zc zi zf zj zq zw zl zo zn = some (w_o_regX, w_o_regY, w_o_regInf, w_o_privKey, w_o_hasKey, w_o_pubX, w_o_pubY, w_o_pubInf, w_o_msg, w_o_p, w_o_a, w_o_gx, w_o_gy, w_o_b, w_o_msgLen, w_o_sigX, w_o_sigY, w_o_sigInf, w_o_sigS, w_o_sigE, w_o_resInf, w_o_resX, w_o_resY) → OEnds own_P 2 215 [qr 1, d1, d2, d3, d4, d5, d6] [] (c0 :: bk0 zm zg zh zv zu zt zs zr zd za zb ze zk zp zc zi zf zj zq zw zl zo zn []) (none, (c0 :: bk0 w_o_regX w_o_regY w_o_regInf w_o_privKey w_o_hasKey w_o_pubX w_o_pubY w_o_pubInf w_o_msg w_o_p w_o_a w_o_gx w_o_gy w_o_b w_o_msgLen w_o_sigX w_o_sigY w_o_sigInf w_o_sigS w_o_sigE w_o_resInf w_o_resX w_o_resY []), 0, 0)) : ∀ (n : Nat), ∀ {zm zg : List Int64} {zh : List Int32} {zv : List Int64} {zu : List Int32} {zt zs : List Int64} {zr zd : List Int32} {za zb ze zk zp : Int64} {zc : Int32} {zi zf : Int64} {zj : Int32} {zq : Int64} {zw zl : Int32} {zo zn : Int64} {v6 : Int32} {d1 d2 d3 d4 d5 : Slot} {w_o_regX w_o_regY : List Int64} {w_o_regInf : List Int32} {w_o_privKey : List Int64} {w_o_hasKey : List Int32} {w_o_pubX w_o_pubY : List Int64} {w_o_pubInf w_o_msg : List Int32} {w_o_p w_o_a w_o_gx w_o_gy w_o_b : Int64} {w_o_msgLen : Int32} {w_o_sigX w_o_sigY : Int64} {w_o_sigInf : Int32} {w_o_sigS : Int64} {w_o_sigE w_o_resInf : Int32} {w_o_resX : Int64} {w_o_resY : Int64}, f_init_193 k215 n zm zg zh zv zu zt zs zr zd za zb ze zk zp zc zi zf zj zq zw zl zo zn v6 = some (w_o_regX, w_o_regY, w_o_regInf, w_o_privKey, w_o_hasKey, w_o_pubX, w_o_pubY, w_o_pubInf, w_o_msg, w_o_p, w_o_a, w_o_gx, w_o_gy, w_o_b, w_o_msgLen, w_o_sigX, w_o_sigY, w_o_sigInf, w_o_sigS, w_o_sigE, w_o_resInf, w_o_resX, w_o_resY) → OEnds own_P 2 193 [qr 1, d1, d2, d3, d4, d5, qi v6] [] (c0 :: bk0 zm zg zh zv zu zt zs zr zd za zb ze zk zp zc zi zf zj zq zw zl zo zn []) (none, (c0 :: bk0 w_o_regX w_o_regY w_o_regInf w_o_privKey w_o_hasKey w_o_pubX w_o_pubY w_o_pubInf w_o_msg w_o_p w_o_a w_o_gx w_o_gy w_o_b w_o_msgLen w_o_sigX w_o_sigY w_o_sigInf w_o_sigS w_o_sigE w_o_resInf w_o_resX w_o_resY []), 0, 0) := by
  intro n
  induction n with
  | zero => intro zm zg zh zv zu zt zs zr zd za zb ze zk zp zc zi zf zj zq zw zl zo zn v6 d1 d2 d3 d4 d5 w_o_regX w_o_regY w_o_regInf w_o_privKey w_o_hasKey w_o_pubX w_o_pubY w_o_pubInf w_o_msg w_o_p w_o_a w_o_gx w_o_gy w_o_b w_o_msgLen w_o_sigX w_o_sigY w_o_sigInf w_o_sigS w_o_sigE w_o_resInf w_o_resX w_o_resY h; cases h
  | succ n ih =>
    intro zm zg zh zv zu zt zs zr zd za zb ze zk zp zc zi zf zj zq zw zl zo zn v6 d1 d2 d3 d4 d5 w_o_regX w_o_regY w_o_regInf w_o_privKey w_o_hasKey w_o_pubX w_o_pubY w_o_pubInf w_o_msg w_o_p w_o_a w_o_gx w_o_gy w_o_b w_o_msgLen w_o_sigX w_o_sigY w_o_sigInf w_o_sigS w_o_sigE w_o_resInf w_o_resX w_o_resY h
    unfold f_init_193 at h
    refine OEnds.adv hm_2 2 (pc' := 197) (L' := [qr 1, qu, qu, qu, qu, qu, qi v6]) (S' := [.int 8, .int v6]) (H' := (c0 :: bk0 zm zg zh zv zu zt zs zr zd za zb ze zk zp zc zi zf zj zq zw zl zo zn [])) rfl ?_
    by_cases hc29 : v6 < (8 : Int32)
    · simp only [if_pos hc29] at h
      refine OEnds.icmpF hm_2 rfl ((tlt hc29).2.1) ?_
      refine OEnds.adv hm_2 5 (pc' := 206) (L' := [qr 1, qu, qu, qu, qu, qu, qi v6]) (S' := [.int 1, .long 0, .long 0, .int v6, .ref 1]) (H' := (c0 :: bk0 zm zg zh zv zu zt zs zr zd za zb ze zk zp zc zi zf zj zq zw zl zo zn [])) rfl ?_
      obtain ⟨⟨s24, s25, s26⟩, hq30, h⟩ := bnd h
      refine OEnds.call0 hm_2 rfl rfl (by decide) rfl (as := [.ref 1, .int v6, .long 0, .long 0, .int 1]) (rest := []) rfl rfl (ok_setRegister hq30) ?_
      refine OEnds.adv hm_2 2 (pc' := 193) (L' := [qr 1, qu, qu, qu, qu, qu, qi (v6 + (1 : Int32))]) (S' := []) (H' := (c0 :: bk0 s24 s25 s26 zv zu zt zs zr zd za zb ze zk zp zc zi zf zj zq zw zl zo zn [])) rfl ?_
      exact ih h
    · simp only [if_neg hc29] at h
      refine OEnds.icmpT hm_2 rfl (q := 215) rfl ((flt hc29).2.1) ?_
      show OEnds own_P 2 215 [qr 1, qu, qu, qu, qu, qu, qi v6] [] (c0 :: bk0 zm zg zh zv zu zt zs zr zd za zb ze zk zp zc zi zf zj zq zw zl zo zn []) _
      exact hk215 h
theorem ok_init_142 {c0 : ACell} {k193 : List Int64 → List Int64 → List Int32 → List Int64 → List Int32 → List Int64 → List Int64 → List Int32 → List Int32 → Int64 → Int64 → Int64 → Int64 → Int64 → Int32 → Int64 → Int64 → Int32 → Int64 → Int32 → Int32 → Int64 → Int64 → Int32 → Option (List Int64 × List Int64 × List Int32 × List Int64 × List Int32 × List Int64 × List Int64 × List Int32 × List Int32 × Int64 × Int64 × Int64 × Int64 × Int64 × Int32 × Int64 × Int64 × Int32 × Int64 × Int32 × Int32 × Int64 × Int64)} (hk193 : ∀ {zm zg : List Int64} {zh : List Int32} {zv : List Int64} {zu : List Int32} {zt zs : List Int64} {zr zd : List Int32} {za zb ze zk zp : Int64} {zc : Int32} {zi zf : Int64} {zj : Int32} {zq : Int64} {zw zl : Int32} {zo zn : Int64} {v6 : Int32} {d1 d2 d3 d4 d5 : Slot} {w_o_regX w_o_regY : List Int64} {w_o_regInf : List Int32} {w_o_privKey : List Int64} {w_o_hasKey : List Int32} {w_o_pubX w_o_pubY : List Int64} {w_o_pubInf w_o_msg : List Int32} {w_o_p w_o_a w_o_gx w_o_gy w_o_b : Int64} {w_o_msgLen : Int32} {w_o_sigX w_o_sigY : Int64} {w_o_sigInf : Int32} {w_o_sigS : Int64} {w_o_sigE w_o_resInf : Int32} {w_o_resX : Int64} {w_o_resY : Int64}, k193 zm zg zh zv zu zt zs zr zd za zb ze zk zp zc zi zf zj zq zw zl zo zn v6 = some (w_o_regX, w_o_regY, w_o_regInf, w_o_privKey, w_o_hasKey, w_o_pubX, w_o_pubY, w_o_pubInf, w_o_msg, w_o_p, w_o_a, w_o_gx, w_o_gy, w_o_b, w_o_msgLen, w_o_sigX, w_o_sigY, w_o_sigInf, w_o_sigS, w_o_sigE, w_o_resInf, w_o_resX, w_o_resY) → OEnds own_P 2 193 [qr 1, d1, d2, d3, d4, d5, qi v6] [] (c0 :: bk0 zm zg zh zv zu zt zs zr zd za zb ze zk zp zc zi zf zj zq zw zl zo zn []) (none, (c0 :: bk0 w_o_regX w_o_regY w_o_regInf w_o_privKey w_o_hasKey w_o_pubX w_o_pubY w_o_pubInf w_o_msg w_o_p w_o_a w_o_gx w_o_gy w_o_b w_o_msgLen w_o_sigX w_o_sigY w_o_sigInf w_o_sigS w_o_sigE w_o_resInf w_o_resX w_o_resY []), 0, 0)) : ∀ (n : Nat), ∀ {zm zg : List Int64} {zh : List Int32} {zv : List Int64} {zu : List Int32} {zt zs : List Int64} {zr zd : List Int32} {za zb ze zk zp : Int64} {zc : Int32} {zi zf : Int64} {zj : Int32} {zq : Int64} {zw zl : Int32} {zo zn : Int64} {v6 : Int32} {d1 d2 d3 d4 d5 : Slot} {w_o_regX w_o_regY : List Int64} {w_o_regInf : List Int32} {w_o_privKey : List Int64} {w_o_hasKey : List Int32} {w_o_pubX w_o_pubY : List Int64} {w_o_pubInf w_o_msg : List Int32} {w_o_p w_o_a w_o_gx w_o_gy w_o_b : Int64} {w_o_msgLen : Int32} {w_o_sigX w_o_sigY : Int64} {w_o_sigInf : Int32} {w_o_sigS : Int64} {w_o_sigE w_o_resInf : Int32} {w_o_resX : Int64} {w_o_resY : Int64}, f_init_142 k193 n zm zg zh zv zu zt zs zr zd za zb ze zk zp zc zi zf zj zq zw zl zo zn v6 = some (w_o_regX, w_o_regY, w_o_regInf, w_o_privKey, w_o_hasKey, w_o_pubX, w_o_pubY, w_o_pubInf, w_o_msg, w_o_p, w_o_a, w_o_gx, w_o_gy, w_o_b, w_o_msgLen, w_o_sigX, w_o_sigY, w_o_sigInf, w_o_sigS, w_o_sigE, w_o_resInf, w_o_resX, w_o_resY) → OEnds own_P 2 142 [qr 1, d1, d2, d3, d4, d5, qi v6] [] (c0 :: bk0 zm zg zh zv zu zt zs zr zd za zb ze zk zp zc zi zf zj zq zw zl zo zn []) (none, (c0 :: bk0 w_o_regX w_o_regY w_o_regInf w_o_privKey w_o_hasKey w_o_pubX w_o_pubY w_o_pubInf w_o_msg w_o_p w_o_a w_o_gx w_o_gy w_o_b w_o_msgLen w_o_sigX w_o_sigY w_o_sigInf w_o_sigS w_o_sigE w_o_resInf w_o_resX w_o_resY []), 0, 0) := by
  intro n
  induction n with
  | zero => intro zm zg zh zv zu zt zs zr zd za zb ze zk zp zc zi zf zj zq zw zl zo zn v6 d1 d2 d3 d4 d5 w_o_regX w_o_regY w_o_regInf w_o_privKey w_o_hasKey w_o_pubX w_o_pubY w_o_pubInf w_o_msg w_o_p w_o_a w_o_gx w_o_gy w_o_b w_o_msgLen w_o_sigX w_o_sigY w_o_sigInf w_o_sigS w_o_sigE w_o_resInf w_o_resX w_o_resY h; cases h
  | succ n ih =>
    intro zm zg zh zv zu zt zs zr zd za zb ze zk zp zc zi zf zj zq zw zl zo zn v6 d1 d2 d3 d4 d5 w_o_regX w_o_regY w_o_regInf w_o_privKey w_o_hasKey w_o_pubX w_o_pubY w_o_pubInf w_o_msg w_o_p w_o_a w_o_gx w_o_gy w_o_b w_o_msgLen w_o_sigX w_o_sigY w_o_sigInf w_o_sigS w_o_sigE w_o_resInf w_o_resX w_o_resY h
    unfold f_init_142 at h
    refine OEnds.adv hm_2 2 (pc' := 146) (L' := [qr 1, qu, qu, qu, qu, qu, qi v6]) (S' := [.int 8, .int v6]) (H' := (c0 :: bk0 zm zg zh zv zu zt zs zr zd za zb ze zk zp zc zi zf zj zq zw zl zo zn [])) rfl ?_
    by_cases hc31 : v6 < (8 : Int32)
    · simp only [if_pos hc31] at h
      refine OEnds.icmpF hm_2 rfl ((tlt hc31).2.1) ?_
      refine OEnds.adv hm_2 1 (pc' := 150) (L' := [qr 1, qu, qu, qu, qu, qu, qi v6]) (S' := [.ref 1]) (H' := (c0 :: bk0 zm zg zh zv zu zt zs zr zd za zb ze zk zp zc zi zf zj zq zw zl zo zn [])) rfl ?_
      obtain ⟨r22, hq32, h⟩ := bnd h
      refine OEnds.call0 hm_2 rfl rfl (by decide) rfl (as := [.ref 1]) (rest := []) rfl rfl (ok_discriminant hq32) ?_
      refine OEnds.adv hm_2 2 (pc' := 155) (L' := [qr 1, qu, qu, qu, qu, qu, qi v6]) (S' := [.int (XT.cmpL r22 (0 : Int64))]) (H' := (c0 :: bk0 zm zg zh zv zu zt zs zr zd za zb ze zk zp zc zi zf zj zq zw zl zo zn [])) rfl ?_
      by_cases hc33 : r22 = (0 : Int64)
      · simp only [if_pos hc33] at h
        refine OEnds.ifT hm_2 rfl (q := 161) rfl ((teq (c_eq.mpr hc33)).1) ?_
        refine OEnds.adv hm_2 7 (pc' := 172) (L' := [qr 1, qu, qu, qu, qu, qu, qi v6]) (S' := [.long za, .long (zb + (1 : Int64)), .ref 1]) (H' := (c0 :: bk0 zm zg zh zv zu zt zs zr zd za zb ze zk zp zc zi zf zj zq zw zl zo zn [])) rfl ?_
        by_cases hz34 : za = 0
        · simp only [if_pos hz34] at h
          cases h
        simp only [if_neg hz34] at h
        refine OEnds.plain hm_2 rfl rfl (x_lrem hz34) ?_
        refine OEnds.adv hm_2 3 (pc' := 178) (L' := [qr 1, qu, qu, qu, qu, qu, qi v6]) (S' := [.ref 1, .ref 1]) (H' := (c0 :: bk0 zm zg zh zv zu zt zs zr zd za ((zb + (1 : Int64)) % za) ze zk zp zc zi zf zj zq zw zl zo zn [])) rfl ?_
        obtain ⟨r23, hq35, h⟩ := bnd h
        refine OEnds.call0 hm_2 rfl rfl (by decide) rfl (as := [.ref 1]) (rest := [.ref 1]) rfl rfl (ok_computeB hq35) ?_
        refine OEnds.adv hm_2 3 (pc' := 142) (L' := [qr 1, qu, qu, qu, qu, qu, qi (v6 + (1 : Int32))]) (S' := []) (H' := (c0 :: bk0 zm zg zh zv zu zt zs zr zd za ((zb + (1 : Int64)) % za) ze zk r23 zc zi zf zj zq zw zl zo zn [])) rfl ?_
        exact ih h
      · simp only [if_neg hc33] at h
        refine OEnds.ifF hm_2 rfl ((feq (mt c_eq.mp hc33)).1) ?_
        refine OEnds.adv hm_2 3 (pc' := 193) (L' := [qr 1, qu, qu, qu, qu, qu, qi 0]) (S' := []) (H' := (c0 :: bk0 zm zg zh zv zu zt zs zr zd za zb ze zk zp zc zi zf zj zq zw zl zo zn [])) rfl ?_
        exact hk193 h
    · simp only [if_neg hc31] at h
      refine OEnds.icmpT hm_2 rfl (q := 190) rfl ((flt hc31).2.1) ?_
      refine OEnds.adv hm_2 2 (pc' := 193) (L' := [qr 1, qu, qu, qu, qu, qu, qi 0]) (S' := []) (H' := (c0 :: bk0 zm zg zh zv zu zt zs zr zd za zb ze zk zp zc zi zf zj zq zw zl zo zn [])) rfl ?_
      exact hk193 h
theorem ok_init_93 {c0 : ACell} : ∀ {zm zg : List Int64} {zh : List Int32} {zv : List Int64} {zu : List Int32} {zt zs : List Int64} {zr zd : List Int32} {za zb ze zk zp : Int64} {zc : Int32} {zi zf : Int64} {zj : Int32} {zq : Int64} {zw zl : Int32} {zo zn : Int64} {v2 v3 v4 v5 : Int32} {d1 d6 : Slot} {w_o_regX w_o_regY : List Int64} {w_o_regInf : List Int32} {w_o_privKey : List Int64} {w_o_hasKey : List Int32} {w_o_pubX w_o_pubY : List Int64} {w_o_pubInf w_o_msg : List Int32} {w_o_p w_o_a w_o_gx w_o_gy w_o_b : Int64} {w_o_msgLen : Int32} {w_o_sigX w_o_sigY : Int64} {w_o_sigInf : Int32} {w_o_sigS : Int64} {w_o_sigE w_o_resInf : Int32} {w_o_resX : Int64} {w_o_resY : Int64}, f_init_93 zm zg zh zv zu zt zs zr zd za zb ze zk zp zc zi zf zj zq zw zl zo zn v2 v3 v4 v5 = some (w_o_regX, w_o_regY, w_o_regInf, w_o_privKey, w_o_hasKey, w_o_pubX, w_o_pubY, w_o_pubInf, w_o_msg, w_o_p, w_o_a, w_o_gx, w_o_gy, w_o_b, w_o_msgLen, w_o_sigX, w_o_sigY, w_o_sigInf, w_o_sigS, w_o_sigE, w_o_resInf, w_o_resX, w_o_resY) → OEnds own_P 2 93 [qr 1, d1, qi v2, qi v3, qi v4, qi v5, d6] [] (c0 :: bk0 zm zg zh zv zu zt zs zr zd za zb ze zk zp zc zi zf zj zq zw zl zo zn []) (none, (c0 :: bk0 w_o_regX w_o_regY w_o_regInf w_o_privKey w_o_hasKey w_o_pubX w_o_pubY w_o_pubInf w_o_msg w_o_p w_o_a w_o_gx w_o_gy w_o_b w_o_msgLen w_o_sigX w_o_sigY w_o_sigInf w_o_sigS w_o_sigE w_o_resInf w_o_resX w_o_resY []), 0, 0) := by
  intro zm zg zh zv zu zt zs zr zd za zb ze zk zp zc zi zf zj zq zw zl zo zn v2 v3 v4 v5 d1 d6 w_o_regX w_o_regY w_o_regInf w_o_privKey w_o_hasKey w_o_pubX w_o_pubY w_o_pubInf w_o_msg w_o_p w_o_a w_o_gx w_o_gy w_o_b w_o_msgLen w_o_sigX w_o_sigY w_o_sigInf w_o_sigS w_o_sigE w_o_resInf w_o_resX w_o_resY h
  unfold f_init_93 at h
  refine OEnds.adv hm_2 3 (pc' := 97) (L' := [qr 1, qu, qi v2, qi v3, qi v4, qi v5, qu]) (S' := [.int v5, .ref 1, .ref 1]) (H' := (c0 :: bk0 zm zg zh zv zu zt zs zr zd za zb ze zk zp zc zi zf zj zq zw zl zo zn [])) rfl ?_
  obtain ⟨r17, hq36, h⟩ := bnd h
  refine OEnds.call0 hm_2 rfl rfl (by decide) rfl (as := [.ref 1, .int v5]) (rest := [.ref 1]) rfl rfl (ok_primeAt hq36) ?_
  refine OEnds.adv hm_2 4 (pc' := 106) (L' := [qr 1, qu, qi v2, qi v3, qi v4, qi v5, qu]) (S' := [.int v2, .ref 1, .ref 1]) (H' := (c0 :: bk0 zm zg zh zv zu zt zs zr zd r17 zb ze zk zp zc zi zf zj zq zw zl zo zn [])) rfl ?_
  obtain ⟨r18, hq37, h⟩ := bnd h
  refine OEnds.call0 hm_2 rfl rfl (by decide) rfl (as := [.ref 1, .int v2]) (rest := [.ref 1]) rfl rfl (ok_clampField hq37) ?_
  refine OEnds.adv hm_2 4 (pc' := 115) (L' := [qr 1, qu, qi v2, qi v3, qi v4, qi v5, qu]) (S' := [.int v3, .ref 1, .ref 1]) (H' := (c0 :: bk0 zm zg zh zv zu zt zs zr zd r17 r18 ze zk zp zc zi zf zj zq zw zl zo zn [])) rfl ?_
  obtain ⟨r19, hq38, h⟩ := bnd h
  refine OEnds.call0 hm_2 rfl rfl (by decide) rfl (as := [.ref 1, .int v3]) (rest := [.ref 1]) rfl rfl (ok_clampField hq38) ?_
  refine OEnds.adv hm_2 4 (pc' := 125) (L' := [qr 1, qu, qi v2, qi v3, qi v4, qi v5, qu]) (S' := [.int v4, .ref 1, .ref 1]) (H' := (c0 :: bk0 zm zg zh zv zu zt zs zr zd r17 r18 r19 zk zp zc zi zf zj zq zw zl zo zn [])) rfl ?_
  obtain ⟨r20, hq39, h⟩ := bnd h
  refine OEnds.call0 hm_2 rfl rfl (by decide) rfl (as := [.ref 1, .int v4]) (rest := [.ref 1]) rfl rfl (ok_clampField hq39) ?_
  refine OEnds.adv hm_2 3 (pc' := 133) (L' := [qr 1, qu, qi v2, qi v3, qi v4, qi v5, qu]) (S' := [.ref 1, .ref 1]) (H' := (c0 :: bk0 zm zg zh zv zu zt zs zr zd r17 r18 r19 r20 zp zc zi zf zj zq zw zl zo zn [])) rfl ?_
  obtain ⟨r21, hq40, h⟩ := bnd h
  refine OEnds.call0 hm_2 rfl rfl (by decide) rfl (as := [.ref 1]) (rest := [.ref 1]) rfl rfl (ok_computeB hq40) ?_
  refine OEnds.adv hm_2 3 (pc' := 142) (L' := [qr 1, qu, qi v2, qi v3, qi v4, qi v5, qi 0]) (S' := []) (H' := (c0 :: bk0 zm zg zh zv zu zt zs zr zd r17 r18 r19 r20 r21 zc zi zf zj zq zw zl zo zn [])) rfl ?_
  exact ok_init_142 (k193 := f_init_193 f_init_215 100000) (ok_init_193 (k215 := f_init_215) ok_init_215 100000) 100000 h
theorem ok_init_82 {c0 : ACell} : ∀ {zm zg : List Int64} {zh : List Int32} {zv : List Int64} {zu : List Int32} {zt zs : List Int64} {zr zd : List Int32} {za zb ze zk zp : Int64} {zc : Int32} {zi zf : Int64} {zj : Int32} {zq : Int64} {zw zl : Int32} {zo zn : Int64} {v2 v3 v4 v5 : Int32} {d1 d6 : Slot} {w_o_regX w_o_regY : List Int64} {w_o_regInf : List Int32} {w_o_privKey : List Int64} {w_o_hasKey : List Int32} {w_o_pubX w_o_pubY : List Int64} {w_o_pubInf w_o_msg : List Int32} {w_o_p w_o_a w_o_gx w_o_gy w_o_b : Int64} {w_o_msgLen : Int32} {w_o_sigX w_o_sigY : Int64} {w_o_sigInf : Int32} {w_o_sigS : Int64} {w_o_sigE w_o_resInf : Int32} {w_o_resX : Int64} {w_o_resY : Int64}, f_init_82 zm zg zh zv zu zt zs zr zd za zb ze zk zp zc zi zf zj zq zw zl zo zn v2 v3 v4 v5 = some (w_o_regX, w_o_regY, w_o_regInf, w_o_privKey, w_o_hasKey, w_o_pubX, w_o_pubY, w_o_pubInf, w_o_msg, w_o_p, w_o_a, w_o_gx, w_o_gy, w_o_b, w_o_msgLen, w_o_sigX, w_o_sigY, w_o_sigInf, w_o_sigS, w_o_sigE, w_o_resInf, w_o_resX, w_o_resY) → OEnds own_P 2 82 [qr 1, d1, qi v2, qi v3, qi v4, qi v5, d6] [] (c0 :: bk0 zm zg zh zv zu zt zs zr zd za zb ze zk zp zc zi zf zj zq zw zl zo zn []) (none, (c0 :: bk0 w_o_regX w_o_regY w_o_regInf w_o_privKey w_o_hasKey w_o_pubX w_o_pubY w_o_pubInf w_o_msg w_o_p w_o_a w_o_gx w_o_gy w_o_b w_o_msgLen w_o_sigX w_o_sigY w_o_sigInf w_o_sigS w_o_sigE w_o_resInf w_o_resX w_o_resY []), 0, 0) := by
  intro zm zg zh zv zu zt zs zr zd za zb ze zk zp zc zi zf zj zq zw zl zo zn v2 v3 v4 v5 d1 d6 w_o_regX w_o_regY w_o_regInf w_o_privKey w_o_hasKey w_o_pubX w_o_pubY w_o_pubInf w_o_msg w_o_p w_o_a w_o_gx w_o_gy w_o_b w_o_msgLen w_o_sigX w_o_sigY w_o_sigInf w_o_sigS w_o_sigE w_o_resInf w_o_resX w_o_resY h
  unfold f_init_82 at h
  refine OEnds.adv hm_2 2 (pc' := 86) (L' := [qr 1, qu, qi v2, qi v3, qi v4, qi v5, qu]) (S' := [.int 7, .int v5]) (H' := (c0 :: bk0 zm zg zh zv zu zt zs zr zd za zb ze zk zp zc zi zf zj zq zw zl zo zn [])) rfl ?_
  by_cases hc41 : (7 : Int32) < v5
  · simp only [if_pos hc41] at h
    refine OEnds.icmpF hm_2 rfl ((tlt hc41).2.2.2) ?_
    refine OEnds.adv hm_2 2 (pc' := 93) (L' := [qr 1, qu, qi v2, qi v3, qi v4, qi 7, qu]) (S' := []) (H' := (c0 :: bk0 zm zg zh zv zu zt zs zr zd za zb ze zk zp zc zi zf zj zq zw zl zo zn [])) rfl ?_
    exact ok_init_93 h
  · simp only [if_neg hc41] at h
    refine OEnds.icmpT hm_2 rfl (q := 93) rfl ((flt hc41).2.2.2) ?_
    show OEnds own_P 2 93 [qr 1, qu, qi v2, qi v3, qi v4, qi v5, qu] [] (c0 :: bk0 zm zg zh zv zu zt zs zr zd za zb ze zk zp zc zi zf zj zq zw zl zo zn []) _
    exact ok_init_93 h
theorem ok_init {c0 : ACell} {v1 v2 v3 v4 : Int32} {w_o_regX w_o_regY : List Int64} {w_o_regInf : List Int32} {w_o_privKey : List Int64} {w_o_hasKey : List Int32} {w_o_pubX w_o_pubY : List Int64} {w_o_pubInf w_o_msg : List Int32} {w_o_p w_o_a w_o_gx w_o_gy w_o_b : Int64} {w_o_msgLen : Int32} {w_o_sigX w_o_sigY : Int64} {w_o_sigInf : Int32} {w_o_sigS : Int64} {w_o_sigE w_o_resInf : Int32} {w_o_resX w_o_resY : Int64} (h : f_init v1 v2 v3 v4 = some (w_o_regX, w_o_regY, w_o_regInf, w_o_privKey, w_o_hasKey, w_o_pubX, w_o_pubY, w_o_pubInf, w_o_msg, w_o_p, w_o_a, w_o_gx, w_o_gy, w_o_b, w_o_msgLen, w_o_sigX, w_o_sigY, w_o_sigInf, w_o_sigS, w_o_sigE, w_o_resInf, w_o_resX, w_o_resY)) : OEnds own_P 2 0 [qr 1, qi v1, qi v2, qi v3, qi v4, qu, qu] [] (c0 :: (.inl (0, [.null, .null, .null, .null, .null, .null, .null, .null, .null, .long 0, .long 0, .long 0, .long 0, .long 0, .int 0, .long 0, .long 0, .int 0, .long 0, .int 0, .int 0, .long 0, .long 0]) : ACell) :: []) (none, (c0 :: bk0 w_o_regX w_o_regY w_o_regInf w_o_privKey w_o_hasKey w_o_pubX w_o_pubY w_o_pubInf w_o_msg w_o_p w_o_a w_o_gx w_o_gy w_o_b w_o_msgLen w_o_sigX w_o_sigY w_o_sigInf w_o_sigS w_o_sigE w_o_resInf w_o_resX w_o_resY []), 9, 108) := by
  unfold f_init at h
  refine OEnds.adv hm_2 1 (pc' := 1) (L' := [qr 1, qi v1, qi v2, qi v3, qi v4, qu, qu]) (S' := [.ref 1]) (H' := (c0 :: (.inl (0, [.null, .null, .null, .null, .null, .null, .null, .null, .null, .long 0, .long 0, .long 0, .long 0, .long 0, .int 0, .long 0, .long 0, .int 0, .long 0, .int 0, .int 0, .long 0, .long 0]) : ACell) :: [])) rfl ?_
  refine OEnds.oinit hm_2 rfl ⟨Nat.le_of_ble_eq_true rfl, Nat.le_of_ble_eq_true rfl⟩ ?_
  refine OEnds.adv hm_2 2 (pc' := 7) (L' := [qr 1, qi v1, qi v2, qi v3, qi v4, qu, qu]) (S' := [.int 8, .ref 1]) (H' := (c0 :: (.inl (0, [.null, .null, .null, .null, .null, .null, .null, .null, .null, .long 0, .long 0, .long 0, .long 0, .long 0, .int 0, .long 0, .long 0, .int 0, .long 0, .int 0, .int 0, .long 0, .long 0]) : ACell) :: [])) rfl ?_
  refine OEnds.made1 hm_2 rfl rfl (ks := 8) rfl rfl ?_
  refine OEnds.adv hm_2 3 (pc' := 15) (L' := [qr 1, qi v1, qi v2, qi v3, qi v4, qu, qu]) (S' := [.int 8, .ref 1]) (H' := (c0 :: (.inl (0, [.ref 2, .null, .null, .null, .null, .null, .null, .null, .null, .long 0, .long 0, .long 0, .long 0, .long 0, .int 0, .long 0, .long 0, .int 0, .long 0, .int 0, .int 0, .long 0, .long 0]) : ACell) :: .inr (.inr (List.replicate 8 0)) :: [])) rfl ?_
  refine OEnds.made1 hm_2 rfl rfl (ks := 8) rfl rfl ?_
  refine OEnds.adv hm_2 3 (pc' := 23) (L' := [qr 1, qi v1, qi v2, qi v3, qi v4, qu, qu]) (S' := [.int 8, .ref 1]) (H' := (c0 :: (.inl (0, [.ref 2, .ref 3, .null, .null, .null, .null, .null, .null, .null, .long 0, .long 0, .long 0, .long 0, .long 0, .int 0, .long 0, .long 0, .int 0, .long 0, .int 0, .int 0, .long 0, .long 0]) : ACell) :: .inr (.inr (List.replicate 8 0)) :: .inr (.inr (List.replicate 8 0)) :: [])) rfl ?_
  refine OEnds.made1 hm_2 rfl rfl (ks := 8) rfl rfl ?_
  refine OEnds.adv hm_2 3 (pc' := 30) (L' := [qr 1, qi v1, qi v2, qi v3, qi v4, qu, qu]) (S' := [.int 4, .ref 1]) (H' := (c0 :: (.inl (0, [.ref 2, .ref 3, .ref 4, .null, .null, .null, .null, .null, .null, .long 0, .long 0, .long 0, .long 0, .long 0, .int 0, .long 0, .long 0, .int 0, .long 0, .int 0, .int 0, .long 0, .long 0]) : ACell) :: .inr (.inr (List.replicate 8 0)) :: .inr (.inr (List.replicate 8 0)) :: .inr (.inl (true, (List.replicate 8 0))) :: [])) rfl ?_
  refine OEnds.made1 hm_2 rfl rfl (ks := 4) rfl rfl ?_
  refine OEnds.adv hm_2 3 (pc' := 37) (L' := [qr 1, qi v1, qi v2, qi v3, qi v4, qu, qu]) (S' := [.int 4, .ref 1]) (H' := (c0 :: (.inl (0, [.ref 2, .ref 3, .ref 4, .ref 5, .null, .null, .null, .null, .null, .long 0, .long 0, .long 0, .long 0, .long 0, .int 0, .long 0, .long 0, .int 0, .long 0, .int 0, .int 0, .long 0, .long 0]) : ACell) :: .inr (.inr (List.replicate 8 0)) :: .inr (.inr (List.replicate 8 0)) :: .inr (.inl (true, (List.replicate 8 0))) :: .inr (.inr (List.replicate 4 0)) :: [])) rfl ?_
  refine OEnds.made1 hm_2 rfl rfl (ks := 4) rfl rfl ?_
  refine OEnds.adv hm_2 3 (pc' := 44) (L' := [qr 1, qi v1, qi v2, qi v3, qi v4, qu, qu]) (S' := [.int 4, .ref 1]) (H' := (c0 :: (.inl (0, [.ref 2, .ref 3, .ref 4, .ref 5, .ref 6, .null, .null, .null, .null, .long 0, .long 0, .long 0, .long 0, .long 0, .int 0, .long 0, .long 0, .int 0, .long 0, .int 0, .int 0, .long 0, .long 0]) : ACell) :: .inr (.inr (List.replicate 8 0)) :: .inr (.inr (List.replicate 8 0)) :: .inr (.inl (true, (List.replicate 8 0))) :: .inr (.inr (List.replicate 4 0)) :: .inr (.inl (true, (List.replicate 4 0))) :: [])) rfl ?_
  refine OEnds.made1 hm_2 rfl rfl (ks := 4) rfl rfl ?_
  refine OEnds.adv hm_2 3 (pc' := 51) (L' := [qr 1, qi v1, qi v2, qi v3, qi v4, qu, qu]) (S' := [.int 4, .ref 1]) (H' := (c0 :: (.inl (0, [.ref 2, .ref 3, .ref 4, .ref 5, .ref 6, .ref 7, .null, .null, .null, .long 0, .long 0, .long 0, .long 0, .long 0, .int 0, .long 0, .long 0, .int 0, .long 0, .int 0, .int 0, .long 0, .long 0]) : ACell) :: .inr (.inr (List.replicate 8 0)) :: .inr (.inr (List.replicate 8 0)) :: .inr (.inl (true, (List.replicate 8 0))) :: .inr (.inr (List.replicate 4 0)) :: .inr (.inl (true, (List.replicate 4 0))) :: .inr (.inr (List.replicate 4 0)) :: [])) rfl ?_
  refine OEnds.made1 hm_2 rfl rfl (ks := 4) rfl rfl ?_
  refine OEnds.adv hm_2 3 (pc' := 58) (L' := [qr 1, qi v1, qi v2, qi v3, qi v4, qu, qu]) (S' := [.int 4, .ref 1]) (H' := (c0 :: (.inl (0, [.ref 2, .ref 3, .ref 4, .ref 5, .ref 6, .ref 7, .ref 8, .null, .null, .long 0, .long 0, .long 0, .long 0, .long 0, .int 0, .long 0, .long 0, .int 0, .long 0, .int 0, .int 0, .long 0, .long 0]) : ACell) :: .inr (.inr (List.replicate 8 0)) :: .inr (.inr (List.replicate 8 0)) :: .inr (.inl (true, (List.replicate 8 0))) :: .inr (.inr (List.replicate 4 0)) :: .inr (.inl (true, (List.replicate 4 0))) :: .inr (.inr (List.replicate 4 0)) :: .inr (.inr (List.replicate 4 0)) :: [])) rfl ?_
  refine OEnds.made1 hm_2 rfl rfl (ks := 4) rfl rfl ?_
  refine OEnds.adv hm_2 3 (pc' := 66) (L' := [qr 1, qi v1, qi v2, qi v3, qi v4, qu, qu]) (S' := [.int 64, .ref 1]) (H' := (c0 :: (.inl (0, [.ref 2, .ref 3, .ref 4, .ref 5, .ref 6, .ref 7, .ref 8, .ref 9, .null, .long 0, .long 0, .long 0, .long 0, .long 0, .int 0, .long 0, .long 0, .int 0, .long 0, .int 0, .int 0, .long 0, .long 0]) : ACell) :: .inr (.inr (List.replicate 8 0)) :: .inr (.inr (List.replicate 8 0)) :: .inr (.inl (true, (List.replicate 8 0))) :: .inr (.inr (List.replicate 4 0)) :: .inr (.inl (true, (List.replicate 4 0))) :: .inr (.inr (List.replicate 4 0)) :: .inr (.inr (List.replicate 4 0)) :: .inr (.inl (true, (List.replicate 4 0))) :: [])) rfl ?_
  refine OEnds.made1 hm_2 rfl rfl (ks := 64) rfl rfl ?_
  refine OEnds.adv hm_2 4 (pc' := 76) (L' := [qr 1, qi v1, qi v2, qi v3, qi v4, qi v1, qu]) (S' := [.int v1]) (H' := (c0 :: bk0 (List.replicate 8 0) (List.replicate 8 0) (List.replicate 8 0) (List.replicate 4 0) (List.replicate 4 0) (List.replicate 4 0) (List.replicate 4 0) (List.replicate 4 0) (List.replicate 64 0) 0 0 0 0 0 0 0 0 0 0 0 0 0 0 [])) rfl ?_
  by_cases hc42 : v1 < (0 : Int32)
  · simp only [if_pos hc42] at h
    refine OEnds.ifF hm_2 rfl ((tlt hc42).2.1) ?_
    refine OEnds.adv hm_2 2 (pc' := 82) (L' := [qr 1, qi v1, qi v2, qi v3, qi v4, qi 0, qu]) (S' := []) (H' := (c0 :: bk0 (List.replicate 8 0) (List.replicate 8 0) (List.replicate 8 0) (List.replicate 4 0) (List.replicate 4 0) (List.replicate 4 0) (List.replicate 4 0) (List.replicate 4 0) (List.replicate 64 0) 0 0 0 0 0 0 0 0 0 0 0 0 0 0 [])) rfl ?_
    exact ok_init_82 h
  · simp only [if_neg hc42] at h
    refine OEnds.ifT hm_2 rfl (q := 82) rfl ((flt hc42).2.1) ?_
    show OEnds own_P 2 82 [qr 1, qi v1, qi v2, qi v3, qi v4, qi v1, qu] [] (c0 :: bk0 (List.replicate 8 0) (List.replicate 8 0) (List.replicate 8 0) (List.replicate 4 0) (List.replicate 4 0) (List.replicate 4 0) (List.replicate 4 0) (List.replicate 4 0) (List.replicate 64 0) 0 0 0 0 0 0 0 0 0 0 0 0 0 0 []) _
    exact ok_init_82 h
theorem ok_validRegister {zm zg : List Int64} {zh : List Int32} {zv : List Int64} {zu : List Int32} {zt zs : List Int64} {zr zd : List Int32} {za zb ze zk zp : Int64} {zc : Int32} {zi zf : Int64} {zj : Int32} {zq : Int64} {zw zl : Int32} {zo zn : Int64} {c0 : ACell} {po : List ACell} {v1 res : Int32} (h : f_validRegister v1 = some res) : OEnds own_P 18 0 [qr 1, qi v1] [] (c0 :: bk0 zm zg zh zv zu zt zs zr zd za zb ze zk zp zc zi zf zj zq zw zl zo zn po) (some (.int res), (c0 :: bk0 zm zg zh zv zu zt zs zr zd za zb ze zk zp zc zi zf zj zq zw zl zo zn po), 0, 0) := by
  unfold f_validRegister at h
  refine OEnds.adv hm_18 1 (pc' := 1) (L' := [qr 1, qi v1]) (S' := [.int v1]) (H' := (c0 :: bk0 zm zg zh zv zu zt zs zr zd za zb ze zk zp zc zi zf zj zq zw zl zo zn po)) rfl ?_
  by_cases hc43 : v1 < (0 : Int32)
  · simp only [if_pos hc43] at h
    refine OEnds.ifT hm_18 rfl (q := 14) rfl ((tlt hc43).1) ?_
    refine OEnds.adv hm_18 1 (pc' := 15) (L' := [qr 1, qi v1]) (S' := [.int 0]) (H' := (c0 :: bk0 zm zg zh zv zu zt zs zr zd za zb ze zk zp zc zi zf zj zq zw zl zo zn po)) rfl ?_
    cases h
    exact OEnds.iret hm_18 rfl rfl
  · simp only [if_neg hc43] at h
    refine OEnds.ifF hm_18 rfl ((flt hc43).1) ?_
    refine OEnds.adv hm_18 2 (pc' := 7) (L' := [qr 1, qi v1]) (S' := [.int 8, .int v1]) (H' := (c0 :: bk0 zm zg zh zv zu zt zs zr zd za zb ze zk zp zc zi zf zj zq zw zl zo zn po)) rfl ?_
    by_cases hc44 : v1 < (8 : Int32)
    · simp only [if_pos hc44] at h
      refine OEnds.icmpF hm_18 rfl ((tlt hc44).2.1) ?_
      refine OEnds.adv hm_18 2 (pc' := 15) (L' := [qr 1, qi v1]) (S' := [.int 1]) (H' := (c0 :: bk0 zm zg zh zv zu zt zs zr zd za zb ze zk zp zc zi zf zj zq zw zl zo zn po)) rfl ?_
      cases h
      exact OEnds.iret hm_18 rfl rfl
    · simp only [if_neg hc44] at h
      refine OEnds.icmpT hm_18 rfl (q := 14) rfl ((flt hc44).2.1) ?_
      refine OEnds.adv hm_18 1 (pc' := 15) (L' := [qr 1, qi v1]) (S' := [.int 0]) (H' := (c0 :: bk0 zm zg zh zv zu zt zs zr zd za zb ze zk zp zc zi zf zj zq zw zl zo zn po)) rfl ?_
      cases h
      exact OEnds.iret hm_18 rfl rfl
theorem ok_setResult_31 {zm zg : List Int64} {zh : List Int32} {zv : List Int64} {zu : List Int32} {zt zs : List Int64} {zr zd : List Int32} {za zb ze zk zp : Int64} {zc : Int32} {zi zf : Int64} {zj : Int32} {zq : Int64} {zw : Int32} {c0 : ACell} {po : List ACell} : ∀ {zl : Int32} {zo zn t0 : Int64} {d0 d1 d2 d3 d4 d5 : Slot} {w_o_resInf : Int32} {w_o_resX : Int64} {w_o_resY : Int64}, f_setResult_31 zl zo zn t0 = some (w_o_resInf, w_o_resX, w_o_resY) → OEnds own_P 15 31 [d0, d1, d2, d3, d4, d5] [.long t0, .ref 1] (c0 :: bk0 zm zg zh zv zu zt zs zr zd za zb ze zk zp zc zi zf zj zq zw zl zo zn po) (none, (c0 :: bk0 zm zg zh zv zu zt zs zr zd za zb ze zk zp zc zi zf zj zq zw w_o_resInf w_o_resX w_o_resY po), 0, 0) := by
  intro zl zo zn t0 d0 d1 d2 d3 d4 d5 w_o_resInf w_o_resX w_o_resY h
  unfold f_setResult_31 at h
  refine OEnds.adv hm_15 1 (pc' := 34) (L' := [qu, qu, qu, qu, qu, qu]) (S' := []) (H' := (c0 :: bk0 zm zg zh zv zu zt zs zr zd za zb ze zk zp zc zi zf zj zq zw zl zo t0 po)) rfl ?_
  cases h
  exact OEnds.vret hm_15 rfl rfl
theorem ok_setResult_17 {zm zg : List Int64} {zh : List Int32} {zv : List Int64} {zu : List Int32} {zt zs : List Int64} {zr zd : List Int32} {za zb ze zk zp : Int64} {zc : Int32} {zi zf : Int64} {zj : Int32} {zq : Int64} {zw : Int32} {c0 : ACell} {po : List ACell} : ∀ {zl : Int32} {zo zn v3 : Int64} {v5 : Int32} {t0 : Int64} {d1 d2 : Slot} {w_o_resInf : Int32} {w_o_resX : Int64} {w_o_resY : Int64}, f_setResult_17 zl zo zn v3 v5 t0 = some (w_o_resInf, w_o_resX, w_o_resY) → OEnds own_P 15 17 [qr 1, d1, d2, ql v3, qw, qi v5] [.long t0, .ref 1] (c0 :: bk0 zm zg zh zv zu zt zs zr zd za zb ze zk zp zc zi zf zj zq zw zl zo zn po) (none, (c0 :: bk0 zm zg zh zv zu zt zs zr zd za zb ze zk zp zc zi zf zj zq zw w_o_resInf w_o_resX w_o_resY po), 0, 0) := by
  intro zl zo zn v3 v5 t0 d1 d2 w_o_resInf w_o_resX w_o_resY h
  unfold f_setResult_17 at h
  refine OEnds.adv hm_15 3 (pc' := 23) (L' := [qr 1, qu, qu, ql v3, qw, qi v5]) (S' := [.int v5, .ref 1]) (H' := (c0 :: bk0 zm zg zh zv zu zt zs zr zd za zb ze zk zp zc zi zf zj zq zw zl t0 zn po)) rfl ?_
  by_cases hc45 : v5 = (0 : Int32)
  · simp only [if_pos hc45] at h
    refine OEnds.ifT hm_15 rfl (q := 30) rfl ((teq hc45).1) ?_
    refine OEnds.adv hm_15 1 (pc' := 31) (L' := [qr 1, qu, qu, ql v3, qw, qi v5]) (S' := [.long v3, .ref 1]) (H' := (c0 :: bk0 zm zg zh zv zu zt zs zr zd za zb ze zk zp zc zi zf zj zq zw zl t0 zn po)) rfl ?_
    exact ok_setResult_31 h
  · simp only [if_neg hc45] at h
    refine OEnds.ifF hm_15 rfl ((feq hc45).1) ?_
    refine OEnds.adv hm_15 2 (pc' := 31) (L' := [qr 1, qu, qu, ql v3, qw, qi v5]) (S' := [.long 0, .ref 1]) (H' := (c0 :: bk0 zm zg zh zv zu zt zs zr zd za zb ze zk zp zc zi zf zj zq zw zl t0 zn po)) rfl ?_
    exact ok_setResult_31 h
theorem ok_setResult {zm zg : List Int64} {zh : List Int32} {zv : List Int64} {zu : List Int32} {zt zs : List Int64} {zr zd : List Int32} {za zb ze zk zp : Int64} {zc : Int32} {zi zf : Int64} {zj : Int32} {zq : Int64} {zw : Int32} {c0 : ACell} {po : List ACell} {zl : Int32} {zo zn v1 v3 : Int64} {v5 w_o_resInf : Int32} {w_o_resX w_o_resY : Int64} (h : f_setResult zl zo zn v1 v3 v5 = some (w_o_resInf, w_o_resX, w_o_resY)) : OEnds own_P 15 0 [qr 1, ql v1, qw, ql v3, qw, qi v5] [] (c0 :: bk0 zm zg zh zv zu zt zs zr zd za zb ze zk zp zc zi zf zj zq zw zl zo zn po) (none, (c0 :: bk0 zm zg zh zv zu zt zs zr zd za zb ze zk zp zc zi zf zj zq zw w_o_resInf w_o_resX w_o_resY po), 0, 0) := by
  unfold f_setResult at h
  refine OEnds.adv hm_15 2 (pc' := 3) (L' := [qr 1, ql v1, qw, ql v3, qw, qi v5]) (S' := [.int v5, .ref 1]) (H' := (c0 :: bk0 zm zg zh zv zu zt zs zr zd za zb ze zk zp zc zi zf zj zq zw zl zo zn po)) rfl ?_
  by_cases hz46 : v5 = 0 ∨ v5 = 1
  · simp only [if_pos hz46] at h
    refine OEnds.plain hm_15 rfl rfl (x_putZ rfl (Nat.le_of_ble_eq_true rfl) rfl hz46) ?_
    refine OEnds.adv hm_15 2 (pc' := 9) (L' := [qr 1, ql v1, qw, ql v3, qw, qi v5]) (S' := [.int v5, .ref 1]) (H' := (c0 :: bk0 zm zg zh zv zu zt zs zr zd za zb ze zk zp zc zi zf zj zq zw v5 zo zn po)) rfl ?_
    by_cases hc47 : v5 = (0 : Int32)
    · simp only [if_pos hc47] at h
      refine OEnds.ifT hm_15 rfl (q := 16) rfl ((teq hc47).1) ?_
      refine OEnds.adv hm_15 1 (pc' := 17) (L' := [qr 1, ql v1, qw, ql v3, qw, qi v5]) (S' := [.long v1, .ref 1]) (H' := (c0 :: bk0 zm zg zh zv zu zt zs zr zd za zb ze zk zp zc zi zf zj zq zw v5 zo zn po)) rfl ?_
      exact ok_setResult_17 h
    · simp only [if_neg hc47] at h
      refine OEnds.ifF hm_15 rfl ((feq hc47).1) ?_
      refine OEnds.adv hm_15 2 (pc' := 17) (L' := [qr 1, ql v1, qw, ql v3, qw, qi v5]) (S' := [.long 0, .ref 1]) (H' := (c0 :: bk0 zm zg zh zv zu zt zs zr zd za zb ze zk zp zc zi zf zj zq zw v5 zo zn po)) rfl ?_
      exact ok_setResult_17 h
  · simp only [if_neg hz46] at h
    cases h
theorem ok_powMod_55 {zm zg : List Int64} {zh : List Int32} {zv : List Int64} {zu : List Int32} {zt zs : List Int64} {zr zd : List Int32} {za zb ze zk zp : Int64} {zc : Int32} {zi zf : Int64} {zj : Int32} {zq : Int64} {zw zl : Int32} {zo zn : Int64} {c0 : ACell} {po : List ACell} {kb : Int64 → Int64 → Int64 → Int32 → Option (Int64)} (hkb : ∀ {v5 v7 v9 : Int64} {v11 : Int32} {d1 d2 d3 d4 : Slot} {res : Int64}, kb v5 v7 v9 v11 = some res → OEnds own_P 32 22 [qr 1, d1, d2, d3, d4, ql v5, qw, ql v7, qw, ql v9, qw, qi v11] [] (c0 :: bk0 zm zg zh zv zu zt zs zr zd za zb ze zk zp zc zi zf zj zq zw zl zo zn po) (some (.long res), (c0 :: bk0 zm zg zh zv zu zt zs zr zd za zb ze zk zp zc zi zf zj zq zw zl zo zn po), 0, 0)) : ∀ {v5 v7 v9 : Int64} {v11 : Int32} {d1 d2 d3 d4 : Slot} {res : Int64}, f_powMod_55 kb za v5 v7 v9 v11 = some res → OEnds own_P 32 55 [qr 1, d1, d2, d3, d4, ql v5, qw, ql v7, qw, ql v9, qw, qi v11] [] (c0 :: bk0 zm zg zh zv zu zt zs zr zd za zb ze zk zp zc zi zf zj zq zw zl zo zn po) (some (.long res), (c0 :: bk0 zm zg zh zv zu zt zs zr zd za zb ze zk zp zc zi zf zj zq zw zl zo zn po), 0, 0) := by
  intro v5 v7 v9 v11 d1 d2 d3 d4 res h
  unfold f_powMod_55 at h
  refine OEnds.adv hm_32 3 (pc' := 60) (L' := [qr 1, qu, qu, qu, qu, ql v5, qw, ql v7, qw, ql v9, qw, qi v11]) (S' := [.long v7, .long v7, .ref 1]) (H' := (c0 :: bk0 zm zg zh zv zu zt zs zr zd za zb ze zk zp zc zi zf zj zq zw zl zo zn po)) rfl ?_
  obtain ⟨r31, hq48, h⟩ := bnd h
  refine OEnds.call0 hm_32 rfl rfl (by decide) rfl (as := [.ref 1, .long v7, .long v7]) (rest := []) rfl rfl (ok_mulMod hq48) ?_
  refine OEnds.adv hm_32 7 (pc' := 22) (L' := [qr 1, qu, qu, qu, qu, ql v5, qw, ql r31, qw, ql (XT.ushrL v9 (1 : Int32)), qw, qi (v11 + (1 : Int32))]) (S' := []) (H' := (c0 :: bk0 zm zg zh zv zu zt zs zr zd za zb ze zk zp zc zi zf zj zq zw zl zo zn po)) rfl ?_
  exact hkb h
theorem ok_powMod_22 {zm zg : List Int64} {zh : List Int32} {zv : List Int64} {zu : List Int32} {zt zs : List Int64} {zr zd : List Int32} {za zb ze zk zp : Int64} {zc : Int32} {zi zf : Int64} {zj : Int32} {zq : Int64} {zw zl : Int32} {zo zn : Int64} {c0 : ACell} {po : List ACell} : ∀ (n : Nat), ∀ {v5 v7 v9 : Int64} {v11 : Int32} {d1 d2 d3 d4 : Slot} {res : Int64}, f_powMod_22 za n v5 v7 v9 v11 = some res → OEnds own_P 32 22 [qr 1, d1, d2, d3, d4, ql v5, qw, ql v7, qw, ql v9, qw, qi v11] [] (c0 :: bk0 zm zg zh zv zu zt zs zr zd za zb ze zk zp zc zi zf zj zq zw zl zo zn po) (some (.long res), (c0 :: bk0 zm zg zh zv zu zt zs zr zd za zb ze zk zp zc zi zf zj zq zw zl zo zn po), 0, 0) := by
  intro n
  induction n with
  | zero => intro v5 v7 v9 v11 d1 d2 d3 d4 res h; cases h
  | succ n ih =>
    intro v5 v7 v9 v11 d1 d2 d3 d4 res h
    unfold f_powMod_22 at h
    refine OEnds.adv hm_32 2 (pc' := 26) (L' := [qr 1, qu, qu, qu, qu, ql v5, qw, ql v7, qw, ql v9, qw, qi v11]) (S' := [.int 64, .int v11]) (H' := (c0 :: bk0 zm zg zh zv zu zt zs zr zd za zb ze zk zp zc zi zf zj zq zw zl zo zn po)) rfl ?_
    by_cases hc49 : v11 < (64 : Int32)
    · simp only [if_pos hc49] at h
      refine OEnds.icmpF hm_32 rfl ((tlt hc49).2.1) ?_
      refine OEnds.adv hm_32 3 (pc' := 33) (L' := [qr 1, qu, qu, qu, qu, ql v5, qw, ql v7, qw, ql v9, qw, qi v11]) (S' := [.int (XT.cmpL v9 (0 : Int64))]) (H' := (c0 :: bk0 zm zg zh zv zu zt zs zr zd za zb ze zk zp zc zi zf zj zq zw zl zo zn po)) rfl ?_
      by_cases hc50 : (0 : Int64) < v9
      · simp only [if_pos hc50] at h
        refine OEnds.ifF hm_32 rfl ((tlt (c_gt.mpr hc50)).2.2.2) ?_
        refine OEnds.adv hm_32 5 (pc' := 42) (L' := [qr 1, qu, qu, qu, qu, ql v5, qw, ql v7, qw, ql v9, qw, qi v11]) (S' := [.int (XT.cmpL (v9 &&& (1 : Int64)) (1 : Int64))]) (H' := (c0 :: bk0 zm zg zh zv zu zt zs zr zd za zb ze zk zp zc zi zf zj zq zw zl zo zn po)) rfl ?_
        by_cases hc51 : (v9 &&& (1 : Int64)) = (1 : Int64)
        · simp only [if_pos hc51] at h
          refine OEnds.ifF hm_32 rfl ((teq (c_eq.mpr hc51)).2) ?_
          refine OEnds.adv hm_32 3 (pc' := 50) (L' := [qr 1, qu, qu, qu, qu, ql v5, qw, ql v7, qw, ql v9, qw, qi v11]) (S' := [.long v7, .long v5, .ref 1]) (H' := (c0 :: bk0 zm zg zh zv zu zt zs zr zd za zb ze zk zp zc zi zf zj zq zw zl zo zn po)) rfl ?_
          obtain ⟨r30, hq52, h⟩ := bnd h
          refine OEnds.call0 hm_32 rfl rfl (by decide) rfl (as := [.ref 1, .long v5, .long v7]) (rest := []) rfl rfl (ok_mulMod hq52) ?_
          refine OEnds.adv hm_32 1 (pc' := 55) (L' := [qr 1, qu, qu, qu, qu, ql r30, qw, ql v7, qw, ql v9, qw, qi v11]) (S' := []) (H' := (c0 :: bk0 zm zg zh zv zu zt zs zr zd za zb ze zk zp zc zi zf zj zq zw zl zo zn po)) rfl ?_
          exact ok_powMod_55 ih h
        · simp only [if_neg hc51] at h
          refine OEnds.ifT hm_32 rfl (q := 55) rfl ((feq (mt c_eq.mp hc51)).2) ?_
          show OEnds own_P 32 55 [qr 1, qu, qu, qu, qu, ql v5, qw, ql v7, qw, ql v9, qw, qi v11] [] (c0 :: bk0 zm zg zh zv zu zt zs zr zd za zb ze zk zp zc zi zf zj zq zw zl zo zn po) _
          exact ok_powMod_55 ih h
      · simp only [if_neg hc50] at h
        refine OEnds.ifT hm_32 rfl (q := 77) rfl ((flt (mt c_gt.mp hc50)).2.2.2) ?_
        refine OEnds.adv hm_32 1 (pc' := 79) (L' := [qr 1, qu, qu, qu, qu, ql v5, qw, ql v7, qw, ql v9, qw, qi v11]) (S' := [.long v5]) (H' := (c0 :: bk0 zm zg zh zv zu zt zs zr zd za zb ze zk zp zc zi zf zj zq zw zl zo zn po)) rfl ?_
        cases h
        exact OEnds.lret hm_32 rfl rfl
    · simp only [if_neg hc49] at h
      refine OEnds.icmpT hm_32 rfl (q := 77) rfl ((flt hc49).2.1) ?_
      refine OEnds.adv hm_32 1 (pc' := 79) (L' := [qr 1, qu, qu, qu, qu, ql v5, qw, ql v7, qw, ql v9, qw, qi v11]) (S' := [.long v5]) (H' := (c0 :: bk0 zm zg zh zv zu zt zs zr zd za zb ze zk zp zc zi zf zj zq zw zl zo zn po)) rfl ?_
      cases h
      exact OEnds.lret hm_32 rfl rfl
theorem ok_powMod {zm zg : List Int64} {zh : List Int32} {zv : List Int64} {zu : List Int32} {zt zs : List Int64} {zr zd : List Int32} {za zb ze zk zp : Int64} {zc : Int32} {zi zf : Int64} {zj : Int32} {zq : Int64} {zw zl : Int32} {zo zn : Int64} {c0 : ACell} {po : List ACell} {v1 v3 res : Int64} (h : f_powMod za v1 v3 = some res) : OEnds own_P 32 0 [qr 1, ql v1, qw, ql v3, qw, qu, qu, qu, qu, qu, qu, qu] [] (c0 :: bk0 zm zg zh zv zu zt zs zr zd za zb ze zk zp zc zi zf zj zq zw zl zo zn po) (some (.long res), (c0 :: bk0 zm zg zh zv zu zt zs zr zd za zb ze zk zp zc zi zf zj zq zw zl zo zn po), 0, 0) := by
  unfold f_powMod at h
  refine OEnds.adv hm_32 3 (pc' := 5) (L' := [qr 1, ql v1, qw, ql v3, qw, qu, qu, qu, qu, qu, qu, qu]) (S' := [.long za, .long 1]) (H' := (c0 :: bk0 zm zg zh zv zu zt zs zr zd za zb ze zk zp zc zi zf zj zq zw zl zo zn po)) rfl ?_
  by_cases hz53 : za = 0
  · simp only [if_pos hz53] at h
    cases h
  simp only [if_neg hz53] at h
  refine OEnds.plain hm_32 rfl rfl (x_lrem hz53) ?_
  refine OEnds.adv hm_32 4 (pc' := 13) (L' := [qr 1, ql v1, qw, ql v3, qw, ql ((1 : Int64) % za), qw, qu, qu, qu, qu, qu]) (S' := [.long za, .long v1]) (H' := (c0 :: bk0 zm zg zh zv zu zt zs zr zd za zb ze zk zp zc zi zf zj zq zw zl zo zn po)) rfl ?_
  refine OEnds.plain hm_32 rfl rfl (x_lrem hz53) ?_
  refine OEnds.adv hm_32 5 (pc' := 22) (L' := [qr 1, ql v1, qw, ql v3, qw, ql ((1 : Int64) % za), qw, ql (v1 % za), qw, ql v3, qw, qi 0]) (S' := []) (H' := (c0 :: bk0 zm zg zh zv zu zt zs zr zd za zb ze zk zp zc zi zf zj zq zw zl zo zn po)) rfl ?_
  exact ok_powMod_22 100000 h
theorem ok_inv {zm zg : List Int64} {zh : List Int32} {zv : List Int64} {zu : List Int32} {zt zs : List Int64} {zr zd : List Int32} {za zb ze zk zp : Int64} {zc : Int32} {zi zf : Int64} {zj : Int32} {zq : Int64} {zw zl : Int32} {zo zn : Int64} {c0 : ACell} {po : List ACell} {v1 res : Int64} (h : f_inv za v1 = some res) : OEnds own_P 31 0 [qr 1, ql v1, qw] [] (c0 :: bk0 zm zg zh zv zu zt zs zr zd za zb ze zk zp zc zi zf zj zq zw zl zo zn po) (some (.long res), (c0 :: bk0 zm zg zh zv zu zt zs zr zd za zb ze zk zp zc zi zf zj zq zw zl zo zn po), 0, 0) := by
  unfold f_inv at h
  refine OEnds.adv hm_31 6 (pc' := 10) (L' := [qr 1, ql v1, qw]) (S' := [.long (za - (2 : Int64)), .long v1, .ref 1]) (H' := (c0 :: bk0 zm zg zh zv zu zt zs zr zd za zb ze zk zp zc zi zf zj zq zw zl zo zn po)) rfl ?_
  obtain ⟨r32, hq54, h⟩ := bnd h
  refine OEnds.call0 hm_31 rfl rfl (by decide) rfl (as := [.ref 1, .long v1, .long (za - (2 : Int64))]) (rest := []) rfl rfl (ok_powMod hq54) ?_
  show OEnds own_P 31 13 [qr 1, ql v1, qw] [.long r32] (c0 :: bk0 zm zg zh zv zu zt zs zr zd za zb ze zk zp zc zi zf zj zq zw zl zo zn po) _
  cases h
  exact OEnds.lret hm_31 rfl rfl
theorem ok_pointAdd_130 {zm zg : List Int64} {zh : List Int32} {zv : List Int64} {zu : List Int32} {zt zs : List Int64} {zr zd : List Int32} {za zb ze zk zp : Int64} {zc : Int32} {zi zf : Int64} {zj : Int32} {zq : Int64} {zw : Int32} {c0 : ACell} {po : List ACell} : ∀ {zl : Int32} {zo zn v1 v3 v6 v11 v13 : Int64} {d5 d8 d9 d10 d15 d16 d17 d18 d19 d20 d21 d22 d23 d24 d25 d26 d27 d28 d29 d30 : Slot} {w_o_resInf : Int32} {w_o_resX : Int64} {w_o_resY : Int64}, f_pointAdd_130 za zb zl zo zn v1 v3 v6 v11 v13 = some (w_o_resInf, w_o_resX, w_o_resY) → OEnds own_P 14 130 [qr 1, ql v1, qw, ql v3, qw, d5, ql v6, qw, d8, d9, d10, ql v11, qw, ql v13, qw, d15, d16, d17, d18, d19, d20, d21, d22, d23, d24, d25, d26, d27, d28, d29, d30] [] (c0 :: bk0 zm zg zh zv zu zt zs zr zd za zb ze zk zp zc zi zf zj zq zw zl zo zn po) (none, (c0 :: bk0 zm zg zh zv zu zt zs zr zd za zb ze zk zp zc zi zf zj zq zw w_o_resInf w_o_resX w_o_resY po), 0, 0) := by
  intro zl zo zn v1 v3 v6 v11 v13 d5 d8 d9 d10 d15 d16 d17 d18 d19 d20 d21 d22 d23 d24 d25 d26 d27 d28 d29 d30 w_o_resInf w_o_resX w_o_resY h
  unfold f_pointAdd_130 at h
  refine OEnds.adv hm_14 2 (pc' := 133) (L' := [qr 1, ql v1, qw, ql v3, qw, qu, ql v6, qw, qu, qu, qu, ql v11, qw, ql v13, qw, qu, qu, qu, qu, qu, qu, qu, qu, qu, qu, qu, qu, qu, qu, qu, qu]) (S' := [.long v13, .ref 1]) (H' := (c0 :: bk0 zm zg zh zv zu zt zs zr zd za zb ze zk zp zc zi zf zj zq zw zl zo zn po)) rfl ?_
  obtain ⟨r47, hq55, h⟩ := bnd h
  refine OEnds.call0 hm_14 rfl rfl (by decide) rfl (as := [.ref 1, .long v13]) (rest := []) rfl rfl (ok_inv hq55) ?_
  refine OEnds.adv hm_14 4 (pc' := 143) (L' := [qr 1, ql v1, qw, ql v3, qw, qu, ql v6, qw, qu, qu, qu, ql v11, qw, ql v13, qw, ql r47, qw, qu, qu, qu, qu, qu, qu, qu, qu, qu, qu, qu, qu, qu, qu]) (S' := [.long r47, .long v11, .ref 1]) (H' := (c0 :: bk0 zm zg zh zv zu zt zs zr zd za zb ze zk zp zc zi zf zj zq zw zl zo zn po)) rfl ?_
  obtain ⟨r48, hq56, h⟩ := bnd h
  refine OEnds.call0 hm_14 rfl rfl (by decide) rfl (as := [.ref 1, .long v11, .long r47]) (rest := []) rfl rfl (ok_mulMod hq56) ?_
  refine OEnds.adv hm_14 4 (pc' := 153) (L' := [qr 1, ql v1, qw, ql v3, qw, qu, ql v6, qw, qu, qu, qu, ql v11, qw, ql v13, qw, ql r47, qw, ql r48, qw, qu, qu, qu, qu, qu, qu, qu, qu, qu, qu, qu, qu]) (S' := [.long r48, .long r48, .ref 1]) (H' := (c0 :: bk0 zm zg zh zv zu zt zs zr zd za zb ze zk zp zc zi zf zj zq zw zl zo zn po)) rfl ?_
  obtain ⟨r49, hq57, h⟩ := bnd h
  refine OEnds.call0 hm_14 rfl rfl (by decide) rfl (as := [.ref 1, .long r48, .long r48]) (rest := []) rfl rfl (ok_mulMod hq57) ?_
  refine OEnds.adv hm_14 4 (pc' := 162) (L' := [qr 1, ql v1, qw, ql v3, qw, qu, ql v6, qw, qu, qu, qu, ql v11, qw, ql v13, qw, ql r47, qw, ql r48, qw, ql r49, qw, qu, qu, qu, qu, qu, qu, qu, qu, qu, qu]) (S' := [.long v1, .long r49, .ref 1]) (H' := (c0 :: bk0 zm zg zh zv zu zt zs zr zd za zb ze zk zp zc zi zf zj zq zw zl zo zn po)) rfl ?_
  obtain ⟨r50, hq58, h⟩ := bnd h
  refine OEnds.call0 hm_14 rfl rfl (by decide) rfl (as := [.ref 1, .long r49, .long v1]) (rest := []) rfl rfl (ok_subMod hq58) ?_
  refine OEnds.adv hm_14 4 (pc' := 172) (L' := [qr 1, ql v1, qw, ql v3, qw, qu, ql v6, qw, qu, qu, qu, ql v11, qw, ql v13, qw, ql r47, qw, ql r48, qw, ql r49, qw, ql r50, qw, qu, qu, qu, qu, qu, qu, qu, qu]) (S' := [.long v6, .long r50, .ref 1]) (H' := (c0 :: bk0 zm zg zh zv zu zt zs zr zd za zb ze zk zp zc zi zf zj zq zw zl zo zn po)) rfl ?_
  obtain ⟨r51, hq59, h⟩ := bnd h
  refine OEnds.call0 hm_14 rfl rfl (by decide) rfl (as := [.ref 1, .long r50, .long v6]) (rest := []) rfl rfl (ok_subMod hq59) ?_
  refine OEnds.adv hm_14 4 (pc' := 181) (L' := [qr 1, ql v1, qw, ql v3, qw, qu, ql v6, qw, qu, qu, qu, ql v11, qw, ql v13, qw, ql r47, qw, ql r48, qw, ql r49, qw, ql r50, qw, ql r51, qw, qu, qu, qu, qu, qu, qu]) (S' := [.long r51, .long v1, .ref 1]) (H' := (c0 :: bk0 zm zg zh zv zu zt zs zr zd za zb ze zk zp zc zi zf zj zq zw zl zo zn po)) rfl ?_
  obtain ⟨r52, hq60, h⟩ := bnd h
  refine OEnds.call0 hm_14 rfl rfl (by decide) rfl (as := [.ref 1, .long v1, .long r51]) (rest := []) rfl rfl (ok_subMod hq60) ?_
  refine OEnds.adv hm_14 4 (pc' := 191) (L' := [qr 1, ql v1, qw, ql v3, qw, qu, ql v6, qw, qu, qu, qu, ql v11, qw, ql v13, qw, ql r47, qw, ql r48, qw, ql r49, qw, ql r50, qw, ql r51, qw, ql r52, qw, qu, qu, qu, qu]) (S' := [.long r52, .long r48, .ref 1]) (H' := (c0 :: bk0 zm zg zh zv zu zt zs zr zd za zb ze zk zp zc zi zf zj zq zw zl zo zn po)) rfl ?_
  obtain ⟨r53, hq61, h⟩ := bnd h
  refine OEnds.call0 hm_14 rfl rfl (by decide) rfl (as := [.ref 1, .long r48, .long r52]) (rest := []) rfl rfl (ok_mulMod hq61) ?_
  refine OEnds.adv hm_14 4 (pc' := 200) (L' := [qr 1, ql v1, qw, ql v3, qw, qu, ql v6, qw, qu, qu, qu, ql v11, qw, ql v13, qw, ql r47, qw, ql r48, qw, ql r49, qw, ql r50, qw, ql r51, qw, ql r52, qw, ql r53, qw, qu, qu]) (S' := [.long v3, .long r53, .ref 1]) (H' := (c0 :: bk0 zm zg zh zv zu zt zs zr zd za zb ze zk zp zc zi zf zj zq zw zl zo zn po)) rfl ?_
  obtain ⟨r54, hq62, h⟩ := bnd h
  refine OEnds.call0 hm_14 rfl rfl (by decide) rfl (as := [.ref 1, .long r53, .long v3]) (rest := []) rfl rfl (ok_subMod hq62) ?_
  refine OEnds.adv hm_14 5 (pc' := 211) (L' := [qr 1, ql v1, qw, ql v3, qw, qu, ql v6, qw, qu, qu, qu, ql v11, qw, ql v13, qw, ql r47, qw, ql r48, qw, ql r49, qw, ql r50, qw, ql r51, qw, ql r52, qw, ql r53, qw, ql r54, qw]) (S' := [.int 0, .long r54, .long r51, .ref 1]) (H' := (c0 :: bk0 zm zg zh zv zu zt zs zr zd za zb ze zk zp zc zi zf zj zq zw zl zo zn po)) rfl ?_
  obtain ⟨⟨s55, s56, s57⟩, hq63, h⟩ := bnd h
  refine OEnds.call0 hm_14 rfl rfl (by decide) rfl (as := [.ref 1, .long r51, .long r54, .int 0]) (rest := []) rfl rfl (ok_setResult hq63) ?_
  show OEnds own_P 14 214 [qr 1, ql v1, qw, ql v3, qw, qu, ql v6, qw, qu, qu, qu, ql v11, qw, ql v13, qw, ql r47, qw, ql r48, qw, ql r49, qw, ql r50, qw, ql r51, qw, ql r52, qw, ql r53, qw, ql r54, qw] [] (c0 :: bk0 zm zg zh zv zu zt zs zr zd za zb ze zk zp zc zi zf zj zq zw s55 s56 s57 po) _
  cases h
  exact OEnds.vret hm_14 rfl rfl
theorem ok_pointAdd_112 {zm zg : List Int64} {zh : List Int32} {zv : List Int64} {zu : List Int32} {zt zs : List Int64} {zr zd : List Int32} {za zb ze zk zp : Int64} {zc : Int32} {zi zf : Int64} {zj : Int32} {zq : Int64} {zw : Int32} {c0 : ACell} {po : List ACell} : ∀ {zl : Int32} {zo zn v1 v3 v6 v8 : Int64} {d5 d10 d11 d12 d13 d14 d15 d16 d17 d18 d19 d20 d21 d22 d23 d24 d25 d26 d27 d28 d29 d30 : Slot} {w_o_resInf : Int32} {w_o_resX : Int64} {w_o_resY : Int64}, f_pointAdd_112 za zb zl zo zn v1 v3 v6 v8 = some (w_o_resInf, w_o_resX, w_o_resY) → OEnds own_P 14 112 [qr 1, ql v1, qw, ql v3, qw, d5, ql v6, qw, ql v8, qw, d10, d11, d12, d13, d14, d15, d16, d17, d18, d19, d20, d21, d22, d23, d24, d25, d26, d27, d28, d29, d30] [] (c0 :: bk0 zm zg zh zv zu zt zs zr zd za zb ze zk zp zc zi zf zj zq zw zl zo zn po) (none, (c0 :: bk0 zm zg zh zv zu zt zs zr zd za zb ze zk zp zc zi zf zj zq zw w_o_resInf w_o_resX w_o_resY po), 0, 0) := by
  intro zl zo zn v1 v3 v6 v8 d5 d10 d11 d12 d13 d14 d15 d16 d17 d18 d19 d20 d21 d22 d23 d24 d25 d26 d27 d28 d29 d30 w_o_resInf w_o_resX w_o_resY h
  unfold f_pointAdd_112 at h
  refine OEnds.adv hm_14 3 (pc' := 116) (L' := [qr 1, ql v1, qw, ql v3, qw, qu, ql v6, qw, ql v8, qw, qu, qu, qu, qu, qu, qu, qu, qu, qu, qu, qu, qu, qu, qu, qu, qu, qu, qu, qu, qu, qu]) (S' := [.long v3, .long v8, .ref 1]) (H' := (c0 :: bk0 zm zg zh zv zu zt zs zr zd za zb ze zk zp zc zi zf zj zq zw zl zo zn po)) rfl ?_
  obtain ⟨r58, hq64, h⟩ := bnd h
  refine OEnds.call0 hm_14 rfl rfl (by decide) rfl (as := [.ref 1, .long v8, .long v3]) (rest := []) rfl rfl (ok_subMod hq64) ?_
  refine OEnds.adv hm_14 4 (pc' := 125) (L' := [qr 1, ql v1, qw, ql v3, qw, qu, ql v6, qw, ql v8, qw, qu, ql r58, qw, qu, qu, qu, qu, qu, qu, qu, qu, qu, qu, qu, qu, qu, qu, qu, qu, qu, qu]) (S' := [.long v1, .long v6, .ref 1]) (H' := (c0 :: bk0 zm zg zh zv zu zt zs zr zd za zb ze zk zp zc zi zf zj zq zw zl zo zn po)) rfl ?_
  obtain ⟨r59, hq65, h⟩ := bnd h
  refine OEnds.call0 hm_14 rfl rfl (by decide) rfl (as := [.ref 1, .long v6, .long v1]) (rest := []) rfl rfl (ok_subMod hq65) ?_
  refine OEnds.adv hm_14 1 (pc' := 130) (L' := [qr 1, ql v1, qw, ql v3, qw, qu, ql v6, qw, ql v8, qw, qu, ql r58, qw, ql r59, qw, qu, qu, qu, qu, qu, qu, qu, qu, qu, qu, qu, qu, qu, qu, qu, qu]) (S' := []) (H' := (c0 :: bk0 zm zg zh zv zu zt zs zr zd za zb ze zk zp zc zi zf zj zq zw zl zo zn po)) rfl ?_
  exact ok_pointAdd_130 h
theorem ok_pointAdd_56 {zm zg : List Int64} {zh : List Int32} {zv : List Int64} {zu : List Int32} {zt zs : List Int64} {zr zd : List Int32} {za zb ze zk zp : Int64} {zc : Int32} {zi zf : Int64} {zj : Int32} {zq : Int64} {zw : Int32} {c0 : ACell} {po : List ACell} : ∀ {zl : Int32} {zo zn v1 v3 v6 v8 : Int64} {d5 d10 d11 d12 d13 d14 d15 d16 d17 d18 d19 d20 d21 d22 d23 d24 d25 d26 d27 d28 d29 d30 : Slot} {w_o_resInf : Int32} {w_o_resX : Int64} {w_o_resY : Int64}, f_pointAdd_56 za zb zl zo zn v1 v3 v6 v8 = some (w_o_resInf, w_o_resX, w_o_resY) → OEnds own_P 14 56 [qr 1, ql v1, qw, ql v3, qw, d5, ql v6, qw, ql v8, qw, d10, d11, d12, d13, d14, d15, d16, d17, d18, d19, d20, d21, d22, d23, d24, d25, d26, d27, d28, d29, d30] [] (c0 :: bk0 zm zg zh zv zu zt zs zr zd za zb ze zk zp zc zi zf zj zq zw zl zo zn po) (none, (c0 :: bk0 zm zg zh zv zu zt zs zr zd za zb ze zk zp zc zi zf zj zq zw w_o_resInf w_o_resX w_o_resY po), 0, 0) := by
  intro zl zo zn v1 v3 v6 v8 d5 d10 d11 d12 d13 d14 d15 d16 d17 d18 d19 d20 d21 d22 d23 d24 d25 d26 d27 d28 d29 d30 w_o_resInf w_o_resX w_o_resY h
  unfold f_pointAdd_56 at h
  refine OEnds.adv hm_14 3 (pc' := 60) (L' := [qr 1, ql v1, qw, ql v3, qw, qu, ql v6, qw, ql v8, qw, qu, qu, qu, qu, qu, qu, qu, qu, qu, qu, qu, qu, qu, qu, qu, qu, qu, qu, qu, qu, qu]) (S' := [.int (XT.cmpL v1 v6)]) (H' := (c0 :: bk0 zm zg zh zv zu zt zs zr zd za zb ze zk zp zc zi zf zj zq zw zl zo zn po)) rfl ?_
  by_cases hc66 : v1 = v6
  · simp only [if_pos hc66] at h
    refine OEnds.ifF hm_14 rfl ((teq (c_eq.mpr hc66)).2) ?_
    refine OEnds.adv hm_14 3 (pc' := 67) (L' := [qr 1, ql v1, qw, ql v3, qw, qu, ql v6, qw, ql v8, qw, qu, qu, qu, qu, qu, qu, qu, qu, qu, qu, qu, qu, qu, qu, qu, qu, qu, qu, qu, qu, qu]) (S' := [.int (XT.cmpL v3 v8)]) (H' := (c0 :: bk0 zm zg zh zv zu zt zs zr zd za zb ze zk zp zc zi zf zj zq zw zl zo zn po)) rfl ?_
    by_cases hc67 : v3 = v8
    · simp only [if_pos hc67] at h
      refine OEnds.ifF hm_14 rfl ((teq (c_eq.mpr hc67)).2) ?_
      refine OEnds.adv hm_14 3 (pc' := 73) (L' := [qr 1, ql v1, qw, ql v3, qw, qu, ql v6, qw, ql v8, qw, qu, qu, qu, qu, qu, qu, qu, qu, qu, qu, qu, qu, qu, qu, qu, qu, qu, qu, qu, qu, qu]) (S' := [.long v1, .long v1, .ref 1]) (H' := (c0 :: bk0 zm zg zh zv zu zt zs zr zd za zb ze zk zp zc zi zf zj zq zw zl zo zn po)) rfl ?_
      obtain ⟨r43, hq68, h⟩ := bnd h
      refine OEnds.call0 hm_14 rfl rfl (by decide) rfl (as := [.ref 1, .long v1, .long v1]) (rest := []) rfl rfl (ok_mulMod hq68) ?_
      refine OEnds.adv hm_14 4 (pc' := 84) (L' := [qr 1, ql v1, qw, ql v3, qw, qu, ql v6, qw, ql v8, qw, qu, qu, qu, qu, qu, ql r43, qw, qu, qu, qu, qu, qu, qu, qu, qu, qu, qu, qu, qu, qu, qu]) (S' := [.long r43, .long 3, .ref 1]) (H' := (c0 :: bk0 zm zg zh zv zu zt zs zr zd za zb ze zk zp zc zi zf zj zq zw zl zo zn po)) rfl ?_
      obtain ⟨r44, hq69, h⟩ := bnd h
      refine OEnds.call0 hm_14 rfl rfl (by decide) rfl (as := [.ref 1, .long 3, .long r43]) (rest := []) rfl rfl (ok_mulMod hq69) ?_
      refine OEnds.adv hm_14 5 (pc' := 96) (L' := [qr 1, ql v1, qw, ql v3, qw, qu, ql v6, qw, ql v8, qw, qu, qu, qu, qu, qu, ql r43, qw, ql r44, qw, qu, qu, qu, qu, qu, qu, qu, qu, qu, qu, qu, qu]) (S' := [.long zb, .long r44, .ref 1]) (H' := (c0 :: bk0 zm zg zh zv zu zt zs zr zd za zb ze zk zp zc zi zf zj zq zw zl zo zn po)) rfl ?_
      obtain ⟨r45, hq70, h⟩ := bnd h
      refine OEnds.call0 hm_14 rfl rfl (by decide) rfl (as := [.ref 1, .long r44, .long zb]) (rest := []) rfl rfl (ok_addMod hq70) ?_
      refine OEnds.adv hm_14 4 (pc' := 104) (L' := [qr 1, ql v1, qw, ql v3, qw, qu, ql v6, qw, ql v8, qw, qu, ql r45, qw, qu, qu, ql r43, qw, ql r44, qw, qu, qu, qu, qu, qu, qu, qu, qu, qu, qu, qu, qu]) (S' := [.long v3, .long v3, .ref 1]) (H' := (c0 :: bk0 zm zg zh zv zu zt zs zr zd za zb ze zk zp zc zi zf zj zq zw zl zo zn po)) rfl ?_
      obtain ⟨r46, hq71, h⟩ := bnd h
      refine OEnds.call0 hm_14 rfl rfl (by decide) rfl (as := [.ref 1, .long v3, .long v3]) (rest := []) rfl rfl (ok_addMod hq71) ?_
      refine OEnds.adv hm_14 2 (pc' := 130) (L' := [qr 1, ql v1, qw, ql v3, qw, qu, ql v6, qw, ql v8, qw, qu, ql r45, qw, ql r46, qw, ql r43, qw, ql r44, qw, qu, qu, qu, qu, qu, qu, qu, qu, qu, qu, qu, qu]) (S' := []) (H' := (c0 :: bk0 zm zg zh zv zu zt zs zr zd za zb ze zk zp zc zi zf zj zq zw zl zo zn po)) rfl ?_
      exact ok_pointAdd_130 h
    · simp only [if_neg hc67] at h
      refine OEnds.ifT hm_14 rfl (q := 112) rfl ((feq (mt c_eq.mp hc67)).2) ?_
      show OEnds own_P 14 112 [qr 1, ql v1, qw, ql v3, qw, qu, ql v6, qw, ql v8, qw, qu, qu, qu, qu, qu, qu, qu, qu, qu, qu, qu, qu, qu, qu, qu, qu, qu, qu, qu, qu, qu] [] (c0 :: bk0 zm zg zh zv zu zt zs zr zd za zb ze zk zp zc zi zf zj zq zw zl zo zn po) _
      exact ok_pointAdd_112 h
  · simp only [if_neg hc66] at h
    refine OEnds.ifT hm_14 rfl (q := 112) rfl ((feq (mt c_eq.mp hc66)).2) ?_
    show OEnds own_P 14 112 [qr 1, ql v1, qw, ql v3, qw, qu, ql v6, qw, ql v8, qw, qu, qu, qu, qu, qu, qu, qu, qu, qu, qu, qu, qu, qu, qu, qu, qu, qu, qu, qu, qu, qu] [] (c0 :: bk0 zm zg zh zv zu zt zs zr zd za zb ze zk zp zc zi zf zj zq zw zl zo zn po) _
    exact ok_pointAdd_112 h
theorem ok_pointAdd {zm zg : List Int64} {zh : List Int32} {zv : List Int64} {zu : List Int32} {zt zs : List Int64} {zr zd : List Int32} {za zb ze zk zp : Int64} {zc : Int32} {zi zf : Int64} {zj : Int32} {zq : Int64} {zw : Int32} {c0 : ACell} {po : List ACell} {zl : Int32} {zo zn v1 v3 : Int64} {v5 : Int32} {v6 v8 : Int64} {v10 w_o_resInf : Int32} {w_o_resX w_o_resY : Int64} (h : f_pointAdd za zb zl zo zn v1 v3 v5 v6 v8 v10 = some (w_o_resInf, w_o_resX, w_o_resY)) : OEnds own_P 14 0 [qr 1, ql v1, qw, ql v3, qw, qi v5, ql v6, qw, ql v8, qw, qi v10, qu, qu, qu, qu, qu, qu, qu, qu, qu, qu, qu, qu, qu, qu, qu, qu, qu, qu, qu, qu] [] (c0 :: bk0 zm zg zh zv zu zt zs zr zd za zb ze zk zp zc zi zf zj zq zw zl zo zn po) (none, (c0 :: bk0 zm zg zh zv zu zt zs zr zd za zb ze zk zp zc zi zf zj zq zw w_o_resInf w_o_resX w_o_resY po), 0, 0) := by
  unfold f_pointAdd at h
  refine OEnds.adv hm_14 1 (pc' := 2) (L' := [qr 1, ql v1, qw, ql v3, qw, qi v5, ql v6, qw, ql v8, qw, qi v10, qu, qu, qu, qu, qu, qu, qu, qu, qu, qu, qu, qu, qu, qu, qu, qu, qu, qu, qu, qu]) (S' := [.int v5]) (H' := (c0 :: bk0 zm zg zh zv zu zt zs zr zd za zb ze zk zp zc zi zf zj zq zw zl zo zn po)) rfl ?_
  by_cases hc72 : v5 = (0 : Int32)
  · simp only [if_pos hc72] at h
    refine OEnds.ifT hm_14 rfl (q := 16) rfl ((teq hc72).1) ?_
    refine OEnds.adv hm_14 1 (pc' := 18) (L' := [qr 1, ql v1, qw, ql v3, qw, qi v5, ql v6, qw, ql v8, qw, qi v10, qu, qu, qu, qu, qu, qu, qu, qu, qu, qu, qu, qu, qu, qu, qu, qu, qu, qu, qu, qu]) (S' := [.int v10]) (H' := (c0 :: bk0 zm zg zh zv zu zt zs zr zd za zb ze zk zp zc zi zf zj zq zw zl zo zn po)) rfl ?_
    by_cases hc73 : v10 = (0 : Int32)
    · simp only [if_pos hc73] at h
      refine OEnds.ifT hm_14 rfl (q := 29) rfl ((teq hc73).1) ?_
      refine OEnds.adv hm_14 3 (pc' := 33) (L' := [qr 1, ql v1, qw, ql v3, qw, qi v5, ql v6, qw, ql v8, qw, qi v10, qu, qu, qu, qu, qu, qu, qu, qu, qu, qu, qu, qu, qu, qu, qu, qu, qu, qu, qu, qu]) (S' := [.int (XT.cmpL v1 v6)]) (H' := (c0 :: bk0 zm zg zh zv zu zt zs zr zd za zb ze zk zp zc zi zf zj zq zw zl zo zn po)) rfl ?_
      by_cases hc74 : v1 = v6
      · simp only [if_pos hc74] at h
        refine OEnds.ifF hm_14 rfl ((teq (c_eq.mpr hc74)).2) ?_
        refine OEnds.adv hm_14 3 (pc' := 40) (L' := [qr 1, ql v1, qw, ql v3, qw, qi v5, ql v6, qw, ql v8, qw, qi v10, qu, qu, qu, qu, qu, qu, qu, qu, qu, qu, qu, qu, qu, qu, qu, qu, qu, qu, qu, qu]) (S' := [.long v8, .long v3, .ref 1]) (H' := (c0 :: bk0 zm zg zh zv zu zt zs zr zd za zb ze zk zp zc zi zf zj zq zw zl zo zn po)) rfl ?_
        obtain ⟨r33, hq75, h⟩ := bnd h
        refine OEnds.call0 hm_14 rfl rfl (by decide) rfl (as := [.ref 1, .long v3, .long v8]) (rest := []) rfl rfl (ok_addMod hq75) ?_
        refine OEnds.adv hm_14 2 (pc' := 45) (L' := [qr 1, ql v1, qw, ql v3, qw, qi v5, ql v6, qw, ql v8, qw, qi v10, qu, qu, qu, qu, qu, qu, qu, qu, qu, qu, qu, qu, qu, qu, qu, qu, qu, qu, qu, qu]) (S' := [.int (XT.cmpL r33 (0 : Int64))]) (H' := (c0 :: bk0 zm zg zh zv zu zt zs zr zd za zb ze zk zp zc zi zf zj zq zw zl zo zn po)) rfl ?_
        by_cases hc76 : r33 = (0 : Int64)
        · simp only [if_pos hc76] at h
          refine OEnds.ifF hm_14 rfl ((teq (c_eq.mpr hc76)).2) ?_
          refine OEnds.adv hm_14 4 (pc' := 52) (L' := [qr 1, ql v1, qw, ql v3, qw, qi v5, ql v6, qw, ql v8, qw, qi v10, qu, qu, qu, qu, qu, qu, qu, qu, qu, qu, qu, qu, qu, qu, qu, qu, qu, qu, qu, qu]) (S' := [.int 1, .long 0, .long 0, .ref 1]) (H' := (c0 :: bk0 zm zg zh zv zu zt zs zr zd za zb ze zk zp zc zi zf zj zq zw zl zo zn po)) rfl ?_
          obtain ⟨⟨s34, s35, s36⟩, hq77, h⟩ := bnd h
          refine OEnds.call0 hm_14 rfl rfl (by decide) rfl (as := [.ref 1, .long 0, .long 0, .int 1]) (rest := []) rfl rfl (ok_setResult hq77) ?_
          show OEnds own_P 14 55 [qr 1, ql v1, qw, ql v3, qw, qi v5, ql v6, qw, ql v8, qw, qi v10, qu, qu, qu, qu, qu, qu, qu, qu, qu, qu, qu, qu, qu, qu, qu, qu, qu, qu, qu, qu] [] (c0 :: bk0 zm zg zh zv zu zt zs zr zd za zb ze zk zp zc zi zf zj zq zw s34 s35 s36 po) _
          cases h
          exact OEnds.vret hm_14 rfl rfl
        · simp only [if_neg hc76] at h
          refine OEnds.ifT hm_14 rfl (q := 56) rfl ((feq (mt c_eq.mp hc76)).2) ?_
          show OEnds own_P 14 56 [qr 1, ql v1, qw, ql v3, qw, qi v5, ql v6, qw, ql v8, qw, qi v10, qu, qu, qu, qu, qu, qu, qu, qu, qu, qu, qu, qu, qu, qu, qu, qu, qu, qu, qu, qu] [] (c0 :: bk0 zm zg zh zv zu zt zs zr zd za zb ze zk zp zc zi zf zj zq zw zl zo zn po) _
          exact ok_pointAdd_56 h
      · simp only [if_neg hc74] at h
        refine OEnds.ifT hm_14 rfl (q := 56) rfl ((feq (mt c_eq.mp hc74)).2) ?_
        show OEnds own_P 14 56 [qr 1, ql v1, qw, ql v3, qw, qi v5, ql v6, qw, ql v8, qw, qi v10, qu, qu, qu, qu, qu, qu, qu, qu, qu, qu, qu, qu, qu, qu, qu, qu, qu, qu, qu, qu] [] (c0 :: bk0 zm zg zh zv zu zt zs zr zd za zb ze zk zp zc zi zf zj zq zw zl zo zn po) _
        exact ok_pointAdd_56 h
    · simp only [if_neg hc73] at h
      refine OEnds.ifF hm_14 rfl ((feq hc73).1) ?_
      refine OEnds.adv hm_14 4 (pc' := 25) (L' := [qr 1, ql v1, qw, ql v3, qw, qi v5, ql v6, qw, ql v8, qw, qi v10, qu, qu, qu, qu, qu, qu, qu, qu, qu, qu, qu, qu, qu, qu, qu, qu, qu, qu, qu, qu]) (S' := [.int 0, .long v3, .long v1, .ref 1]) (H' := (c0 :: bk0 zm zg zh zv zu zt zs zr zd za zb ze zk zp zc zi zf zj zq zw zl zo zn po)) rfl ?_
      obtain ⟨⟨s37, s38, s39⟩, hq78, h⟩ := bnd h
      refine OEnds.call0 hm_14 rfl rfl (by decide) rfl (as := [.ref 1, .long v1, .long v3, .int 0]) (rest := []) rfl rfl (ok_setResult hq78) ?_
      show OEnds own_P 14 28 [qr 1, ql v1, qw, ql v3, qw, qi v5, ql v6, qw, ql v8, qw, qi v10, qu, qu, qu, qu, qu, qu, qu, qu, qu, qu, qu, qu, qu, qu, qu, qu, qu, qu, qu, qu] [] (c0 :: bk0 zm zg zh zv zu zt zs zr zd za zb ze zk zp zc zi zf zj zq zw s37 s38 s39 po) _
      cases h
      exact OEnds.vret hm_14 rfl rfl
  · simp only [if_neg hc72] at h
    refine OEnds.ifF hm_14 rfl ((feq hc72).1) ?_
    refine OEnds.adv hm_14 4 (pc' := 12) (L' := [qr 1, ql v1, qw, ql v3, qw, qi v5, ql v6, qw, ql v8, qw, qi v10, qu, qu, qu, qu, qu, qu, qu, qu, qu, qu, qu, qu, qu, qu, qu, qu, qu, qu, qu, qu]) (S' := [.int v10, .long v8, .long v6, .ref 1]) (H' := (c0 :: bk0 zm zg zh zv zu zt zs zr zd za zb ze zk zp zc zi zf zj zq zw zl zo zn po)) rfl ?_
    obtain ⟨⟨s40, s41, s42⟩, hq79, h⟩ := bnd h
    refine OEnds.call0 hm_14 rfl rfl (by decide) rfl (as := [.ref 1, .long v6, .long v8, .int v10]) (rest := []) rfl rfl (ok_setResult hq79) ?_
    show OEnds own_P 14 15 [qr 1, ql v1, qw, ql v3, qw, qi v5, ql v6, qw, ql v8, qw, qi v10, qu, qu, qu, qu, qu, qu, qu, qu, qu, qu, qu, qu, qu, qu, qu, qu, qu, qu, qu, qu] [] (c0 :: bk0 zm zg zh zv zu zt zs zr zd za zb ze zk zp zc zi zf zj zq zw s40 s41 s42 po) _
    cases h
    exact OEnds.vret hm_14 rfl rfl
theorem ok_add {zv : List Int64} {zu : List Int32} {zt zs : List Int64} {zr zd : List Int32} {za zb ze zk zp : Int64} {zc : Int32} {zi zf : Int64} {zj : Int32} {zq : Int64} {zw : Int32} {c0 : ACell} {po : List ACell} {zm zg : List Int64} {zh : List Int32} {zl : Int32} {zo zn : Int64} {v1 v2 v3 res : Int32} {w_o_regX w_o_regY : List Int64} {w_o_regInf : List Int32} {w_o_resInf : Int32} {w_o_resX w_o_resY : Int64} (h : f_add za zb zm zg zh zl zo zn v1 v2 v3 = some (res, w_o_regX, w_o_regY, w_o_regInf, w_o_resInf, w_o_resX, w_o_resY)) : OEnds own_P 19 0 [qr 1, qi v1, qi v2, qi v3] [] (c0 :: bk0 zm zg zh zv zu zt zs zr zd za zb ze zk zp zc zi zf zj zq zw zl zo zn po) (some (.int res), (c0 :: bk0 w_o_regX w_o_regY w_o_regInf zv zu zt zs zr zd za zb ze zk zp zc zi zf zj zq zw w_o_resInf w_o_resX w_o_resY po), 0, 0) := by
  unfold f_add at h
  refine OEnds.adv hm_19 2 (pc' := 2) (L' := [qr 1, qi v1, qi v2, qi v3]) (S' := [.int v1, .ref 1]) (H' := (c0 :: bk0 zm zg zh zv zu zt zs zr zd za zb ze zk zp zc zi zf zj zq zw zl zo zn po)) rfl ?_
  obtain ⟨r80, hq80, h⟩ := bnd h
  refine OEnds.call0 hm_19 rfl rfl (by decide) rfl (as := [.ref 1, .int v1]) (rest := []) rfl rfl (ok_validRegister hq80) ?_
  show OEnds own_P 19 5 [qr 1, qi v1, qi v2, qi v3] [.int r80] (c0 :: bk0 zm zg zh zv zu zt zs zr zd za zb ze zk zp zc zi zf zj zq zw zl zo zn po) _
  by_cases hc81 : r80 = (0 : Int32)
  · simp only [if_pos hc81] at h
    refine OEnds.ifT hm_19 rfl (q := 24) rfl ((teq hc81).1) ?_
    refine OEnds.adv hm_19 1 (pc' := 25) (L' := [qr 1, qi v1, qi v2, qi v3]) (S' := [.int 0]) (H' := (c0 :: bk0 zm zg zh zv zu zt zs zr zd za zb ze zk zp zc zi zf zj zq zw zl zo zn po)) rfl ?_
    cases h
    exact OEnds.iret hm_19 rfl rfl
  · simp only [if_neg hc81] at h
    refine OEnds.ifF hm_19 rfl ((feq hc81).1) ?_
    refine OEnds.adv hm_19 2 (pc' := 10) (L' := [qr 1, qi v1, qi v2, qi v3]) (S' := [.int v2, .ref 1]) (H' := (c0 :: bk0 zm zg zh zv zu zt zs zr zd za zb ze zk zp zc zi zf zj zq zw zl zo zn po)) rfl ?_
    obtain ⟨r81, hq82, h⟩ := bnd h
    refine OEnds.call0 hm_19 rfl rfl (by decide) rfl (as := [.ref 1, .int v2]) (rest := []) rfl rfl (ok_validRegister hq82) ?_
    show OEnds own_P 19 13 [qr 1, qi v1, qi v2, qi v3] [.int r81] (c0 :: bk0 zm zg zh zv zu zt zs zr zd za zb ze zk zp zc zi zf zj zq zw zl zo zn po) _
    by_cases hc83 : r81 = (0 : Int32)
    · simp only [if_pos hc83] at h
      refine OEnds.ifT hm_19 rfl (q := 24) rfl ((teq hc83).1) ?_
      refine OEnds.adv hm_19 1 (pc' := 25) (L' := [qr 1, qi v1, qi v2, qi v3]) (S' := [.int 0]) (H' := (c0 :: bk0 zm zg zh zv zu zt zs zr zd za zb ze zk zp zc zi zf zj zq zw zl zo zn po)) rfl ?_
      cases h
      exact OEnds.iret hm_19 rfl rfl
    · simp only [if_neg hc83] at h
      refine OEnds.ifF hm_19 rfl ((feq hc83).1) ?_
      refine OEnds.adv hm_19 2 (pc' := 18) (L' := [qr 1, qi v1, qi v2, qi v3]) (S' := [.int v3, .ref 1]) (H' := (c0 :: bk0 zm zg zh zv zu zt zs zr zd za zb ze zk zp zc zi zf zj zq zw zl zo zn po)) rfl ?_
      obtain ⟨r82, hq84, h⟩ := bnd h
      refine OEnds.call0 hm_19 rfl rfl (by decide) rfl (as := [.ref 1, .int v3]) (rest := []) rfl rfl (ok_validRegister hq84) ?_
      show OEnds own_P 19 21 [qr 1, qi v1, qi v2, qi v3] [.int r82] (c0 :: bk0 zm zg zh zv zu zt zs zr zd za zb ze zk zp zc zi zf zj zq zw zl zo zn po) _
      by_cases hc85 : r82 = (0 : Int32)
      · simp only [if_pos hc85] at h
        refine OEnds.ifF hm_19 rfl ((teq hc85).2) ?_
        refine OEnds.adv hm_19 1 (pc' := 25) (L' := [qr 1, qi v1, qi v2, qi v3]) (S' := [.int 0]) (H' := (c0 :: bk0 zm zg zh zv zu zt zs zr zd za zb ze zk zp zc zi zf zj zq zw zl zo zn po)) rfl ?_
        cases h
        exact OEnds.iret hm_19 rfl rfl
      · simp only [if_neg hc85] at h
        refine OEnds.ifT hm_19 rfl (q := 26) rfl ((feq hc85).2) ?_
        refine OEnds.adv hm_19 4 (pc' := 32) (L' := [qr 1, qi v1, qi v2, qi v3]) (S' := [.int v2, .ref 2, .ref 1]) (H' := (c0 :: bk0 zm zg zh zv zu zt zs zr zd za zb ze zk zp zc zi zf zj zq zw zl zo zn po)) rfl ?_
        obtain ⟨x83, hx83, h⟩ := bnd h
        refine OEnds.plain hm_19 rfl rfl (x_laload rfl hx83) ?_
        refine OEnds.adv hm_19 3 (pc' := 38) (L' := [qr 1, qi v1, qi v2, qi v3]) (S' := [.int v2, .ref 3, .long x83, .ref 1]) (H' := (c0 :: bk0 zm zg zh zv zu zt zs zr zd za zb ze zk zp zc zi zf zj zq zw zl zo zn po)) rfl ?_
        obtain ⟨x84, hx84, h⟩ := bnd h
        refine OEnds.plain hm_19 rfl rfl (x_laload rfl hx84) ?_
        refine OEnds.adv hm_19 3 (pc' := 44) (L' := [qr 1, qi v1, qi v2, qi v3]) (S' := [.int v2, .ref 4, .long x84, .long x83, .ref 1]) (H' := (c0 :: bk0 zm zg zh zv zu zt zs zr zd za zb ze zk zp zc zi zf zj zq zw zl zo zn po)) rfl ?_
        obtain ⟨x85, hx85, h⟩ := bnd h
        refine OEnds.plain hm_19 rfl rfl (x_baload rfl hx85) ?_
        refine OEnds.adv hm_19 3 (pc' := 50) (L' := [qr 1, qi v1, qi v2, qi v3]) (S' := [.int v3, .ref 2, .int x85, .long x84, .long x83, .ref 1]) (H' := (c0 :: bk0 zm zg zh zv zu zt zs zr zd za zb ze zk zp zc zi zf zj zq zw zl zo zn po)) rfl ?_
        obtain ⟨x86, hx86, h⟩ := bnd h
        refine OEnds.plain hm_19 rfl rfl (x_laload rfl hx86) ?_
        refine OEnds.adv hm_19 3 (pc' := 56) (L' := [qr 1, qi v1, qi v2, qi v3]) (S' := [.int v3, .ref 3, .long x86, .int x85, .long x84, .long x83, .ref 1]) (H' := (c0 :: bk0 zm zg zh zv zu zt zs zr zd za zb ze zk zp zc zi zf zj zq zw zl zo zn po)) rfl ?_
        obtain ⟨x87, hx87, h⟩ := bnd h
        refine OEnds.plain hm_19 rfl rfl (x_laload rfl hx87) ?_
        refine OEnds.adv hm_19 3 (pc' := 62) (L' := [qr 1, qi v1, qi v2, qi v3]) (S' := [.int v3, .ref 4, .long x87, .long x86, .int x85, .long x84, .long x83, .ref 1]) (H' := (c0 :: bk0 zm zg zh zv zu zt zs zr zd za zb ze zk zp zc zi zf zj zq zw zl zo zn po)) rfl ?_
        obtain ⟨x88, hx88, h⟩ := bnd h
        refine OEnds.plain hm_19 rfl rfl (x_baload rfl hx88) ?_
        show OEnds own_P 19 63 [qr 1, qi v1, qi v2, qi v3] [.int x88, .long x87, .long x86, .int x85, .long x84, .long x83, .ref 1] (c0 :: bk0 zm zg zh zv zu zt zs zr zd za zb ze zk zp zc zi zf zj zq zw zl zo zn po) _
        obtain ⟨⟨s89, s90, s91⟩, hq86, h⟩ := bnd h
        refine OEnds.call0 hm_19 rfl rfl (by decide) rfl (as := [.ref 1, .long x83, .long x84, .int x85, .long x86, .long x87, .int x88]) (rest := []) rfl rfl (ok_pointAdd hq86) ?_
        refine OEnds.adv hm_19 8 (pc' := 80) (L' := [qr 1, qi v1, qi v2, qi v3]) (S' := [.int s89, .long s91, .long s90, .int v1, .ref 1]) (H' := (c0 :: bk0 zm zg zh zv zu zt zs zr zd za zb ze zk zp zc zi zf zj zq zw s89 s90 s91 po)) rfl ?_
        obtain ⟨⟨s92, s93, s94⟩, hq87, h⟩ := bnd h
        refine OEnds.call0 hm_19 rfl rfl (by decide) rfl (as := [.ref 1, .int v1, .long s90, .long s91, .int s89]) (rest := []) rfl rfl (ok_setRegister hq87) ?_
        refine OEnds.adv hm_19 1 (pc' := 84) (L' := [qr 1, qi v1, qi v2, qi v3]) (S' := [.int 1]) (H' := (c0 :: bk0 s92 s93 s94 zv zu zt zs zr zd za zb ze zk zp zc zi zf zj zq zw s89 s90 s91 po)) rfl ?_
        cases h
        exact OEnds.iret hm_19 rfl rfl
theorem ok_validParty {zm zg : List Int64} {zh : List Int32} {zv : List Int64} {zu : List Int32} {zt zs : List Int64} {zr zd : List Int32} {za zb ze zk zp : Int64} {zc : Int32} {zi zf : Int64} {zj : Int32} {zq : Int64} {zw zl : Int32} {zo zn : Int64} {c0 : ACell} {po : List ACell} {v1 res : Int32} (h : f_validParty v1 = some res) : OEnds own_P 12 0 [qr 1, qi v1] [] (c0 :: bk0 zm zg zh zv zu zt zs zr zd za zb ze zk zp zc zi zf zj zq zw zl zo zn po) (some (.int res), (c0 :: bk0 zm zg zh zv zu zt zs zr zd za zb ze zk zp zc zi zf zj zq zw zl zo zn po), 0, 0) := by
  unfold f_validParty at h
  refine OEnds.adv hm_12 1 (pc' := 1) (L' := [qr 1, qi v1]) (S' := [.int v1]) (H' := (c0 :: bk0 zm zg zh zv zu zt zs zr zd za zb ze zk zp zc zi zf zj zq zw zl zo zn po)) rfl ?_
  by_cases hc88 : v1 < (0 : Int32)
  · simp only [if_pos hc88] at h
    refine OEnds.ifT hm_12 rfl (q := 13) rfl ((tlt hc88).1) ?_
    refine OEnds.adv hm_12 1 (pc' := 14) (L' := [qr 1, qi v1]) (S' := [.int 0]) (H' := (c0 :: bk0 zm zg zh zv zu zt zs zr zd za zb ze zk zp zc zi zf zj zq zw zl zo zn po)) rfl ?_
    cases h
    exact OEnds.iret hm_12 rfl rfl
  · simp only [if_neg hc88] at h
    refine OEnds.ifF hm_12 rfl ((flt hc88).1) ?_
    refine OEnds.adv hm_12 2 (pc' := 6) (L' := [qr 1, qi v1]) (S' := [.int 4, .int v1]) (H' := (c0 :: bk0 zm zg zh zv zu zt zs zr zd za zb ze zk zp zc zi zf zj zq zw zl zo zn po)) rfl ?_
    by_cases hc89 : v1 < (4 : Int32)
    · simp only [if_pos hc89] at h
      refine OEnds.icmpF hm_12 rfl ((tlt hc89).2.1) ?_
      refine OEnds.adv hm_12 2 (pc' := 14) (L' := [qr 1, qi v1]) (S' := [.int 1]) (H' := (c0 :: bk0 zm zg zh zv zu zt zs zr zd za zb ze zk zp zc zi zf zj zq zw zl zo zn po)) rfl ?_
      cases h
      exact OEnds.iret hm_12 rfl rfl
    · simp only [if_neg hc89] at h
      refine OEnds.icmpT hm_12 rfl (q := 13) rfl ((flt hc89).2.1) ?_
      refine OEnds.adv hm_12 1 (pc' := 14) (L' := [qr 1, qi v1]) (S' := [.int 0]) (H' := (c0 :: bk0 zm zg zh zv zu zt zs zr zd za zb ze zk zp zc zi zf zj zq zw zl zo zn po)) rfl ?_
      cases h
      exact OEnds.iret hm_12 rfl rfl
theorem ok_scalarMul_102 {zm zg : List Int64} {zh : List Int32} {zv : List Int64} {zu : List Int32} {zt zs : List Int64} {zr zd : List Int32} {za zb ze zk zp : Int64} {zc : Int32} {zi zf : Int64} {zj : Int32} {zq : Int64} {zw : Int32} {c0 : ACell} {po : List ACell} : ∀ {zl : Int32} {zo zn v8 v10 : Int64} {v12 : Int32} {d1 d2 d3 d4 d5 d6 d7 d13 : Slot} {w_o_resInf : Int32} {w_o_resX : Int64} {w_o_resY : Int64}, f_scalarMul_102 za zb zl zo zn v8 v10 v12 = some (w_o_resInf, w_o_resX, w_o_resY) → OEnds own_P 13 102 [qr 1, d1, d2, d3, d4, d5, d6, d7, ql v8, qw, ql v10, qw, qi v12, d13] [] (c0 :: bk0 zm zg zh zv zu zt zs zr zd za zb ze zk zp zc zi zf zj zq zw zl zo zn po) (none, (c0 :: bk0 zm zg zh zv zu zt zs zr zd za zb ze zk zp zc zi zf zj zq zw w_o_resInf w_o_resX w_o_resY po), 0, 0) := by
  intro zl zo zn v8 v10 v12 d1 d2 d3 d4 d5 d6 d7 d13 w_o_resInf w_o_resX w_o_resY h
  unfold f_scalarMul_102 at h
  refine OEnds.adv hm_13 4 (pc' := 109) (L' := [qr 1, qu, qu, qu, qu, qu, qu, qu, ql v8, qw, ql v10, qw, qi v12, qu]) (S' := [.int v12, .long v10, .long v8, .ref 1]) (H' := (c0 :: bk0 zm zg zh zv zu zt zs zr zd za zb ze zk zp zc zi zf zj zq zw zl zo zn po)) rfl ?_
  obtain ⟨⟨s66, s67, s68⟩, hq90, h⟩ := bnd h
  refine OEnds.call0 hm_13 rfl rfl (by decide) rfl (as := [.ref 1, .long v8, .long v10, .int v12]) (rest := []) rfl rfl (ok_setResult hq90) ?_
  show OEnds own_P 13 112 [qr 1, qu, qu, qu, qu, qu, qu, qu, ql v8, qw, ql v10, qw, qi v12, qu] [] (c0 :: bk0 zm zg zh zv zu zt zs zr zd za zb ze zk zp zc zi zf zj zq zw s66 s67 s68 po) _
  cases h
  exact OEnds.vret hm_13 rfl rfl
theorem ok_scalarMul_13 {zm zg : List Int64} {zh : List Int32} {zv : List Int64} {zu : List Int32} {zt zs : List Int64} {zr zd : List Int32} {za zb ze zk zp : Int64} {zc : Int32} {zi zf : Int64} {zj : Int32} {zq : Int64} {zw : Int32} {c0 : ACell} {po : List ACell} {k102 : Int32 → Int64 → Int64 → Int64 → Int64 → Int32 → Option (Int32 × Int64 × Int64)} (hk102 : ∀ {zl : Int32} {zo zn v8 v10 : Int64} {v12 : Int32} {d1 d2 d3 d4 d5 d6 d7 d13 : Slot} {w_o_resInf : Int32} {w_o_resX : Int64} {w_o_resY : Int64}, k102 zl zo zn v8 v10 v12 = some (w_o_resInf, w_o_resX, w_o_resY) → OEnds own_P 13 102 [qr 1, d1, d2, d3, d4, d5, d6, d7, ql v8, qw, ql v10, qw, qi v12, d13] [] (c0 :: bk0 zm zg zh zv zu zt zs zr zd za zb ze zk zp zc zi zf zj zq zw zl zo zn po) (none, (c0 :: bk0 zm zg zh zv zu zt zs zr zd za zb ze zk zp zc zi zf zj zq zw w_o_resInf w_o_resX w_o_resY po), 0, 0)) : ∀ (n : Nat), ∀ {zl : Int32} {zo zn v1 v3 : Int64} {v5 : Int32} {v6 v8 v10 : Int64} {v12 v13 w_o_resInf : Int32} {w_o_resX : Int64} {w_o_resY : Int64}, f_scalarMul_13 k102 za zb n zl zo zn v1 v3 v5 v6 v8 v10 v12 v13 = some (w_o_resInf, w_o_resX, w_o_resY) → OEnds own_P 13 13 [qr 1, ql v1, qw, ql v3, qw, qi v5, ql v6, qw, ql v8, qw, ql v10, qw, qi v12, qi v13] [] (c0 :: bk0 zm zg zh zv zu zt zs zr zd za zb ze zk zp zc zi zf zj zq zw zl zo zn po) (none, (c0 :: bk0 zm zg zh zv zu zt zs zr zd za zb ze zk zp zc zi zf zj zq zw w_o_resInf w_o_resX w_o_resY po), 0, 0) := by
  intro n
  induction n with
  | zero => intro zl zo zn v1 v3 v5 v6 v8 v10 v12 v13 w_o_resInf w_o_resX w_o_resY h; cases h
  | succ n ih =>
    intro zl zo zn v1 v3 v5 v6 v8 v10 v12 v13 w_o_resInf w_o_resX w_o_resY h
    unfold f_scalarMul_13 at h
    refine OEnds.adv hm_13 1 (pc' := 15) (L' := [qr 1, ql v1, qw, ql v3, qw, qi v5, ql v6, qw, ql v8, qw, ql v10, qw, qi v12, qi v13]) (S' := [.int v13]) (H' := (c0 :: bk0 zm zg zh zv zu zt zs zr zd za zb ze zk zp zc zi zf zj zq zw zl zo zn po)) rfl ?_
    by_cases hc91 : v13 < (0 : Int32)
    · simp only [if_pos hc91] at h
      refine OEnds.ifT hm_13 rfl (q := 102) rfl ((tlt hc91).1) ?_
      show OEnds own_P 13 102 [qr 1, ql v1, qw, ql v3, qw, qi v5, ql v6, qw, ql v8, qw, ql v10, qw, qi v12, qi v13] [] (c0 :: bk0 zm zg zh zv zu zt zs zr zd za zb ze zk zp zc zi zf zj zq zw zl zo zn po) _
      exact hk102 h
    · simp only [if_neg hc91] at h
      refine OEnds.ifF hm_13 rfl ((flt hc91).1) ?_
      refine OEnds.adv hm_13 7 (pc' := 31) (L' := [qr 1, ql v1, qw, ql v3, qw, qi v5, ql v6, qw, ql v8, qw, ql v10, qw, qi v12, qi v13]) (S' := [.int v12, .long v10, .long v8, .int v12, .long v10, .long v8, .ref 1]) (H' := (c0 :: bk0 zm zg zh zv zu zt zs zr zd za zb ze zk zp zc zi zf zj zq zw zl zo zn po)) rfl ?_
      obtain ⟨⟨s60, s61, s62⟩, hq92, h⟩ := bnd h
      refine OEnds.call0 hm_13 rfl rfl (by decide) rfl (as := [.ref 1, .long v8, .long v10, .int v12, .long v8, .long v10, .int v12]) (rest := []) rfl rfl (ok_pointAdd hq92) ?_
      refine OEnds.adv hm_13 16 (pc' := 61) (L' := [qr 1, ql v1, qw, ql v3, qw, qi v5, ql v6, qw, ql s61, qw, ql s62, qw, qi s60, qi v13]) (S' := [.int (XT.cmpL ((XT.ushrL v6 v13) &&& (1 : Int64)) (1 : Int64))]) (H' := (c0 :: bk0 zm zg zh zv zu zt zs zr zd za zb ze zk zp zc zi zf zj zq zw s60 s61 s62 po)) rfl ?_
      by_cases hc93 : ((XT.ushrL v6 v13) &&& (1 : Int64)) = (1 : Int64)
      · simp only [if_pos hc93] at h
        refine OEnds.ifF hm_13 rfl ((teq (c_eq.mpr hc93)).2) ?_
        refine OEnds.adv hm_13 7 (pc' := 75) (L' := [qr 1, ql v1, qw, ql v3, qw, qi v5, ql v6, qw, ql s61, qw, ql s62, qw, qi s60, qi v13]) (S' := [.int v5, .long v3, .long v1, .int s60, .long s62, .long s61, .ref 1]) (H' := (c0 :: bk0 zm zg zh zv zu zt zs zr zd za zb ze zk zp zc zi zf zj zq zw s60 s61 s62 po)) rfl ?_
        obtain ⟨⟨s63, s64, s65⟩, hq94, h⟩ := bnd h
        refine OEnds.call0 hm_13 rfl rfl (by decide) rfl (as := [.ref 1, .long s61, .long s62, .int s60, .long v1, .long v3, .int v5]) (rest := []) rfl rfl (ok_pointAdd hq94) ?_
        refine OEnds.adv hm_13 11 (pc' := 13) (L' := [qr 1, ql v1, qw, ql v3, qw, qi v5, ql v6, qw, ql s64, qw, ql s65, qw, qi s63, qi (v13 + (-1 : Int32))]) (S' := []) (H' := (c0 :: bk0 zm zg zh zv zu zt zs zr zd za zb ze zk zp zc zi zf zj zq zw s63 s64 s65 po)) rfl ?_
        exact ih h
      · simp only [if_neg hc93] at h
        refine OEnds.ifT hm_13 rfl (q := 96) rfl ((feq (mt c_eq.mp hc93)).2) ?_
        refine OEnds.adv hm_13 2 (pc' := 13) (L' := [qr 1, ql v1, qw, ql v3, qw, qi v5, ql v6, qw, ql s61, qw, ql s62, qw, qi s60, qi (v13 + (-1 : Int32))]) (S' := []) (H' := (c0 :: bk0 zm zg zh zv zu zt zs zr zd za zb ze zk zp zc zi zf zj zq zw s60 s61 s62 po)) rfl ?_
        exact ih h
theorem ok_scalarMul {zm zg : List Int64} {zh : List Int32} {zv : List Int64} {zu : List Int32} {zt zs : List Int64} {zr zd : List Int32} {za zb ze zk zp : Int64} {zc : Int32} {zi zf : Int64} {zj : Int32} {zq : Int64} {zw : Int32} {c0 : ACell} {po : List ACell} {zl : Int32} {zo zn v1 v3 : Int64} {v5 : Int32} {v6 : Int64} {w_o_resInf : Int32} {w_o_resX w_o_resY : Int64} (h : f_scalarMul za zb zl zo zn v1 v3 v5 v6 = some (w_o_resInf, w_o_resX, w_o_resY)) : OEnds own_P 13 0 [qr 1, ql v1, qw, ql v3, qw, qi v5, ql v6, qw, qu, qu, qu, qu, qu, qu] [] (c0 :: bk0 zm zg zh zv zu zt zs zr zd za zb ze zk zp zc zi zf zj zq zw zl zo zn po) (none, (c0 :: bk0 zm zg zh zv zu zt zs zr zd za zb ze zk zp zc zi zf zj zq zw w_o_resInf w_o_resX w_o_resY po), 0, 0) := by
  unfold f_scalarMul at h
  refine OEnds.adv hm_13 8 (pc' := 13) (L' := [qr 1, ql v1, qw, ql v3, qw, qi v5, ql v6, qw, ql 0, qw, ql 0, qw, qi 1, qi 47]) (S' := []) (H' := (c0 :: bk0 zm zg zh zv zu zt zs zr zd za zb ze zk zp zc zi zf zj zq zw zl zo zn po)) rfl ?_
  exact ok_scalarMul_13 (k102 := f_scalarMul_102 za zb) ok_scalarMul_102 100000 h
theorem ok_genKey {zm zg : List Int64} {zh zd : List Int32} {za zb ze zk zp : Int64} {zc : Int32} {zi zf : Int64} {zj : Int32} {zq : Int64} {zw : Int32} {c0 : ACell} {po : List ACell} {zv : List Int64} {zu : List Int32} {zt zs : List Int64} {zr : List Int32} {zl : Int32} {zo zn : Int64} {v1 v2 res : Int32} {w_o_privKey : List Int64} {w_o_hasKey : List Int32} {w_o_pubX w_o_pubY : List Int64} {w_o_pubInf : List Int32} {w_o_resInf : Int32} {w_o_resX w_o_resY : Int64} (h : f_genKey za zb ze zk zv zu zt zs zr zl zo zn v1 v2 = some (res, w_o_privKey, w_o_hasKey, w_o_pubX, w_o_pubY, w_o_pubInf, w_o_resInf, w_o_resX, w_o_resY)) : OEnds own_P 11 0 [qr 1, qi v1, qi v2] [] (c0 :: bk0 zm zg zh zv zu zt zs zr zd za zb ze zk zp zc zi zf zj zq zw zl zo zn po) (some (.int res), (c0 :: bk0 zm zg zh w_o_privKey w_o_hasKey w_o_pubX w_o_pubY w_o_pubInf zd za zb ze zk zp zc zi zf zj zq zw w_o_resInf w_o_resX w_o_resY po), 0, 0) := by
  unfold f_genKey at h
  refine OEnds.adv hm_11 2 (pc' := 2) (L' := [qr 1, qi v1, qi v2]) (S' := [.int v1, .ref 1]) (H' := (c0 :: bk0 zm zg zh zv zu zt zs zr zd za zb ze zk zp zc zi zf zj zq zw zl zo zn po)) rfl ?_
  obtain ⟨r103, hq95, h⟩ := bnd h
  refine OEnds.call0 hm_11 rfl rfl (by decide) rfl (as := [.ref 1, .int v1]) (rest := []) rfl rfl (ok_validParty hq95) ?_
  show OEnds own_P 11 5 [qr 1, qi v1, qi v2] [.int r103] (c0 :: bk0 zm zg zh zv zu zt zs zr zd za zb ze zk zp zc zi zf zj zq zw zl zo zn po) _
  by_cases hc96 : r103 = (0 : Int32)
  · simp only [if_pos hc96] at h
    refine OEnds.ifT hm_11 rfl (q := 13) rfl ((teq hc96).1) ?_
    refine OEnds.adv hm_11 1 (pc' := 14) (L' := [qr 1, qi v1, qi v2]) (S' := [.int 0]) (H' := (c0 :: bk0 zm zg zh zv zu zt zs zr zd za zb ze zk zp zc zi zf zj zq zw zl zo zn po)) rfl ?_
    cases h
    exact OEnds.iret hm_11 rfl rfl
  · simp only [if_neg hc96] at h
    refine OEnds.ifF hm_11 rfl ((feq hc96).1) ?_
    refine OEnds.adv hm_11 2 (pc' := 10) (L' := [qr 1, qi v1, qi v2]) (S' := [.int 1, .int v2]) (H' := (c0 :: bk0 zm zg zh zv zu zt zs zr zd za zb ze zk zp zc zi zf zj zq zw zl zo zn po)) rfl ?_
    by_cases hc97 : v2 < (1 : Int32)
    · simp only [if_pos hc97] at h
      refine OEnds.icmpF hm_11 rfl ((tlt hc97).2.1) ?_
      refine OEnds.adv hm_11 1 (pc' := 14) (L' := [qr 1, qi v1, qi v2]) (S' := [.int 0]) (H' := (c0 :: bk0 zm zg zh zv zu zt zs zr zd za zb ze zk zp zc zi zf zj zq zw zl zo zn po)) rfl ?_
      cases h
      exact OEnds.iret hm_11 rfl rfl
    · simp only [if_neg hc97] at h
      refine OEnds.icmpT hm_11 rfl (q := 15) rfl ((flt hc97).2.1) ?_
      refine OEnds.adv hm_11 8 (pc' := 27) (L' := [qr 1, qi v1, qi v2]) (S' := [.long v2.toInt64, .int 0, .long zk, .long ze, .ref 1]) (H' := (c0 :: bk0 zm zg zh zv zu zt zs zr zd za zb ze zk zp zc zi zf zj zq zw zl zo zn po)) rfl ?_
      obtain ⟨⟨s104, s105, s106⟩, hq98, h⟩ := bnd h
      refine OEnds.call0 hm_11 rfl rfl (by decide) rfl (as := [.ref 1, .long ze, .long zk, .int 0, .long v2.toInt64]) (rest := []) rfl rfl (ok_scalarMul hq98) ?_
      refine OEnds.adv hm_11 5 (pc' := 37) (L' := [qr 1, qi v1, qi v2]) (S' := [.long v2.toInt64, .int v1, .ref 5]) (H' := (c0 :: bk0 zm zg zh zv zu zt zs zr zd za zb ze zk zp zc zi zf zj zq zw s104 s105 s106 po)) rfl ?_
      obtain ⟨A107, hA107, h⟩ := bnd h
      refine OEnds.plain hm_11 rfl rfl (x_lastore rfl (Nat.le_of_ble_eq_true rfl) hA107) ?_
      refine OEnds.adv hm_11 4 (pc' := 44) (L' := [qr 1, qi v1, qi v2]) (S' := [.int 1, .int v1, .ref 6]) (H' := (c0 :: bk0 zm zg zh A107 zu zt zs zr zd za zb ze zk zp zc zi zf zj zq zw s104 s105 s106 po)) rfl ?_
      obtain ⟨A108, hA108, h⟩ := bnd h
      refine OEnds.plain hm_11 rfl rfl (x_bastore rfl (Nat.le_of_ble_eq_true rfl) hA108) ?_
      refine OEnds.adv hm_11 5 (pc' := 54) (L' := [qr 1, qi v1, qi v2]) (S' := [.long s105, .int v1, .ref 7]) (H' := (c0 :: bk0 zm zg zh A107 A108 zt zs zr zd za zb ze zk zp zc zi zf zj zq zw s104 s105 s106 po)) rfl ?_
      obtain ⟨A109, hA109, h⟩ := bnd h
      refine OEnds.plain hm_11 rfl rfl (x_lastore rfl (Nat.le_of_ble_eq_true rfl) hA109) ?_
      refine OEnds.adv hm_11 5 (pc' := 64) (L' := [qr 1, qi v1, qi v2]) (S' := [.long s106, .int v1, .ref 8]) (H' := (c0 :: bk0 zm zg zh A107 A108 A109 zs zr zd za zb ze zk zp zc zi zf zj zq zw s104 s105 s106 po)) rfl ?_
      obtain ⟨A110, hA110, h⟩ := bnd h
      refine OEnds.plain hm_11 rfl rfl (x_lastore rfl (Nat.le_of_ble_eq_true rfl) hA110) ?_
      refine OEnds.adv hm_11 5 (pc' := 74) (L' := [qr 1, qi v1, qi v2]) (S' := [.int s104, .int v1, .ref 9]) (H' := (c0 :: bk0 zm zg zh A107 A108 A109 A110 zr zd za zb ze zk zp zc zi zf zj zq zw s104 s105 s106 po)) rfl ?_
      obtain ⟨A111, hA111, h⟩ := bnd h
      refine OEnds.plain hm_11 rfl rfl (x_bastore rfl (Nat.le_of_ble_eq_true rfl) hA111) ?_
      refine OEnds.adv hm_11 1 (pc' := 76) (L' := [qr 1, qi v1, qi v2]) (S' := [.int 1]) (H' := (c0 :: bk0 zm zg zh A107 A108 A109 A110 A111 zd za zb ze zk zp zc zi zf zj zq zw s104 s105 s106 po)) rfl ?_
      cases h
      exact OEnds.iret hm_11 rfl rfl
theorem ok_shared {zv : List Int64} {zu : List Int32} {zt zs : List Int64} {zr zd : List Int32} {za zb ze zk zp : Int64} {zc : Int32} {zi zf : Int64} {zj : Int32} {zq : Int64} {zw : Int32} {c0 : ACell} {po : List ACell} {zm zg : List Int64} {zh : List Int32} {zl : Int32} {zo zn : Int64} {v1 v2 v3 res : Int32} {w_o_regX w_o_regY : List Int64} {w_o_regInf : List Int32} {w_o_resInf : Int32} {w_o_resX w_o_resY : Int64} (h : f_shared zv zu zt zs zr za zb zm zg zh zl zo zn v1 v2 v3 = some (res, w_o_regX, w_o_regY, w_o_regInf, w_o_resInf, w_o_resX, w_o_resY)) : OEnds own_P 37 0 [qr 1, qi v1, qi v2, qi v3] [] (c0 :: bk0 zm zg zh zv zu zt zs zr zd za zb ze zk zp zc zi zf zj zq zw zl zo zn po) (some (.int res), (c0 :: bk0 w_o_regX w_o_regY w_o_regInf zv zu zt zs zr zd za zb ze zk zp zc zi zf zj zq zw w_o_resInf w_o_resX w_o_resY po), 0, 0) := by
  unfold f_shared at h
  refine OEnds.adv hm_37 2 (pc' := 2) (L' := [qr 1, qi v1, qi v2, qi v3]) (S' := [.int v1, .ref 1]) (H' := (c0 :: bk0 zm zg zh zv zu zt zs zr zd za zb ze zk zp zc zi zf zj zq zw zl zo zn po)) rfl ?_
  obtain ⟨r112, hq99, h⟩ := bnd h
  refine OEnds.call0 hm_37 rfl rfl (by decide) rfl (as := [.ref 1, .int v1]) (rest := []) rfl rfl (ok_validRegister hq99) ?_
  show OEnds own_P 37 5 [qr 1, qi v1, qi v2, qi v3] [.int r112] (c0 :: bk0 zm zg zh zv zu zt zs zr zd za zb ze zk zp zc zi zf zj zq zw zl zo zn po) _
  by_cases hc100 : r112 = (0 : Int32)
  · simp only [if_pos hc100] at h
    refine OEnds.ifT hm_37 rfl (q := 24) rfl ((teq hc100).1) ?_
    refine OEnds.adv hm_37 1 (pc' := 25) (L' := [qr 1, qi v1, qi v2, qi v3]) (S' := [.int 0]) (H' := (c0 :: bk0 zm zg zh zv zu zt zs zr zd za zb ze zk zp zc zi zf zj zq zw zl zo zn po)) rfl ?_
    cases h
    exact OEnds.iret hm_37 rfl rfl
  · simp only [if_neg hc100] at h
    refine OEnds.ifF hm_37 rfl ((feq hc100).1) ?_
    refine OEnds.adv hm_37 2 (pc' := 10) (L' := [qr 1, qi v1, qi v2, qi v3]) (S' := [.int v2, .ref 1]) (H' := (c0 :: bk0 zm zg zh zv zu zt zs zr zd za zb ze zk zp zc zi zf zj zq zw zl zo zn po)) rfl ?_
    obtain ⟨r113, hq101, h⟩ := bnd h
    refine OEnds.call0 hm_37 rfl rfl (by decide) rfl (as := [.ref 1, .int v2]) (rest := []) rfl rfl (ok_validParty hq101) ?_
    show OEnds own_P 37 13 [qr 1, qi v1, qi v2, qi v3] [.int r113] (c0 :: bk0 zm zg zh zv zu zt zs zr zd za zb ze zk zp zc zi zf zj zq zw zl zo zn po) _
    by_cases hc102 : r113 = (0 : Int32)
    · simp only [if_pos hc102] at h
      refine OEnds.ifT hm_37 rfl (q := 24) rfl ((teq hc102).1) ?_
      refine OEnds.adv hm_37 1 (pc' := 25) (L' := [qr 1, qi v1, qi v2, qi v3]) (S' := [.int 0]) (H' := (c0 :: bk0 zm zg zh zv zu zt zs zr zd za zb ze zk zp zc zi zf zj zq zw zl zo zn po)) rfl ?_
      cases h
      exact OEnds.iret hm_37 rfl rfl
    · simp only [if_neg hc102] at h
      refine OEnds.ifF hm_37 rfl ((feq hc102).1) ?_
      refine OEnds.adv hm_37 2 (pc' := 18) (L' := [qr 1, qi v1, qi v2, qi v3]) (S' := [.int v3, .ref 1]) (H' := (c0 :: bk0 zm zg zh zv zu zt zs zr zd za zb ze zk zp zc zi zf zj zq zw zl zo zn po)) rfl ?_
      obtain ⟨r114, hq103, h⟩ := bnd h
      refine OEnds.call0 hm_37 rfl rfl (by decide) rfl (as := [.ref 1, .int v3]) (rest := []) rfl rfl (ok_validParty hq103) ?_
      show OEnds own_P 37 21 [qr 1, qi v1, qi v2, qi v3] [.int r114] (c0 :: bk0 zm zg zh zv zu zt zs zr zd za zb ze zk zp zc zi zf zj zq zw zl zo zn po) _
      by_cases hc104 : r114 = (0 : Int32)
      · simp only [if_pos hc104] at h
        refine OEnds.ifF hm_37 rfl ((teq hc104).2) ?_
        refine OEnds.adv hm_37 1 (pc' := 25) (L' := [qr 1, qi v1, qi v2, qi v3]) (S' := [.int 0]) (H' := (c0 :: bk0 zm zg zh zv zu zt zs zr zd za zb ze zk zp zc zi zf zj zq zw zl zo zn po)) rfl ?_
        cases h
        exact OEnds.iret hm_37 rfl rfl
      · simp only [if_neg hc104] at h
        refine OEnds.ifT hm_37 rfl (q := 26) rfl ((feq hc104).2) ?_
        refine OEnds.adv hm_37 3 (pc' := 31) (L' := [qr 1, qi v1, qi v2, qi v3]) (S' := [.int v2, .ref 6]) (H' := (c0 :: bk0 zm zg zh zv zu zt zs zr zd za zb ze zk zp zc zi zf zj zq zw zl zo zn po)) rfl ?_
        obtain ⟨x115, hx115, h⟩ := bnd h
        refine OEnds.plain hm_37 rfl rfl (x_baload rfl hx115) ?_
        show OEnds own_P 37 32 [qr 1, qi v1, qi v2, qi v3] [.int x115] (c0 :: bk0 zm zg zh zv zu zt zs zr zd za zb ze zk zp zc zi zf zj zq zw zl zo zn po) _
        by_cases hc105 : x115 = (0 : Int32)
        · simp only [if_pos hc105] at h
          refine OEnds.ifT hm_37 rfl (q := 44) rfl ((teq hc105).1) ?_
          refine OEnds.adv hm_37 1 (pc' := 45) (L' := [qr 1, qi v1, qi v2, qi v3]) (S' := [.int 0]) (H' := (c0 :: bk0 zm zg zh zv zu zt zs zr zd za zb ze zk zp zc zi zf zj zq zw zl zo zn po)) rfl ?_
          cases h
          exact OEnds.iret hm_37 rfl rfl
        · simp only [if_neg hc105] at h
          refine OEnds.ifF hm_37 rfl ((feq hc105).1) ?_
          refine OEnds.adv hm_37 3 (pc' := 40) (L' := [qr 1, qi v1, qi v2, qi v3]) (S' := [.int v3, .ref 6]) (H' := (c0 :: bk0 zm zg zh zv zu zt zs zr zd za zb ze zk zp zc zi zf zj zq zw zl zo zn po)) rfl ?_
          obtain ⟨x116, hx116, h⟩ := bnd h
          refine OEnds.plain hm_37 rfl rfl (x_baload rfl hx116) ?_
          show OEnds own_P 37 41 [qr 1, qi v1, qi v2, qi v3] [.int x116] (c0 :: bk0 zm zg zh zv zu zt zs zr zd za zb ze zk zp zc zi zf zj zq zw zl zo zn po) _
          by_cases hc106 : x116 = (0 : Int32)
          · simp only [if_pos hc106] at h
            refine OEnds.ifF hm_37 rfl ((teq hc106).2) ?_
            refine OEnds.adv hm_37 1 (pc' := 45) (L' := [qr 1, qi v1, qi v2, qi v3]) (S' := [.int 0]) (H' := (c0 :: bk0 zm zg zh zv zu zt zs zr zd za zb ze zk zp zc zi zf zj zq zw zl zo zn po)) rfl ?_
            cases h
            exact OEnds.iret hm_37 rfl rfl
          · simp only [if_neg hc106] at h
            refine OEnds.ifT hm_37 rfl (q := 46) rfl ((feq hc106).2) ?_
            refine OEnds.adv hm_37 4 (pc' := 52) (L' := [qr 1, qi v1, qi v2, qi v3]) (S' := [.int v3, .ref 7, .ref 1]) (H' := (c0 :: bk0 zm zg zh zv zu zt zs zr zd za zb ze zk zp zc zi zf zj zq zw zl zo zn po)) rfl ?_
            obtain ⟨x117, hx117, h⟩ := bnd h
            refine OEnds.plain hm_37 rfl rfl (x_laload rfl hx117) ?_
            refine OEnds.adv hm_37 3 (pc' := 58) (L' := [qr 1, qi v1, qi v2, qi v3]) (S' := [.int v3, .ref 8, .long x117, .ref 1]) (H' := (c0 :: bk0 zm zg zh zv zu zt zs zr zd za zb ze zk zp zc zi zf zj zq zw zl zo zn po)) rfl ?_
            obtain ⟨x118, hx118, h⟩ := bnd h
            refine OEnds.plain hm_37 rfl rfl (x_laload rfl hx118) ?_
            refine OEnds.adv hm_37 3 (pc' := 64) (L' := [qr 1, qi v1, qi v2, qi v3]) (S' := [.int v3, .ref 9, .long x118, .long x117, .ref 1]) (H' := (c0 :: bk0 zm zg zh zv zu zt zs zr zd za zb ze zk zp zc zi zf zj zq zw zl zo zn po)) rfl ?_
            obtain ⟨x119, hx119, h⟩ := bnd h
            refine OEnds.plain hm_37 rfl rfl (x_baload rfl hx119) ?_
            refine OEnds.adv hm_37 3 (pc' := 70) (L' := [qr 1, qi v1, qi v2, qi v3]) (S' := [.int v2, .ref 5, .int x119, .long x118, .long x117, .ref 1]) (H' := (c0 :: bk0 zm zg zh zv zu zt zs zr zd za zb ze zk zp zc zi zf zj zq zw zl zo zn po)) rfl ?_
            obtain ⟨x120, hx120, h⟩ := bnd h
            refine OEnds.plain hm_37 rfl rfl (x_laload rfl hx120) ?_
            show OEnds own_P 37 71 [qr 1, qi v1, qi v2, qi v3] [.long x120, .int x119, .long x118, .long x117, .ref 1] (c0 :: bk0 zm zg zh zv zu zt zs zr zd za zb ze zk zp zc zi zf zj zq zw zl zo zn po) _
            obtain ⟨⟨s121, s122, s123⟩, hq107, h⟩ := bnd h
            refine OEnds.call0 hm_37 rfl rfl (by decide) rfl (as := [.ref 1, .long x117, .long x118, .int x119, .long x120]) (rest := []) rfl rfl (ok_scalarMul hq107) ?_
            refine OEnds.adv hm_37 8 (pc' := 88) (L' := [qr 1, qi v1, qi v2, qi v3]) (S' := [.int s121, .long s123, .long s122, .int v1, .ref 1]) (H' := (c0 :: bk0 zm zg zh zv zu zt zs zr zd za zb ze zk zp zc zi zf zj zq zw s121 s122 s123 po)) rfl ?_
            obtain ⟨⟨s124, s125, s126⟩, hq108, h⟩ := bnd h
            refine OEnds.call0 hm_37 rfl rfl (by decide) rfl (as := [.ref 1, .int v1, .long s122, .long s123, .int s121]) (rest := []) rfl rfl (ok_setRegister hq108) ?_
            refine OEnds.adv hm_37 1 (pc' := 92) (L' := [qr 1, qi v1, qi v2, qi v3]) (S' := [.int 1]) (H' := (c0 :: bk0 s124 s125 s126 zv zu zt zs zr zd za zb ze zk zp zc zi zf zj zq zw s121 s122 s123 po)) rfl ?_
            cases h
            exact OEnds.iret hm_37 rfl rfl
theorem ok_coord {zm zg : List Int64} {zh : List Int32} {zv : List Int64} {zu : List Int32} {zt zs : List Int64} {zr zd : List Int32} {za zb ze zk zp : Int64} {zc : Int32} {zi zf : Int64} {zj : Int32} {zq : Int64} {zw zl : Int32} {zo zn : Int64} {c0 : ACell} {po : List ACell} {v1 v2 res : Int32} (h : f_coord zm zg zh v1 v2 = some res) : OEnds own_P 21 0 [qr 1, qi v1, qi v2] [] (c0 :: bk0 zm zg zh zv zu zt zs zr zd za zb ze zk zp zc zi zf zj zq zw zl zo zn po) (some (.int res), (c0 :: bk0 zm zg zh zv zu zt zs zr zd za zb ze zk zp zc zi zf zj zq zw zl zo zn po), 0, 0) := by
  unfold f_coord at h
  refine OEnds.adv hm_21 2 (pc' := 2) (L' := [qr 1, qi v1, qi v2]) (S' := [.int v1, .ref 1]) (H' := (c0 :: bk0 zm zg zh zv zu zt zs zr zd za zb ze zk zp zc zi zf zj zq zw zl zo zn po)) rfl ?_
  obtain ⟨r95, hq109, h⟩ := bnd h
  refine OEnds.call0 hm_21 rfl rfl (by decide) rfl (as := [.ref 1, .int v1]) (rest := []) rfl rfl (ok_validRegister hq109) ?_
  show OEnds own_P 21 5 [qr 1, qi v1, qi v2] [.int r95] (c0 :: bk0 zm zg zh zv zu zt zs zr zd za zb ze zk zp zc zi zf zj zq zw zl zo zn po) _
  by_cases hc110 : r95 = (0 : Int32)
  · simp only [if_pos hc110] at h
    refine OEnds.ifF hm_21 rfl ((teq hc110).2) ?_
    refine OEnds.adv hm_21 1 (pc' := 9) (L' := [qr 1, qi v1, qi v2]) (S' := [.int (-1)]) (H' := (c0 :: bk0 zm zg zh zv zu zt zs zr zd za zb ze zk zp zc zi zf zj zq zw zl zo zn po)) rfl ?_
    cases h
    exact OEnds.iret hm_21 rfl rfl
  · simp only [if_neg hc110] at h
    refine OEnds.ifT hm_21 rfl (q := 10) rfl ((feq hc110).2) ?_
    refine OEnds.adv hm_21 1 (pc' := 11) (L' := [qr 1, qi v1, qi v2]) (S' := [.int v2]) (H' := (c0 :: bk0 zm zg zh zv zu zt zs zr zd za zb ze zk zp zc zi zf zj zq zw zl zo zn po)) rfl ?_
    by_cases hc111 : v2 = (0 : Int32)
    · simp only [if_pos hc111] at h
      refine OEnds.ifF hm_21 rfl ((teq hc111).2) ?_
      refine OEnds.adv hm_21 3 (pc' := 19) (L' := [qr 1, qi v1, qi v2]) (S' := [.int v1, .ref 4]) (H' := (c0 :: bk0 zm zg zh zv zu zt zs zr zd za zb ze zk zp zc zi zf zj zq zw zl zo zn po)) rfl ?_
      obtain ⟨x99, hx99, h⟩ := bnd h
      refine OEnds.plain hm_21 rfl rfl (x_baload rfl hx99) ?_
      show OEnds own_P 21 20 [qr 1, qi v1, qi v2] [.int x99] (c0 :: bk0 zm zg zh zv zu zt zs zr zd za zb ze zk zp zc zi zf zj zq zw zl zo zn po) _
      by_cases hc112 : x99 = (0 : Int32)
      · simp only [if_pos hc112] at h
        refine OEnds.ifT hm_21 rfl (q := 27) rfl ((teq hc112).1) ?_
        refine OEnds.adv hm_21 3 (pc' := 32) (L' := [qr 1, qi v1, qi v2]) (S' := [.int v1, .ref 2]) (H' := (c0 :: bk0 zm zg zh zv zu zt zs zr zd za zb ze zk zp zc zi zf zj zq zw zl zo zn po)) rfl ?_
        obtain ⟨x100, hx100, h⟩ := bnd h
        refine OEnds.plain hm_21 rfl rfl (x_laload rfl hx100) ?_
        refine OEnds.adv hm_21 1 (pc' := 34) (L' := [qr 1, qi v1, qi v2]) (S' := [.int x100.toInt32]) (H' := (c0 :: bk0 zm zg zh zv zu zt zs zr zd za zb ze zk zp zc zi zf zj zq zw zl zo zn po)) rfl ?_
        cases h
        exact OEnds.iret hm_21 rfl rfl
      · simp only [if_neg hc112] at h
        refine OEnds.ifF hm_21 rfl ((feq hc112).1) ?_
        refine OEnds.adv hm_21 2 (pc' := 34) (L' := [qr 1, qi v1, qi v2]) (S' := [.int 0]) (H' := (c0 :: bk0 zm zg zh zv zu zt zs zr zd za zb ze zk zp zc zi zf zj zq zw zl zo zn po)) rfl ?_
        cases h
        exact OEnds.iret hm_21 rfl rfl
    · simp only [if_neg hc111] at h
      refine OEnds.ifT hm_21 rfl (q := 35) rfl ((feq hc111).2) ?_
      refine OEnds.adv hm_21 2 (pc' := 37) (L' := [qr 1, qi v1, qi v2]) (S' := [.int 1, .int v2]) (H' := (c0 :: bk0 zm zg zh zv zu zt zs zr zd za zb ze zk zp zc zi zf zj zq zw zl zo zn po)) rfl ?_
      by_cases hc113 : v2 = (1 : Int32)
      · simp only [if_pos hc113] at h
        refine OEnds.icmpF hm_21 rfl ((teq hc113).2) ?_
        refine OEnds.adv hm_21 3 (pc' := 45) (L' := [qr 1, qi v1, qi v2]) (S' := [.int v1, .ref 4]) (H' := (c0 :: bk0 zm zg zh zv zu zt zs zr zd za zb ze zk zp zc zi zf zj zq zw zl zo zn po)) rfl ?_
        obtain ⟨x97, hx97, h⟩ := bnd h
        refine OEnds.plain hm_21 rfl rfl (x_baload rfl hx97) ?_
        show OEnds own_P 21 46 [qr 1, qi v1, qi v2] [.int x97] (c0 :: bk0 zm zg zh zv zu zt zs zr zd za zb ze zk zp zc zi zf zj zq zw zl zo zn po) _
        by_cases hc114 : x97 = (0 : Int32)
        · simp only [if_pos hc114] at h
          refine OEnds.ifT hm_21 rfl (q := 53) rfl ((teq hc114).1) ?_
          refine OEnds.adv hm_21 3 (pc' := 58) (L' := [qr 1, qi v1, qi v2]) (S' := [.int v1, .ref 3]) (H' := (c0 :: bk0 zm zg zh zv zu zt zs zr zd za zb ze zk zp zc zi zf zj zq zw zl zo zn po)) rfl ?_
          obtain ⟨x98, hx98, h⟩ := bnd h
          refine OEnds.plain hm_21 rfl rfl (x_laload rfl hx98) ?_
          refine OEnds.adv hm_21 1 (pc' := 60) (L' := [qr 1, qi v1, qi v2]) (S' := [.int x98.toInt32]) (H' := (c0 :: bk0 zm zg zh zv zu zt zs zr zd za zb ze zk zp zc zi zf zj zq zw zl zo zn po)) rfl ?_
          cases h
          exact OEnds.iret hm_21 rfl rfl
        · simp only [if_neg hc114] at h
          refine OEnds.ifF hm_21 rfl ((feq hc114).1) ?_
          refine OEnds.adv hm_21 2 (pc' := 60) (L' := [qr 1, qi v1, qi v2]) (S' := [.int 0]) (H' := (c0 :: bk0 zm zg zh zv zu zt zs zr zd za zb ze zk zp zc zi zf zj zq zw zl zo zn po)) rfl ?_
          cases h
          exact OEnds.iret hm_21 rfl rfl
      · simp only [if_neg hc113] at h
        refine OEnds.icmpT hm_21 rfl (q := 61) rfl ((feq hc113).2) ?_
        refine OEnds.adv hm_21 2 (pc' := 63) (L' := [qr 1, qi v1, qi v2]) (S' := [.int 2, .int v2]) (H' := (c0 :: bk0 zm zg zh zv zu zt zs zr zd za zb ze zk zp zc zi zf zj zq zw zl zo zn po)) rfl ?_
        by_cases hc115 : v2 = (2 : Int32)
        · simp only [if_pos hc115] at h
          refine OEnds.icmpF hm_21 rfl ((teq hc115).2) ?_
          refine OEnds.adv hm_21 3 (pc' := 71) (L' := [qr 1, qi v1, qi v2]) (S' := [.int v1, .ref 4]) (H' := (c0 :: bk0 zm zg zh zv zu zt zs zr zd za zb ze zk zp zc zi zf zj zq zw zl zo zn po)) rfl ?_
          obtain ⟨x96, hx96, h⟩ := bnd h
          refine OEnds.plain hm_21 rfl rfl (x_baload rfl hx96) ?_
          show OEnds own_P 21 72 [qr 1, qi v1, qi v2] [.int x96] (c0 :: bk0 zm zg zh zv zu zt zs zr zd za zb ze zk zp zc zi zf zj zq zw zl zo zn po) _
          by_cases hc116 : x96 = (0 : Int32)
          · simp only [if_pos hc116] at h
            refine OEnds.ifT hm_21 rfl (q := 79) rfl ((teq hc116).1) ?_
            refine OEnds.adv hm_21 1 (pc' := 80) (L' := [qr 1, qi v1, qi v2]) (S' := [.int 0]) (H' := (c0 :: bk0 zm zg zh zv zu zt zs zr zd za zb ze zk zp zc zi zf zj zq zw zl zo zn po)) rfl ?_
            cases h
            exact OEnds.iret hm_21 rfl rfl
          · simp only [if_neg hc116] at h
            refine OEnds.ifF hm_21 rfl ((feq hc116).1) ?_
            refine OEnds.adv hm_21 2 (pc' := 80) (L' := [qr 1, qi v1, qi v2]) (S' := [.int 1]) (H' := (c0 :: bk0 zm zg zh zv zu zt zs zr zd za zb ze zk zp zc zi zf zj zq zw zl zo zn po)) rfl ?_
            cases h
            exact OEnds.iret hm_21 rfl rfl
        · simp only [if_neg hc115] at h
          refine OEnds.icmpT hm_21 rfl (q := 81) rfl ((feq hc115).2) ?_
          refine OEnds.adv hm_21 1 (pc' := 82) (L' := [qr 1, qi v1, qi v2]) (S' := [.int (-1)]) (H' := (c0 :: bk0 zm zg zh zv zu zt zs zr zd za zb ze zk zp zc zi zf zj zq zw zl zo zn po)) rfl ?_
          cases h
          exact OEnds.iret hm_21 rfl rfl
theorem ok_L_same_2 {zau zav : List Int64} {zaw : List Int32} {zax : List Int64} {zay : List Int32} {zaz zba : List Int64} {zbb zbc : List Int32} {zbd zbe zbf zbg zbh : Int64} {zbi : Int32} {zbj zbk : Int64} {zbl : Int32} {zbm : Int64} {zbn zbo : Int32} {zbp zbq : Int64} {c0 : ACell} {po : List ACell} : ∀ (n : Nat), ∀ {v1 v2 v3 : Int32} {res : Int32}, f_L_same_2 zau zav zaw n v1 v2 v3 = some res → OEnds own_P 20 2 [qr 1, qi v1, qi v2, qi v3] [] (c0 :: bk0 zau zav zaw zax zay zaz zba zbb zbc zbd zbe zbf zbg zbh zbi zbj zbk zbl zbm zbn zbo zbp zbq po) (some (.int res), (c0 :: bk0 zau zav zaw zax zay zaz zba zbb zbc zbd zbe zbf zbg zbh zbi zbj zbk zbl zbm zbn zbo zbp zbq po), 0, 0) := by
  intro n
  induction n with
  | zero => intro v1 v2 v3 res h; cases h
  | succ n ih =>
    intro v1 v2 v3 res h
    unfold f_L_same_2 at h
    refine OEnds.adv hm_20 2 (pc' := 4) (L' := [qr 1, qi v1, qi v2, qi v3]) (S' := [.int 3, .int v3]) (H' := (c0 :: bk0 zau zav zaw zax zay zaz zba zbb zbc zbd zbe zbf zbg zbh zbi zbj zbk zbl zbm zbn zbo zbp zbq po)) rfl ?_
    by_cases hc117 : v3 < (3 : Int32)
    · simp only [if_pos hc117] at h
      refine OEnds.icmpF hm_20 rfl ((tlt hc117).2.1) ?_
      refine OEnds.adv hm_20 3 (pc' := 10) (L' := [qr 1, qi v1, qi v2, qi v3]) (S' := [.int v3, .int v1, .ref 1]) (H' := (c0 :: bk0 zau zav zaw zax zay zaz zba zbb zbc zbd zbe zbf zbg zbh zbi zbj zbk zbl zbm zbn zbo zbp zbq po)) rfl ?_
      obtain ⟨r101, hq118, h⟩ := bnd h
      refine OEnds.call0 hm_20 rfl rfl (by decide) rfl (as := [.ref 1, .int v1, .int v3]) (rest := []) rfl rfl (ok_coord hq118) ?_
      refine OEnds.adv hm_20 3 (pc' := 16) (L' := [qr 1, qi v1, qi v2, qi v3]) (S' := [.int v3, .int v2, .ref 1, .int r101]) (H' := (c0 :: bk0 zau zav zaw zax zay zaz zba zbb zbc zbd zbe zbf zbg zbh zbi zbj zbk zbl zbm zbn zbo zbp zbq po)) rfl ?_
      obtain ⟨r102, hq119, h⟩ := bnd h
      refine OEnds.call0 hm_20 rfl rfl (by decide) rfl (as := [.ref 1, .int v2, .int v3]) (rest := [.int r101]) rfl rfl (ok_coord hq119) ?_
      show OEnds own_P 20 19 [qr 1, qi v1, qi v2, qi v3] [.int r102, .int r101] (c0 :: bk0 zau zav zaw zax zay zaz zba zbb zbc zbd zbe zbf zbg zbh zbi zbj zbk zbl zbm zbn zbo zbp zbq po) _
      by_cases hc120 : r101 = r102
      · simp only [if_pos hc120] at h
        refine OEnds.icmpT hm_20 rfl (q := 24) rfl ((teq hc120).1) ?_
        refine OEnds.adv hm_20 2 (pc' := 2) (L' := [qr 1, qi v1, qi v2, qi (v3 + (1 : Int32))]) (S' := []) (H' := (c0 :: bk0 zau zav zaw zax zay zaz zba zbb zbc zbd zbe zbf zbg zbh zbi zbj zbk zbl zbm zbn zbo zbp zbq po)) rfl ?_
        exact ih h
      · simp only [if_neg hc120] at h
        refine OEnds.icmpF hm_20 rfl ((feq hc120).1) ?_
        refine OEnds.adv hm_20 1 (pc' := 23) (L' := [qr 1, qi v1, qi v2, qi v3]) (S' := [.int 0]) (H' := (c0 :: bk0 zau zav zaw zax zay zaz zba zbb zbc zbd zbe zbf zbg zbh zbi zbj zbk zbl zbm zbn zbo zbp zbq po)) rfl ?_
        cases h
        exact OEnds.iret hm_20 rfl rfl
    · simp only [if_neg hc117] at h
      refine OEnds.icmpT hm_20 rfl (q := 30) rfl ((flt hc117).2.1) ?_
      refine OEnds.adv hm_20 1 (pc' := 31) (L' := [qr 1, qi v1, qi v2, qi v3]) (S' := [.int 1]) (H' := (c0 :: bk0 zau zav zaw zax zay zaz zba zbb zbc zbd zbe zbf zbg zbh zbi zbj zbk zbl zbm zbn zbo zbp zbq po)) rfl ?_
      cases h
      exact OEnds.iret hm_20 rfl rfl
theorem ok_L_same {zau zav : List Int64} {zaw : List Int32} {zax : List Int64} {zay : List Int32} {zaz zba : List Int64} {zbb zbc : List Int32} {zbd zbe zbf zbg zbh : Int64} {zbi : Int32} {zbj zbk : Int64} {zbl : Int32} {zbm : Int64} {zbn zbo : Int32} {zbp zbq : Int64} {c0 : ACell} {po : List ACell} {v1 v2 res : Int32} (h : f_L_same zau zav zaw v1 v2 = some res) : OEnds own_P 20 0 [qr 1, qi v1, qi v2, qu] [] (c0 :: bk0 zau zav zaw zax zay zaz zba zbb zbc zbd zbe zbf zbg zbh zbi zbj zbk zbl zbm zbn zbo zbp zbq po) (some (.int res), (c0 :: bk0 zau zav zaw zax zay zaz zba zbb zbc zbd zbe zbf zbg zbh zbi zbj zbk zbl zbm zbn zbo zbp zbq po), 0, 0) := by
  unfold f_L_same at h
  refine OEnds.adv hm_20 2 (pc' := 2) (L' := [qr 1, qi v1, qi v2, qi 0]) (S' := []) (H' := (c0 :: bk0 zau zav zaw zax zay zaz zba zbb zbc zbd zbe zbf zbg zbh zbi zbj zbk zbl zbm zbn zbo zbp zbq po)) rfl ?_
  exact ok_L_same_2 100000 h
theorem ok_feed {zm zg : List Int64} {zh : List Int32} {zv : List Int64} {zu : List Int32} {zt zs : List Int64} {zr : List Int32} {za zb ze zk zp zi zf : Int64} {zj : Int32} {zq : Int64} {zw zl : Int32} {zo zn : Int64} {c0 : ACell} {po : List ACell} {zd : List Int32} {zc v1 res : Int32} {w_o_msg : List Int32} {w_o_msgLen : Int32} (h : f_feed zd zc v1 = some (res, w_o_msg, w_o_msgLen)) : OEnds own_P 23 0 [qr 1, qi v1] [] (c0 :: bk0 zm zg zh zv zu zt zs zr zd za zb ze zk zp zc zi zf zj zq zw zl zo zn po) (some (.int res), (c0 :: bk0 zm zg zh zv zu zt zs zr w_o_msg za zb ze zk zp w_o_msgLen zi zf zj zq zw zl zo zn po), 0, 0) := by
  unfold f_feed at h
  refine OEnds.adv hm_23 3 (pc' := 6) (L' := [qr 1, qi v1]) (S' := [.int 64, .int zc]) (H' := (c0 :: bk0 zm zg zh zv zu zt zs zr zd za zb ze zk zp zc zi zf zj zq zw zl zo zn po)) rfl ?_
  by_cases hc121 : zc < (64 : Int32)
  · simp only [if_pos hc121] at h
    refine OEnds.icmpT hm_23 rfl (q := 11) rfl ((tlt hc121).1) ?_
    refine OEnds.adv hm_23 7 (pc' := 24) (L' := [qr 1, qi v1]) (S' := [.int (v1 &&& (255 : Int32)), .int zc, .ref 10]) (H' := (c0 :: bk0 zm zg zh zv zu zt zs zr zd za zb ze zk zp zc zi zf zj zq zw zl zo zn po)) rfl ?_
    obtain ⟨A127, hA127, h⟩ := bnd h
    refine OEnds.plain hm_23 rfl rfl (x_iastore rfl (Nat.le_of_ble_eq_true rfl) hA127) ?_
    refine OEnds.adv hm_23 7 (pc' := 36) (L' := [qr 1, qi v1]) (S' := [.int 1]) (H' := (c0 :: bk0 zm zg zh zv zu zt zs zr A127 za zb ze zk zp (zc + (1 : Int32)) zi zf zj zq zw zl zo zn po)) rfl ?_
    cases h
    exact OEnds.iret hm_23 rfl rfl
  · simp only [if_neg hc121] at h
    refine OEnds.icmpF hm_23 rfl ((flt hc121).1) ?_
    refine OEnds.adv hm_23 1 (pc' := 10) (L' := [qr 1, qi v1]) (S' := [.int 0]) (H' := (c0 :: bk0 zm zg zh zv zu zt zs zr zd za zb ze zk zp zc zi zf zj zq zw zl zo zn po)) rfl ?_
    cases h
    exact OEnds.iret hm_23 rfl rfl
theorem ok_clearMessage {zm zg : List Int64} {zh : List Int32} {zv : List Int64} {zu : List Int32} {zt zs : List Int64} {zr zd : List Int32} {za zb ze zk zp zi zf : Int64} {zj : Int32} {zq : Int64} {zw zl : Int32} {zo zn : Int64} {c0 : ACell} {po : List ACell} {zc w_o_msgLen : Int32} (h : f_clearMessage zc = some w_o_msgLen) : OEnds own_P 24 0 [qr 1] [] (c0 :: bk0 zm zg zh zv zu zt zs zr zd za zb ze zk zp zc zi zf zj zq zw zl zo zn po) (none, (c0 :: bk0 zm zg zh zv zu zt zs zr zd za zb ze zk zp w_o_msgLen zi zf zj zq zw zl zo zn po), 0, 0) := by
  unfold f_clearMessage at h
  refine OEnds.adv hm_24 3 (pc' := 5) (L' := [qr 1]) (S' := []) (H' := (c0 :: bk0 zm zg zh zv zu zt zs zr zd za zb ze zk zp 0 zi zf zj zq zw zl zo zn po)) rfl ?_
  cases h
  exact OEnds.vret hm_24 rfl rfl
theorem ok_loadInfinity {zv : List Int64} {zu : List Int32} {zt zs : List Int64} {zr zd : List Int32} {za zb ze zk zp : Int64} {zc : Int32} {zi zf : Int64} {zj : Int32} {zq : Int64} {zw zl : Int32} {zo zn : Int64} {c0 : ACell} {po : List ACell} {zm zg : List Int64} {zh : List Int32} {v1 res : Int32} {w_o_regX w_o_regY : List Int64} {w_o_regInf : List Int32} (h : f_loadInfinity zm zg zh v1 = some (res, w_o_regX, w_o_regY, w_o_regInf)) : OEnds own_P 33 0 [qr 1, qi v1] [] (c0 :: bk0 zm zg zh zv zu zt zs zr zd za zb ze zk zp zc zi zf zj zq zw zl zo zn po) (some (.int res), (c0 :: bk0 w_o_regX w_o_regY w_o_regInf zv zu zt zs zr zd za zb ze zk zp zc zi zf zj zq zw zl zo zn po), 0, 0) := by
  unfold f_loadInfinity at h
  refine OEnds.adv hm_33 2 (pc' := 2) (L' := [qr 1, qi v1]) (S' := [.int v1, .ref 1]) (H' := (c0 :: bk0 zm zg zh zv zu zt zs zr zd za zb ze zk zp zc zi zf zj zq zw zl zo zn po)) rfl ?_
  obtain ⟨r177, hq122, h⟩ := bnd h
  refine OEnds.call0 hm_33 rfl rfl (by decide) rfl (as := [.ref 1, .int v1]) (rest := []) rfl rfl (ok_validRegister hq122) ?_
  show OEnds own_P 33 5 [qr 1, qi v1] [.int r177] (c0 :: bk0 zm zg zh zv zu zt zs zr zd za zb ze zk zp zc zi zf zj zq zw zl zo zn po) _
  by_cases hc123 : r177 = (0 : Int32)
  · simp only [if_pos hc123] at h
    refine OEnds.ifF hm_33 rfl ((teq hc123).2) ?_
    refine OEnds.adv hm_33 1 (pc' := 9) (L' := [qr 1, qi v1]) (S' := [.int 0]) (H' := (c0 :: bk0 zm zg zh zv zu zt zs zr zd za zb ze zk zp zc zi zf zj zq zw zl zo zn po)) rfl ?_
    cases h
    exact OEnds.iret hm_33 rfl rfl
  · simp only [if_neg hc123] at h
    refine OEnds.ifT hm_33 rfl (q := 10) rfl ((feq hc123).2) ?_
    refine OEnds.adv hm_33 5 (pc' := 15) (L' := [qr 1, qi v1]) (S' := [.int 1, .long 0, .long 0, .int v1, .ref 1]) (H' := (c0 :: bk0 zm zg zh zv zu zt zs zr zd za zb ze zk zp zc zi zf zj zq zw zl zo zn po)) rfl ?_
    obtain ⟨⟨s178, s179, s180⟩, hq124, h⟩ := bnd h
    refine OEnds.call0 hm_33 rfl rfl (by decide) rfl (as := [.ref 1, .int v1, .long 0, .long 0, .int 1]) (rest := []) rfl rfl (ok_setRegister hq124) ?_
    refine OEnds.adv hm_33 1 (pc' := 19) (L' := [qr 1, qi v1]) (S' := [.int 1]) (H' := (c0 :: bk0 s178 s179 s180 zv zu zt zs zr zd za zb ze zk zp zc zi zf zj zq zw zl zo zn po)) rfl ?_
    cases h
    exact OEnds.iret hm_33 rfl rfl
theorem ok_inField {zm zg : List Int64} {zh : List Int32} {zv : List Int64} {zu : List Int32} {zt zs : List Int64} {zr zd : List Int32} {za zb ze zk zp : Int64} {zc : Int32} {zi zf : Int64} {zj : Int32} {zq : Int64} {zw zl : Int32} {zo zn : Int64} {c0 : ACell} {po : List ACell} {v1 : Int64} {res : Int32} (h : f_inField za v1 = some res) : OEnds own_P 28 0 [qr 1, ql v1, qw] [] (c0 :: bk0 zm zg zh zv zu zt zs zr zd za zb ze zk zp zc zi zf zj zq zw zl zo zn po) (some (.int res), (c0 :: bk0 zm zg zh zv zu zt zs zr zd za zb ze zk zp zc zi zf zj zq zw zl zo zn po), 0, 0) := by
  unfold f_inField at h
  refine OEnds.adv hm_28 3 (pc' := 3) (L' := [qr 1, ql v1, qw]) (S' := [.int (XT.cmpL v1 (0 : Int64))]) (H' := (c0 :: bk0 zm zg zh zv zu zt zs zr zd za zb ze zk zp zc zi zf zj zq zw zl zo zn po)) rfl ?_
  by_cases hc125 : v1 < (0 : Int64)
  · simp only [if_pos hc125] at h
    refine OEnds.ifT hm_28 rfl (q := 21) rfl ((tlt (c_lt.mpr hc125)).1) ?_
    refine OEnds.adv hm_28 1 (pc' := 22) (L' := [qr 1, ql v1, qw]) (S' := [.int 0]) (H' := (c0 :: bk0 zm zg zh zv zu zt zs zr zd za zb ze zk zp zc zi zf zj zq zw zl zo zn po)) rfl ?_
    cases h
    exact OEnds.iret hm_28 rfl rfl
  · simp only [if_neg hc125] at h
    refine OEnds.ifF hm_28 rfl ((flt (mt c_lt.mp hc125)).1) ?_
    refine OEnds.adv hm_28 6 (pc' := 14) (L' := [qr 1, ql v1, qw]) (S' := [.int (XT.cmpL v1 (za - (1 : Int64)))]) (H' := (c0 :: bk0 zm zg zh zv zu zt zs zr zd za zb ze zk zp zc zi zf zj zq zw zl zo zn po)) rfl ?_
    by_cases hc126 : (za - (1 : Int64)) < v1
    · simp only [if_pos hc126] at h
      refine OEnds.ifT hm_28 rfl (q := 21) rfl ((tlt (c_gt.mpr hc126)).2.2.1) ?_
      refine OEnds.adv hm_28 1 (pc' := 22) (L' := [qr 1, ql v1, qw]) (S' := [.int 0]) (H' := (c0 :: bk0 zm zg zh zv zu zt zs zr zd za zb ze zk zp zc zi zf zj zq zw zl zo zn po)) rfl ?_
      cases h
      exact OEnds.iret hm_28 rfl rfl
    · simp only [if_neg hc126] at h
      refine OEnds.ifF hm_28 rfl ((flt (mt c_gt.mp hc126)).2.2.1) ?_
      refine OEnds.adv hm_28 2 (pc' := 22) (L' := [qr 1, ql v1, qw]) (S' := [.int 1]) (H' := (c0 :: bk0 zm zg zh zv zu zt zs zr zd za zb ze zk zp zc zi zf zj zq zw zl zo zn po)) rfl ?_
      cases h
      exact OEnds.iret hm_28 rfl rfl
theorem ok_curveRhs {zm zg : List Int64} {zh : List Int32} {zv : List Int64} {zu : List Int32} {zt zs : List Int64} {zr zd : List Int32} {za zb ze zk zp : Int64} {zc : Int32} {zi zf : Int64} {zj : Int32} {zq : Int64} {zw zl : Int32} {zo zn : Int64} {c0 : ACell} {po : List ACell} {v1 res : Int64} (h : f_curveRhs za zb zp v1 = some res) : OEnds own_P 30 0 [qr 1, ql v1, qw, qu, qu, qu, qu, qu, qu, qu, qu] [] (c0 :: bk0 zm zg zh zv zu zt zs zr zd za zb ze zk zp zc zi zf zj zq zw zl zo zn po) (some (.long res), (c0 :: bk0 zm zg zh zv zu zt zs zr zd za zb ze zk zp zc zi zf zj zq zw zl zo zn po), 0, 0) := by
  unfold f_curveRhs at h
  refine OEnds.adv hm_30 3 (pc' := 3) (L' := [qr 1, ql v1, qw, qu, qu, qu, qu, qu, qu, qu, qu]) (S' := [.long v1, .long v1, .ref 1]) (H' := (c0 :: bk0 zm zg zh zv zu zt zs zr zd za zb ze zk zp zc zi zf zj zq zw zl zo zn po)) rfl ?_
  obtain ⟨r151, hq127, h⟩ := bnd h
  refine OEnds.call0 hm_30 rfl rfl (by decide) rfl (as := [.ref 1, .long v1, .long v1]) (rest := []) rfl rfl (ok_mulMod hq127) ?_
  refine OEnds.adv hm_30 4 (pc' := 10) (L' := [qr 1, ql v1, qw, ql r151, qw, qu, qu, qu, qu, qu, qu]) (S' := [.long v1, .long r151, .ref 1]) (H' := (c0 :: bk0 zm zg zh zv zu zt zs zr zd za zb ze zk zp zc zi zf zj zq zw zl zo zn po)) rfl ?_
  obtain ⟨r152, hq128, h⟩ := bnd h
  refine OEnds.call0 hm_30 rfl rfl (by decide) rfl (as := [.ref 1, .long r151, .long v1]) (rest := []) rfl rfl (ok_mulMod hq128) ?_
  refine OEnds.adv hm_30 5 (pc' := 21) (L' := [qr 1, ql v1, qw, ql r151, qw, ql r152, qw, qu, qu, qu, qu]) (S' := [.long v1, .long zb, .ref 1]) (H' := (c0 :: bk0 zm zg zh zv zu zt zs zr zd za zb ze zk zp zc zi zf zj zq zw zl zo zn po)) rfl ?_
  obtain ⟨r153, hq129, h⟩ := bnd h
  refine OEnds.call0 hm_30 rfl rfl (by decide) rfl (as := [.ref 1, .long zb, .long v1]) (rest := []) rfl rfl (ok_mulMod hq129) ?_
  refine OEnds.adv hm_30 4 (pc' := 31) (L' := [qr 1, ql v1, qw, ql r151, qw, ql r152, qw, ql r153, qw, qu, qu]) (S' := [.long r153, .long r152, .ref 1]) (H' := (c0 :: bk0 zm zg zh zv zu zt zs zr zd za zb ze zk zp zc zi zf zj zq zw zl zo zn po)) rfl ?_
  obtain ⟨r154, hq130, h⟩ := bnd h
  refine OEnds.call0 hm_30 rfl rfl (by decide) rfl (as := [.ref 1, .long r152, .long r153]) (rest := []) rfl rfl (ok_addMod hq130) ?_
  refine OEnds.adv hm_30 5 (pc' := 43) (L' := [qr 1, ql v1, qw, ql r151, qw, ql r152, qw, ql r153, qw, ql r154, qw]) (S' := [.long zp, .long r154, .ref 1]) (H' := (c0 :: bk0 zm zg zh zv zu zt zs zr zd za zb ze zk zp zc zi zf zj zq zw zl zo zn po)) rfl ?_
  obtain ⟨r155, hq131, h⟩ := bnd h
  refine OEnds.call0 hm_30 rfl rfl (by decide) rfl (as := [.ref 1, .long r154, .long zp]) (rest := []) rfl rfl (ok_addMod hq131) ?_
  show OEnds own_P 30 46 [qr 1, ql v1, qw, ql r151, qw, ql r152, qw, ql r153, qw, ql r154, qw] [.long r155] (c0 :: bk0 zm zg zh zv zu zt zs zr zd za zb ze zk zp zc zi zf zj zq zw zl zo zn po) _
  cases h
  exact OEnds.lret hm_30 rfl rfl
theorem ok_onCurve {zm zg : List Int64} {zh : List Int32} {zv : List Int64} {zu : List Int32} {zt zs : List Int64} {zr zd : List Int32} {za zb ze zk zp : Int64} {zc : Int32} {zi zf : Int64} {zj : Int32} {zq : Int64} {zw zl : Int32} {zo zn : Int64} {c0 : ACell} {po : List ACell} {v1 v3 : Int64} {res : Int32} (h : f_onCurve za zb zp v1 v3 = some res) : OEnds own_P 29 0 [qr 1, ql v1, qw, ql v3, qw, qu, qu] [] (c0 :: bk0 zm zg zh zv zu zt zs zr zd za zb ze zk zp zc zi zf zj zq zw zl zo zn po) (some (.int res), (c0 :: bk0 zm zg zh zv zu zt zs zr zd za zb ze zk zp zc zi zf zj zq zw zl zo zn po), 0, 0) := by
  unfold f_onCurve at h
  refine OEnds.adv hm_29 3 (pc' := 3) (L' := [qr 1, ql v1, qw, ql v3, qw, qu, qu]) (S' := [.long v3, .long v3, .ref 1]) (H' := (c0 :: bk0 zm zg zh zv zu zt zs zr zd za zb ze zk zp zc zi zf zj zq zw zl zo zn po)) rfl ?_
  obtain ⟨r156, hq132, h⟩ := bnd h
  refine OEnds.call0 hm_29 rfl rfl (by decide) rfl (as := [.ref 1, .long v3, .long v3]) (rest := []) rfl rfl (ok_mulMod hq132) ?_
  refine OEnds.adv hm_29 4 (pc' := 12) (L' := [qr 1, ql v1, qw, ql v3, qw, ql r156, qw]) (S' := [.long v1, .ref 1, .long r156]) (H' := (c0 :: bk0 zm zg zh zv zu zt zs zr zd za zb ze zk zp zc zi zf zj zq zw zl zo zn po)) rfl ?_
  obtain ⟨r157, hq133, h⟩ := bnd h
  refine OEnds.call0 hm_29 rfl rfl (by decide) rfl (as := [.ref 1, .long v1]) (rest := [.long r156]) rfl rfl (ok_curveRhs hq133) ?_
  refine OEnds.adv hm_29 1 (pc' := 16) (L' := [qr 1, ql v1, qw, ql v3, qw, ql r156, qw]) (S' := [.int (XT.cmpL r156 r157)]) (H' := (c0 :: bk0 zm zg zh zv zu zt zs zr zd za zb ze zk zp zc zi zf zj zq zw zl zo zn po)) rfl ?_
  by_cases hc134 : r156 = r157
  · simp only [if_pos hc134] at h
    refine OEnds.ifF hm_29 rfl ((teq (c_eq.mpr hc134)).2) ?_
    refine OEnds.adv hm_29 2 (pc' := 24) (L' := [qr 1, ql v1, qw, ql v3, qw, ql r156, qw]) (S' := [.int 1]) (H' := (c0 :: bk0 zm zg zh zv zu zt zs zr zd za zb ze zk zp zc zi zf zj zq zw zl zo zn po)) rfl ?_
    cases h
    exact OEnds.iret hm_29 rfl rfl
  · simp only [if_neg hc134] at h
    refine OEnds.ifT hm_29 rfl (q := 23) rfl ((feq (mt c_eq.mp hc134)).2) ?_
    refine OEnds.adv hm_29 1 (pc' := 24) (L' := [qr 1, ql v1, qw, ql v3, qw, ql r156, qw]) (S' := [.int 0]) (H' := (c0 :: bk0 zm zg zh zv zu zt zs zr zd za zb ze zk zp zc zi zf zj zq zw zl zo zn po)) rfl ?_
    cases h
    exact OEnds.iret hm_29 rfl rfl
theorem ok_load {zv : List Int64} {zu : List Int32} {zt zs : List Int64} {zr zd : List Int32} {za zb ze zk zp : Int64} {zc : Int32} {zi zf : Int64} {zj : Int32} {zq : Int64} {zw zl : Int32} {zo zn : Int64} {c0 : ACell} {po : List ACell} {zm zg : List Int64} {zh : List Int32} {v1 v2 v3 res : Int32} {w_o_regX w_o_regY : List Int64} {w_o_regInf : List Int32} (h : f_load za zb zp zm zg zh v1 v2 v3 = some (res, w_o_regX, w_o_regY, w_o_regInf)) : OEnds own_P 27 0 [qr 1, qi v1, qi v2, qi v3] [] (c0 :: bk0 zm zg zh zv zu zt zs zr zd za zb ze zk zp zc zi zf zj zq zw zl zo zn po) (some (.int res), (c0 :: bk0 w_o_regX w_o_regY w_o_regInf zv zu zt zs zr zd za zb ze zk zp zc zi zf zj zq zw zl zo zn po), 0, 0) := by
  unfold f_load at h
  refine OEnds.adv hm_27 2 (pc' := 2) (L' := [qr 1, qi v1, qi v2, qi v3]) (S' := [.int v1, .ref 1]) (H' := (c0 :: bk0 zm zg zh zv zu zt zs zr zd za zb ze zk zp zc zi zf zj zq zw zl zo zn po)) rfl ?_
  obtain ⟨r191, hq135, h⟩ := bnd h
  refine OEnds.call0 hm_27 rfl rfl (by decide) rfl (as := [.ref 1, .int v1]) (rest := []) rfl rfl (ok_validRegister hq135) ?_
  show OEnds own_P 27 5 [qr 1, qi v1, qi v2, qi v3] [.int r191] (c0 :: bk0 zm zg zh zv zu zt zs zr zd za zb ze zk zp zc zi zf zj zq zw zl zo zn po) _
  by_cases hc136 : r191 = (0 : Int32)
  · simp only [if_pos hc136] at h
    refine OEnds.ifF hm_27 rfl ((teq hc136).2) ?_
    refine OEnds.adv hm_27 1 (pc' := 9) (L' := [qr 1, qi v1, qi v2, qi v3]) (S' := [.int 0]) (H' := (c0 :: bk0 zm zg zh zv zu zt zs zr zd za zb ze zk zp zc zi zf zj zq zw zl zo zn po)) rfl ?_
    cases h
    exact OEnds.iret hm_27 rfl rfl
  · simp only [if_neg hc136] at h
    refine OEnds.ifT hm_27 rfl (q := 10) rfl ((feq hc136).2) ?_
    refine OEnds.adv hm_27 3 (pc' := 13) (L' := [qr 1, qi v1, qi v2, qi v3]) (S' := [.long v2.toInt64, .ref 1]) (H' := (c0 :: bk0 zm zg zh zv zu zt zs zr zd za zb ze zk zp zc zi zf zj zq zw zl zo zn po)) rfl ?_
    obtain ⟨r192, hq137, h⟩ := bnd h
    refine OEnds.call0 hm_27 rfl rfl (by decide) rfl (as := [.ref 1, .long v2.toInt64]) (rest := []) rfl rfl (ok_inField hq137) ?_
    show OEnds own_P 27 16 [qr 1, qi v1, qi v2, qi v3] [.int r192] (c0 :: bk0 zm zg zh zv zu zt zs zr zd za zb ze zk zp zc zi zf zj zq zw zl zo zn po) _
    by_cases hc138 : r192 = (0 : Int32)
    · simp only [if_pos hc138] at h
      refine OEnds.ifT hm_27 rfl (q := 28) rfl ((teq hc138).1) ?_
      refine OEnds.adv hm_27 1 (pc' := 29) (L' := [qr 1, qi v1, qi v2, qi v3]) (S' := [.int 0]) (H' := (c0 :: bk0 zm zg zh zv zu zt zs zr zd za zb ze zk zp zc zi zf zj zq zw zl zo zn po)) rfl ?_
      cases h
      exact OEnds.iret hm_27 rfl rfl
    · simp only [if_neg hc138] at h
      refine OEnds.ifF hm_27 rfl ((feq hc138).1) ?_
      refine OEnds.adv hm_27 3 (pc' := 22) (L' := [qr 1, qi v1, qi v2, qi v3]) (S' := [.long v3.toInt64, .ref 1]) (H' := (c0 :: bk0 zm zg zh zv zu zt zs zr zd za zb ze zk zp zc zi zf zj zq zw zl zo zn po)) rfl ?_
      obtain ⟨r193, hq139, h⟩ := bnd h
      refine OEnds.call0 hm_27 rfl rfl (by decide) rfl (as := [.ref 1, .long v3.toInt64]) (rest := []) rfl rfl (ok_inField hq139) ?_
      show OEnds own_P 27 25 [qr 1, qi v1, qi v2, qi v3] [.int r193] (c0 :: bk0 zm zg zh zv zu zt zs zr zd za zb ze zk zp zc zi zf zj zq zw zl zo zn po) _
      by_cases hc140 : r193 = (0 : Int32)
      · simp only [if_pos hc140] at h
        refine OEnds.ifF hm_27 rfl ((teq hc140).2) ?_
        refine OEnds.adv hm_27 1 (pc' := 29) (L' := [qr 1, qi v1, qi v2, qi v3]) (S' := [.int 0]) (H' := (c0 :: bk0 zm zg zh zv zu zt zs zr zd za zb ze zk zp zc zi zf zj zq zw zl zo zn po)) rfl ?_
        cases h
        exact OEnds.iret hm_27 rfl rfl
      · simp only [if_neg hc140] at h
        refine OEnds.ifT hm_27 rfl (q := 30) rfl ((feq hc140).2) ?_
        refine OEnds.adv hm_27 5 (pc' := 35) (L' := [qr 1, qi v1, qi v2, qi v3]) (S' := [.long v3.toInt64, .long v2.toInt64, .ref 1]) (H' := (c0 :: bk0 zm zg zh zv zu zt zs zr zd za zb ze zk zp zc zi zf zj zq zw zl zo zn po)) rfl ?_
        obtain ⟨r194, hq141, h⟩ := bnd h
        refine OEnds.call0 hm_27 rfl rfl (by decide) rfl (as := [.ref 1, .long v2.toInt64, .long v3.toInt64]) (rest := []) rfl rfl (ok_onCurve hq141) ?_
        show OEnds own_P 27 38 [qr 1, qi v1, qi v2, qi v3] [.int r194] (c0 :: bk0 zm zg zh zv zu zt zs zr zd za zb ze zk zp zc zi zf zj zq zw zl zo zn po) _
        by_cases hc142 : r194 = (0 : Int32)
        · simp only [if_pos hc142] at h
          refine OEnds.ifF hm_27 rfl ((teq hc142).2) ?_
          refine OEnds.adv hm_27 1 (pc' := 42) (L' := [qr 1, qi v1, qi v2, qi v3]) (S' := [.int 0]) (H' := (c0 :: bk0 zm zg zh zv zu zt zs zr zd za zb ze zk zp zc zi zf zj zq zw zl zo zn po)) rfl ?_
          cases h
          exact OEnds.iret hm_27 rfl rfl
        · simp only [if_neg hc142] at h
          refine OEnds.ifT hm_27 rfl (q := 43) rfl ((feq hc142).2) ?_
          refine OEnds.adv hm_27 7 (pc' := 50) (L' := [qr 1, qi v1, qi v2, qi v3]) (S' := [.int 0, .long v3.toInt64, .long v2.toInt64, .int v1, .ref 1]) (H' := (c0 :: bk0 zm zg zh zv zu zt zs zr zd za zb ze zk zp zc zi zf zj zq zw zl zo zn po)) rfl ?_
          obtain ⟨⟨s195, s196, s197⟩, hq143, h⟩ := bnd h
          refine OEnds.call0 hm_27 rfl rfl (by decide) rfl (as := [.ref 1, .int v1, .long v2.toInt64, .long v3.toInt64, .int 0]) (rest := []) rfl rfl (ok_setRegister hq143) ?_
          refine OEnds.adv hm_27 1 (pc' := 54) (L' := [qr 1, qi v1, qi v2, qi v3]) (S' := [.int 1]) (H' := (c0 :: bk0 s195 s196 s197 zv zu zt zs zr zd za zb ze zk zp zc zi zf zj zq zw zl zo zn po)) rfl ?_
          cases h
          exact OEnds.iret hm_27 rfl rfl
theorem ok_L_scalar {c0 : ACell} {po : List ACell} {v0 v1 v2 : Int32} {res : Int64} (h : f_L_scalar v0 v1 v2 = some res) : OEnds own_P 16 0 [qi v0, qi v1, qi v2] [] (c0 :: po) (some (.long res), (c0 :: po), 0, 0) := by
  unfold f_L_scalar at h
  refine OEnds.adv hm_16 1 (pc' := 1) (L' := [qi v0, qi v1, qi v2]) (S' := [.int v2]) (H' := (c0 :: po)) rfl ?_
  by_cases hc144 : v2 = (0 : Int32)
  · simp only [if_pos hc144] at h
    refine OEnds.ifT hm_16 rfl (q := 10) rfl ((teq hc144).1) ?_
    refine OEnds.adv hm_16 11 (pc' := 24) (L' := [qi v0, qi v1, qi v2]) (S' := [.long (((v0 &&& (8388607 : Int32)).toInt64 <<< ((24 : Int32).toInt64 &&& 63)) ||| (v1 &&& (16777215 : Int32)).toInt64)]) (H' := (c0 :: po)) rfl ?_
    obtain rfl := Option.some.inj h
    exact OEnds.lret hm_16 rfl rfl
  · simp only [if_neg hc144] at h
    refine OEnds.ifF hm_16 rfl ((feq hc144).1) ?_
    refine OEnds.adv hm_16 4 (pc' := 9) (L' := [qi v0, qi v1, qi v2]) (S' := [.long (v1 &&& (15 : Int32)).toInt64]) (H' := (c0 :: po)) rfl ?_
    cases h
    exact OEnds.lret hm_16 rfl rfl
theorem ok_mul {zv : List Int64} {zu : List Int32} {zt zs : List Int64} {zr zd : List Int32} {za zb ze zk zp : Int64} {zc : Int32} {zi zf : Int64} {zj : Int32} {zq : Int64} {zw : Int32} {c0 : ACell} {po : List ACell} {zm zg : List Int64} {zh : List Int32} {zl : Int32} {zo zn : Int64} {v1 v2 : Int32} {v3 : Int64} {res : Int32} {w_o_regX w_o_regY : List Int64} {w_o_regInf : List Int32} {w_o_resInf : Int32} {w_o_resX w_o_resY : Int64} (h : f_mul za zb zm zg zh zl zo zn v1 v2 v3 = some (res, w_o_regX, w_o_regY, w_o_regInf, w_o_resInf, w_o_resX, w_o_resY)) : OEnds own_P 17 0 [qr 1, qi v1, qi v2, ql v3, qw] [] (c0 :: bk0 zm zg zh zv zu zt zs zr zd za zb ze zk zp zc zi zf zj zq zw zl zo zn po) (some (.int res), (c0 :: bk0 w_o_regX w_o_regY w_o_regInf zv zu zt zs zr zd za zb ze zk zp zc zi zf zj zq zw w_o_resInf w_o_resX w_o_resY po), 0, 0) := by
  unfold f_mul at h
  refine OEnds.adv hm_17 2 (pc' := 2) (L' := [qr 1, qi v1, qi v2, ql v3, qw]) (S' := [.int v1, .ref 1]) (H' := (c0 :: bk0 zm zg zh zv zu zt zs zr zd za zb ze zk zp zc zi zf zj zq zw zl zo zn po)) rfl ?_
  obtain ⟨r69, hq145, h⟩ := bnd h
  refine OEnds.call0 hm_17 rfl rfl (by decide) rfl (as := [.ref 1, .int v1]) (rest := []) rfl rfl (ok_validRegister hq145) ?_
  show OEnds own_P 17 5 [qr 1, qi v1, qi v2, ql v3, qw] [.int r69] (c0 :: bk0 zm zg zh zv zu zt zs zr zd za zb ze zk zp zc zi zf zj zq zw zl zo zn po) _
  by_cases hc146 : r69 = (0 : Int32)
  · simp only [if_pos hc146] at h
    refine OEnds.ifT hm_17 rfl (q := 16) rfl ((teq hc146).1) ?_
    refine OEnds.adv hm_17 1 (pc' := 17) (L' := [qr 1, qi v1, qi v2, ql v3, qw]) (S' := [.int 0]) (H' := (c0 :: bk0 zm zg zh zv zu zt zs zr zd za zb ze zk zp zc zi zf zj zq zw zl zo zn po)) rfl ?_
    cases h
    exact OEnds.iret hm_17 rfl rfl
  · simp only [if_neg hc146] at h
    refine OEnds.ifF hm_17 rfl ((feq hc146).1) ?_
    refine OEnds.adv hm_17 2 (pc' := 10) (L' := [qr 1, qi v1, qi v2, ql v3, qw]) (S' := [.int v2, .ref 1]) (H' := (c0 :: bk0 zm zg zh zv zu zt zs zr zd za zb ze zk zp zc zi zf zj zq zw zl zo zn po)) rfl ?_
    obtain ⟨r70, hq147, h⟩ := bnd h
    refine OEnds.call0 hm_17 rfl rfl (by decide) rfl (as := [.ref 1, .int v2]) (rest := []) rfl rfl (ok_validRegister hq147) ?_
    show OEnds own_P 17 13 [qr 1, qi v1, qi v2, ql v3, qw] [.int r70] (c0 :: bk0 zm zg zh zv zu zt zs zr zd za zb ze zk zp zc zi zf zj zq zw zl zo zn po) _
    by_cases hc148 : r70 = (0 : Int32)
    · simp only [if_pos hc148] at h
      refine OEnds.ifF hm_17 rfl ((teq hc148).2) ?_
      refine OEnds.adv hm_17 1 (pc' := 17) (L' := [qr 1, qi v1, qi v2, ql v3, qw]) (S' := [.int 0]) (H' := (c0 :: bk0 zm zg zh zv zu zt zs zr zd za zb ze zk zp zc zi zf zj zq zw zl zo zn po)) rfl ?_
      cases h
      exact OEnds.iret hm_17 rfl rfl
    · simp only [if_neg hc148] at h
      refine OEnds.ifT hm_17 rfl (q := 18) rfl ((feq hc148).2) ?_
      refine OEnds.adv hm_17 3 (pc' := 21) (L' := [qr 1, qi v1, qi v2, ql v3, qw]) (S' := [.int (XT.cmpL v3 (0 : Int64))]) (H' := (c0 :: bk0 zm zg zh zv zu zt zs zr zd za zb ze zk zp zc zi zf zj zq zw zl zo zn po)) rfl ?_
      by_cases hc149 : v3 < (0 : Int64)
      · simp only [if_pos hc149] at h
        refine OEnds.ifT hm_17 rfl (q := 32) rfl ((tlt (c_lt.mpr hc149)).1) ?_
        refine OEnds.adv hm_17 1 (pc' := 33) (L' := [qr 1, qi v1, qi v2, ql v3, qw]) (S' := [.int 0]) (H' := (c0 :: bk0 zm zg zh zv zu zt zs zr zd za zb ze zk zp zc zi zf zj zq zw zl zo zn po)) rfl ?_
        cases h
        exact OEnds.iret hm_17 rfl rfl
      · simp only [if_neg hc149] at h
        refine OEnds.ifF hm_17 rfl ((flt (mt c_lt.mp hc149)).1) ?_
        refine OEnds.adv hm_17 3 (pc' := 29) (L' := [qr 1, qi v1, qi v2, ql v3, qw]) (S' := [.int (XT.cmpL v3 (281474976710656 : Int64))]) (H' := (c0 :: bk0 zm zg zh zv zu zt zs zr zd za zb ze zk zp zc zi zf zj zq zw zl zo zn po)) rfl ?_
        by_cases hc150 : v3 < (281474976710656 : Int64)
        · simp only [if_pos hc150] at h
          refine OEnds.ifT hm_17 rfl (q := 34) rfl ((tlt (c_lt.mpr hc150)).1) ?_
          refine OEnds.adv hm_17 4 (pc' := 40) (L' := [qr 1, qi v1, qi v2, ql v3, qw]) (S' := [.int v2, .ref 2, .ref 1]) (H' := (c0 :: bk0 zm zg zh zv zu zt zs zr zd za zb ze zk zp zc zi zf zj zq zw zl zo zn po)) rfl ?_
          obtain ⟨x71, hx71, h⟩ := bnd h
          refine OEnds.plain hm_17 rfl rfl (x_laload rfl hx71) ?_
          refine OEnds.adv hm_17 3 (pc' := 46) (L' := [qr 1, qi v1, qi v2, ql v3, qw]) (S' := [.int v2, .ref 3, .long x71, .ref 1]) (H' := (c0 :: bk0 zm zg zh zv zu zt zs zr zd za zb ze zk zp zc zi zf zj zq zw zl zo zn po)) rfl ?_
          obtain ⟨x72, hx72, h⟩ := bnd h
          refine OEnds.plain hm_17 rfl rfl (x_laload rfl hx72) ?_
          refine OEnds.adv hm_17 3 (pc' := 52) (L' := [qr 1, qi v1, qi v2, ql v3, qw]) (S' := [.int v2, .ref 4, .long x72, .long x71, .ref 1]) (H' := (c0 :: bk0 zm zg zh zv zu zt zs zr zd za zb ze zk zp zc zi zf zj zq zw zl zo zn po)) rfl ?_
          obtain ⟨x73, hx73, h⟩ := bnd h
          refine OEnds.plain hm_17 rfl rfl (x_baload rfl hx73) ?_
          refine OEnds.adv hm_17 1 (pc' := 54) (L' := [qr 1, qi v1, qi v2, ql v3, qw]) (S' := [.long v3, .int x73, .long x72, .long x71, .ref 1]) (H' := (c0 :: bk0 zm zg zh zv zu zt zs zr zd za zb ze zk zp zc zi zf zj zq zw zl zo zn po)) rfl ?_
          obtain ⟨⟨s74, s75, s76⟩, hq151, h⟩ := bnd h
          refine OEnds.call0 hm_17 rfl rfl (by decide) rfl (as := [.ref 1, .long x71, .long x72, .int x73, .long v3]) (rest := []) rfl rfl (ok_scalarMul hq151) ?_
          refine OEnds.adv hm_17 8 (pc' := 71) (L' := [qr 1, qi v1, qi v2, ql v3, qw]) (S' := [.int s74, .long s76, .long s75, .int v1, .ref 1]) (H' := (c0 :: bk0 zm zg zh zv zu zt zs zr zd za zb ze zk zp zc zi zf zj zq zw s74 s75 s76 po)) rfl ?_
          obtain ⟨⟨s77, s78, s79⟩, hq152, h⟩ := bnd h
          refine OEnds.call0 hm_17 rfl rfl (by decide) rfl (as := [.ref 1, .int v1, .long s75, .long s76, .int s74]) (rest := []) rfl rfl (ok_setRegister hq152) ?_
          refine OEnds.adv hm_17 1 (pc' := 75) (L' := [qr 1, qi v1, qi v2, ql v3, qw]) (S' := [.int 1]) (H' := (c0 :: bk0 s77 s78 s79 zv zu zt zs zr zd za zb ze zk zp zc zi zf zj zq zw s74 s75 s76 po)) rfl ?_
          cases h
          exact OEnds.iret hm_17 rfl rfl
        · simp only [if_neg hc150] at h
          refine OEnds.ifF hm_17 rfl ((flt (mt c_lt.mp hc150)).1) ?_
          refine OEnds.adv hm_17 1 (pc' := 33) (L' := [qr 1, qi v1, qi v2, ql v3, qw]) (S' := [.int 0]) (H' := (c0 :: bk0 zm zg zh zv zu zt zs zr zd za zb ze zk zp zc zi zf zj zq zw zl zo zn po)) rfl ?_
          cases h
          exact OEnds.iret hm_17 rfl rfl
theorem ok_mix {zm zg : List Int64} {zh : List Int32} {zv : List Int64} {zu : List Int32} {zt zs : List Int64} {zr zd : List Int32} {za zb ze zk zp : Int64} {zc : Int32} {zi zf : Int64} {zj : Int32} {zq : Int64} {zw zl : Int32} {zo zn : Int64} {c0 : ACell} {po : List ACell} {v1 v2 res : Int32} (h : f_mix v1 v2 = some res) : OEnds own_P 35 0 [qr 1, qi v1, qi v2, qu] [] (c0 :: bk0 zm zg zh zv zu zt zs zr zd za zb ze zk zp zc zi zf zj zq zw zl zo zn po) (some (.int res), (c0 :: bk0 zm zg zh zv zu zt zs zr zd za zb ze zk zp zc zi zf zj zq zw zl zo zn po), 0, 0) := by
  unfold f_mix at h
  refine OEnds.adv hm_35 19 (pc' := 22) (L' := [qr 1, qi v1, qi v2, qi (((v1 + v2) ^^^ (((v1 + v2) <<< ((7 : Int32) &&& 31)) ||| (XT.ushr (v1 + v2) (25 : Int32)))) + (-1640531527 : Int32))]) (S' := [.int (((v1 + v2) ^^^ (((v1 + v2) <<< ((7 : Int32) &&& 31)) ||| (XT.ushr (v1 + v2) (25 : Int32)))) + (-1640531527 : Int32))]) (H' := (c0 :: bk0 zm zg zh zv zu zt zs zr zd za zb ze zk zp zc zi zf zj zq zw zl zo zn po)) rfl ?_
  obtain rfl := Option.some.inj h
  exact OEnds.iret hm_35 rfl rfl
theorem ok_challenge_192 {zm zg : List Int64} {zh : List Int32} {zv : List Int64} {zu : List Int32} {zt zs : List Int64} {zr zd : List Int32} {za zb ze zk zp : Int64} {zc : Int32} {zi zf : Int64} {zj : Int32} {zq : Int64} {zw zl : Int32} {zo zn : Int64} {c0 : ACell} {po : List ACell} : ∀ {v11 : Int32} {d0 d1 d2 d3 d4 d5 d6 d7 d8 d9 d10 d12 d13 : Slot} {res : Int32}, f_challenge_192 zd zc v11 = some res → OEnds own_P 34 192 [d0, d1, d2, d3, d4, d5, d6, d7, d8, d9, d10, qi v11, d12, d13] [] (c0 :: bk0 zm zg zh zv zu zt zs zr zd za zb ze zk zp zc zi zf zj zq zw zl zo zn po) (some (.int res), (c0 :: bk0 zm zg zh zv zu zt zs zr zd za zb ze zk zp zc zi zf zj zq zw zl zo zn po), 0, 0) := by
  intro v11 d0 d1 d2 d3 d4 d5 d6 d7 d8 d9 d10 d12 d13 res h
  unfold f_challenge_192 at h
  refine OEnds.adv hm_34 7 (pc' := 203) (L' := [qu, qu, qu, qu, qu, qu, qu, qu, qu, qu, qu, qi v11, qu, qu]) (S' := [.int ((v11 ^^^ (XT.ushr v11 (16 : Int32))) &&& (65535 : Int32))]) (H' := (c0 :: bk0 zm zg zh zv zu zt zs zr zd za zb ze zk zp zc zi zf zj zq zw zl zo zn po)) rfl ?_
  cases h
  exact OEnds.iret hm_34 rfl rfl
theorem ok_challenge_155 {zm zg : List Int64} {zh : List Int32} {zv : List Int64} {zu : List Int32} {zt zs : List Int64} {zr zd : List Int32} {za zb ze zk zp : Int64} {zc : Int32} {zi zf : Int64} {zj : Int32} {zq : Int64} {zw zl : Int32} {zo zn : Int64} {c0 : ACell} {po : List ACell} {k192 : Int32 → Option (Int32)} (hk192 : ∀ {v11 : Int32} {d0 d1 d2 d3 d4 d5 d6 d7 d8 d9 d10 d12 d13 : Slot} {res : Int32}, k192 v11 = some res → OEnds own_P 34 192 [d0, d1, d2, d3, d4, d5, d6, d7, d8, d9, d10, qi v11, d12, d13] [] (c0 :: bk0 zm zg zh zv zu zt zs zr zd za zb ze zk zp zc zi zf zj zq zw zl zo zn po) (some (.int res), (c0 :: bk0 zm zg zh zv zu zt zs zr zd za zb ze zk zp zc zi zf zj zq zw zl zo zn po), 0, 0)) : ∀ (n : Nat), ∀ {v11 v13 : Int32} {d1 d2 d3 d4 d5 d6 d7 d8 d9 d10 d12 : Slot} {res : Int32}, f_challenge_155 k192 zd zc n v11 v13 = some res → OEnds own_P 34 155 [qr 1, d1, d2, d3, d4, d5, d6, d7, d8, d9, d10, qi v11, d12, qi v13] [] (c0 :: bk0 zm zg zh zv zu zt zs zr zd za zb ze zk zp zc zi zf zj zq zw zl zo zn po) (some (.int res), (c0 :: bk0 zm zg zh zv zu zt zs zr zd za zb ze zk zp zc zi zf zj zq zw zl zo zn po), 0, 0) := by
  intro n
  induction n with
  | zero => intro v11 v13 d1 d2 d3 d4 d5 d6 d7 d8 d9 d10 d12 res h; cases h
  | succ n ih =>
    intro v11 v13 d1 d2 d3 d4 d5 d6 d7 d8 d9 d10 d12 res h
    unfold f_challenge_155 at h
    refine OEnds.adv hm_34 3 (pc' := 161) (L' := [qr 1, qu, qu, qu, qu, qu, qu, qu, qu, qu, qu, qi v11, qu, qi v13]) (S' := [.int zc, .int v13]) (H' := (c0 :: bk0 zm zg zh zv zu zt zs zr zd za zb ze zk zp zc zi zf zj zq zw zl zo zn po)) rfl ?_
    by_cases hc153 : v13 < zc
    · simp only [if_pos hc153] at h
      refine OEnds.icmpF hm_34 rfl ((tlt hc153).2.1) ?_
      refine OEnds.adv hm_34 2 (pc' := 168) (L' := [qr 1, qu, qu, qu, qu, qu, qu, qu, qu, qu, qu, qi v11, qu, qi v13]) (S' := [.int 64, .int v13]) (H' := (c0 :: bk0 zm zg zh zv zu zt zs zr zd za zb ze zk zp zc zi zf zj zq zw zl zo zn po)) rfl ?_
      by_cases hc154 : v13 < (64 : Int32)
      · simp only [if_pos hc154] at h
        refine OEnds.icmpF hm_34 rfl ((tlt hc154).2.1) ?_
        refine OEnds.adv hm_34 5 (pc' := 180) (L' := [qr 1, qu, qu, qu, qu, qu, qu, qu, qu, qu, qu, qi v11, qu, qi v13]) (S' := [.int v13, .ref 10, .int v11, .ref 1]) (H' := (c0 :: bk0 zm zg zh zv zu zt zs zr zd za zb ze zk zp zc zi zf zj zq zw zl zo zn po)) rfl ?_
        obtain ⟨x135, hx135, h⟩ := bnd h
        refine OEnds.plain hm_34 rfl rfl (x_iaload rfl hx135) ?_
        show OEnds own_P 34 181 [qr 1, qu, qu, qu, qu, qu, qu, qu, qu, qu, qu, qi v11, qu, qi v13] [.int x135, .int v11, .ref 1] (c0 :: bk0 zm zg zh zv zu zt zs zr zd za zb ze zk zp zc zi zf zj zq zw zl zo zn po) _
        obtain ⟨r136, hq155, h⟩ := bnd h
        refine OEnds.call0 hm_34 rfl rfl (by decide) rfl (as := [.ref 1, .int v11, .int x135]) (rest := []) rfl rfl (ok_mix hq155) ?_
        refine OEnds.adv hm_34 3 (pc' := 155) (L' := [qr 1, qu, qu, qu, qu, qu, qu, qu, qu, qu, qu, qi r136, qu, qi (v13 + (1 : Int32))]) (S' := []) (H' := (c0 :: bk0 zm zg zh zv zu zt zs zr zd za zb ze zk zp zc zi zf zj zq zw zl zo zn po)) rfl ?_
        exact ih h
      · simp only [if_neg hc154] at h
        refine OEnds.icmpT hm_34 rfl (q := 192) rfl ((flt hc154).2.1) ?_
        show OEnds own_P 34 192 [qr 1, qu, qu, qu, qu, qu, qu, qu, qu, qu, qu, qi v11, qu, qi v13] [] (c0 :: bk0 zm zg zh zv zu zt zs zr zd za zb ze zk zp zc zi zf zj zq zw zl zo zn po) _
        exact hk192 h
    · simp only [if_neg hc153] at h
      refine OEnds.icmpT hm_34 rfl (q := 192) rfl ((flt hc153).2.1) ?_
      show OEnds own_P 34 192 [qr 1, qu, qu, qu, qu, qu, qu, qu, qu, qu, qu, qi v11, qu, qi v13] [] (c0 :: bk0 zm zg zh zv zu zt zs zr zd za zb ze zk zp zc zi zf zj zq zw zl zo zn po) _
      exact hk192 h
theorem ok_challenge_128 {zm zg : List Int64} {zh : List Int32} {zv : List Int64} {zu : List Int32} {zt zs : List Int64} {zr zd : List Int32} {za zb ze zk zp : Int64} {zc : Int32} {zi zf : Int64} {zj : Int32} {zq : Int64} {zw zl : Int32} {zo zn : Int64} {c0 : ACell} {po : List ACell} : ∀ {v11 t0 : Int32} {d1 d2 d3 d4 d5 d6 d7 d8 d9 d10 d12 d13 : Slot} {res : Int32}, f_challenge_128 zd zc v11 t0 = some res → OEnds own_P 34 128 [qr 1, d1, d2, d3, d4, d5, d6, d7, d8, d9, d10, qi v11, d12, d13] [.int t0] (c0 :: bk0 zm zg zh zv zu zt zs zr zd za zb ze zk zp zc zi zf zj zq zw zl zo zn po) (some (.int res), (c0 :: bk0 zm zg zh zv zu zt zs zr zd za zb ze zk zp zc zi zf zj zq zw zl zo zn po), 0, 0) := by
  intro v11 t0 d1 d2 d3 d4 d5 d6 d7 d8 d9 d10 d12 d13 res h
  unfold f_challenge_128 at h
  refine OEnds.adv hm_34 4 (pc' := 135) (L' := [qr 1, qu, qu, qu, qu, qu, qu, qu, qu, qu, qu, qi v11, qi t0, qu]) (S' := [.int t0, .int v11, .ref 1]) (H' := (c0 :: bk0 zm zg zh zv zu zt zs zr zd za zb ze zk zp zc zi zf zj zq zw zl zo zn po)) rfl ?_
  obtain ⟨r133, hq156, h⟩ := bnd h
  refine OEnds.call0 hm_34 rfl rfl (by decide) rfl (as := [.ref 1, .int v11, .int t0]) (rest := []) rfl rfl (ok_mix hq156) ?_
  refine OEnds.adv hm_34 5 (pc' := 147) (L' := [qr 1, qu, qu, qu, qu, qu, qu, qu, qu, qu, qu, qi r133, qi t0, qu]) (S' := [.int zc, .int r133, .ref 1]) (H' := (c0 :: bk0 zm zg zh zv zu zt zs zr zd za zb ze zk zp zc zi zf zj zq zw zl zo zn po)) rfl ?_
  obtain ⟨r134, hq157, h⟩ := bnd h
  refine OEnds.call0 hm_34 rfl rfl (by decide) rfl (as := [.ref 1, .int r133, .int zc]) (rest := []) rfl rfl (ok_mix hq157) ?_
  refine OEnds.adv hm_34 3 (pc' := 155) (L' := [qr 1, qu, qu, qu, qu, qu, qu, qu, qu, qu, qu, qi r134, qi t0, qi 0]) (S' := []) (H' := (c0 :: bk0 zm zg zh zv zu zt zs zr zd za zb ze zk zp zc zi zf zj zq zw zl zo zn po)) rfl ?_
  exact ok_challenge_155 (k192 := f_challenge_192 zd zc) ok_challenge_192 100000 h
theorem ok_challenge_104 {zm zg : List Int64} {zh : List Int32} {zv : List Int64} {zu : List Int32} {zt zs : List Int64} {zr zd : List Int32} {za zb ze zk zp : Int64} {zc : Int32} {zi zf : Int64} {zj : Int32} {zq : Int64} {zw zl : Int32} {zo zn : Int64} {c0 : ACell} {po : List ACell} : ∀ {v6 : Int32} {v9 : Int64} {v11 t0 : Int32} {d1 d2 d3 d4 d5 d7 d8 d12 d13 : Slot} {res : Int32}, f_challenge_104 zd zc v6 v9 v11 t0 = some res → OEnds own_P 34 104 [qr 1, d1, d2, d3, d4, d5, qi v6, d7, d8, ql v9, qw, qi v11, d12, d13] [.int t0] (c0 :: bk0 zm zg zh zv zu zt zs zr zd za zb ze zk zp zc zi zf zj zq zw zl zo zn po) (some (.int res), (c0 :: bk0 zm zg zh zv zu zt zs zr zd za zb ze zk zp zc zi zf zj zq zw zl zo zn po), 0, 0) := by
  intro v6 v9 v11 t0 d1 d2 d3 d4 d5 d7 d8 d12 d13 res h
  unfold f_challenge_104 at h
  refine OEnds.adv hm_34 4 (pc' := 111) (L' := [qr 1, qu, qu, qu, qu, qu, qi v6, qu, qu, ql v9, qw, qi v11, qi t0, qu]) (S' := [.int t0, .int v11, .ref 1]) (H' := (c0 :: bk0 zm zg zh zv zu zt zs zr zd za zb ze zk zp zc zi zf zj zq zw zl zo zn po)) rfl ?_
  obtain ⟨r132, hq158, h⟩ := bnd h
  refine OEnds.call0 hm_34 rfl rfl (by decide) rfl (as := [.ref 1, .int v11, .int t0]) (rest := []) rfl rfl (ok_mix hq158) ?_
  refine OEnds.adv hm_34 2 (pc' := 118) (L' := [qr 1, qu, qu, qu, qu, qu, qi v6, qu, qu, ql v9, qw, qi r132, qi t0, qu]) (S' := [.int v6]) (H' := (c0 :: bk0 zm zg zh zv zu zt zs zr zd za zb ze zk zp zc zi zf zj zq zw zl zo zn po)) rfl ?_
  by_cases hc159 : v6 = (0 : Int32)
  · simp only [if_pos hc159] at h
    refine OEnds.ifT hm_34 rfl (q := 125) rfl ((teq hc159).1) ?_
    refine OEnds.adv hm_34 2 (pc' := 128) (L' := [qr 1, qu, qu, qu, qu, qu, qi v6, qu, qu, ql v9, qw, qi r132, qi t0, qu]) (S' := [.int v9.toInt32]) (H' := (c0 :: bk0 zm zg zh zv zu zt zs zr zd za zb ze zk zp zc zi zf zj zq zw zl zo zn po)) rfl ?_
    exact ok_challenge_128 h
  · simp only [if_neg hc159] at h
    refine OEnds.ifF hm_34 rfl ((feq hc159).1) ?_
    refine OEnds.adv hm_34 2 (pc' := 128) (L' := [qr 1, qu, qu, qu, qu, qu, qi v6, qu, qu, ql v9, qw, qi r132, qi t0, qu]) (S' := [.int 0]) (H' := (c0 :: bk0 zm zg zh zv zu zt zs zr zd za zb ze zk zp zc zi zf zj zq zw zl zo zn po)) rfl ?_
    exact ok_challenge_128 h
theorem ok_challenge_80 {zm zg : List Int64} {zh : List Int32} {zv : List Int64} {zu : List Int32} {zt zs : List Int64} {zr zd : List Int32} {za zb ze zk zp : Int64} {zc : Int32} {zi zf : Int64} {zj : Int32} {zq : Int64} {zw zl : Int32} {zo zn : Int64} {c0 : ACell} {po : List ACell} : ∀ {v6 : Int32} {v7 v9 : Int64} {v11 t0 : Int32} {d1 d2 d3 d4 d5 d12 d13 : Slot} {res : Int32}, f_challenge_80 zd zc v6 v7 v9 v11 t0 = some res → OEnds own_P 34 80 [qr 1, d1, d2, d3, d4, d5, qi v6, ql v7, qw, ql v9, qw, qi v11, d12, d13] [.int t0] (c0 :: bk0 zm zg zh zv zu zt zs zr zd za zb ze zk zp zc zi zf zj zq zw zl zo zn po) (some (.int res), (c0 :: bk0 zm zg zh zv zu zt zs zr zd za zb ze zk zp zc zi zf zj zq zw zl zo zn po), 0, 0) := by
  intro v6 v7 v9 v11 t0 d1 d2 d3 d4 d5 d12 d13 res h
  unfold f_challenge_80 at h
  refine OEnds.adv hm_34 4 (pc' := 87) (L' := [qr 1, qu, qu, qu, qu, qu, qi v6, ql v7, qw, ql v9, qw, qi v11, qi t0, qu]) (S' := [.int t0, .int v11, .ref 1]) (H' := (c0 :: bk0 zm zg zh zv zu zt zs zr zd za zb ze zk zp zc zi zf zj zq zw zl zo zn po)) rfl ?_
  obtain ⟨r131, hq160, h⟩ := bnd h
  refine OEnds.call0 hm_34 rfl rfl (by decide) rfl (as := [.ref 1, .int v11, .int t0]) (rest := []) rfl rfl (ok_mix hq160) ?_
  refine OEnds.adv hm_34 2 (pc' := 94) (L' := [qr 1, qu, qu, qu, qu, qu, qi v6, ql v7, qw, ql v9, qw, qi r131, qi t0, qu]) (S' := [.int v6]) (H' := (c0 :: bk0 zm zg zh zv zu zt zs zr zd za zb ze zk zp zc zi zf zj zq zw zl zo zn po)) rfl ?_
  by_cases hc161 : v6 = (0 : Int32)
  · simp only [if_pos hc161] at h
    refine OEnds.ifT hm_34 rfl (q := 101) rfl ((teq hc161).1) ?_
    refine OEnds.adv hm_34 2 (pc' := 104) (L' := [qr 1, qu, qu, qu, qu, qu, qi v6, ql v7, qw, ql v9, qw, qi r131, qi t0, qu]) (S' := [.int v7.toInt32]) (H' := (c0 :: bk0 zm zg zh zv zu zt zs zr zd za zb ze zk zp zc zi zf zj zq zw zl zo zn po)) rfl ?_
    exact ok_challenge_104 h
  · simp only [if_neg hc161] at h
    refine OEnds.ifF hm_34 rfl ((feq hc161).1) ?_
    refine OEnds.adv hm_34 2 (pc' := 104) (L' := [qr 1, qu, qu, qu, qu, qu, qi v6, ql v7, qw, ql v9, qw, qi r131, qi t0, qu]) (S' := [.int 0]) (H' := (c0 :: bk0 zm zg zh zv zu zt zs zr zd za zb ze zk zp zc zi zf zj zq zw zl zo zn po)) rfl ?_
    exact ok_challenge_104 h
theorem ok_challenge_58 {zm zg : List Int64} {zh : List Int32} {zv : List Int64} {zu : List Int32} {zt zs : List Int64} {zr zd : List Int32} {za zb ze zk zp : Int64} {zc : Int32} {zi zf : Int64} {zj : Int32} {zq : Int64} {zw zl : Int32} {zo zn : Int64} {c0 : ACell} {po : List ACell} : ∀ {v6 : Int32} {v7 v9 : Int64} {v11 t0 : Int32} {d1 d2 d3 d4 d5 d12 d13 : Slot} {res : Int32}, f_challenge_58 zd zc v6 v7 v9 v11 t0 = some res → OEnds own_P 34 58 [qr 1, d1, d2, d3, d4, d5, qi v6, ql v7, qw, ql v9, qw, qi v11, d12, d13] [.int t0] (c0 :: bk0 zm zg zh zv zu zt zs zr zd za zb ze zk zp zc zi zf zj zq zw zl zo zn po) (some (.int res), (c0 :: bk0 zm zg zh zv zu zt zs zr zd za zb ze zk zp zc zi zf zj zq zw zl zo zn po), 0, 0) := by
  intro v6 v7 v9 v11 t0 d1 d2 d3 d4 d5 d12 d13 res h
  unfold f_challenge_58 at h
  refine OEnds.adv hm_34 4 (pc' := 65) (L' := [qr 1, qu, qu, qu, qu, qu, qi v6, ql v7, qw, ql v9, qw, qi v11, qi t0, qu]) (S' := [.int t0, .int v11, .ref 1]) (H' := (c0 :: bk0 zm zg zh zv zu zt zs zr zd za zb ze zk zp zc zi zf zj zq zw zl zo zn po)) rfl ?_
  obtain ⟨r130, hq162, h⟩ := bnd h
  refine OEnds.call0 hm_34 rfl rfl (by decide) rfl (as := [.ref 1, .int v11, .int t0]) (rest := []) rfl rfl (ok_mix hq162) ?_
  refine OEnds.adv hm_34 2 (pc' := 72) (L' := [qr 1, qu, qu, qu, qu, qu, qi v6, ql v7, qw, ql v9, qw, qi r130, qi t0, qu]) (S' := [.int v6]) (H' := (c0 :: bk0 zm zg zh zv zu zt zs zr zd za zb ze zk zp zc zi zf zj zq zw zl zo zn po)) rfl ?_
  by_cases hc163 : v6 = (0 : Int32)
  · simp only [if_pos hc163] at h
    refine OEnds.ifT hm_34 rfl (q := 79) rfl ((teq hc163).1) ?_
    refine OEnds.adv hm_34 1 (pc' := 80) (L' := [qr 1, qu, qu, qu, qu, qu, qi v6, ql v7, qw, ql v9, qw, qi r130, qi t0, qu]) (S' := [.int 0]) (H' := (c0 :: bk0 zm zg zh zv zu zt zs zr zd za zb ze zk zp zc zi zf zj zq zw zl zo zn po)) rfl ?_
    exact ok_challenge_80 h
  · simp only [if_neg hc163] at h
    refine OEnds.ifF hm_34 rfl ((feq hc163).1) ?_
    refine OEnds.adv hm_34 2 (pc' := 80) (L' := [qr 1, qu, qu, qu, qu, qu, qi v6, ql v7, qw, ql v9, qw, qi r130, qi t0, qu]) (S' := [.int 1]) (H' := (c0 :: bk0 zm zg zh zv zu zt zs zr zd za zb ze zk zp zc zi zf zj zq zw zl zo zn po)) rfl ?_
    exact ok_challenge_80 h
theorem ok_challenge_35 {zm zg : List Int64} {zh : List Int32} {zv : List Int64} {zu : List Int32} {zt zs : List Int64} {zr zd : List Int32} {za zb ze zk zp : Int64} {zc : Int32} {zi zf : Int64} {zj : Int32} {zq : Int64} {zw zl : Int32} {zo zn : Int64} {c0 : ACell} {po : List ACell} : ∀ {v1 : Int32} {v4 : Int64} {v6 : Int32} {v7 v9 : Int64} {v11 t0 : Int32} {d2 d3 d12 d13 : Slot} {res : Int32}, f_challenge_35 zd zc v1 v4 v6 v7 v9 v11 t0 = some res → OEnds own_P 34 35 [qr 1, qi v1, d2, d3, ql v4, qw, qi v6, ql v7, qw, ql v9, qw, qi v11, d12, d13] [.int t0] (c0 :: bk0 zm zg zh zv zu zt zs zr zd za zb ze zk zp zc zi zf zj zq zw zl zo zn po) (some (.int res), (c0 :: bk0 zm zg zh zv zu zt zs zr zd za zb ze zk zp zc zi zf zj zq zw zl zo zn po), 0, 0) := by
  intro v1 v4 v6 v7 v9 v11 t0 d2 d3 d12 d13 res h
  unfold f_challenge_35 at h
  refine OEnds.adv hm_34 4 (pc' := 42) (L' := [qr 1, qi v1, qu, qu, ql v4, qw, qi v6, ql v7, qw, ql v9, qw, qi v11, qi t0, qu]) (S' := [.int t0, .int v11, .ref 1]) (H' := (c0 :: bk0 zm zg zh zv zu zt zs zr zd za zb ze zk zp zc zi zf zj zq zw zl zo zn po)) rfl ?_
  obtain ⟨r129, hq164, h⟩ := bnd h
  refine OEnds.call0 hm_34 rfl rfl (by decide) rfl (as := [.ref 1, .int v11, .int t0]) (rest := []) rfl rfl (ok_mix hq164) ?_
  refine OEnds.adv hm_34 2 (pc' := 48) (L' := [qr 1, qi v1, qu, qu, ql v4, qw, qi v6, ql v7, qw, ql v9, qw, qi r129, qi t0, qu]) (S' := [.int v1]) (H' := (c0 :: bk0 zm zg zh zv zu zt zs zr zd za zb ze zk zp zc zi zf zj zq zw zl zo zn po)) rfl ?_
  by_cases hc165 : v1 = (0 : Int32)
  · simp only [if_pos hc165] at h
    refine OEnds.ifT hm_34 rfl (q := 55) rfl ((teq hc165).1) ?_
    refine OEnds.adv hm_34 2 (pc' := 58) (L' := [qr 1, qi v1, qu, qu, ql v4, qw, qi v6, ql v7, qw, ql v9, qw, qi r129, qi t0, qu]) (S' := [.int v4.toInt32]) (H' := (c0 :: bk0 zm zg zh zv zu zt zs zr zd za zb ze zk zp zc zi zf zj zq zw zl zo zn po)) rfl ?_
    exact ok_challenge_58 h
  · simp only [if_neg hc165] at h
    refine OEnds.ifF hm_34 rfl ((feq hc165).1) ?_
    refine OEnds.adv hm_34 2 (pc' := 58) (L' := [qr 1, qi v1, qu, qu, ql v4, qw, qi v6, ql v7, qw, ql v9, qw, qi r129, qi t0, qu]) (S' := [.int 0]) (H' := (c0 :: bk0 zm zg zh zv zu zt zs zr zd za zb ze zk zp zc zi zf zj zq zw zl zo zn po)) rfl ?_
    exact ok_challenge_58 h
theorem ok_challenge_13 {zm zg : List Int64} {zh : List Int32} {zv : List Int64} {zu : List Int32} {zt zs : List Int64} {zr zd : List Int32} {za zb ze zk zp : Int64} {zc : Int32} {zi zf : Int64} {zj : Int32} {zq : Int64} {zw zl : Int32} {zo zn : Int64} {c0 : ACell} {po : List ACell} : ∀ {v1 : Int32} {v2 v4 : Int64} {v6 : Int32} {v7 v9 : Int64} {v11 t0 : Int32} {d12 d13 : Slot} {res : Int32}, f_challenge_13 zd zc v1 v2 v4 v6 v7 v9 v11 t0 = some res → OEnds own_P 34 13 [qr 1, qi v1, ql v2, qw, ql v4, qw, qi v6, ql v7, qw, ql v9, qw, qi v11, d12, d13] [.int t0] (c0 :: bk0 zm zg zh zv zu zt zs zr zd za zb ze zk zp zc zi zf zj zq zw zl zo zn po) (some (.int res), (c0 :: bk0 zm zg zh zv zu zt zs zr zd za zb ze zk zp zc zi zf zj zq zw zl zo zn po), 0, 0) := by
  intro v1 v2 v4 v6 v7 v9 v11 t0 d12 d13 res h
  unfold f_challenge_13 at h
  refine OEnds.adv hm_34 4 (pc' := 20) (L' := [qr 1, qi v1, ql v2, qw, ql v4, qw, qi v6, ql v7, qw, ql v9, qw, qi v11, qi t0, qu]) (S' := [.int t0, .int v11, .ref 1]) (H' := (c0 :: bk0 zm zg zh zv zu zt zs zr zd za zb ze zk zp zc zi zf zj zq zw zl zo zn po)) rfl ?_
  obtain ⟨r128, hq166, h⟩ := bnd h
  refine OEnds.call0 hm_34 rfl rfl (by decide) rfl (as := [.ref 1, .int v11, .int t0]) (rest := []) rfl rfl (ok_mix hq166) ?_
  refine OEnds.adv hm_34 2 (pc' := 26) (L' := [qr 1, qi v1, ql v2, qw, ql v4, qw, qi v6, ql v7, qw, ql v9, qw, qi r128, qi t0, qu]) (S' := [.int v1]) (H' := (c0 :: bk0 zm zg zh zv zu zt zs zr zd za zb ze zk zp zc zi zf zj zq zw zl zo zn po)) rfl ?_
  by_cases hc167 : v1 = (0 : Int32)
  · simp only [if_pos hc167] at h
    refine OEnds.ifT hm_34 rfl (q := 33) rfl ((teq hc167).1) ?_
    refine OEnds.adv hm_34 2 (pc' := 35) (L' := [qr 1, qi v1, ql v2, qw, ql v4, qw, qi v6, ql v7, qw, ql v9, qw, qi r128, qi t0, qu]) (S' := [.int v2.toInt32]) (H' := (c0 :: bk0 zm zg zh zv zu zt zs zr zd za zb ze zk zp zc zi zf zj zq zw zl zo zn po)) rfl ?_
    exact ok_challenge_35 h
  · simp only [if_neg hc167] at h
    refine OEnds.ifF hm_34 rfl ((feq hc167).1) ?_
    refine OEnds.adv hm_34 2 (pc' := 35) (L' := [qr 1, qi v1, ql v2, qw, ql v4, qw, qi v6, ql v7, qw, ql v9, qw, qi r128, qi t0, qu]) (S' := [.int 0]) (H' := (c0 :: bk0 zm zg zh zv zu zt zs zr zd za zb ze zk zp zc zi zf zj zq zw zl zo zn po)) rfl ?_
    exact ok_challenge_35 h
theorem ok_challenge {zm zg : List Int64} {zh : List Int32} {zv : List Int64} {zu : List Int32} {zt zs : List Int64} {zr zd : List Int32} {za zb ze zk zp : Int64} {zc : Int32} {zi zf : Int64} {zj : Int32} {zq : Int64} {zw zl : Int32} {zo zn : Int64} {c0 : ACell} {po : List ACell} {v1 : Int32} {v2 v4 : Int64} {v6 : Int32} {v7 v9 : Int64} {res : Int32} (h : f_challenge zd zc v1 v2 v4 v6 v7 v9 = some res) : OEnds own_P 34 0 [qr 1, qi v1, ql v2, qw, ql v4, qw, qi v6, ql v7, qw, ql v9, qw, qu, qu, qu] [] (c0 :: bk0 zm zg zh zv zu zt zs zr zd za zb ze zk zp zc zi zf zj zq zw zl zo zn po) (some (.int res), (c0 :: bk0 zm zg zh zv zu zt zs zr zd za zb ze zk zp zc zi zf zj zq zw zl zo zn po), 0, 0) := by
  unfold f_challenge at h
  refine OEnds.adv hm_34 3 (pc' := 5) (L' := [qr 1, qi v1, ql v2, qw, ql v4, qw, qi v6, ql v7, qw, ql v9, qw, qi 1779033703, qu, qu]) (S' := [.int v1]) (H' := (c0 :: bk0 zm zg zh zv zu zt zs zr zd za zb ze zk zp zc zi zf zj zq zw zl zo zn po)) rfl ?_
  by_cases hc168 : v1 = (0 : Int32)
  · simp only [if_pos hc168] at h
    refine OEnds.ifT hm_34 rfl (q := 12) rfl ((teq hc168).1) ?_
    refine OEnds.adv hm_34 1 (pc' := 13) (L' := [qr 1, qi v1, ql v2, qw, ql v4, qw, qi v6, ql v7, qw, ql v9, qw, qi 1779033703, qu, qu]) (S' := [.int 0]) (H' := (c0 :: bk0 zm zg zh zv zu zt zs zr zd za zb ze zk zp zc zi zf zj zq zw zl zo zn po)) rfl ?_
    exact ok_challenge_13 h
  · simp only [if_neg hc168] at h
    refine OEnds.ifF hm_34 rfl ((feq hc168).1) ?_
    refine OEnds.adv hm_34 2 (pc' := 13) (L' := [qr 1, qi v1, ql v2, qw, ql v4, qw, qi v6, ql v7, qw, ql v9, qw, qi 1779033703, qu, qu]) (S' := [.int 1]) (H' := (c0 :: bk0 zm zg zh zv zu zt zs zr zd za zb ze zk zp zc zi zf zj zq zw zl zo zn po)) rfl ?_
    exact ok_challenge_13 h
theorem ok_storeSig_31 {zm zg : List Int64} {zh : List Int32} {zv : List Int64} {zu : List Int32} {zt zs : List Int64} {zr zd : List Int32} {za zb ze zk zp : Int64} {zc zw zl : Int32} {zo zn : Int64} {c0 : ACell} {po : List ACell} : ∀ {zi zf : Int64} {zj : Int32} {zq v6 t0 : Int64} {d1 d2 d3 d4 d5 : Slot} {w_o_sigX w_o_sigY : Int64} {w_o_sigInf : Int32} {w_o_sigS : Int64}, f_storeSig_31 zi zf zj zq v6 t0 = some (w_o_sigX, w_o_sigY, w_o_sigInf, w_o_sigS) → OEnds own_P 26 31 [qr 1, d1, d2, d3, d4, d5, ql v6, qw] [.long t0, .ref 1] (c0 :: bk0 zm zg zh zv zu zt zs zr zd za zb ze zk zp zc zi zf zj zq zw zl zo zn po) (none, (c0 :: bk0 zm zg zh zv zu zt zs zr zd za zb ze zk zp zc w_o_sigX w_o_sigY w_o_sigInf w_o_sigS zw zl zo zn po), 0, 0) := by
  intro zi zf zj zq v6 t0 d1 d2 d3 d4 d5 w_o_sigX w_o_sigY w_o_sigInf w_o_sigS h
  unfold f_storeSig_31 at h
  refine OEnds.adv hm_26 4 (pc' := 40) (L' := [qr 1, qu, qu, qu, qu, qu, ql v6, qw]) (S' := []) (H' := (c0 :: bk0 zm zg zh zv zu zt zs zr zd za zb ze zk zp zc zi t0 zj v6 zw zl zo zn po)) rfl ?_
  cases h
  exact OEnds.vret hm_26 rfl rfl
theorem ok_storeSig_17 {zm zg : List Int64} {zh : List Int32} {zv : List Int64} {zu : List Int32} {zt zs : List Int64} {zr zd : List Int32} {za zb ze zk zp : Int64} {zc zw zl : Int32} {zo zn : Int64} {c0 : ACell} {po : List ACell} : ∀ {zi zf : Int64} {zj : Int32} {zq v3 : Int64} {v5 : Int32} {v6 t0 : Int64} {d1 d2 : Slot} {w_o_sigX w_o_sigY : Int64} {w_o_sigInf : Int32} {w_o_sigS : Int64}, f_storeSig_17 zi zf zj zq v3 v5 v6 t0 = some (w_o_sigX, w_o_sigY, w_o_sigInf, w_o_sigS) → OEnds own_P 26 17 [qr 1, d1, d2, ql v3, qw, qi v5, ql v6, qw] [.long t0, .ref 1] (c0 :: bk0 zm zg zh zv zu zt zs zr zd za zb ze zk zp zc zi zf zj zq zw zl zo zn po) (none, (c0 :: bk0 zm zg zh zv zu zt zs zr zd za zb ze zk zp zc w_o_sigX w_o_sigY w_o_sigInf w_o_sigS zw zl zo zn po), 0, 0) := by
  intro zi zf zj zq v3 v5 v6 t0 d1 d2 w_o_sigX w_o_sigY w_o_sigInf w_o_sigS h
  unfold f_storeSig_17 at h
  refine OEnds.adv hm_26 3 (pc' := 23) (L' := [qr 1, qu, qu, ql v3, qw, qi v5, ql v6, qw]) (S' := [.int v5, .ref 1]) (H' := (c0 :: bk0 zm zg zh zv zu zt zs zr zd za zb ze zk zp zc t0 zf zj zq zw zl zo zn po)) rfl ?_
  by_cases hc169 : v5 = (0 : Int32)
  · simp only [if_pos hc169] at h
    refine OEnds.ifT hm_26 rfl (q := 30) rfl ((teq hc169).1) ?_
    refine OEnds.adv hm_26 1 (pc' := 31) (L' := [qr 1, qu, qu, ql v3, qw, qi v5, ql v6, qw]) (S' := [.long v3, .ref 1]) (H' := (c0 :: bk0 zm zg zh zv zu zt zs zr zd za zb ze zk zp zc t0 zf zj zq zw zl zo zn po)) rfl ?_
    exact ok_storeSig_31 h
  · simp only [if_neg hc169] at h
    refine OEnds.ifF hm_26 rfl ((feq hc169).1) ?_
    refine OEnds.adv hm_26 2 (pc' := 31) (L' := [qr 1, qu, qu, ql v3, qw, qi v5, ql v6, qw]) (S' := [.long 0, .ref 1]) (H' := (c0 :: bk0 zm zg zh zv zu zt zs zr zd za zb ze zk zp zc t0 zf zj zq zw zl zo zn po)) rfl ?_
    exact ok_storeSig_31 h
theorem ok_storeSig {zm zg : List Int64} {zh : List Int32} {zv : List Int64} {zu : List Int32} {zt zs : List Int64} {zr zd : List Int32} {za zb ze zk zp : Int64} {zc zw zl : Int32} {zo zn : Int64} {c0 : ACell} {po : List ACell} {zi zf : Int64} {zj : Int32} {zq v1 v3 : Int64} {v5 : Int32} {v6 w_o_sigX w_o_sigY : Int64} {w_o_sigInf : Int32} {w_o_sigS : Int64} (h : f_storeSig zi zf zj zq v1 v3 v5 v6 = some (w_o_sigX, w_o_sigY, w_o_sigInf, w_o_sigS)) : OEnds own_P 26 0 [qr 1, ql v1, qw, ql v3, qw, qi v5, ql v6, qw] [] (c0 :: bk0 zm zg zh zv zu zt zs zr zd za zb ze zk zp zc zi zf zj zq zw zl zo zn po) (none, (c0 :: bk0 zm zg zh zv zu zt zs zr zd za zb ze zk zp zc w_o_sigX w_o_sigY w_o_sigInf w_o_sigS zw zl zo zn po), 0, 0) := by
  unfold f_storeSig at h
  refine OEnds.adv hm_26 2 (pc' := 3) (L' := [qr 1, ql v1, qw, ql v3, qw, qi v5, ql v6, qw]) (S' := [.int v5, .ref 1]) (H' := (c0 :: bk0 zm zg zh zv zu zt zs zr zd za zb ze zk zp zc zi zf zj zq zw zl zo zn po)) rfl ?_
  by_cases hz170 : v5 = 0 ∨ v5 = 1
  · simp only [if_pos hz170] at h
    refine OEnds.plain hm_26 rfl rfl (x_putZ rfl (Nat.le_of_ble_eq_true rfl) rfl hz170) ?_
    refine OEnds.adv hm_26 2 (pc' := 9) (L' := [qr 1, ql v1, qw, ql v3, qw, qi v5, ql v6, qw]) (S' := [.int v5, .ref 1]) (H' := (c0 :: bk0 zm zg zh zv zu zt zs zr zd za zb ze zk zp zc zi zf v5 zq zw zl zo zn po)) rfl ?_
    by_cases hc171 : v5 = (0 : Int32)
    · simp only [if_pos hc171] at h
      refine OEnds.ifT hm_26 rfl (q := 16) rfl ((teq hc171).1) ?_
      refine OEnds.adv hm_26 1 (pc' := 17) (L' := [qr 1, ql v1, qw, ql v3, qw, qi v5, ql v6, qw]) (S' := [.long v1, .ref 1]) (H' := (c0 :: bk0 zm zg zh zv zu zt zs zr zd za zb ze zk zp zc zi zf v5 zq zw zl zo zn po)) rfl ?_
      exact ok_storeSig_17 h
    · simp only [if_neg hc171] at h
      refine OEnds.ifF hm_26 rfl ((feq hc171).1) ?_
      refine OEnds.adv hm_26 2 (pc' := 17) (L' := [qr 1, ql v1, qw, ql v3, qw, qi v5, ql v6, qw]) (S' := [.long 0, .ref 1]) (H' := (c0 :: bk0 zm zg zh zv zu zt zs zr zd za zb ze zk zp zc zi zf v5 zq zw zl zo zn po)) rfl ?_
      exact ok_storeSig_17 h
  · simp only [if_neg hz170] at h
    cases h
theorem ok_sign {zm zg : List Int64} {zh : List Int32} {zv : List Int64} {zu : List Int32} {zt zs : List Int64} {zr zd : List Int32} {za zb ze zk zp : Int64} {zc : Int32} {c0 : ACell} {po : List ACell} {zi zf : Int64} {zj : Int32} {zq : Int64} {zw zl : Int32} {zo zn : Int64} {v1 v2 res : Int32} {w_o_sigX w_o_sigY : Int64} {w_o_sigInf : Int32} {w_o_sigS : Int64} {w_o_sigE w_o_resInf : Int32} {w_o_resX w_o_resY : Int64} (h : f_sign zv zu zt zs zr zd za zb ze zk zc zi zf zj zq zw zl zo zn v1 v2 = some (res, w_o_sigX, w_o_sigY, w_o_sigInf, w_o_sigS, w_o_sigE, w_o_resInf, w_o_resX, w_o_resY)) : OEnds own_P 22 0 [qr 1, qi v1, qi v2, qu, qu, qu, qu, qu, qu, qu, qu] [] (c0 :: bk0 zm zg zh zv zu zt zs zr zd za zb ze zk zp zc zi zf zj zq zw zl zo zn po) (some (.int res), (c0 :: bk0 zm zg zh zv zu zt zs zr zd za zb ze zk zp zc w_o_sigX w_o_sigY w_o_sigInf w_o_sigS w_o_sigE w_o_resInf w_o_resX w_o_resY po), 0, 0) := by
  unfold f_sign at h
  refine OEnds.adv hm_22 2 (pc' := 2) (L' := [qr 1, qi v1, qi v2, qu, qu, qu, qu, qu, qu, qu, qu]) (S' := [.int v1, .ref 1]) (H' := (c0 :: bk0 zm zg zh zv zu zt zs zr zd za zb ze zk zp zc zi zf zj zq zw zl zo zn po)) rfl ?_
  obtain ⟨r137, hq172, h⟩ := bnd h
  refine OEnds.call0 hm_22 rfl rfl (by decide) rfl (as := [.ref 1, .int v1]) (rest := []) rfl rfl (ok_validParty hq172) ?_
  show OEnds own_P 22 5 [qr 1, qi v1, qi v2, qu, qu, qu, qu, qu, qu, qu, qu] [.int r137] (c0 :: bk0 zm zg zh zv zu zt zs zr zd za zb ze zk zp zc zi zf zj zq zw zl zo zn po) _
  by_cases hc173 : r137 = (0 : Int32)
  · simp only [if_pos hc173] at h
    refine OEnds.ifT hm_22 rfl (q := 22) rfl ((teq hc173).1) ?_
    refine OEnds.adv hm_22 1 (pc' := 23) (L' := [qr 1, qi v1, qi v2, qu, qu, qu, qu, qu, qu, qu, qu]) (S' := [.int 0]) (H' := (c0 :: bk0 zm zg zh zv zu zt zs zr zd za zb ze zk zp zc zi zf zj zq zw zl zo zn po)) rfl ?_
    cases h
    exact OEnds.iret hm_22 rfl rfl
  · simp only [if_neg hc173] at h
    refine OEnds.ifF hm_22 rfl ((feq hc173).1) ?_
    refine OEnds.adv hm_22 3 (pc' := 13) (L' := [qr 1, qi v1, qi v2, qu, qu, qu, qu, qu, qu, qu, qu]) (S' := [.int v1, .ref 6]) (H' := (c0 :: bk0 zm zg zh zv zu zt zs zr zd za zb ze zk zp zc zi zf zj zq zw zl zo zn po)) rfl ?_
    obtain ⟨x138, hx138, h⟩ := bnd h
    refine OEnds.plain hm_22 rfl rfl (x_baload rfl hx138) ?_
    show OEnds own_P 22 14 [qr 1, qi v1, qi v2, qu, qu, qu, qu, qu, qu, qu, qu] [.int x138] (c0 :: bk0 zm zg zh zv zu zt zs zr zd za zb ze zk zp zc zi zf zj zq zw zl zo zn po) _
    by_cases hc174 : x138 = (0 : Int32)
    · simp only [if_pos hc174] at h
      refine OEnds.ifT hm_22 rfl (q := 22) rfl ((teq hc174).1) ?_
      refine OEnds.adv hm_22 1 (pc' := 23) (L' := [qr 1, qi v1, qi v2, qu, qu, qu, qu, qu, qu, qu, qu]) (S' := [.int 0]) (H' := (c0 :: bk0 zm zg zh zv zu zt zs zr zd za zb ze zk zp zc zi zf zj zq zw zl zo zn po)) rfl ?_
      cases h
      exact OEnds.iret hm_22 rfl rfl
    · simp only [if_neg hc174] at h
      refine OEnds.ifF hm_22 rfl ((feq hc174).1) ?_
      refine OEnds.adv hm_22 2 (pc' := 19) (L' := [qr 1, qi v1, qi v2, qu, qu, qu, qu, qu, qu, qu, qu]) (S' := [.int 1, .int v2]) (H' := (c0 :: bk0 zm zg zh zv zu zt zs zr zd za zb ze zk zp zc zi zf zj zq zw zl zo zn po)) rfl ?_
      by_cases hc175 : v2 < (1 : Int32)
      · simp only [if_pos hc175] at h
        refine OEnds.icmpF hm_22 rfl ((tlt hc175).2.1) ?_
        refine OEnds.adv hm_22 1 (pc' := 23) (L' := [qr 1, qi v1, qi v2, qu, qu, qu, qu, qu, qu, qu, qu]) (S' := [.int 0]) (H' := (c0 :: bk0 zm zg zh zv zu zt zs zr zd za zb ze zk zp zc zi zf zj zq zw zl zo zn po)) rfl ?_
        cases h
        exact OEnds.iret hm_22 rfl rfl
      · simp only [if_neg hc175] at h
        refine OEnds.icmpT hm_22 rfl (q := 24) rfl ((flt hc175).2.1) ?_
        refine OEnds.adv hm_22 8 (pc' := 36) (L' := [qr 1, qi v1, qi v2, qu, qu, qu, qu, qu, qu, qu, qu]) (S' := [.long v2.toInt64, .int 0, .long zk, .long ze, .ref 1]) (H' := (c0 :: bk0 zm zg zh zv zu zt zs zr zd za zb ze zk zp zc zi zf zj zq zw zl zo zn po)) rfl ?_
        obtain ⟨⟨s139, s140, s141⟩, hq176, h⟩ := bnd h
        refine OEnds.call0 hm_22 rfl rfl (by decide) rfl (as := [.ref 1, .long ze, .long zk, .int 0, .long v2.toInt64]) (rest := []) rfl rfl (ok_scalarMul hq176) ?_
        refine OEnds.adv hm_22 16 (pc' := 67) (L' := [qr 1, qi v1, qi v2, ql s140, qw, ql s141, qw, qi s139, qu, qu, qu]) (S' := [.int v1, .ref 9, .long s141, .long s140, .int s139, .ref 1]) (H' := (c0 :: bk0 zm zg zh zv zu zt zs zr zd za zb ze zk zp zc zi zf zj zq zw s139 s140 s141 po)) rfl ?_
        obtain ⟨x142, hx142, h⟩ := bnd h
        refine OEnds.plain hm_22 rfl rfl (x_baload rfl hx142) ?_
        refine OEnds.adv hm_22 3 (pc' := 73) (L' := [qr 1, qi v1, qi v2, ql s140, qw, ql s141, qw, qi s139, qu, qu, qu]) (S' := [.int v1, .ref 7, .int x142, .long s141, .long s140, .int s139, .ref 1]) (H' := (c0 :: bk0 zm zg zh zv zu zt zs zr zd za zb ze zk zp zc zi zf zj zq zw s139 s140 s141 po)) rfl ?_
        obtain ⟨x143, hx143, h⟩ := bnd h
        refine OEnds.plain hm_22 rfl rfl (x_laload rfl hx143) ?_
        refine OEnds.adv hm_22 3 (pc' := 79) (L' := [qr 1, qi v1, qi v2, ql s140, qw, ql s141, qw, qi s139, qu, qu, qu]) (S' := [.int v1, .ref 8, .long x143, .int x142, .long s141, .long s140, .int s139, .ref 1]) (H' := (c0 :: bk0 zm zg zh zv zu zt zs zr zd za zb ze zk zp zc zi zf zj zq zw s139 s140 s141 po)) rfl ?_
        obtain ⟨x144, hx144, h⟩ := bnd h
        refine OEnds.plain hm_22 rfl rfl (x_laload rfl hx144) ?_
        show OEnds own_P 22 80 [qr 1, qi v1, qi v2, ql s140, qw, ql s141, qw, qi s139, qu, qu, qu] [.long x144, .long x143, .int x142, .long s141, .long s140, .int s139, .ref 1] (c0 :: bk0 zm zg zh zv zu zt zs zr zd za zb ze zk zp zc zi zf zj zq zw s139 s140 s141 po) _
        obtain ⟨r145, hq177, h⟩ := bnd h
        refine OEnds.call0 hm_22 rfl rfl (by decide) rfl (as := [.ref 1, .int s139, .long s140, .long s141, .int x142, .long x143, .long x144]) (rest := []) rfl rfl (ok_challenge hq177) ?_
        refine OEnds.adv hm_22 8 (pc' := 95) (L' := [qr 1, qi v1, qi v2, ql s140, qw, ql s141, qw, qi s139, qi r145, qu, qu]) (S' := [.int v1, .ref 5, .long r145.toInt64, .long v2.toInt64]) (H' := (c0 :: bk0 zm zg zh zv zu zt zs zr zd za zb ze zk zp zc zi zf zj zq zw s139 s140 s141 po)) rfl ?_
        obtain ⟨x146, hx146, h⟩ := bnd h
        refine OEnds.plain hm_22 rfl rfl (x_laload rfl hx146) ?_
        refine OEnds.adv hm_22 8 (pc' := 108) (L' := [qr 1, qi v1, qi v2, ql s140, qw, ql s141, qw, qi s139, qi r145, ql (v2.toInt64 + (r145.toInt64 * x146)), qw]) (S' := [.long (v2.toInt64 + (r145.toInt64 * x146)), .int s139, .long s141, .long s140, .ref 1]) (H' := (c0 :: bk0 zm zg zh zv zu zt zs zr zd za zb ze zk zp zc zi zf zj zq zw s139 s140 s141 po)) rfl ?_
        obtain ⟨⟨s147, s148, s149, s150⟩, hq178, h⟩ := bnd h
        refine OEnds.call0 hm_22 rfl rfl (by decide) rfl (as := [.ref 1, .long s140, .long s141, .int s139, .long (v2.toInt64 + (r145.toInt64 * x146))]) (rest := []) rfl rfl (ok_storeSig hq178) ?_
        refine OEnds.adv hm_22 4 (pc' := 118) (L' := [qr 1, qi v1, qi v2, ql s140, qw, ql s141, qw, qi s139, qi r145, ql (v2.toInt64 + (r145.toInt64 * x146)), qw]) (S' := [.int 1]) (H' := (c0 :: bk0 zm zg zh zv zu zt zs zr zd za zb ze zk zp zc s147 s148 s149 s150 r145 s139 s140 s141 po)) rfl ?_
        cases h
        exact OEnds.iret hm_22 rfl rfl
theorem ok_verify_176 {zm zg : List Int64} {zh : List Int32} {zv : List Int64} {zu : List Int32} {zt zs : List Int64} {zr zd : List Int32} {za zb ze zk zp : Int64} {zc : Int32} {zi zf : Int64} {zj : Int32} {zq : Int64} {zw : Int32} {c0 : ACell} {po : List ACell} : ∀ {zl : Int32} {zo zn : Int64} {v7 : Int32} {d1 d2 d3 d4 d5 d6 : Slot} {res w_o_resInf : Int32} {w_o_resX : Int64} {w_o_resY : Int64}, f_verify_176 zu zt zs zr zd za zb ze zk zp zc zi zf zj zq zl zo zn v7 = some (res, w_o_resInf, w_o_resX, w_o_resY) → OEnds own_P 36 176 [qr 1, d1, d2, d3, d4, d5, d6, qi v7] [] (c0 :: bk0 zm zg zh zv zu zt zs zr zd za zb ze zk zp zc zi zf zj zq zw zl zo zn po) (some (.int res), (c0 :: bk0 zm zg zh zv zu zt zs zr zd za zb ze zk zp zc zi zf zj zq zw w_o_resInf w_o_resX w_o_resY po), 0, 0) := by
  intro zl zo zn v7 d1 d2 d3 d4 d5 d6 res w_o_resInf w_o_resX w_o_resY h
  unfold f_verify_176 at h
  refine OEnds.adv hm_36 3 (pc' := 182) (L' := [qr 1, qu, qu, qu, qu, qu, qu, qi v7]) (S' := [.int zl, .int v7]) (H' := (c0 :: bk0 zm zg zh zv zu zt zs zr zd za zb ze zk zp zc zi zf zj zq zw zl zo zn po)) rfl ?_
  by_cases hc179 : v7 = zl
  · simp only [if_pos hc179] at h
    refine OEnds.icmpF hm_36 rfl ((teq hc179).2) ?_
    refine OEnds.adv hm_36 2 (pc' := 190) (L' := [qr 1, qu, qu, qu, qu, qu, qu, qi v7]) (S' := [.int 1]) (H' := (c0 :: bk0 zm zg zh zv zu zt zs zr zd za zb ze zk zp zc zi zf zj zq zw zl zo zn po)) rfl ?_
    cases h
    exact OEnds.iret hm_36 rfl rfl
  · simp only [if_neg hc179] at h
    refine OEnds.icmpT hm_36 rfl (q := 189) rfl ((feq hc179).2) ?_
    refine OEnds.adv hm_36 1 (pc' := 190) (L' := [qr 1, qu, qu, qu, qu, qu, qu, qi v7]) (S' := [.int 0]) (H' := (c0 :: bk0 zm zg zh zv zu zt zs zr zd za zb ze zk zp zc zi zf zj zq zw zl zo zn po)) rfl ?_
    cases h
    exact OEnds.iret hm_36 rfl rfl
theorem ok_verify_43 {zm zg : List Int64} {zh : List Int32} {zv : List Int64} {zu : List Int32} {zt zs : List Int64} {zr zd : List Int32} {za zb ze zk zp : Int64} {zc : Int32} {zi zf : Int64} {zj : Int32} {zq : Int64} {zw : Int32} {c0 : ACell} {po : List ACell} : ∀ {zl : Int32} {zo zn : Int64} {v1 : Int32} {d2 d3 d4 d5 d6 d7 : Slot} {res w_o_resInf : Int32} {w_o_resX : Int64} {w_o_resY : Int64}, f_verify_43 zu zt zs zr zd za zb ze zk zp zc zi zf zj zq zl zo zn v1 = some (res, w_o_resInf, w_o_resX, w_o_resY) → OEnds own_P 36 43 [qr 1, qi v1, d2, d3, d4, d5, d6, d7] [] (c0 :: bk0 zm zg zh zv zu zt zs zr zd za zb ze zk zp zc zi zf zj zq zw zl zo zn po) (some (.int res), (c0 :: bk0 zm zg zh zv zu zt zs zr zd za zb ze zk zp zc zi zf zj zq zw w_o_resInf w_o_resX w_o_resY po), 0, 0) := by
  intro zl zo zn v1 d2 d3 d4 d5 d6 d7 res w_o_resInf w_o_resX w_o_resY h
  unfold f_verify_43 at h
  refine OEnds.adv hm_36 10 (pc' := 61) (L' := [qr 1, qi v1, qu, qu, qu, qu, qu, qu]) (S' := [.int v1, .ref 9, .long zf, .long zi, .int zj, .ref 1]) (H' := (c0 :: bk0 zm zg zh zv zu zt zs zr zd za zb ze zk zp zc zi zf zj zq zw zl zo zn po)) rfl ?_
  obtain ⟨x161, hx161, h⟩ := bnd h
  refine OEnds.plain hm_36 rfl rfl (x_baload rfl hx161) ?_
  refine OEnds.adv hm_36 3 (pc' := 67) (L' := [qr 1, qi v1, qu, qu, qu, qu, qu, qu]) (S' := [.int v1, .ref 7, .int x161, .long zf, .long zi, .int zj, .ref 1]) (H' := (c0 :: bk0 zm zg zh zv zu zt zs zr zd za zb ze zk zp zc zi zf zj zq zw zl zo zn po)) rfl ?_
  obtain ⟨x162, hx162, h⟩ := bnd h
  refine OEnds.plain hm_36 rfl rfl (x_laload rfl hx162) ?_
  refine OEnds.adv hm_36 3 (pc' := 73) (L' := [qr 1, qi v1, qu, qu, qu, qu, qu, qu]) (S' := [.int v1, .ref 8, .long x162, .int x161, .long zf, .long zi, .int zj, .ref 1]) (H' := (c0 :: bk0 zm zg zh zv zu zt zs zr zd za zb ze zk zp zc zi zf zj zq zw zl zo zn po)) rfl ?_
  obtain ⟨x163, hx163, h⟩ := bnd h
  refine OEnds.plain hm_36 rfl rfl (x_laload rfl hx163) ?_
  show OEnds own_P 36 74 [qr 1, qi v1, qu, qu, qu, qu, qu, qu] [.long x163, .long x162, .int x161, .long zf, .long zi, .int zj, .ref 1] (c0 :: bk0 zm zg zh zv zu zt zs zr zd za zb ze zk zp zc zi zf zj zq zw zl zo zn po) _
  obtain ⟨r164, hq180, h⟩ := bnd h
  refine OEnds.call0 hm_36 rfl rfl (by decide) rfl (as := [.ref 1, .int zj, .long zi, .long zf, .int x161, .long x162, .long x163]) (rest := []) rfl rfl (ok_challenge hq180) ?_
  refine OEnds.adv hm_36 9 (pc' := 92) (L' := [qr 1, qi v1, qi r164, qu, qu, qu, qu, qu]) (S' := [.long zq, .int 0, .long zk, .long ze, .ref 1]) (H' := (c0 :: bk0 zm zg zh zv zu zt zs zr zd za zb ze zk zp zc zi zf zj zq zw zl zo zn po)) rfl ?_
  obtain ⟨⟨s165, s166, s167⟩, hq181, h⟩ := bnd h
  refine OEnds.call0 hm_36 rfl rfl (by decide) rfl (as := [.ref 1, .long ze, .long zk, .int 0, .long zq]) (rest := []) rfl rfl (ok_scalarMul hq181) ?_
  refine OEnds.adv hm_36 13 (pc' := 118) (L' := [qr 1, qi v1, qi r164, ql s166, qw, ql s167, qw, qi s165]) (S' := [.int v1, .ref 7, .ref 1]) (H' := (c0 :: bk0 zm zg zh zv zu zt zs zr zd za zb ze zk zp zc zi zf zj zq zw s165 s166 s167 po)) rfl ?_
  obtain ⟨x168, hx168, h⟩ := bnd h
  refine OEnds.plain hm_36 rfl rfl (x_laload rfl hx168) ?_
  refine OEnds.adv hm_36 3 (pc' := 124) (L' := [qr 1, qi v1, qi r164, ql s166, qw, ql s167, qw, qi s165]) (S' := [.int v1, .ref 8, .long x168, .ref 1]) (H' := (c0 :: bk0 zm zg zh zv zu zt zs zr zd za zb ze zk zp zc zi zf zj zq zw s165 s166 s167 po)) rfl ?_
  obtain ⟨x169, hx169, h⟩ := bnd h
  refine OEnds.plain hm_36 rfl rfl (x_laload rfl hx169) ?_
  refine OEnds.adv hm_36 3 (pc' := 130) (L' := [qr 1, qi v1, qi r164, ql s166, qw, ql s167, qw, qi s165]) (S' := [.int v1, .ref 9, .long x169, .long x168, .ref 1]) (H' := (c0 :: bk0 zm zg zh zv zu zt zs zr zd za zb ze zk zp zc zi zf zj zq zw s165 s166 s167 po)) rfl ?_
  obtain ⟨x170, hx170, h⟩ := bnd h
  refine OEnds.plain hm_36 rfl rfl (x_baload rfl hx170) ?_
  refine OEnds.adv hm_36 2 (pc' := 133) (L' := [qr 1, qi v1, qi r164, ql s166, qw, ql s167, qw, qi s165]) (S' := [.long r164.toInt64, .int x170, .long x169, .long x168, .ref 1]) (H' := (c0 :: bk0 zm zg zh zv zu zt zs zr zd za zb ze zk zp zc zi zf zj zq zw s165 s166 s167 po)) rfl ?_
  obtain ⟨⟨s171, s172, s173⟩, hq182, h⟩ := bnd h
  refine OEnds.call0 hm_36 rfl rfl (by decide) rfl (as := [.ref 1, .long x168, .long x169, .int x170, .long r164.toInt64]) (rest := []) rfl rfl (ok_scalarMul hq182) ?_
  refine OEnds.adv hm_36 13 (pc' := 161) (L' := [qr 1, qi v1, qi r164, ql s166, qw, ql s167, qw, qi s165]) (S' := [.int s171, .long s173, .long s172, .int zj, .long zf, .long zi, .ref 1]) (H' := (c0 :: bk0 zm zg zh zv zu zt zs zr zd za zb ze zk zp zc zi zf zj zq zw s171 s172 s173 po)) rfl ?_
  obtain ⟨⟨s174, s175, s176⟩, hq183, h⟩ := bnd h
  refine OEnds.call0 hm_36 rfl rfl (by decide) rfl (as := [.ref 1, .long zi, .long zf, .int zj, .long s172, .long s173, .int s171]) (rest := []) rfl rfl (ok_pointAdd hq183) ?_
  refine OEnds.adv hm_36 1 (pc' := 166) (L' := [qr 1, qi v1, qi r164, ql s166, qw, ql s167, qw, qi s165]) (S' := [.int s165]) (H' := (c0 :: bk0 zm zg zh zv zu zt zs zr zd za zb ze zk zp zc zi zf zj zq zw s174 s175 s176 po)) rfl ?_
  by_cases hc184 : s165 = (0 : Int32)
  · simp only [if_pos hc184] at h
    refine OEnds.ifF hm_36 rfl ((teq hc184).2) ?_
    refine OEnds.adv hm_36 2 (pc' := 173) (L' := [qr 1, qi v1, qi r164, ql s166, qw, ql s167, qw, qi s165]) (S' := [.int s174]) (H' := (c0 :: bk0 zm zg zh zv zu zt zs zr zd za zb ze zk zp zc zi zf zj zq zw s174 s175 s176 po)) rfl ?_
    by_cases hc185 : s174 = (0 : Int32)
    · simp only [if_pos hc185] at h
      refine OEnds.ifT hm_36 rfl (q := 191) rfl ((teq hc185).1) ?_
      refine OEnds.adv hm_36 4 (pc' := 197) (L' := [qr 1, qi v1, qi r164, ql s166, qw, ql s167, qw, qi s165]) (S' := [.int (XT.cmpL s166 s175)]) (H' := (c0 :: bk0 zm zg zh zv zu zt zs zr zd za zb ze zk zp zc zi zf zj zq zw s174 s175 s176 po)) rfl ?_
      by_cases hc186 : s166 = s175
      · simp only [if_pos hc186] at h
        refine OEnds.ifF hm_36 rfl ((teq (c_eq.mpr hc186)).2) ?_
        refine OEnds.adv hm_36 4 (pc' := 207) (L' := [qr 1, qi v1, qi r164, ql s166, qw, ql s167, qw, qi s165]) (S' := [.int (XT.cmpL s167 s176)]) (H' := (c0 :: bk0 zm zg zh zv zu zt zs zr zd za zb ze zk zp zc zi zf zj zq zw s174 s175 s176 po)) rfl ?_
        by_cases hc187 : s167 = s176
        · simp only [if_pos hc187] at h
          refine OEnds.ifF hm_36 rfl ((teq (c_eq.mpr hc187)).2) ?_
          refine OEnds.adv hm_36 2 (pc' := 215) (L' := [qr 1, qi v1, qi r164, ql s166, qw, ql s167, qw, qi s165]) (S' := [.int 1]) (H' := (c0 :: bk0 zm zg zh zv zu zt zs zr zd za zb ze zk zp zc zi zf zj zq zw s174 s175 s176 po)) rfl ?_
          cases h
          exact OEnds.iret hm_36 rfl rfl
        · simp only [if_neg hc187] at h
          refine OEnds.ifT hm_36 rfl (q := 214) rfl ((feq (mt c_eq.mp hc187)).2) ?_
          refine OEnds.adv hm_36 1 (pc' := 215) (L' := [qr 1, qi v1, qi r164, ql s166, qw, ql s167, qw, qi s165]) (S' := [.int 0]) (H' := (c0 :: bk0 zm zg zh zv zu zt zs zr zd za zb ze zk zp zc zi zf zj zq zw s174 s175 s176 po)) rfl ?_
          cases h
          exact OEnds.iret hm_36 rfl rfl
      · simp only [if_neg hc186] at h
        refine OEnds.ifT hm_36 rfl (q := 214) rfl ((feq (mt c_eq.mp hc186)).2) ?_
        refine OEnds.adv hm_36 1 (pc' := 215) (L' := [qr 1, qi v1, qi r164, ql s166, qw, ql s167, qw, qi s165]) (S' := [.int 0]) (H' := (c0 :: bk0 zm zg zh zv zu zt zs zr zd za zb ze zk zp zc zi zf zj zq zw s174 s175 s176 po)) rfl ?_
        cases h
        exact OEnds.iret hm_36 rfl rfl
    · simp only [if_neg hc185] at h
      refine OEnds.ifF hm_36 rfl ((feq hc185).1) ?_
      show OEnds own_P 36 176 [qr 1, qi v1, qi r164, ql s166, qw, ql s167, qw, qi s165] [] (c0 :: bk0 zm zg zh zv zu zt zs zr zd za zb ze zk zp zc zi zf zj zq zw s174 s175 s176 po) _
      exact ok_verify_176 h
  · simp only [if_neg hc184] at h
    refine OEnds.ifT hm_36 rfl (q := 176) rfl ((feq hc184).2) ?_
    show OEnds own_P 36 176 [qr 1, qi v1, qi r164, ql s166, qw, ql s167, qw, qi s165] [] (c0 :: bk0 zm zg zh zv zu zt zs zr zd za zb ze zk zp zc zi zf zj zq zw s174 s175 s176 po) _
    exact ok_verify_176 h
theorem ok_verify {zm zg : List Int64} {zh : List Int32} {zv : List Int64} {zu : List Int32} {zt zs : List Int64} {zr zd : List Int32} {za zb ze zk zp : Int64} {zc : Int32} {zi zf : Int64} {zj : Int32} {zq : Int64} {zw : Int32} {c0 : ACell} {po : List ACell} {zl : Int32} {zo zn : Int64} {v1 res w_o_resInf : Int32} {w_o_resX w_o_resY : Int64} (h : f_verify zu zt zs zr zd za zb ze zk zp zc zi zf zj zq zl zo zn v1 = some (res, w_o_resInf, w_o_resX, w_o_resY)) : OEnds own_P 36 0 [qr 1, qi v1, qu, qu, qu, qu, qu, qu] [] (c0 :: bk0 zm zg zh zv zu zt zs zr zd za zb ze zk zp zc zi zf zj zq zw zl zo zn po) (some (.int res), (c0 :: bk0 zm zg zh zv zu zt zs zr zd za zb ze zk zp zc zi zf zj zq zw w_o_resInf w_o_resX w_o_resY po), 0, 0) := by
  unfold f_verify at h
  refine OEnds.adv hm_36 2 (pc' := 2) (L' := [qr 1, qi v1, qu, qu, qu, qu, qu, qu]) (S' := [.int v1, .ref 1]) (H' := (c0 :: bk0 zm zg zh zv zu zt zs zr zd za zb ze zk zp zc zi zf zj zq zw zl zo zn po)) rfl ?_
  obtain ⟨r158, hq188, h⟩ := bnd h
  refine OEnds.call0 hm_36 rfl rfl (by decide) rfl (as := [.ref 1, .int v1]) (rest := []) rfl rfl (ok_validParty hq188) ?_
  show OEnds own_P 36 5 [qr 1, qi v1, qu, qu, qu, qu, qu, qu] [.int r158] (c0 :: bk0 zm zg zh zv zu zt zs zr zd za zb ze zk zp zc zi zf zj zq zw zl zo zn po) _
  by_cases hc189 : r158 = (0 : Int32)
  · simp only [if_pos hc189] at h
    refine OEnds.ifT hm_36 rfl (q := 17) rfl ((teq hc189).1) ?_
    refine OEnds.adv hm_36 1 (pc' := 18) (L' := [qr 1, qi v1, qu, qu, qu, qu, qu, qu]) (S' := [.int 0]) (H' := (c0 :: bk0 zm zg zh zv zu zt zs zr zd za zb ze zk zp zc zi zf zj zq zw zl zo zn po)) rfl ?_
    cases h
    exact OEnds.iret hm_36 rfl rfl
  · simp only [if_neg hc189] at h
    refine OEnds.ifF hm_36 rfl ((feq hc189).1) ?_
    refine OEnds.adv hm_36 3 (pc' := 13) (L' := [qr 1, qi v1, qu, qu, qu, qu, qu, qu]) (S' := [.int v1, .ref 6]) (H' := (c0 :: bk0 zm zg zh zv zu zt zs zr zd za zb ze zk zp zc zi zf zj zq zw zl zo zn po)) rfl ?_
    obtain ⟨x159, hx159, h⟩ := bnd h
    refine OEnds.plain hm_36 rfl rfl (x_baload rfl hx159) ?_
    show OEnds own_P 36 14 [qr 1, qi v1, qu, qu, qu, qu, qu, qu] [.int x159] (c0 :: bk0 zm zg zh zv zu zt zs zr zd za zb ze zk zp zc zi zf zj zq zw zl zo zn po) _
    by_cases hc190 : x159 = (0 : Int32)
    · simp only [if_pos hc190] at h
      refine OEnds.ifF hm_36 rfl ((teq hc190).2) ?_
      refine OEnds.adv hm_36 1 (pc' := 18) (L' := [qr 1, qi v1, qu, qu, qu, qu, qu, qu]) (S' := [.int 0]) (H' := (c0 :: bk0 zm zg zh zv zu zt zs zr zd za zb ze zk zp zc zi zf zj zq zw zl zo zn po)) rfl ?_
      cases h
      exact OEnds.iret hm_36 rfl rfl
    · simp only [if_neg hc190] at h
      refine OEnds.ifT hm_36 rfl (q := 19) rfl ((feq hc190).2) ?_
      refine OEnds.adv hm_36 2 (pc' := 23) (L' := [qr 1, qi v1, qu, qu, qu, qu, qu, qu]) (S' := [.int zj]) (H' := (c0 :: bk0 zm zg zh zv zu zt zs zr zd za zb ze zk zp zc zi zf zj zq zw zl zo zn po)) rfl ?_
      by_cases hc191 : zj = (0 : Int32)
      · simp only [if_pos hc191] at h
        refine OEnds.ifF hm_36 rfl ((teq hc191).2) ?_
        refine OEnds.adv hm_36 5 (pc' := 35) (L' := [qr 1, qi v1, qu, qu, qu, qu, qu, qu]) (S' := [.long zf, .long zi, .ref 1]) (H' := (c0 :: bk0 zm zg zh zv zu zt zs zr zd za zb ze zk zp zc zi zf zj zq zw zl zo zn po)) rfl ?_
        obtain ⟨r160, hq192, h⟩ := bnd h
        refine OEnds.call0 hm_36 rfl rfl (by decide) rfl (as := [.ref 1, .long zi, .long zf]) (rest := []) rfl rfl (ok_onCurve hq192) ?_
        show OEnds own_P 36 38 [qr 1, qi v1, qu, qu, qu, qu, qu, qu] [.int r160] (c0 :: bk0 zm zg zh zv zu zt zs zr zd za zb ze zk zp zc zi zf zj zq zw zl zo zn po) _
        by_cases hc193 : r160 = (0 : Int32)
        · simp only [if_pos hc193] at h
          refine OEnds.ifF hm_36 rfl ((teq hc193).2) ?_
          refine OEnds.adv hm_36 1 (pc' := 42) (L' := [qr 1, qi v1, qu, qu, qu, qu, qu, qu]) (S' := [.int 0]) (H' := (c0 :: bk0 zm zg zh zv zu zt zs zr zd za zb ze zk zp zc zi zf zj zq zw zl zo zn po)) rfl ?_
          cases h
          exact OEnds.iret hm_36 rfl rfl
        · simp only [if_neg hc193] at h
          refine OEnds.ifT hm_36 rfl (q := 43) rfl ((feq hc193).2) ?_
          show OEnds own_P 36 43 [qr 1, qi v1, qu, qu, qu, qu, qu, qu] [] (c0 :: bk0 zm zg zh zv zu zt zs zr zd za zb ze zk zp zc zi zf zj zq zw zl zo zn po) _
          exact ok_verify_43 h
      · simp only [if_neg hc191] at h
        refine OEnds.ifT hm_36 rfl (q := 43) rfl ((feq hc191).2) ?_
        show OEnds own_P 36 43 [qr 1, qi v1, qu, qu, qu, qu, qu, qu] [] (c0 :: bk0 zm zg zh zv zu zt zs zr zd za zb ze zk zp zc zi zf zj zq zw zl zo zn po) _
        exact ok_verify_43 h
theorem ok_setSig {zm zg : List Int64} {zh : List Int32} {zv : List Int64} {zu : List Int32} {zt zs : List Int64} {zr zd : List Int32} {za zb ze zk zp : Int64} {zc zw zl : Int32} {zo zn : Int64} {c0 : ACell} {po : List ACell} {zi zf : Int64} {zj : Int32} {zq : Int64} {v1 v2 : Int32} {v3 : Int64} {res : Int32} {w_o_sigX w_o_sigY : Int64} {w_o_sigInf : Int32} {w_o_sigS : Int64} (h : f_setSig za zi zf zj zq v1 v2 v3 = some (res, w_o_sigX, w_o_sigY, w_o_sigInf, w_o_sigS)) : OEnds own_P 25 0 [qr 1, qi v1, qi v2, ql v3, qw] [] (c0 :: bk0 zm zg zh zv zu zt zs zr zd za zb ze zk zp zc zi zf zj zq zw zl zo zn po) (some (.int res), (c0 :: bk0 zm zg zh zv zu zt zs zr zd za zb ze zk zp zc w_o_sigX w_o_sigY w_o_sigInf w_o_sigS zw zl zo zn po), 0, 0) := by
  unfold f_setSig at h
  refine OEnds.adv hm_25 3 (pc' := 3) (L' := [qr 1, qi v1, qi v2, ql v3, qw]) (S' := [.int (XT.cmpL v3 (0 : Int64))]) (H' := (c0 :: bk0 zm zg zh zv zu zt zs zr zd za zb ze zk zp zc zi zf zj zq zw zl zo zn po)) rfl ?_
  by_cases hc194 : v3 < (0 : Int64)
  · simp only [if_pos hc194] at h
    refine OEnds.ifT hm_25 rfl (q := 14) rfl ((tlt (c_lt.mpr hc194)).1) ?_
    refine OEnds.adv hm_25 1 (pc' := 15) (L' := [qr 1, qi v1, qi v2, ql v3, qw]) (S' := [.int 0]) (H' := (c0 :: bk0 zm zg zh zv zu zt zs zr zd za zb ze zk zp zc zi zf zj zq zw zl zo zn po)) rfl ?_
    cases h
    exact OEnds.iret hm_25 rfl rfl
  · simp only [if_neg hc194] at h
    refine OEnds.ifF hm_25 rfl ((flt (mt c_lt.mp hc194)).1) ?_
    refine OEnds.adv hm_25 3 (pc' := 11) (L' := [qr 1, qi v1, qi v2, ql v3, qw]) (S' := [.int (XT.cmpL v3 (281474976710656 : Int64))]) (H' := (c0 :: bk0 zm zg zh zv zu zt zs zr zd za zb ze zk zp zc zi zf zj zq zw zl zo zn po)) rfl ?_
    by_cases hc195 : v3 < (281474976710656 : Int64)
    · simp only [if_pos hc195] at h
      refine OEnds.ifT hm_25 rfl (q := 16) rfl ((tlt (c_lt.mpr hc195)).1) ?_
      refine OEnds.adv hm_25 2 (pc' := 18) (L' := [qr 1, qi v1, qi v2, ql v3, qw]) (S' := [.int (-1), .int v1]) (H' := (c0 :: bk0 zm zg zh zv zu zt zs zr zd za zb ze zk zp zc zi zf zj zq zw zl zo zn po)) rfl ?_
      by_cases hc196 : v1 = (-1 : Int32)
      · simp only [if_pos hc196] at h
        refine OEnds.icmpF hm_25 rfl ((teq hc196).2) ?_
        refine OEnds.adv hm_25 5 (pc' := 26) (L' := [qr 1, qi v1, qi v2, ql v3, qw]) (S' := [.long v3, .int 1, .long 0, .long 0, .ref 1]) (H' := (c0 :: bk0 zm zg zh zv zu zt zs zr zd za zb ze zk zp zc zi zf zj zq zw zl zo zn po)) rfl ?_
        obtain ⟨⟨s187, s188, s189, s190⟩, hq197, h⟩ := bnd h
        refine OEnds.call0 hm_25 rfl rfl (by decide) rfl (as := [.ref 1, .long 0, .long 0, .int 1, .long v3]) (rest := []) rfl rfl (ok_storeSig hq197) ?_
        refine OEnds.adv hm_25 1 (pc' := 30) (L' := [qr 1, qi v1, qi v2, ql v3, qw]) (S' := [.int 1]) (H' := (c0 :: bk0 zm zg zh zv zu zt zs zr zd za zb ze zk zp zc s187 s188 s189 s190 zw zl zo zn po)) rfl ?_
        cases h
        exact OEnds.iret hm_25 rfl rfl
      · simp only [if_neg hc196] at h
        refine OEnds.icmpT hm_25 rfl (q := 31) rfl ((feq hc196).2) ?_
        refine OEnds.adv hm_25 3 (pc' := 34) (L' := [qr 1, qi v1, qi v2, ql v3, qw]) (S' := [.long v1.toInt64, .ref 1]) (H' := (c0 :: bk0 zm zg zh zv zu zt zs zr zd za zb ze zk zp zc zi zf zj zq zw zl zo zn po)) rfl ?_
        obtain ⟨r181, hq198, h⟩ := bnd h
        refine OEnds.call0 hm_25 rfl rfl (by decide) rfl (as := [.ref 1, .long v1.toInt64]) (rest := []) rfl rfl (ok_inField hq198) ?_
        show OEnds own_P 25 37 [qr 1, qi v1, qi v2, ql v3, qw] [.int r181] (c0 :: bk0 zm zg zh zv zu zt zs zr zd za zb ze zk zp zc zi zf zj zq zw zl zo zn po) _
        by_cases hc199 : r181 = (0 : Int32)
        · simp only [if_pos hc199] at h
          refine OEnds.ifT hm_25 rfl (q := 49) rfl ((teq hc199).1) ?_
          refine OEnds.adv hm_25 1 (pc' := 50) (L' := [qr 1, qi v1, qi v2, ql v3, qw]) (S' := [.int 0]) (H' := (c0 :: bk0 zm zg zh zv zu zt zs zr zd za zb ze zk zp zc zi zf zj zq zw zl zo zn po)) rfl ?_
          cases h
          exact OEnds.iret hm_25 rfl rfl
        · simp only [if_neg hc199] at h
          refine OEnds.ifF hm_25 rfl ((feq hc199).1) ?_
          refine OEnds.adv hm_25 3 (pc' := 43) (L' := [qr 1, qi v1, qi v2, ql v3, qw]) (S' := [.long v2.toInt64, .ref 1]) (H' := (c0 :: bk0 zm zg zh zv zu zt zs zr zd za zb ze zk zp zc zi zf zj zq zw zl zo zn po)) rfl ?_
          obtain ⟨r182, hq200, h⟩ := bnd h
          refine OEnds.call0 hm_25 rfl rfl (by decide) rfl (as := [.ref 1, .long v2.toInt64]) (rest := []) rfl rfl (ok_inField hq200) ?_
          show OEnds own_P 25 46 [qr 1, qi v1, qi v2, ql v3, qw] [.int r182] (c0 :: bk0 zm zg zh zv zu zt zs zr zd za zb ze zk zp zc zi zf zj zq zw zl zo zn po) _
          by_cases hc201 : r182 = (0 : Int32)
          · simp only [if_pos hc201] at h
            refine OEnds.ifF hm_25 rfl ((teq hc201).2) ?_
            refine OEnds.adv hm_25 1 (pc' := 50) (L' := [qr 1, qi v1, qi v2, ql v3, qw]) (S' := [.int 0]) (H' := (c0 :: bk0 zm zg zh zv zu zt zs zr zd za zb ze zk zp zc zi zf zj zq zw zl zo zn po)) rfl ?_
            cases h
            exact OEnds.iret hm_25 rfl rfl
          · simp only [if_neg hc201] at h
            refine OEnds.ifT hm_25 rfl (q := 51) rfl ((feq hc201).2) ?_
            refine OEnds.adv hm_25 7 (pc' := 58) (L' := [qr 1, qi v1, qi v2, ql v3, qw]) (S' := [.long v3, .int 0, .long v2.toInt64, .long v1.toInt64, .ref 1]) (H' := (c0 :: bk0 zm zg zh zv zu zt zs zr zd za zb ze zk zp zc zi zf zj zq zw zl zo zn po)) rfl ?_
            obtain ⟨⟨s183, s184, s185, s186⟩, hq202, h⟩ := bnd h
            refine OEnds.call0 hm_25 rfl rfl (by decide) rfl (as := [.ref 1, .long v1.toInt64, .long v2.toInt64, .int 0, .long v3]) (rest := []) rfl rfl (ok_storeSig hq202) ?_
            refine OEnds.adv hm_25 1 (pc' := 62) (L' := [qr 1, qi v1, qi v2, ql v3, qw]) (S' := [.int 1]) (H' := (c0 :: bk0 zm zg zh zv zu zt zs zr zd za zb ze zk zp zc s183 s184 s185 s186 zw zl zo zn po)) rfl ?_
            cases h
            exact OEnds.iret hm_25 rfl rfl
    · simp only [if_neg hc195] at h
      refine OEnds.ifF hm_25 rfl ((flt (mt c_lt.mp hc195)).1) ?_
      refine OEnds.adv hm_25 1 (pc' := 15) (L' := [qr 1, qi v1, qi v2, ql v3, qw]) (S' := [.int 0]) (H' := (c0 :: bk0 zm zg zh zv zu zt zs zr zd za zb ze zk zp zc zi zf zj zq zw zl zo zn po)) rfl ?_
      cases h
      exact OEnds.iret hm_25 rfl rfl
theorem ok_L_law_703 {scr : List Int32} {kb : List Int64 → List Int64 → List Int32 → List Int64 → List Int32 → List Int64 → List Int64 → List Int32 → List Int32 → Int64 → Int64 → Int64 → Int64 → Int64 → Int32 → Int64 → Int64 → Int32 → Int64 → Int32 → Int32 → Int64 → Int64 → Int32 → Int32 → Int32 → Option (Int32)} (hkb : ∀ {zao zap : List Int64} {zaq : List Int32} {zag : List Int64} {zac : List Int32} {zad zae : List Int64} {zaf zah : List Int32} {zx zy zz zaa zab : Int64} {zai : Int32} {zak zal : Int64} {zam : Int32} {zan : Int64} {zaj zar : Int32} {zas zat : Int64} {v2 v3 v4 : Int32} {d5 d6 d7 d8 d9 d10 d11 d12 d13 d14 d15 d16 d17 d18 d19 d20 : Slot} {res : Int32}, kb zao zap zaq zag zac zad zae zaf zah zx zy zz zaa zab zai zak zal zam zan zaj zar zas zat v2 v3 v4 = some res → OEndsQ own_P 0 38 [qr 0, qr 1, qi v2, qi v3, qi v4, d5, d6, d7, d8, d9, d10, d11, d12, d13, d14, d15, d16, d17, d18, d19, d20] [] (qa scr :: bk0 zao zap zaq zag zac zad zae zaf zah zx zy zz zaa zab zai zak zal zam zan zaj zar zas zat []) (LawQ res 0 0)) : ∀ {zao zap : List Int64} {zaq : List Int32} {zag : List Int64} {zac : List Int32} {zad zae : List Int64} {zaf zah : List Int32} {zx zy zz zaa zab : Int64} {zai : Int32} {zak zal : Int64} {zam : Int32} {zan : Int64} {zaj zar : Int32} {zas zat : Int64} {v2 v3 v4 v7 v8 t0 : Int32} {d5 d6 d9 d10 d11 d12 d13 d14 d15 d16 d17 d18 d19 d20 : Slot} {res : Int32}, f_L_law_703 kb scr zao zap zaq zag zac zad zae zaf zah zx zy zz zaa zab zai zak zal zam zan zaj zar zas zat v2 v3 v4 v7 v8 t0 = some res → OEndsQ own_P 0 703 [qr 0, qr 1, qi v2, qi v3, qi v4, d5, d6, qi v7, qi v8, d9, d10, d11, d12, d13, d14, d15, d16, d17, d18, d19, d20] [.int t0, .ref 1] (qa scr :: bk0 zao zap zaq zag zac zad zae zaf zah zx zy zz zaa zab zai zak zal zam zan zaj zar zas zat []) (LawQ res 0 0) := by
  intro zao zap zaq zag zac zad zae zaf zah zx zy zz zaa zab zai zak zal zam zan zaj zar zas zat v2 v3 v4 v7 v8 t0 d5 d6 d9 d10 d11 d12 d13 d14 d15 d16 d17 d18 d19 d20 res h
  unfold f_L_law_703 at h
  refine OEndsQ.adv hm_0 5 (pc' := 711) (L' := [qr 0, qr 1, qi v2, qi v3, qi v4, qu, qu, qi v7, qi v8, qu, qu, qu, qu, qu, qu, qu, qu, qu, qu, qu, qu]) (S' := [.long (v8 &&& (2147483647 : Int32)).toInt64, .int v7, .int t0, .ref 1]) (H' := (qa scr :: bk0 zao zap zaq zag zac zad zae zaf zah zx zy zz zaa zab zai zak zal zam zan zaj zar zas zat [])) rfl ?_
  obtain ⟨⟨r356, s357, s358, s359, s360⟩, hq203, h⟩ := bnd h
  refine OEndsQ.call0 hm_0 rfl rfl (by decide) rfl (as := [.ref 1, .int t0, .int v7, .long (v8 &&& (2147483647 : Int32)).toInt64]) (rest := []) rfl rfl (ok_setSig hq203) ?_
  refine OEndsQ.adv hm_0 5 (pc' := 38) (L' := [qr 0, qr 1, qi v2, qi (v3 + (1 : Int32)), qi (v4 + (5 : Int32)), qu, qu, qi v7, qi v8, qu, qu, qu, qu, qu, qu, qu, qu, qu, qu, qu, qu]) (S' := []) (H' := (qa scr :: bk0 zao zap zaq zag zac zad zae zaf zah zx zy zz zaa zab zai s357 s358 s359 s360 zaj zar zas zat [])) rfl ?_
  exact hkb h
theorem ok_L_law_635 {scr : List Int32} {kb : List Int64 → List Int64 → List Int32 → List Int64 → List Int32 → List Int64 → List Int64 → List Int32 → List Int32 → Int64 → Int64 → Int64 → Int64 → Int64 → Int32 → Int64 → Int64 → Int32 → Int64 → Int32 → Int32 → Int64 → Int64 → Int32 → Int32 → Int32 → Option (Int32)} (hkb : ∀ {zao zap : List Int64} {zaq : List Int32} {zag : List Int64} {zac : List Int32} {zad zae : List Int64} {zaf zah : List Int32} {zx zy zz zaa zab : Int64} {zai : Int32} {zak zal : Int64} {zam : Int32} {zan : Int64} {zaj zar : Int32} {zas zat : Int64} {v2 v3 v4 : Int32} {d5 d6 d7 d8 d9 d10 d11 d12 d13 d14 d15 d16 d17 d18 d19 d20 : Slot} {res : Int32}, kb zao zap zaq zag zac zad zae zaf zah zx zy zz zaa zab zai zak zal zam zan zaj zar zas zat v2 v3 v4 = some res → OEndsQ own_P 0 38 [qr 0, qr 1, qi v2, qi v3, qi v4, d5, d6, d7, d8, d9, d10, d11, d12, d13, d14, d15, d16, d17, d18, d19, d20] [] (qa scr :: bk0 zao zap zaq zag zac zad zae zaf zah zx zy zz zaa zab zai zak zal zam zan zaj zar zas zat []) (LawQ res 0 0)) : ∀ {zao zap : List Int64} {zaq : List Int32} {zag : List Int64} {zac : List Int32} {zad zae : List Int64} {zaf zah : List Int32} {zx zy zz zaa zab : Int64} {zai : Int32} {zak zal : Int64} {zam : Int32} {zan : Int64} {zaj zar : Int32} {zas zat : Int64} {v2 v3 v4 v12 t0 : Int32} {d5 d6 d7 d8 d9 d10 d11 d13 d14 d15 d16 d17 d18 d19 d20 : Slot} {res : Int32}, f_L_law_635 kb scr zao zap zaq zag zac zad zae zaf zah zx zy zz zaa zab zai zak zal zam zan zaj zar zas zat v2 v3 v4 v12 t0 = some res → OEndsQ own_P 0 635 [qr 0, qr 1, qi v2, qi v3, qi v4, d5, d6, d7, d8, d9, d10, d11, qi v12, d13, d14, d15, d16, d17, d18, d19, d20] [.int t0] (qa scr :: bk0 zao zap zaq zag zac zad zae zaf zah zx zy zz zaa zab zai zak zal zam zan zaj zar zas zat []) (LawQ res 0 0) := by
  intro zao zap zaq zag zac zad zae zaf zah zx zy zz zaa zab zai zak zal zam zan zaj zar zas zat v2 v3 v4 v12 t0 d5 d6 d7 d8 d9 d10 d11 d13 d14 d15 d16 d17 d18 d19 d20 res h
  unfold f_L_law_635 at h
  refine OEndsQ.adv hm_0 4 (pc' := 642) (L' := [qr 0, qr 1, qi v2, qi v3, qi v4, qu, qu, qu, qu, qu, qu, qu, qi v12, qi t0, qu, qu, qu, qu, qu, qu, qu]) (S' := [.int t0, .int v12, .ref 1]) (H' := (qa scr :: bk0 zao zap zaq zag zac zad zae zaf zah zx zy zz zaa zab zai zak zal zam zan zaj zar zas zat [])) rfl ?_
  obtain ⟨⟨r343, s344, s345, s346, s347, s348, s349, s350, s351⟩, hq204, h⟩ := bnd h
  refine OEndsQ.call0 hm_0 rfl rfl (by decide) rfl (as := [.ref 1, .int v12, .int t0]) (rest := []) rfl rfl (ok_sign hq204) ?_
  show OEndsQ own_P 0 645 [qr 0, qr 1, qi v2, qi v3, qi v4, qu, qu, qu, qu, qu, qu, qu, qi v12, qi t0, qu, qu, qu, qu, qu, qu, qu] [.int r343] (qa scr :: bk0 zao zap zaq zag zac zad zae zaf zah zx zy zz zaa zab zai s344 s345 s346 s347 s348 s349 s350 s351 []) _
  by_cases hc205 : r343 = (0 : Int32)
  · simp only [if_pos hc205] at h
    refine OEndsQ.ifT hm_0 rfl (q := 659) rfl ((teq hc205).1) ?_
    refine OEndsQ.adv hm_0 4 (pc' := 38) (L' := [qr 0, qr 1, qi v2, qi (v3 + (1 : Int32)), qi (v4 + (5 : Int32)), qu, qu, qu, qu, qu, qu, qu, qi v12, qi t0, qu, qu, qu, qu, qu, qu, qu]) (S' := []) (H' := (qa scr :: bk0 zao zap zaq zag zac zad zae zaf zah zx zy zz zaa zab zai s344 s345 s346 s347 s348 s349 s350 s351 [])) rfl ?_
    exact hkb h
  · simp only [if_neg hc205] at h
    refine OEndsQ.ifF hm_0 rfl ((feq hc205).1) ?_
    refine OEndsQ.adv hm_0 2 (pc' := 651) (L' := [qr 0, qr 1, qi v2, qi v3, qi v4, qu, qu, qu, qu, qu, qu, qu, qi v12, qi t0, qu, qu, qu, qu, qu, qu, qu]) (S' := [.int v12, .ref 1]) (H' := (qa scr :: bk0 zao zap zaq zag zac zad zae zaf zah zx zy zz zaa zab zai s344 s345 s346 s347 s348 s349 s350 s351 [])) rfl ?_
    obtain ⟨⟨r352, s353, s354, s355⟩, hq206, h⟩ := bnd h
    refine OEndsQ.call0 hm_0 rfl rfl (by decide) rfl (as := [.ref 1, .int v12]) (rest := []) rfl rfl (ok_verify hq206) ?_
    show OEndsQ own_P 0 654 [qr 0, qr 1, qi v2, qi v3, qi v4, qu, qu, qu, qu, qu, qu, qu, qi v12, qi t0, qu, qu, qu, qu, qu, qu, qu] [.int r352] (qa scr :: bk0 zao zap zaq zag zac zad zae zaf zah zx zy zz zaa zab zai s344 s345 s346 s347 s348 s353 s354 s355 []) _
    by_cases hc207 : r352 = (0 : Int32)
    · simp only [if_pos hc207] at h
      refine OEndsQ.ifF hm_0 rfl ((teq hc207).2) ?_
      refine OEndsQ.adv hm_0 1 (pc' := 658) (L' := [qr 0, qr 1, qi v2, qi v3, qi v4, qu, qu, qu, qu, qu, qu, qu, qi v12, qi t0, qu, qu, qu, qu, qu, qu, qu]) (S' := [.int 0]) (H' := (qa scr :: bk0 zao zap zaq zag zac zad zae zaf zah zx zy zz zaa zab zai s344 s345 s346 s347 s348 s353 s354 s355 [])) rfl ?_
      cases h
      exact OEndsQ.iret hm_0 rfl rfl
    · simp only [if_neg hc207] at h
      refine OEndsQ.ifT hm_0 rfl (q := 659) rfl ((feq hc207).2) ?_
      refine OEndsQ.adv hm_0 4 (pc' := 38) (L' := [qr 0, qr 1, qi v2, qi (v3 + (1 : Int32)), qi (v4 + (5 : Int32)), qu, qu, qu, qu, qu, qu, qu, qi v12, qi t0, qu, qu, qu, qu, qu, qu, qu]) (S' := []) (H' := (qa scr :: bk0 zao zap zaq zag zac zad zae zaf zah zx zy zz zaa zab zai s344 s345 s346 s347 s348 s353 s354 s355 [])) rfl ?_
      exact hkb h
theorem ok_L_law_265 {scr : List Int32} {kb : List Int64 → List Int64 → List Int32 → List Int64 → List Int32 → List Int64 → List Int64 → List Int32 → List Int32 → Int64 → Int64 → Int64 → Int64 → Int64 → Int32 → Int64 → Int64 → Int32 → Int64 → Int32 → Int32 → Int64 → Int64 → Int32 → Int32 → Int32 → Option (Int32)} (hkb : ∀ {zao zap : List Int64} {zaq : List Int32} {zag : List Int64} {zac : List Int32} {zad zae : List Int64} {zaf zah : List Int32} {zx zy zz zaa zab : Int64} {zai : Int32} {zak zal : Int64} {zam : Int32} {zan : Int64} {zaj zar : Int32} {zas zat : Int64} {v2 v3 v4 : Int32} {d5 d6 d7 d8 d9 d10 d11 d12 d13 d14 d15 d16 d17 d18 d19 d20 : Slot} {res : Int32}, kb zao zap zaq zag zac zad zae zaf zah zx zy zz zaa zab zai zak zal zam zan zaj zar zas zat v2 v3 v4 = some res → OEndsQ own_P 0 38 [qr 0, qr 1, qi v2, qi v3, qi v4, d5, d6, d7, d8, d9, d10, d11, d12, d13, d14, d15, d16, d17, d18, d19, d20] [] (qa scr :: bk0 zao zap zaq zag zac zad zae zaf zah zx zy zz zaa zab zai zak zal zam zan zaj zar zas zat []) (LawQ res 0 0)) : ∀ {zao zap : List Int64} {zaq : List Int32} {zag : List Int64} {zac : List Int32} {zad zae : List Int64} {zaf zah : List Int32} {zx zy zz zaa zab : Int64} {zai : Int32} {zak zal : Int64} {zam : Int32} {zan : Int64} {zaj zar : Int32} {zas zat : Int64} {v2 v3 v4 v12 v13 v14 v15 v16 : Int32} {v17 : Int64} {t0 t1 t2 : Int32} {d5 d6 d7 d8 d9 d10 d11 d19 d20 : Slot} {res : Int32}, f_L_law_265 kb scr zao zap zaq zag zac zad zae zaf zah zx zy zz zaa zab zai zak zal zam zan zaj zar zas zat v2 v3 v4 v12 v13 v14 v15 v16 v17 t0 t1 t2 = some res → OEndsQ own_P 0 265 [qr 0, qr 1, qi v2, qi v3, qi v4, d5, d6, d7, d8, d9, d10, d11, qi v12, qi v13, qi v14, qi v15, qi v16, ql v17, qw, d19, d20] [.int t0, .int t1, .int t2] (qa scr :: bk0 zao zap zaq zag zac zad zae zaf zah zx zy zz zaa zab zai zak zal zam zan zaj zar zas zat []) (LawQ res 0 0) := by
  intro zao zap zaq zag zac zad zae zaf zah zx zy zz zaa zab zai zak zal zam zan zaj zar zas zat v2 v3 v4 v12 v13 v14 v15 v16 v17 t0 t1 t2 d5 d6 d7 d8 d9 d10 d11 d19 d20 res h
  unfold f_L_law_265 at h
  obtain ⟨r297, hq208, h⟩ := bnd h
  refine OEndsQ.call0 hm_0 rfl rfl (by decide) rfl (as := [.int t2, .int t1, .int t0]) (rest := []) rfl rfl (ok_L_scalar hq208) ?_
  refine OEndsQ.adv hm_0 5 (pc' := 277) (L' := [qr 0, qr 1, qi v2, qi v3, qi v4, qu, qu, qu, qu, qu, qu, qu, qi v12, qi v13, qi v14, qi v15, qi v16, ql v17, qw, ql r297, qw]) (S' := [.long v17, .int v12, .int v13, .ref 1]) (H' := (qa scr :: bk0 zao zap zaq zag zac zad zae zaf zah zx zy zz zaa zab zai zak zal zam zan zaj zar zas zat [])) rfl ?_
  obtain ⟨⟨r298, s299, s300, s301, s302, s303, s304⟩, hq209, h⟩ := bnd h
  refine OEndsQ.call0 hm_0 rfl rfl (by decide) rfl (as := [.ref 1, .int v13, .int v12, .long v17]) (rest := []) rfl rfl (ok_mul hq209) ?_
  show OEndsQ own_P 0 280 [qr 0, qr 1, qi v2, qi v3, qi v4, qu, qu, qu, qu, qu, qu, qu, qi v12, qi v13, qi v14, qi v15, qi v16, ql v17, qw, ql r297, qw] [.int r298] (qa scr :: bk0 s299 s300 s301 zag zac zad zae zaf zah zx zy zz zaa zab zai zak zal zam zan zaj s302 s303 s304 []) _
  by_cases hc210 : r298 = (0 : Int32)
  · simp only [if_pos hc210] at h
    refine OEndsQ.ifF hm_0 rfl ((teq hc210).2) ?_
    refine OEndsQ.adv hm_0 1 (pc' := 284) (L' := [qr 0, qr 1, qi v2, qi v3, qi v4, qu, qu, qu, qu, qu, qu, qu, qi v12, qi v13, qi v14, qi v15, qi v16, ql v17, qw, ql r297, qw]) (S' := [.int 0]) (H' := (qa scr :: bk0 s299 s300 s301 zag zac zad zae zaf zah zx zy zz zaa zab zai zak zal zam zan zaj s302 s303 s304 [])) rfl ?_
    cases h
    exact OEndsQ.iret hm_0 rfl rfl
  · simp only [if_neg hc210] at h
    refine OEndsQ.ifT hm_0 rfl (q := 285) rfl ((feq hc210).2) ?_
    refine OEndsQ.adv hm_0 4 (pc' := 292) (L' := [qr 0, qr 1, qi v2, qi v3, qi v4, qu, qu, qu, qu, qu, qu, qu, qi v12, qi v13, qi v14, qi v15, qi v16, ql v17, qw, ql r297, qw]) (S' := [.long r297, .int v12, .int v14, .ref 1]) (H' := (qa scr :: bk0 s299 s300 s301 zag zac zad zae zaf zah zx zy zz zaa zab zai zak zal zam zan zaj s302 s303 s304 [])) rfl ?_
    obtain ⟨⟨r305, s306, s307, s308, s309, s310, s311⟩, hq211, h⟩ := bnd h
    refine OEndsQ.call0 hm_0 rfl rfl (by decide) rfl (as := [.ref 1, .int v14, .int v12, .long r297]) (rest := []) rfl rfl (ok_mul hq211) ?_
    show OEndsQ own_P 0 295 [qr 0, qr 1, qi v2, qi v3, qi v4, qu, qu, qu, qu, qu, qu, qu, qi v12, qi v13, qi v14, qi v15, qi v16, ql v17, qw, ql r297, qw] [.int r305] (qa scr :: bk0 s306 s307 s308 zag zac zad zae zaf zah zx zy zz zaa zab zai zak zal zam zan zaj s309 s310 s311 []) _
    by_cases hc212 : r305 = (0 : Int32)
    · simp only [if_pos hc212] at h
      refine OEndsQ.ifF hm_0 rfl ((teq hc212).2) ?_
      refine OEndsQ.adv hm_0 1 (pc' := 299) (L' := [qr 0, qr 1, qi v2, qi v3, qi v4, qu, qu, qu, qu, qu, qu, qu, qi v12, qi v13, qi v14, qi v15, qi v16, ql v17, qw, ql r297, qw]) (S' := [.int 0]) (H' := (qa scr :: bk0 s306 s307 s308 zag zac zad zae zaf zah zx zy zz zaa zab zai zak zal zam zan zaj s309 s310 s311 [])) rfl ?_
      cases h
      exact OEndsQ.iret hm_0 rfl rfl
    · simp only [if_neg hc212] at h
      refine OEndsQ.ifT hm_0 rfl (q := 300) rfl ((feq hc212).2) ?_
      refine OEndsQ.adv hm_0 4 (pc' := 307) (L' := [qr 0, qr 1, qi v2, qi v3, qi v4, qu, qu, qu, qu, qu, qu, qu, qi v12, qi v13, qi v14, qi v15, qi v16, ql v17, qw, ql r297, qw]) (S' := [.int v14, .int v13, .int v15, .ref 1]) (H' := (qa scr :: bk0 s306 s307 s308 zag zac zad zae zaf zah zx zy zz zaa zab zai zak zal zam zan zaj s309 s310 s311 [])) rfl ?_
      obtain ⟨⟨r312, s313, s314, s315, s316, s317, s318⟩, hq213, h⟩ := bnd h
      refine OEndsQ.call0 hm_0 rfl rfl (by decide) rfl (as := [.ref 1, .int v15, .int v13, .int v14]) (rest := []) rfl rfl (ok_add hq213) ?_
      show OEndsQ own_P 0 310 [qr 0, qr 1, qi v2, qi v3, qi v4, qu, qu, qu, qu, qu, qu, qu, qi v12, qi v13, qi v14, qi v15, qi v16, ql v17, qw, ql r297, qw] [.int r312] (qa scr :: bk0 s313 s314 s315 zag zac zad zae zaf zah zx zy zz zaa zab zai zak zal zam zan zaj s316 s317 s318 []) _
      by_cases hc214 : r312 = (0 : Int32)
      · simp only [if_pos hc214] at h
        refine OEndsQ.ifF hm_0 rfl ((teq hc214).2) ?_
        refine OEndsQ.adv hm_0 1 (pc' := 314) (L' := [qr 0, qr 1, qi v2, qi v3, qi v4, qu, qu, qu, qu, qu, qu, qu, qi v12, qi v13, qi v14, qi v15, qi v16, ql v17, qw, ql r297, qw]) (S' := [.int 0]) (H' := (qa scr :: bk0 s313 s314 s315 zag zac zad zae zaf zah zx zy zz zaa zab zai zak zal zam zan zaj s316 s317 s318 [])) rfl ?_
        cases h
        exact OEndsQ.iret hm_0 rfl rfl
      · simp only [if_neg hc214] at h
        refine OEndsQ.ifT hm_0 rfl (q := 315) rfl ((feq hc214).2) ?_
        refine OEndsQ.adv hm_0 6 (pc' := 325) (L' := [qr 0, qr 1, qi v2, qi v3, qi v4, qu, qu, qu, qu, qu, qu, qu, qi v12, qi v13, qi v14, qi v15, qi v16, ql v17, qw, ql r297, qw]) (S' := [.long (v17 + r297), .int v12, .int v16, .ref 1]) (H' := (qa scr :: bk0 s313 s314 s315 zag zac zad zae zaf zah zx zy zz zaa zab zai zak zal zam zan zaj s316 s317 s318 [])) rfl ?_
        obtain ⟨⟨r319, s320, s321, s322, s323, s324, s325⟩, hq215, h⟩ := bnd h
        refine OEndsQ.call0 hm_0 rfl rfl (by decide) rfl (as := [.ref 1, .int v16, .int v12, .long (v17 + r297)]) (rest := []) rfl rfl (ok_mul hq215) ?_
        show OEndsQ own_P 0 328 [qr 0, qr 1, qi v2, qi v3, qi v4, qu, qu, qu, qu, qu, qu, qu, qi v12, qi v13, qi v14, qi v15, qi v16, ql v17, qw, ql r297, qw] [.int r319] (qa scr :: bk0 s320 s321 s322 zag zac zad zae zaf zah zx zy zz zaa zab zai zak zal zam zan zaj s323 s324 s325 []) _
        by_cases hc216 : r319 = (0 : Int32)
        · simp only [if_pos hc216] at h
          refine OEndsQ.ifF hm_0 rfl ((teq hc216).2) ?_
          refine OEndsQ.adv hm_0 1 (pc' := 332) (L' := [qr 0, qr 1, qi v2, qi v3, qi v4, qu, qu, qu, qu, qu, qu, qu, qi v12, qi v13, qi v14, qi v15, qi v16, ql v17, qw, ql r297, qw]) (S' := [.int 0]) (H' := (qa scr :: bk0 s320 s321 s322 zag zac zad zae zaf zah zx zy zz zaa zab zai zak zal zam zan zaj s323 s324 s325 [])) rfl ?_
          cases h
          exact OEndsQ.iret hm_0 rfl rfl
        · simp only [if_neg hc216] at h
          refine OEndsQ.ifT hm_0 rfl (q := 333) rfl ((feq hc216).2) ?_
          refine OEndsQ.adv hm_0 3 (pc' := 338) (L' := [qr 0, qr 1, qi v2, qi v3, qi v4, qu, qu, qu, qu, qu, qu, qu, qi v12, qi v13, qi v14, qi v15, qi v16, ql v17, qw, ql r297, qw]) (S' := [.int v16, .int v15, .ref 1]) (H' := (qa scr :: bk0 s320 s321 s322 zag zac zad zae zaf zah zx zy zz zaa zab zai zak zal zam zan zaj s323 s324 s325 [])) rfl ?_
          obtain ⟨r326, hq217, h⟩ := bnd h
          refine OEndsQ.call0 hm_0 rfl rfl (by decide) rfl (as := [.ref 1, .int v15, .int v16]) (rest := []) rfl rfl (ok_L_same hq217) ?_
          show OEndsQ own_P 0 341 [qr 0, qr 1, qi v2, qi v3, qi v4, qu, qu, qu, qu, qu, qu, qu, qi v12, qi v13, qi v14, qi v15, qi v16, ql v17, qw, ql r297, qw] [.int r326] (qa scr :: bk0 s320 s321 s322 zag zac zad zae zaf zah zx zy zz zaa zab zai zak zal zam zan zaj s323 s324 s325 []) _
          by_cases hc218 : r326 = (0 : Int32)
          · simp only [if_pos hc218] at h
            refine OEndsQ.ifF hm_0 rfl ((teq hc218).2) ?_
            refine OEndsQ.adv hm_0 1 (pc' := 345) (L' := [qr 0, qr 1, qi v2, qi v3, qi v4, qu, qu, qu, qu, qu, qu, qu, qi v12, qi v13, qi v14, qi v15, qi v16, ql v17, qw, ql r297, qw]) (S' := [.int 0]) (H' := (qa scr :: bk0 s320 s321 s322 zag zac zad zae zaf zah zx zy zz zaa zab zai zak zal zam zan zaj s323 s324 s325 [])) rfl ?_
            cases h
            exact OEndsQ.iret hm_0 rfl rfl
          · simp only [if_neg hc218] at h
            refine OEndsQ.ifT hm_0 rfl (q := 346) rfl ((feq hc218).2) ?_
            refine OEndsQ.adv hm_0 4 (pc' := 352) (L' := [qr 0, qr 1, qi v2, qi v3, qi v4, qu, qu, qu, qu, qu, qu, qu, qi v12, qi v13, qi v14, qi v15, qi v16, ql v17, qw, ql r297, qw]) (S' := [.long 1, .int v12, .int v13, .ref 1]) (H' := (qa scr :: bk0 s320 s321 s322 zag zac zad zae zaf zah zx zy zz zaa zab zai zak zal zam zan zaj s323 s324 s325 [])) rfl ?_
            obtain ⟨⟨r327, s328, s329, s330, s331, s332, s333⟩, hq219, h⟩ := bnd h
            refine OEndsQ.call0 hm_0 rfl rfl (by decide) rfl (as := [.ref 1, .int v13, .int v12, .long 1]) (rest := []) rfl rfl (ok_mul hq219) ?_
            show OEndsQ own_P 0 355 [qr 0, qr 1, qi v2, qi v3, qi v4, qu, qu, qu, qu, qu, qu, qu, qi v12, qi v13, qi v14, qi v15, qi v16, ql v17, qw, ql r297, qw] [.int r327] (qa scr :: bk0 s328 s329 s330 zag zac zad zae zaf zah zx zy zz zaa zab zai zak zal zam zan zaj s331 s332 s333 []) _
            by_cases hc220 : r327 = (0 : Int32)
            · simp only [if_pos hc220] at h
              refine OEndsQ.ifF hm_0 rfl ((teq hc220).2) ?_
              refine OEndsQ.adv hm_0 1 (pc' := 359) (L' := [qr 0, qr 1, qi v2, qi v3, qi v4, qu, qu, qu, qu, qu, qu, qu, qi v12, qi v13, qi v14, qi v15, qi v16, ql v17, qw, ql r297, qw]) (S' := [.int 0]) (H' := (qa scr :: bk0 s328 s329 s330 zag zac zad zae zaf zah zx zy zz zaa zab zai zak zal zam zan zaj s331 s332 s333 [])) rfl ?_
              cases h
              exact OEndsQ.iret hm_0 rfl rfl
            · simp only [if_neg hc220] at h
              refine OEndsQ.ifT hm_0 rfl (q := 360) rfl ((feq hc220).2) ?_
              refine OEndsQ.adv hm_0 3 (pc' := 365) (L' := [qr 0, qr 1, qi v2, qi v3, qi v4, qu, qu, qu, qu, qu, qu, qu, qi v12, qi v13, qi v14, qi v15, qi v16, ql v17, qw, ql r297, qw]) (S' := [.int v12, .int v13, .ref 1]) (H' := (qa scr :: bk0 s328 s329 s330 zag zac zad zae zaf zah zx zy zz zaa zab zai zak zal zam zan zaj s331 s332 s333 [])) rfl ?_
              obtain ⟨r334, hq221, h⟩ := bnd h
              refine OEndsQ.call0 hm_0 rfl rfl (by decide) rfl (as := [.ref 1, .int v13, .int v12]) (rest := []) rfl rfl (ok_L_same hq221) ?_
              show OEndsQ own_P 0 368 [qr 0, qr 1, qi v2, qi v3, qi v4, qu, qu, qu, qu, qu, qu, qu, qi v12, qi v13, qi v14, qi v15, qi v16, ql v17, qw, ql r297, qw] [.int r334] (qa scr :: bk0 s328 s329 s330 zag zac zad zae zaf zah zx zy zz zaa zab zai zak zal zam zan zaj s331 s332 s333 []) _
              by_cases hc222 : r334 = (0 : Int32)
              · simp only [if_pos hc222] at h
                refine OEndsQ.ifF hm_0 rfl ((teq hc222).2) ?_
                refine OEndsQ.adv hm_0 1 (pc' := 372) (L' := [qr 0, qr 1, qi v2, qi v3, qi v4, qu, qu, qu, qu, qu, qu, qu, qi v12, qi v13, qi v14, qi v15, qi v16, ql v17, qw, ql r297, qw]) (S' := [.int 0]) (H' := (qa scr :: bk0 s328 s329 s330 zag zac zad zae zaf zah zx zy zz zaa zab zai zak zal zam zan zaj s331 s332 s333 [])) rfl ?_
                cases h
                exact OEndsQ.iret hm_0 rfl rfl
              · simp only [if_neg hc222] at h
                refine OEndsQ.ifT hm_0 rfl (q := 373) rfl ((feq hc222).2) ?_
                refine OEndsQ.adv hm_0 4 (pc' := 379) (L' := [qr 0, qr 1, qi v2, qi v3, qi v4, qu, qu, qu, qu, qu, qu, qu, qi v12, qi v13, qi v14, qi v15, qi v16, ql v17, qw, ql r297, qw]) (S' := [.long 0, .int v12, .int v14, .ref 1]) (H' := (qa scr :: bk0 s328 s329 s330 zag zac zad zae zaf zah zx zy zz zaa zab zai zak zal zam zan zaj s331 s332 s333 [])) rfl ?_
                obtain ⟨⟨r335, s336, s337, s338, s339, s340, s341⟩, hq223, h⟩ := bnd h
                refine OEndsQ.call0 hm_0 rfl rfl (by decide) rfl (as := [.ref 1, .int v14, .int v12, .long 0]) (rest := []) rfl rfl (ok_mul hq223) ?_
                show OEndsQ own_P 0 382 [qr 0, qr 1, qi v2, qi v3, qi v4, qu, qu, qu, qu, qu, qu, qu, qi v12, qi v13, qi v14, qi v15, qi v16, ql v17, qw, ql r297, qw] [.int r335] (qa scr :: bk0 s336 s337 s338 zag zac zad zae zaf zah zx zy zz zaa zab zai zak zal zam zan zaj s339 s340 s341 []) _
                by_cases hc224 : r335 = (0 : Int32)
                · simp only [if_pos hc224] at h
                  refine OEndsQ.ifF hm_0 rfl ((teq hc224).2) ?_
                  refine OEndsQ.adv hm_0 1 (pc' := 386) (L' := [qr 0, qr 1, qi v2, qi v3, qi v4, qu, qu, qu, qu, qu, qu, qu, qi v12, qi v13, qi v14, qi v15, qi v16, ql v17, qw, ql r297, qw]) (S' := [.int 0]) (H' := (qa scr :: bk0 s336 s337 s338 zag zac zad zae zaf zah zx zy zz zaa zab zai zak zal zam zan zaj s339 s340 s341 [])) rfl ?_
                  cases h
                  exact OEndsQ.iret hm_0 rfl rfl
                · simp only [if_neg hc224] at h
                  refine OEndsQ.ifT hm_0 rfl (q := 387) rfl ((feq hc224).2) ?_
                  refine OEndsQ.adv hm_0 3 (pc' := 391) (L' := [qr 0, qr 1, qi v2, qi v3, qi v4, qu, qu, qu, qu, qu, qu, qu, qi v12, qi v13, qi v14, qi v15, qi v16, ql v17, qw, ql r297, qw]) (S' := [.int 2, .int v14, .ref 1]) (H' := (qa scr :: bk0 s336 s337 s338 zag zac zad zae zaf zah zx zy zz zaa zab zai zak zal zam zan zaj s339 s340 s341 [])) rfl ?_
                  obtain ⟨r342, hq225, h⟩ := bnd h
                  refine OEndsQ.call0 hm_0 rfl rfl (by decide) rfl (as := [.ref 1, .int v14, .int 2]) (rest := []) rfl rfl (ok_coord hq225) ?_
                  refine OEndsQ.adv hm_0 1 (pc' := 395) (L' := [qr 0, qr 1, qi v2, qi v3, qi v4, qu, qu, qu, qu, qu, qu, qu, qi v12, qi v13, qi v14, qi v15, qi v16, ql v17, qw, ql r297, qw]) (S' := [.int 1, .int r342]) (H' := (qa scr :: bk0 s336 s337 s338 zag zac zad zae zaf zah zx zy zz zaa zab zai zak zal zam zan zaj s339 s340 s341 [])) rfl ?_
                  by_cases hc226 : r342 = (1 : Int32)
                  · simp only [if_pos hc226] at h
                    refine OEndsQ.icmpT hm_0 rfl (q := 400) rfl ((teq hc226).1) ?_
                    refine OEndsQ.adv hm_0 4 (pc' := 38) (L' := [qr 0, qr 1, qi v2, qi (v3 + (1 : Int32)), qi (v4 + (5 : Int32)), qu, qu, qu, qu, qu, qu, qu, qi v12, qi v13, qi v14, qi v15, qi v16, ql v17, qw, ql r297, qw]) (S' := []) (H' := (qa scr :: bk0 s336 s337 s338 zag zac zad zae zaf zah zx zy zz zaa zab zai zak zal zam zan zaj s339 s340 s341 [])) rfl ?_
                    exact hkb h
                  · simp only [if_neg hc226] at h
                    refine OEndsQ.icmpF hm_0 rfl ((feq hc226).1) ?_
                    refine OEndsQ.adv hm_0 1 (pc' := 399) (L' := [qr 0, qr 1, qi v2, qi v3, qi v4, qu, qu, qu, qu, qu, qu, qu, qi v12, qi v13, qi v14, qi v15, qi v16, ql v17, qw, ql r297, qw]) (S' := [.int 0]) (H' := (qa scr :: bk0 s336 s337 s338 zag zac zad zae zaf zah zx zy zz zaa zab zai zak zal zam zan zaj s339 s340 s341 [])) rfl ?_
                    cases h
                    exact OEndsQ.iret hm_0 rfl rfl
theorem ok_L_law_242 {scr : List Int32} {kb : List Int64 → List Int64 → List Int32 → List Int64 → List Int32 → List Int64 → List Int64 → List Int32 → List Int32 → Int64 → Int64 → Int64 → Int64 → Int64 → Int32 → Int64 → Int64 → Int32 → Int64 → Int32 → Int32 → Int64 → Int64 → Int32 → Int32 → Int32 → Option (Int32)} (hkb : ∀ {zao zap : List Int64} {zaq : List Int32} {zag : List Int64} {zac : List Int32} {zad zae : List Int64} {zaf zah : List Int32} {zx zy zz zaa zab : Int64} {zai : Int32} {zak zal : Int64} {zam : Int32} {zan : Int64} {zaj zar : Int32} {zas zat : Int64} {v2 v3 v4 : Int32} {d5 d6 d7 d8 d9 d10 d11 d12 d13 d14 d15 d16 d17 d18 d19 d20 : Slot} {res : Int32}, kb zao zap zaq zag zac zad zae zaf zah zx zy zz zaa zab zai zak zal zam zan zaj zar zas zat v2 v3 v4 = some res → OEndsQ own_P 0 38 [qr 0, qr 1, qi v2, qi v3, qi v4, d5, d6, d7, d8, d9, d10, d11, d12, d13, d14, d15, d16, d17, d18, d19, d20] [] (qa scr :: bk0 zao zap zaq zag zac zad zae zaf zah zx zy zz zaa zab zai zak zal zam zan zaj zar zas zat []) (LawQ res 0 0)) : ∀ {zao zap : List Int64} {zaq : List Int32} {zag : List Int64} {zac : List Int32} {zad zae : List Int64} {zaf zah : List Int32} {zx zy zz zaa zab : Int64} {zai : Int32} {zak zal : Int64} {zam : Int32} {zan : Int64} {zaj zar : Int32} {zas zat : Int64} {v2 v3 v4 v8 v9 v12 v13 v14 v15 v16 t0 t1 t2 : Int32} {d5 d6 d7 d10 d11 d17 d18 d19 d20 : Slot} {res : Int32}, f_L_law_242 kb scr zao zap zaq zag zac zad zae zaf zah zx zy zz zaa zab zai zak zal zam zan zaj zar zas zat v2 v3 v4 v8 v9 v12 v13 v14 v15 v16 t0 t1 t2 = some res → OEndsQ own_P 0 242 [qr 0, qr 1, qi v2, qi v3, qi v4, d5, d6, d7, qi v8, qi v9, d10, d11, qi v12, qi v13, qi v14, qi v15, qi v16, d17, d18, d19, d20] [.int t0, .int t1, .int t2] (qa scr :: bk0 zao zap zaq zag zac zad zae zaf zah zx zy zz zaa zab zai zak zal zam zan zaj zar zas zat []) (LawQ res 0 0) := by
  intro zao zap zaq zag zac zad zae zaf zah zx zy zz zaa zab zai zak zal zam zan zaj zar zas zat v2 v3 v4 v8 v9 v12 v13 v14 v15 v16 t0 t1 t2 d5 d6 d7 d10 d11 d17 d18 d19 d20 res h
  unfold f_L_law_242 at h
  obtain ⟨r296, hq227, h⟩ := bnd h
  refine OEndsQ.call0 hm_0 rfl rfl (by decide) rfl (as := [.int t2, .int t1, .int t0]) (rest := []) rfl rfl (ok_L_scalar hq227) ?_
  refine OEndsQ.adv hm_0 8 (pc' := 257) (L' := [qr 0, qr 1, qi v2, qi v3, qi v4, qu, qu, qu, qi v8, qi v9, qu, qu, qi v12, qi v13, qi v14, qi v15, qi v16, ql r296, qw, qu, qu]) (S' := [.int (v9 &&& (2 : Int32)), .int (XT.ushr v9 (2 : Int32)), .int v8]) (H' := (qa scr :: bk0 zao zap zaq zag zac zad zae zaf zah zx zy zz zaa zab zai zak zal zam zan zaj zar zas zat [])) rfl ?_
  by_cases hc228 : (v9 &&& (2 : Int32)) = (0 : Int32)
  · simp only [if_pos hc228] at h
    refine OEndsQ.ifF hm_0 rfl ((teq hc228).2) ?_
    refine OEndsQ.adv hm_0 2 (pc' := 265) (L' := [qr 0, qr 1, qi v2, qi v3, qi v4, qu, qu, qu, qi v8, qi v9, qu, qu, qi v12, qi v13, qi v14, qi v15, qi v16, ql r296, qw, qu, qu]) (S' := [.int 1, .int (XT.ushr v9 (2 : Int32)), .int v8]) (H' := (qa scr :: bk0 zao zap zaq zag zac zad zae zaf zah zx zy zz zaa zab zai zak zal zam zan zaj zar zas zat [])) rfl ?_
    exact ok_L_law_265 hkb h
  · simp only [if_neg hc228] at h
    refine OEndsQ.ifT hm_0 rfl (q := 264) rfl ((feq hc228).2) ?_
    refine OEndsQ.adv hm_0 1 (pc' := 265) (L' := [qr 0, qr 1, qi v2, qi v3, qi v4, qu, qu, qu, qi v8, qi v9, qu, qu, qi v12, qi v13, qi v14, qi v15, qi v16, ql r296, qw, qu, qu]) (S' := [.int 0, .int (XT.ushr v9 (2 : Int32)), .int v8]) (H' := (qa scr :: bk0 zao zap zaq zag zac zad zae zaf zah zx zy zz zaa zab zai zak zal zam zan zaj zar zas zat [])) rfl ?_
    exact ok_L_law_265 hkb h
theorem ok_L_law_144 {scr : List Int32} {kb : List Int64 → List Int64 → List Int32 → List Int64 → List Int32 → List Int64 → List Int64 → List Int32 → List Int32 → Int64 → Int64 → Int64 → Int64 → Int64 → Int32 → Int64 → Int64 → Int32 → Int64 → Int32 → Int32 → Int64 → Int64 → Int32 → Int32 → Int32 → Option (Int32)} (hkb : ∀ {zao zap : List Int64} {zaq : List Int32} {zag : List Int64} {zac : List Int32} {zad zae : List Int64} {zaf zah : List Int32} {zx zy zz zaa zab : Int64} {zai : Int32} {zak zal : Int64} {zam : Int32} {zan : Int64} {zaj zar : Int32} {zas zat : Int64} {v2 v3 v4 : Int32} {d5 d6 d7 d8 d9 d10 d11 d12 d13 d14 d15 d16 d17 d18 d19 d20 : Slot} {res : Int32}, kb zao zap zaq zag zac zad zae zaf zah zx zy zz zaa zab zai zak zal zam zan zaj zar zas zat v2 v3 v4 = some res → OEndsQ own_P 0 38 [qr 0, qr 1, qi v2, qi v3, qi v4, d5, d6, d7, d8, d9, d10, d11, d12, d13, d14, d15, d16, d17, d18, d19, d20] [] (qa scr :: bk0 zao zap zaq zag zac zad zae zaf zah zx zy zz zaa zab zai zak zal zam zan zaj zar zas zat []) (LawQ res 0 0)) : ∀ {zao zap : List Int64} {zaq : List Int32} {zag : List Int64} {zac : List Int32} {zad zae : List Int64} {zaf zah : List Int32} {zx zy zz zaa zab : Int64} {zai : Int32} {zak zal : Int64} {zam : Int32} {zan : Int64} {zaj zar : Int32} {zas zat : Int64} {v2 v3 v4 t0 t1 t2 t3 t4 : Int32} {d5 d6 d7 d8 d9 d10 d11 d12 d13 d14 d15 d16 d17 d18 d19 d20 : Slot} {res : Int32}, f_L_law_144 kb scr zao zap zaq zag zac zad zae zaf zah zx zy zz zaa zab zai zak zal zam zan zaj zar zas zat v2 v3 v4 t0 t1 t2 t3 t4 = some res → OEndsQ own_P 0 144 [qr 0, qr 1, qi v2, qi v3, qi v4, d5, d6, d7, d8, d9, d10, d11, d12, d13, d14, d15, d16, d17, d18, d19, d20] [.int t0, .int t1, .int t2, .int t3, .int t4, .ref 1] (qa scr :: bk0 zao zap zaq zag zac zad zae zaf zah zx zy zz zaa zab zai zak zal zam zan zaj zar zas zat []) (LawQ res 0 0) := by
  intro zao zap zaq zag zac zad zae zaf zah zx zy zz zaa zab zai zak zal zam zan zaj zar zas zat v2 v3 v4 t0 t1 t2 t3 t4 d5 d6 d7 d8 d9 d10 d11 d12 d13 d14 d15 d16 d17 d18 d19 d20 res h
  unfold f_L_law_144 at h
  obtain ⟨r288, hq229, h⟩ := bnd h
  refine OEndsQ.call0 hm_0 rfl rfl (by decide) rfl (as := [.int t2, .int t1, .int t0]) (rest := [.int t3, .int t4, .ref 1]) rfl rfl (ok_L_scalar hq229) ?_
  show OEndsQ own_P 0 147 [qr 0, qr 1, qi v2, qi v3, qi v4, qu, qu, qu, qu, qu, qu, qu, qu, qu, qu, qu, qu, qu, qu, qu, qu] [.long r288, .int t3, .int t4, .ref 1] (qa scr :: bk0 zao zap zaq zag zac zad zae zaf zah zx zy zz zaa zab zai zak zal zam zan zaj zar zas zat []) _
  obtain ⟨⟨r289, s290, s291, s292, s293, s294, s295⟩, hq230, h⟩ := bnd h
  refine OEndsQ.call0 hm_0 rfl rfl (by decide) rfl (as := [.ref 1, .int t4, .int t3, .long r288]) (rest := []) rfl rfl (ok_mul hq230) ?_
  refine OEndsQ.adv hm_0 5 (pc' := 38) (L' := [qr 0, qr 1, qi v2, qi (v3 + (1 : Int32)), qi (v4 + (5 : Int32)), qu, qu, qu, qu, qu, qu, qu, qu, qu, qu, qu, qu, qu, qu, qu, qu]) (S' := []) (H' := (qa scr :: bk0 s290 s291 s292 zag zac zad zae zaf zah zx zy zz zaa zab zai zak zal zam zan zaj s293 s294 s295 [])) rfl ?_
  exact hkb h
theorem ok_L_law_38 {scr : List Int32} : ∀ (n : Nat), ∀ {zao zap : List Int64} {zaq : List Int32} {zag : List Int64} {zac : List Int32} {zad zae : List Int64} {zaf zah : List Int32} {zx zy zz zaa zab : Int64} {zai : Int32} {zak zal : Int64} {zam : Int32} {zan : Int64} {zaj zar : Int32} {zas zat : Int64} {v2 v3 v4 : Int32} {d5 d6 d7 d8 d9 d10 d11 d12 d13 d14 d15 d16 d17 d18 d19 d20 : Slot} {res : Int32}, f_L_law_38 scr n zao zap zaq zag zac zad zae zaf zah zx zy zz zaa zab zai zak zal zam zan zaj zar zas zat v2 v3 v4 = some res → OEndsQ own_P 0 38 [qr 0, qr 1, qi v2, qi v3, qi v4, d5, d6, d7, d8, d9, d10, d11, d12, d13, d14, d15, d16, d17, d18, d19, d20] [] (qa scr :: bk0 zao zap zaq zag zac zad zae zaf zah zx zy zz zaa zab zai zak zal zam zan zaj zar zas zat []) (LawQ res 0 0) := by
  intro n
  induction n with
  | zero => intro zao zap zaq zag zac zad zae zaf zah zx zy zz zaa zab zai zak zal zam zan zaj zar zas zat v2 v3 v4 d5 d6 d7 d8 d9 d10 d11 d12 d13 d14 d15 d16 d17 d18 d19 d20 res h; cases h
  | succ n ih =>
    intro zao zap zaq zag zac zad zae zaf zah zx zy zz zaa zab zai zak zal zam zan zaj zar zas zat v2 v3 v4 d5 d6 d7 d8 d9 d10 d11 d12 d13 d14 d15 d16 d17 d18 d19 d20 res h
    unfold f_L_law_38 at h
    refine OEndsQ.adv hm_0 3 (pc' := 42) (L' := [qr 0, qr 1, qi v2, qi v3, qi v4, qu, qu, qu, qu, qu, qu, qu, qu, qu, qu, qu, qu, qu, qu, qu, qu]) (S' := [.int scr.length.toInt32, .int v4]) (H' := (qa scr :: bk0 zao zap zaq zag zac zad zae zaf zah zx zy zz zaa zab zai zak zal zam zan zaj zar zas zat [])) rfl ?_
    by_cases hc231 : v4 < scr.length.toInt32
    · simp only [if_pos hc231] at h
      refine OEndsQ.icmpF hm_0 rfl ((tlt hc231).2.1) ?_
      refine OEndsQ.adv hm_0 2 (pc' := 48) (L' := [qr 0, qr 1, qi v2, qi v3, qi v4, qu, qu, qu, qu, qu, qu, qu, qu, qu, qu, qu, qu, qu, qu, qu, qu]) (S' := [.int 64, .int v3]) (H' := (qa scr :: bk0 zao zap zaq zag zac zad zae zaf zah zx zy zz zaa zab zai zak zal zam zan zaj zar zas zat [])) rfl ?_
      by_cases hc232 : v3 < (64 : Int32)
      · simp only [if_pos hc232] at h
        refine OEndsQ.icmpF hm_0 rfl ((tlt hc232).2.1) ?_
        refine OEndsQ.adv hm_0 2 (pc' := 54) (L' := [qr 0, qr 1, qi v2, qi v3, qi v4, qu, qu, qu, qu, qu, qu, qu, qu, qu, qu, qu, qu, qu, qu, qu, qu]) (S' := [.int v4, .ref 0]) (H' := (qa scr :: bk0 zao zap zaq zag zac zad zae zaf zah zx zy zz zaa zab zai zak zal zam zan zaj zar zas zat [])) rfl ?_
        obtain ⟨r225, hq233, h⟩ := bnd h
        refine OEndsQ.call0 hm_0 rfl rfl (by decide) rfl (as := [.ref 0, .int v4]) (rest := []) rfl rfl (ok_L_cell hq233) ?_
        refine OEndsQ.adv hm_0 5 (pc' := 64) (L' := [qr 0, qr 1, qi v2, qi v3, qi v4, qi r225, qu, qu, qu, qu, qu, qu, qu, qu, qu, qu, qu, qu, qu, qu, qu]) (S' := [.int (v4 + (1 : Int32)), .ref 0]) (H' := (qa scr :: bk0 zao zap zaq zag zac zad zae zaf zah zx zy zz zaa zab zai zak zal zam zan zaj zar zas zat [])) rfl ?_
        obtain ⟨r226, hq234, h⟩ := bnd h
        refine OEndsQ.call0 hm_0 rfl rfl (by decide) rfl (as := [.ref 0, .int (v4 + (1 : Int32))]) (rest := []) rfl rfl (ok_L_cell hq234) ?_
        refine OEndsQ.adv hm_0 5 (pc' := 74) (L' := [qr 0, qr 1, qi v2, qi v3, qi v4, qi r225, qi r226, qu, qu, qu, qu, qu, qu, qu, qu, qu, qu, qu, qu, qu, qu]) (S' := [.int (v4 + (2 : Int32)), .ref 0]) (H' := (qa scr :: bk0 zao zap zaq zag zac zad zae zaf zah zx zy zz zaa zab zai zak zal zam zan zaj zar zas zat [])) rfl ?_
        obtain ⟨r227, hq235, h⟩ := bnd h
        refine OEndsQ.call0 hm_0 rfl rfl (by decide) rfl (as := [.ref 0, .int (v4 + (2 : Int32))]) (rest := []) rfl rfl (ok_L_cell hq235) ?_
        refine OEndsQ.adv hm_0 5 (pc' := 84) (L' := [qr 0, qr 1, qi v2, qi v3, qi v4, qi r225, qi r226, qi r227, qu, qu, qu, qu, qu, qu, qu, qu, qu, qu, qu, qu, qu]) (S' := [.int (v4 + (3 : Int32)), .ref 0]) (H' := (qa scr :: bk0 zao zap zaq zag zac zad zae zaf zah zx zy zz zaa zab zai zak zal zam zan zaj zar zas zat [])) rfl ?_
        obtain ⟨r228, hq236, h⟩ := bnd h
        refine OEndsQ.call0 hm_0 rfl rfl (by decide) rfl (as := [.ref 0, .int (v4 + (3 : Int32))]) (rest := []) rfl rfl (ok_L_cell hq236) ?_
        refine OEndsQ.adv hm_0 5 (pc' := 94) (L' := [qr 0, qr 1, qi v2, qi v3, qi v4, qi r225, qi r226, qi r227, qi r228, qu, qu, qu, qu, qu, qu, qu, qu, qu, qu, qu, qu]) (S' := [.int (v4 + (4 : Int32)), .ref 0]) (H' := (qa scr :: bk0 zao zap zaq zag zac zad zae zaf zah zx zy zz zaa zab zai zak zal zam zan zaj zar zas zat [])) rfl ?_
        obtain ⟨r229, hq237, h⟩ := bnd h
        refine OEndsQ.call0 hm_0 rfl rfl (by decide) rfl (as := [.ref 0, .int (v4 + (4 : Int32))]) (rest := []) rfl rfl (ok_L_cell hq237) ?_
        refine OEndsQ.adv hm_0 12 (pc' := 117) (L' := [qr 0, qr 1, qi v2, qi v3, qi v4, qi r225, qi r226, qi r227, qi r228, qi r229, qi (r225 &&& (7 : Int32)), qi ((XT.ushr r225 (3 : Int32)) &&& (7 : Int32)), qu, qu, qu, qu, qu, qu, qu, qu, qu]) (S' := [.int (r225 &&& (7 : Int32))]) (H' := (qa scr :: bk0 zao zap zaq zag zac zad zae zaf zah zx zy zz zaa zab zai zak zal zam zan zaj zar zas zat [])) rfl ?_
        by_cases hc238 : (r225 &&& (7 : Int32)) = (0 : Int32)
        · simp only [if_pos hc238] at h
          refine OEndsQ.ifF hm_0 rfl ((teq hc238).2) ?_
          refine OEndsQ.adv hm_0 10 (pc' := 136) (L' := [qr 0, qr 1, qi v2, qi v3, qi v4, qi r225, qi r226, qi r227, qi r228, qi r229, qi (r225 &&& (7 : Int32)), qi ((XT.ushr r225 (3 : Int32)) &&& (7 : Int32)), qu, qu, qu, qu, qu, qu, qu, qu, qu]) (S' := [.int (r229 &&& (1 : Int32)), .int r228, .int r227, .int (r226 &&& (7 : Int32)), .int ((XT.ushr r225 (3 : Int32)) &&& (7 : Int32)), .ref 1]) (H' := (qa scr :: bk0 zao zap zaq zag zac zad zae zaf zah zx zy zz zaa zab zai zak zal zam zan zaj zar zas zat [])) rfl ?_
          by_cases hc239 : (r229 &&& (1 : Int32)) = (0 : Int32)
          · simp only [if_pos hc239] at h
            refine OEndsQ.ifF hm_0 rfl ((teq hc239).2) ?_
            refine OEndsQ.adv hm_0 2 (pc' := 144) (L' := [qr 0, qr 1, qi v2, qi v3, qi v4, qi r225, qi r226, qi r227, qi r228, qi r229, qi (r225 &&& (7 : Int32)), qi ((XT.ushr r225 (3 : Int32)) &&& (7 : Int32)), qu, qu, qu, qu, qu, qu, qu, qu, qu]) (S' := [.int 1, .int r228, .int r227, .int (r226 &&& (7 : Int32)), .int ((XT.ushr r225 (3 : Int32)) &&& (7 : Int32)), .ref 1]) (H' := (qa scr :: bk0 zao zap zaq zag zac zad zae zaf zah zx zy zz zaa zab zai zak zal zam zan zaj zar zas zat [])) rfl ?_
            exact ok_L_law_144 ih h
          · simp only [if_neg hc239] at h
            refine OEndsQ.ifT hm_0 rfl (q := 143) rfl ((feq hc239).2) ?_
            refine OEndsQ.adv hm_0 1 (pc' := 144) (L' := [qr 0, qr 1, qi v2, qi v3, qi v4, qi r225, qi r226, qi r227, qi r228, qi r229, qi (r225 &&& (7 : Int32)), qi ((XT.ushr r225 (3 : Int32)) &&& (7 : Int32)), qu, qu, qu, qu, qu, qu, qu, qu, qu]) (S' := [.int 0, .int r228, .int r227, .int (r226 &&& (7 : Int32)), .int ((XT.ushr r225 (3 : Int32)) &&& (7 : Int32)), .ref 1]) (H' := (qa scr :: bk0 zao zap zaq zag zac zad zae zaf zah zx zy zz zaa zab zai zak zal zam zan zaj zar zas zat [])) rfl ?_
            exact ok_L_law_144 ih h
        · simp only [if_neg hc238] at h
          refine OEndsQ.ifT hm_0 rfl (q := 154) rfl ((feq hc238).2) ?_
          refine OEndsQ.adv hm_0 2 (pc' := 157) (L' := [qr 0, qr 1, qi v2, qi v3, qi v4, qi r225, qi r226, qi r227, qi r228, qi r229, qi (r225 &&& (7 : Int32)), qi ((XT.ushr r225 (3 : Int32)) &&& (7 : Int32)), qu, qu, qu, qu, qu, qu, qu, qu, qu]) (S' := [.int 1, .int (r225 &&& (7 : Int32))]) (H' := (qa scr :: bk0 zao zap zaq zag zac zad zae zaf zah zx zy zz zaa zab zai zak zal zam zan zaj zar zas zat [])) rfl ?_
          by_cases hc240 : (r225 &&& (7 : Int32)) = (1 : Int32)
          · simp only [if_pos hc240] at h
            refine OEndsQ.icmpF hm_0 rfl ((teq hc240).2) ?_
            refine OEndsQ.adv hm_0 8 (pc' := 173) (L' := [qr 0, qr 1, qi v2, qi v3, qi v4, qi r225, qi r226, qi r227, qi r228, qi r229, qi (r225 &&& (7 : Int32)), qi ((XT.ushr r225 (3 : Int32)) &&& (7 : Int32)), qu, qu, qu, qu, qu, qu, qu, qu, qu]) (S' := [.int (r227 &&& (7 : Int32)), .int (r226 &&& (7 : Int32)), .int ((XT.ushr r225 (3 : Int32)) &&& (7 : Int32)), .ref 1]) (H' := (qa scr :: bk0 zao zap zaq zag zac zad zae zaf zah zx zy zz zaa zab zai zak zal zam zan zaj zar zas zat [])) rfl ?_
            obtain ⟨⟨r281, s282, s283, s284, s285, s286, s287⟩, hq241, h⟩ := bnd h
            refine OEndsQ.call0 hm_0 rfl rfl (by decide) rfl (as := [.ref 1, .int ((XT.ushr r225 (3 : Int32)) &&& (7 : Int32)), .int (r226 &&& (7 : Int32)), .int (r227 &&& (7 : Int32))]) (rest := []) rfl rfl (ok_add hq241) ?_
            refine OEndsQ.adv hm_0 5 (pc' := 38) (L' := [qr 0, qr 1, qi v2, qi (v3 + (1 : Int32)), qi (v4 + (5 : Int32)), qi r225, qi r226, qi r227, qi r228, qi r229, qi (r225 &&& (7 : Int32)), qi ((XT.ushr r225 (3 : Int32)) &&& (7 : Int32)), qu, qu, qu, qu, qu, qu, qu, qu, qu]) (S' := []) (H' := (qa scr :: bk0 s282 s283 s284 zag zac zad zae zaf zah zx zy zz zaa zab zai zak zal zam zan zaj s285 s286 s287 [])) rfl ?_
            exact ih h
          · simp only [if_neg hc240] at h
            refine OEndsQ.icmpT hm_0 rfl (q := 180) rfl ((feq hc240).2) ?_
            refine OEndsQ.adv hm_0 2 (pc' := 183) (L' := [qr 0, qr 1, qi v2, qi v3, qi v4, qi r225, qi r226, qi r227, qi r228, qi r229, qi (r225 &&& (7 : Int32)), qi ((XT.ushr r225 (3 : Int32)) &&& (7 : Int32)), qu, qu, qu, qu, qu, qu, qu, qu, qu]) (S' := [.int 2, .int (r225 &&& (7 : Int32))]) (H' := (qa scr :: bk0 zao zap zaq zag zac zad zae zaf zah zx zy zz zaa zab zai zak zal zam zan zaj zar zas zat [])) rfl ?_
            by_cases hc242 : (r225 &&& (7 : Int32)) = (2 : Int32)
            · simp only [if_pos hc242] at h
              refine OEndsQ.icmpF hm_0 rfl ((teq hc242).2) ?_
              refine OEndsQ.adv hm_0 31 (pc' := 234) (L' := [qr 0, qr 1, qi v2, qi v3, qi v4, qi r225, qi r226, qi r227, qi r228, qi r229, qi (r225 &&& (7 : Int32)), qi ((XT.ushr r225 (3 : Int32)) &&& (7 : Int32)), qi ((XT.ushr r225 (3 : Int32)) &&& (7 : Int32)), qi ((((XT.ushr r225 (3 : Int32)) &&& (7 : Int32)) + (1 : Int32)) &&& (7 : Int32)), qi ((((XT.ushr r225 (3 : Int32)) &&& (7 : Int32)) + (2 : Int32)) &&& (7 : Int32)), qi ((((XT.ushr r225 (3 : Int32)) &&& (7 : Int32)) + (3 : Int32)) &&& (7 : Int32)), qi ((((XT.ushr r225 (3 : Int32)) &&& (7 : Int32)) + (4 : Int32)) &&& (7 : Int32)), qu, qu, qu, qu]) (S' := [.int (r229 &&& (1 : Int32)), .int r227, .int r226]) (H' := (qa scr :: bk0 zao zap zaq zag zac zad zae zaf zah zx zy zz zaa zab zai zak zal zam zan zaj zar zas zat [])) rfl ?_
              by_cases hc243 : (r229 &&& (1 : Int32)) = (0 : Int32)
              · simp only [if_pos hc243] at h
                refine OEndsQ.ifF hm_0 rfl ((teq hc243).2) ?_
                refine OEndsQ.adv hm_0 2 (pc' := 242) (L' := [qr 0, qr 1, qi v2, qi v3, qi v4, qi r225, qi r226, qi r227, qi r228, qi r229, qi (r225 &&& (7 : Int32)), qi ((XT.ushr r225 (3 : Int32)) &&& (7 : Int32)), qi ((XT.ushr r225 (3 : Int32)) &&& (7 : Int32)), qi ((((XT.ushr r225 (3 : Int32)) &&& (7 : Int32)) + (1 : Int32)) &&& (7 : Int32)), qi ((((XT.ushr r225 (3 : Int32)) &&& (7 : Int32)) + (2 : Int32)) &&& (7 : Int32)), qi ((((XT.ushr r225 (3 : Int32)) &&& (7 : Int32)) + (3 : Int32)) &&& (7 : Int32)), qi ((((XT.ushr r225 (3 : Int32)) &&& (7 : Int32)) + (4 : Int32)) &&& (7 : Int32)), qu, qu, qu, qu]) (S' := [.int 1, .int r227, .int r226]) (H' := (qa scr :: bk0 zao zap zaq zag zac zad zae zaf zah zx zy zz zaa zab zai zak zal zam zan zaj zar zas zat [])) rfl ?_
                exact ok_L_law_242 ih h
              · simp only [if_neg hc243] at h
                refine OEndsQ.ifT hm_0 rfl (q := 241) rfl ((feq hc243).2) ?_
                refine OEndsQ.adv hm_0 1 (pc' := 242) (L' := [qr 0, qr 1, qi v2, qi v3, qi v4, qi r225, qi r226, qi r227, qi r228, qi r229, qi (r225 &&& (7 : Int32)), qi ((XT.ushr r225 (3 : Int32)) &&& (7 : Int32)), qi ((XT.ushr r225 (3 : Int32)) &&& (7 : Int32)), qi ((((XT.ushr r225 (3 : Int32)) &&& (7 : Int32)) + (1 : Int32)) &&& (7 : Int32)), qi ((((XT.ushr r225 (3 : Int32)) &&& (7 : Int32)) + (2 : Int32)) &&& (7 : Int32)), qi ((((XT.ushr r225 (3 : Int32)) &&& (7 : Int32)) + (3 : Int32)) &&& (7 : Int32)), qi ((((XT.ushr r225 (3 : Int32)) &&& (7 : Int32)) + (4 : Int32)) &&& (7 : Int32)), qu, qu, qu, qu]) (S' := [.int 0, .int r227, .int r226]) (H' := (qa scr :: bk0 zao zap zaq zag zac zad zae zaf zah zx zy zz zaa zab zai zak zal zam zan zaj zar zas zat [])) rfl ?_
                exact ok_L_law_242 ih h
            · simp only [if_neg hc242] at h
              refine OEndsQ.icmpT hm_0 rfl (q := 403) rfl ((feq hc242).2) ?_
              refine OEndsQ.adv hm_0 2 (pc' := 406) (L' := [qr 0, qr 1, qi v2, qi v3, qi v4, qi r225, qi r226, qi r227, qi r228, qi r229, qi (r225 &&& (7 : Int32)), qi ((XT.ushr r225 (3 : Int32)) &&& (7 : Int32)), qu, qu, qu, qu, qu, qu, qu, qu, qu]) (S' := [.int 3, .int (r225 &&& (7 : Int32))]) (H' := (qa scr :: bk0 zao zap zaq zag zac zad zae zaf zah zx zy zz zaa zab zai zak zal zam zan zaj zar zas zat [])) rfl ?_
              by_cases hc244 : (r225 &&& (7 : Int32)) = (3 : Int32)
              · simp only [if_pos hc244] at h
                refine OEndsQ.icmpF hm_0 rfl ((teq hc244).2) ?_
                refine OEndsQ.adv hm_0 11 (pc' := 425) (L' := [qr 0, qr 1, qi v2, qi v3, qi v4, qi r225, qi r226, qi r227, qi r228, qi r229, qi (r225 &&& (7 : Int32)), qi ((XT.ushr r225 (3 : Int32)) &&& (7 : Int32)), qi (((XT.ushr r225 (3 : Int32)) &&& (7 : Int32)) &&& (3 : Int32)), qu, qu, qu, qu, qu, qu, qu, qu]) (S' := [.int ((r226 &&& (1073741823 : Int32)) + (1 : Int32)), .int (((XT.ushr r225 (3 : Int32)) &&& (7 : Int32)) &&& (3 : Int32)), .ref 1]) (H' := (qa scr :: bk0 zao zap zaq zag zac zad zae zaf zah zx zy zz zaa zab zai zak zal zam zan zaj zar zas zat [])) rfl ?_
                obtain ⟨⟨r272, s273, s274, s275, s276, s277, s278, s279, s280⟩, hq245, h⟩ := bnd h
                refine OEndsQ.call0 hm_0 rfl rfl (by decide) rfl (as := [.ref 1, .int (((XT.ushr r225 (3 : Int32)) &&& (7 : Int32)) &&& (3 : Int32)), .int ((r226 &&& (1073741823 : Int32)) + (1 : Int32))]) (rest := []) rfl rfl (ok_genKey hq245) ?_
                show OEndsQ own_P 0 428 [qr 0, qr 1, qi v2, qi v3, qi v4, qi r225, qi r226, qi r227, qi r228, qi r229, qi (r225 &&& (7 : Int32)), qi ((XT.ushr r225 (3 : Int32)) &&& (7 : Int32)), qi (((XT.ushr r225 (3 : Int32)) &&& (7 : Int32)) &&& (3 : Int32)), qu, qu, qu, qu, qu, qu, qu, qu] [.int r272] (qa scr :: bk0 zao zap zaq s273 s274 s275 s276 s277 zah zx zy zz zaa zab zai zak zal zam zan zaj s278 s279 s280 []) _
                by_cases hc246 : r272 = (0 : Int32)
                · simp only [if_pos hc246] at h
                  refine OEndsQ.ifT hm_0 rfl (q := 438) rfl ((teq hc246).1) ?_
                  refine OEndsQ.adv hm_0 4 (pc' := 38) (L' := [qr 0, qr 1, qi v2, qi (v3 + (1 : Int32)), qi (v4 + (5 : Int32)), qi r225, qi r226, qi r227, qi r228, qi r229, qi (r225 &&& (7 : Int32)), qi ((XT.ushr r225 (3 : Int32)) &&& (7 : Int32)), qi (((XT.ushr r225 (3 : Int32)) &&& (7 : Int32)) &&& (3 : Int32)), qu, qu, qu, qu, qu, qu, qu, qu]) (S' := []) (H' := (qa scr :: bk0 zao zap zaq s273 s274 s275 s276 s277 zah zx zy zz zaa zab zai zak zal zam zan zaj s278 s279 s280 [])) rfl ?_
                  exact ih h
                · simp only [if_neg hc246] at h
                  refine OEndsQ.ifF hm_0 rfl ((feq hc246).1) ?_
                  refine OEndsQ.adv hm_0 10 (pc' := 38) (L' := [qr 0, qr 1, qi (v2 ||| ((1 : Int32) <<< ((((XT.ushr r225 (3 : Int32)) &&& (7 : Int32)) &&& (3 : Int32)) &&& 31))), qi (v3 + (1 : Int32)), qi (v4 + (5 : Int32)), qi r225, qi r226, qi r227, qi r228, qi r229, qi (r225 &&& (7 : Int32)), qi ((XT.ushr r225 (3 : Int32)) &&& (7 : Int32)), qi (((XT.ushr r225 (3 : Int32)) &&& (7 : Int32)) &&& (3 : Int32)), qu, qu, qu, qu, qu, qu, qu, qu]) (S' := []) (H' := (qa scr :: bk0 zao zap zaq s273 s274 s275 s276 s277 zah zx zy zz zaa zab zai zak zal zam zan zaj s278 s279 s280 [])) rfl ?_
                  exact ih h
              · simp only [if_neg hc244] at h
                refine OEndsQ.icmpT hm_0 rfl (q := 441) rfl ((feq hc244).2) ?_
                refine OEndsQ.adv hm_0 2 (pc' := 444) (L' := [qr 0, qr 1, qi v2, qi v3, qi v4, qi r225, qi r226, qi r227, qi r228, qi r229, qi (r225 &&& (7 : Int32)), qi ((XT.ushr r225 (3 : Int32)) &&& (7 : Int32)), qu, qu, qu, qu, qu, qu, qu, qu, qu]) (S' := [.int 4, .int (r225 &&& (7 : Int32))]) (H' := (qa scr :: bk0 zao zap zaq zag zac zad zae zaf zah zx zy zz zaa zab zai zak zal zam zan zaj zar zas zat [])) rfl ?_
                by_cases hc247 : (r225 &&& (7 : Int32)) = (4 : Int32)
                · simp only [if_pos hc247] at h
                  refine OEndsQ.icmpF hm_0 rfl ((teq hc247).2) ?_
                  refine OEndsQ.adv hm_0 29 (pc' := 491) (L' := [qr 0, qr 1, qi v2, qi v3, qi v4, qi r225, qi r226, qi r227, qi r228, qi r229, qi (r225 &&& (7 : Int32)), qi ((XT.ushr r225 (3 : Int32)) &&& (7 : Int32)), qi (((XT.ushr r225 (3 : Int32)) &&& (7 : Int32)) &&& (3 : Int32)), qi (r226 &&& (3 : Int32)), qi (r227 &&& (7 : Int32)), qi ((((r227 &&& (7 : Int32)) + (1 : Int32)) + ((r228 &&& (255 : Int32)) % (7 : Int32))) &&& (7 : Int32)), qu, qu, qu, qu, qu]) (S' := [.int (v2 &&& ((1 : Int32) <<< ((((XT.ushr r225 (3 : Int32)) &&& (7 : Int32)) &&& (3 : Int32)) &&& 31)))]) (H' := (qa scr :: bk0 zao zap zaq zag zac zad zae zaf zah zx zy zz zaa zab zai zak zal zam zan zaj zar zas zat [])) rfl ?_
                  by_cases hc248 : (v2 &&& ((1 : Int32) <<< ((((XT.ushr r225 (3 : Int32)) &&& (7 : Int32)) &&& (3 : Int32)) &&& 31))) = (0 : Int32)
                  · simp only [if_pos hc248] at h
                    refine OEndsQ.ifT hm_0 rfl (q := 546) rfl ((teq hc248).1) ?_
                    refine OEndsQ.adv hm_0 4 (pc' := 38) (L' := [qr 0, qr 1, qi v2, qi (v3 + (1 : Int32)), qi (v4 + (5 : Int32)), qi r225, qi r226, qi r227, qi r228, qi r229, qi (r225 &&& (7 : Int32)), qi ((XT.ushr r225 (3 : Int32)) &&& (7 : Int32)), qi (((XT.ushr r225 (3 : Int32)) &&& (7 : Int32)) &&& (3 : Int32)), qi (r226 &&& (3 : Int32)), qi (r227 &&& (7 : Int32)), qi ((((r227 &&& (7 : Int32)) + (1 : Int32)) + ((r228 &&& (255 : Int32)) % (7 : Int32))) &&& (7 : Int32)), qu, qu, qu, qu, qu]) (S' := []) (H' := (qa scr :: bk0 zao zap zaq zag zac zad zae zaf zah zx zy zz zaa zab zai zak zal zam zan zaj zar zas zat [])) rfl ?_
                    exact ih h
                  · simp only [if_neg hc248] at h
                    refine OEndsQ.ifF hm_0 rfl ((feq hc248).1) ?_
                    refine OEndsQ.adv hm_0 5 (pc' := 500) (L' := [qr 0, qr 1, qi v2, qi v3, qi v4, qi r225, qi r226, qi r227, qi r228, qi r229, qi (r225 &&& (7 : Int32)), qi ((XT.ushr r225 (3 : Int32)) &&& (7 : Int32)), qi (((XT.ushr r225 (3 : Int32)) &&& (7 : Int32)) &&& (3 : Int32)), qi (r226 &&& (3 : Int32)), qi (r227 &&& (7 : Int32)), qi ((((r227 &&& (7 : Int32)) + (1 : Int32)) + ((r228 &&& (255 : Int32)) % (7 : Int32))) &&& (7 : Int32)), qu, qu, qu, qu, qu]) (S' := [.int (v2 &&& ((1 : Int32) <<< ((r226 &&& (3 : Int32)) &&& 31)))]) (H' := (qa scr :: bk0 zao zap zaq zag zac zad zae zaf zah zx zy zz zaa zab zai zak zal zam zan zaj zar zas zat [])) rfl ?_
                    by_cases hc249 : (v2 &&& ((1 : Int32) <<< ((r226 &&& (3 : Int32)) &&& 31))) = (0 : Int32)
                    · simp only [if_pos hc249] at h
                      refine OEndsQ.ifT hm_0 rfl (q := 546) rfl ((teq hc249).1) ?_
                      refine OEndsQ.adv hm_0 4 (pc' := 38) (L' := [qr 0, qr 1, qi v2, qi (v3 + (1 : Int32)), qi (v4 + (5 : Int32)), qi r225, qi r226, qi r227, qi r228, qi r229, qi (r225 &&& (7 : Int32)), qi ((XT.ushr r225 (3 : Int32)) &&& (7 : Int32)), qi (((XT.ushr r225 (3 : Int32)) &&& (7 : Int32)) &&& (3 : Int32)), qi (r226 &&& (3 : Int32)), qi (r227 &&& (7 : Int32)), qi ((((r227 &&& (7 : Int32)) + (1 : Int32)) + ((r228 &&& (255 : Int32)) % (7 : Int32))) &&& (7 : Int32)), qu, qu, qu, qu, qu]) (S' := []) (H' := (qa scr :: bk0 zao zap zaq zag zac zad zae zaf zah zx zy zz zaa zab zai zak zal zam zan zaj zar zas zat [])) rfl ?_
                      exact ih h
                    · simp only [if_neg hc249] at h
                      refine OEndsQ.ifF hm_0 rfl ((feq hc249).1) ?_
                      refine OEndsQ.adv hm_0 4 (pc' := 510) (L' := [qr 0, qr 1, qi v2, qi v3, qi v4, qi r225, qi r226, qi r227, qi r228, qi r229, qi (r225 &&& (7 : Int32)), qi ((XT.ushr r225 (3 : Int32)) &&& (7 : Int32)), qi (((XT.ushr r225 (3 : Int32)) &&& (7 : Int32)) &&& (3 : Int32)), qi (r226 &&& (3 : Int32)), qi (r227 &&& (7 : Int32)), qi ((((r227 &&& (7 : Int32)) + (1 : Int32)) + ((r228 &&& (255 : Int32)) % (7 : Int32))) &&& (7 : Int32)), qu, qu, qu, qu, qu]) (S' := [.int (r226 &&& (3 : Int32)), .int (((XT.ushr r225 (3 : Int32)) &&& (7 : Int32)) &&& (3 : Int32)), .int (r227 &&& (7 : Int32)), .ref 1]) (H' := (qa scr :: bk0 zao zap zaq zag zac zad zae zaf zah zx zy zz zaa zab zai zak zal zam zan zaj zar zas zat [])) rfl ?_
                      obtain ⟨⟨r257, s258, s259, s260, s261, s262, s263⟩, hq250, h⟩ := bnd h
                      refine OEndsQ.call0 hm_0 rfl rfl (by decide) rfl (as := [.ref 1, .int (r227 &&& (7 : Int32)), .int (((XT.ushr r225 (3 : Int32)) &&& (7 : Int32)) &&& (3 : Int32)), .int (r226 &&& (3 : Int32))]) (rest := []) rfl rfl (ok_shared hq250) ?_
                      show OEndsQ own_P 0 513 [qr 0, qr 1, qi v2, qi v3, qi v4, qi r225, qi r226, qi r227, qi r228, qi r229, qi (r225 &&& (7 : Int32)), qi ((XT.ushr r225 (3 : Int32)) &&& (7 : Int32)), qi (((XT.ushr r225 (3 : Int32)) &&& (7 : Int32)) &&& (3 : Int32)), qi (r226 &&& (3 : Int32)), qi (r227 &&& (7 : Int32)), qi ((((r227 &&& (7 : Int32)) + (1 : Int32)) + ((r228 &&& (255 : Int32)) % (7 : Int32))) &&& (7 : Int32)), qu, qu, qu, qu, qu] [.int r257] (qa scr :: bk0 s258 s259 s260 zag zac zad zae zaf zah zx zy zz zaa zab zai zak zal zam zan zaj s261 s262 s263 []) _
                      by_cases hc251 : r257 = (0 : Int32)
                      · simp only [if_pos hc251] at h
                        refine OEndsQ.ifF hm_0 rfl ((teq hc251).2) ?_
                        refine OEndsQ.adv hm_0 1 (pc' := 517) (L' := [qr 0, qr 1, qi v2, qi v3, qi v4, qi r225, qi r226, qi r227, qi r228, qi r229, qi (r225 &&& (7 : Int32)), qi ((XT.ushr r225 (3 : Int32)) &&& (7 : Int32)), qi (((XT.ushr r225 (3 : Int32)) &&& (7 : Int32)) &&& (3 : Int32)), qi (r226 &&& (3 : Int32)), qi (r227 &&& (7 : Int32)), qi ((((r227 &&& (7 : Int32)) + (1 : Int32)) + ((r228 &&& (255 : Int32)) % (7 : Int32))) &&& (7 : Int32)), qu, qu, qu, qu, qu]) (S' := [.int 0]) (H' := (qa scr :: bk0 s258 s259 s260 zag zac zad zae zaf zah zx zy zz zaa zab zai zak zal zam zan zaj s261 s262 s263 [])) rfl ?_
                        cases h
                        exact OEndsQ.iret hm_0 rfl rfl
                      · simp only [if_neg hc251] at h
                        refine OEndsQ.ifT hm_0 rfl (q := 518) rfl ((feq hc251).2) ?_
                        refine OEndsQ.adv hm_0 4 (pc' := 525) (L' := [qr 0, qr 1, qi v2, qi v3, qi v4, qi r225, qi r226, qi r227, qi r228, qi r229, qi (r225 &&& (7 : Int32)), qi ((XT.ushr r225 (3 : Int32)) &&& (7 : Int32)), qi (((XT.ushr r225 (3 : Int32)) &&& (7 : Int32)) &&& (3 : Int32)), qi (r226 &&& (3 : Int32)), qi (r227 &&& (7 : Int32)), qi ((((r227 &&& (7 : Int32)) + (1 : Int32)) + ((r228 &&& (255 : Int32)) % (7 : Int32))) &&& (7 : Int32)), qu, qu, qu, qu, qu]) (S' := [.int (((XT.ushr r225 (3 : Int32)) &&& (7 : Int32)) &&& (3 : Int32)), .int (r226 &&& (3 : Int32)), .int ((((r227 &&& (7 : Int32)) + (1 : Int32)) + ((r228 &&& (255 : Int32)) % (7 : Int32))) &&& (7 : Int32)), .ref 1]) (H' := (qa scr :: bk0 s258 s259 s260 zag zac zad zae zaf zah zx zy zz zaa zab zai zak zal zam zan zaj s261 s262 s263 [])) rfl ?_
                        obtain ⟨⟨r264, s265, s266, s267, s268, s269, s270⟩, hq252, h⟩ := bnd h
                        refine OEndsQ.call0 hm_0 rfl rfl (by decide) rfl (as := [.ref 1, .int ((((r227 &&& (7 : Int32)) + (1 : Int32)) + ((r228 &&& (255 : Int32)) % (7 : Int32))) &&& (7 : Int32)), .int (r226 &&& (3 : Int32)), .int (((XT.ushr r225 (3 : Int32)) &&& (7 : Int32)) &&& (3 : Int32))]) (rest := []) rfl rfl (ok_shared hq252) ?_
                        show OEndsQ own_P 0 528 [qr 0, qr 1, qi v2, qi v3, qi v4, qi r225, qi r226, qi r227, qi r228, qi r229, qi (r225 &&& (7 : Int32)), qi ((XT.ushr r225 (3 : Int32)) &&& (7 : Int32)), qi (((XT.ushr r225 (3 : Int32)) &&& (7 : Int32)) &&& (3 : Int32)), qi (r226 &&& (3 : Int32)), qi (r227 &&& (7 : Int32)), qi ((((r227 &&& (7 : Int32)) + (1 : Int32)) + ((r228 &&& (255 : Int32)) % (7 : Int32))) &&& (7 : Int32)), qu, qu, qu, qu, qu] [.int r264] (qa scr :: bk0 s265 s266 s267 zag zac zad zae zaf zah zx zy zz zaa zab zai zak zal zam zan zaj s268 s269 s270 []) _
                        by_cases hc253 : r264 = (0 : Int32)
                        · simp only [if_pos hc253] at h
                          refine OEndsQ.ifF hm_0 rfl ((teq hc253).2) ?_
                          refine OEndsQ.adv hm_0 1 (pc' := 532) (L' := [qr 0, qr 1, qi v2, qi v3, qi v4, qi r225, qi r226, qi r227, qi r228, qi r229, qi (r225 &&& (7 : Int32)), qi ((XT.ushr r225 (3 : Int32)) &&& (7 : Int32)), qi (((XT.ushr r225 (3 : Int32)) &&& (7 : Int32)) &&& (3 : Int32)), qi (r226 &&& (3 : Int32)), qi (r227 &&& (7 : Int32)), qi ((((r227 &&& (7 : Int32)) + (1 : Int32)) + ((r228 &&& (255 : Int32)) % (7 : Int32))) &&& (7 : Int32)), qu, qu, qu, qu, qu]) (S' := [.int 0]) (H' := (qa scr :: bk0 s265 s266 s267 zag zac zad zae zaf zah zx zy zz zaa zab zai zak zal zam zan zaj s268 s269 s270 [])) rfl ?_
                          cases h
                          exact OEndsQ.iret hm_0 rfl rfl
                        · simp only [if_neg hc253] at h
                          refine OEndsQ.ifT hm_0 rfl (q := 533) rfl ((feq hc253).2) ?_
                          refine OEndsQ.adv hm_0 3 (pc' := 538) (L' := [qr 0, qr 1, qi v2, qi v3, qi v4, qi r225, qi r226, qi r227, qi r228, qi r229, qi (r225 &&& (7 : Int32)), qi ((XT.ushr r225 (3 : Int32)) &&& (7 : Int32)), qi (((XT.ushr r225 (3 : Int32)) &&& (7 : Int32)) &&& (3 : Int32)), qi (r226 &&& (3 : Int32)), qi (r227 &&& (7 : Int32)), qi ((((r227 &&& (7 : Int32)) + (1 : Int32)) + ((r228 &&& (255 : Int32)) % (7 : Int32))) &&& (7 : Int32)), qu, qu, qu, qu, qu]) (S' := [.int ((((r227 &&& (7 : Int32)) + (1 : Int32)) + ((r228 &&& (255 : Int32)) % (7 : Int32))) &&& (7 : Int32)), .int (r227 &&& (7 : Int32)), .ref 1]) (H' := (qa scr :: bk0 s265 s266 s267 zag zac zad zae zaf zah zx zy zz zaa zab zai zak zal zam zan zaj s268 s269 s270 [])) rfl ?_
                          obtain ⟨r271, hq254, h⟩ := bnd h
                          refine OEndsQ.call0 hm_0 rfl rfl (by decide) rfl (as := [.ref 1, .int (r227 &&& (7 : Int32)), .int ((((r227 &&& (7 : Int32)) + (1 : Int32)) + ((r228 &&& (255 : Int32)) % (7 : Int32))) &&& (7 : Int32))]) (rest := []) rfl rfl (ok_L_same hq254) ?_
                          show OEndsQ own_P 0 541 [qr 0, qr 1, qi v2, qi v3, qi v4, qi r225, qi r226, qi r227, qi r228, qi r229, qi (r225 &&& (7 : Int32)), qi ((XT.ushr r225 (3 : Int32)) &&& (7 : Int32)), qi (((XT.ushr r225 (3 : Int32)) &&& (7 : Int32)) &&& (3 : Int32)), qi (r226 &&& (3 : Int32)), qi (r227 &&& (7 : Int32)), qi ((((r227 &&& (7 : Int32)) + (1 : Int32)) + ((r228 &&& (255 : Int32)) % (7 : Int32))) &&& (7 : Int32)), qu, qu, qu, qu, qu] [.int r271] (qa scr :: bk0 s265 s266 s267 zag zac zad zae zaf zah zx zy zz zaa zab zai zak zal zam zan zaj s268 s269 s270 []) _
                          by_cases hc255 : r271 = (0 : Int32)
                          · simp only [if_pos hc255] at h
                            refine OEndsQ.ifF hm_0 rfl ((teq hc255).2) ?_
                            refine OEndsQ.adv hm_0 1 (pc' := 545) (L' := [qr 0, qr 1, qi v2, qi v3, qi v4, qi r225, qi r226, qi r227, qi r228, qi r229, qi (r225 &&& (7 : Int32)), qi ((XT.ushr r225 (3 : Int32)) &&& (7 : Int32)), qi (((XT.ushr r225 (3 : Int32)) &&& (7 : Int32)) &&& (3 : Int32)), qi (r226 &&& (3 : Int32)), qi (r227 &&& (7 : Int32)), qi ((((r227 &&& (7 : Int32)) + (1 : Int32)) + ((r228 &&& (255 : Int32)) % (7 : Int32))) &&& (7 : Int32)), qu, qu, qu, qu, qu]) (S' := [.int 0]) (H' := (qa scr :: bk0 s265 s266 s267 zag zac zad zae zaf zah zx zy zz zaa zab zai zak zal zam zan zaj s268 s269 s270 [])) rfl ?_
                            cases h
                            exact OEndsQ.iret hm_0 rfl rfl
                          · simp only [if_neg hc255] at h
                            refine OEndsQ.ifT hm_0 rfl (q := 546) rfl ((feq hc255).2) ?_
                            refine OEndsQ.adv hm_0 4 (pc' := 38) (L' := [qr 0, qr 1, qi v2, qi (v3 + (1 : Int32)), qi (v4 + (5 : Int32)), qi r225, qi r226, qi r227, qi r228, qi r229, qi (r225 &&& (7 : Int32)), qi ((XT.ushr r225 (3 : Int32)) &&& (7 : Int32)), qi (((XT.ushr r225 (3 : Int32)) &&& (7 : Int32)) &&& (3 : Int32)), qi (r226 &&& (3 : Int32)), qi (r227 &&& (7 : Int32)), qi ((((r227 &&& (7 : Int32)) + (1 : Int32)) + ((r228 &&& (255 : Int32)) % (7 : Int32))) &&& (7 : Int32)), qu, qu, qu, qu, qu]) (S' := []) (H' := (qa scr :: bk0 s265 s266 s267 zag zac zad zae zaf zah zx zy zz zaa zab zai zak zal zam zan zaj s268 s269 s270 [])) rfl ?_
                            exact ih h
                · simp only [if_neg hc247] at h
                  refine OEndsQ.icmpT hm_0 rfl (q := 549) rfl ((feq hc247).2) ?_
                  refine OEndsQ.adv hm_0 2 (pc' := 552) (L' := [qr 0, qr 1, qi v2, qi v3, qi v4, qi r225, qi r226, qi r227, qi r228, qi r229, qi (r225 &&& (7 : Int32)), qi ((XT.ushr r225 (3 : Int32)) &&& (7 : Int32)), qu, qu, qu, qu, qu, qu, qu, qu, qu]) (S' := [.int 5, .int (r225 &&& (7 : Int32))]) (H' := (qa scr :: bk0 zao zap zaq zag zac zad zae zaf zah zx zy zz zaa zab zai zak zal zam zan zaj zar zas zat [])) rfl ?_
                  by_cases hc256 : (r225 &&& (7 : Int32)) = (5 : Int32)
                  · simp only [if_pos hc256] at h
                    refine OEndsQ.icmpF hm_0 rfl ((teq hc256).2) ?_
                    refine OEndsQ.adv hm_0 2 (pc' := 558) (L' := [qr 0, qr 1, qi v2, qi v3, qi v4, qi r225, qi r226, qi r227, qi r228, qi r229, qi (r225 &&& (7 : Int32)), qi ((XT.ushr r225 (3 : Int32)) &&& (7 : Int32)), qu, qu, qu, qu, qu, qu, qu, qu, qu]) (S' := [.int r226, .ref 1]) (H' := (qa scr :: bk0 zao zap zaq zag zac zad zae zaf zah zx zy zz zaa zab zai zak zal zam zan zaj zar zas zat [])) rfl ?_
                    obtain ⟨⟨r244, s245, s246⟩, hq257, h⟩ := bnd h
                    refine OEndsQ.call0 hm_0 rfl rfl (by decide) rfl (as := [.ref 1, .int r226]) (rest := []) rfl rfl (ok_feed hq257) ?_
                    refine OEndsQ.adv hm_0 3 (pc' := 565) (L' := [qr 0, qr 1, qi v2, qi v3, qi v4, qi r225, qi r226, qi r227, qi r228, qi r229, qi (r225 &&& (7 : Int32)), qi ((XT.ushr r225 (3 : Int32)) &&& (7 : Int32)), qu, qu, qu, qu, qu, qu, qu, qu, qu]) (S' := [.int r227, .ref 1]) (H' := (qa scr :: bk0 zao zap zaq zag zac zad zae zaf s245 zx zy zz zaa zab s246 zak zal zam zan zaj zar zas zat [])) rfl ?_
                    obtain ⟨⟨r247, s248, s249⟩, hq258, h⟩ := bnd h
                    refine OEndsQ.call0 hm_0 rfl rfl (by decide) rfl (as := [.ref 1, .int r227]) (rest := []) rfl rfl (ok_feed hq258) ?_
                    refine OEndsQ.adv hm_0 3 (pc' := 572) (L' := [qr 0, qr 1, qi v2, qi v3, qi v4, qi r225, qi r226, qi r227, qi r228, qi r229, qi (r225 &&& (7 : Int32)), qi ((XT.ushr r225 (3 : Int32)) &&& (7 : Int32)), qu, qu, qu, qu, qu, qu, qu, qu, qu]) (S' := [.int r228, .ref 1]) (H' := (qa scr :: bk0 zao zap zaq zag zac zad zae zaf s248 zx zy zz zaa zab s249 zak zal zam zan zaj zar zas zat [])) rfl ?_
                    obtain ⟨⟨r250, s251, s252⟩, hq259, h⟩ := bnd h
                    refine OEndsQ.call0 hm_0 rfl rfl (by decide) rfl (as := [.ref 1, .int r228]) (rest := []) rfl rfl (ok_feed hq259) ?_
                    refine OEndsQ.adv hm_0 3 (pc' := 579) (L' := [qr 0, qr 1, qi v2, qi v3, qi v4, qi r225, qi r226, qi r227, qi r228, qi r229, qi (r225 &&& (7 : Int32)), qi ((XT.ushr r225 (3 : Int32)) &&& (7 : Int32)), qu, qu, qu, qu, qu, qu, qu, qu, qu]) (S' := [.int r229, .ref 1]) (H' := (qa scr :: bk0 zao zap zaq zag zac zad zae zaf s251 zx zy zz zaa zab s252 zak zal zam zan zaj zar zas zat [])) rfl ?_
                    obtain ⟨⟨r253, s254, s255⟩, hq260, h⟩ := bnd h
                    refine OEndsQ.call0 hm_0 rfl rfl (by decide) rfl (as := [.ref 1, .int r229]) (rest := []) rfl rfl (ok_feed hq260) ?_
                    refine OEndsQ.adv hm_0 4 (pc' := 588) (L' := [qr 0, qr 1, qi v2, qi v3, qi v4, qi r225, qi r226, qi r227, qi r228, qi r229, qi (r225 &&& (7 : Int32)), qi ((XT.ushr r225 (3 : Int32)) &&& (7 : Int32)), qu, qu, qu, qu, qu, qu, qu, qu, qu]) (S' := [.int (((XT.ushr r225 (3 : Int32)) &&& (7 : Int32)) &&& (7 : Int32))]) (H' := (qa scr :: bk0 zao zap zaq zag zac zad zae zaf s254 zx zy zz zaa zab s255 zak zal zam zan zaj zar zas zat [])) rfl ?_
                    by_cases hc261 : (((XT.ushr r225 (3 : Int32)) &&& (7 : Int32)) &&& (7 : Int32)) = (0 : Int32)
                    · simp only [if_pos hc261] at h
                      refine OEndsQ.ifF hm_0 rfl ((teq hc261).2) ?_
                      refine OEndsQ.adv hm_0 1 (pc' := 592) (L' := [qr 0, qr 1, qi v2, qi v3, qi v4, qi r225, qi r226, qi r227, qi r228, qi r229, qi (r225 &&& (7 : Int32)), qi ((XT.ushr r225 (3 : Int32)) &&& (7 : Int32)), qu, qu, qu, qu, qu, qu, qu, qu, qu]) (S' := [.ref 1]) (H' := (qa scr :: bk0 zao zap zaq zag zac zad zae zaf s254 zx zy zz zaa zab s255 zak zal zam zan zaj zar zas zat [])) rfl ?_
                      obtain ⟨s256, hq262, h⟩ := bnd h
                      refine OEndsQ.call0 hm_0 rfl rfl (by decide) rfl (as := [.ref 1]) (rest := []) rfl rfl (ok_clearMessage hq262) ?_
                      refine OEndsQ.adv hm_0 4 (pc' := 38) (L' := [qr 0, qr 1, qi v2, qi (v3 + (1 : Int32)), qi (v4 + (5 : Int32)), qi r225, qi r226, qi r227, qi r228, qi r229, qi (r225 &&& (7 : Int32)), qi ((XT.ushr r225 (3 : Int32)) &&& (7 : Int32)), qu, qu, qu, qu, qu, qu, qu, qu, qu]) (S' := []) (H' := (qa scr :: bk0 zao zap zaq zag zac zad zae zaf s254 zx zy zz zaa zab s256 zak zal zam zan zaj zar zas zat [])) rfl ?_
                      exact ih h
                    · simp only [if_neg hc261] at h
                      refine OEndsQ.ifT hm_0 rfl (q := 766) rfl ((feq hc261).2) ?_
                      refine OEndsQ.adv hm_0 3 (pc' := 38) (L' := [qr 0, qr 1, qi v2, qi (v3 + (1 : Int32)), qi (v4 + (5 : Int32)), qi r225, qi r226, qi r227, qi r228, qi r229, qi (r225 &&& (7 : Int32)), qi ((XT.ushr r225 (3 : Int32)) &&& (7 : Int32)), qu, qu, qu, qu, qu, qu, qu, qu, qu]) (S' := []) (H' := (qa scr :: bk0 zao zap zaq zag zac zad zae zaf s254 zx zy zz zaa zab s255 zak zal zam zan zaj zar zas zat [])) rfl ?_
                      exact ih h
                  · simp only [if_neg hc256] at h
                    refine OEndsQ.icmpT hm_0 rfl (q := 598) rfl ((feq hc256).2) ?_
                    refine OEndsQ.adv hm_0 2 (pc' := 602) (L' := [qr 0, qr 1, qi v2, qi v3, qi v4, qi r225, qi r226, qi r227, qi r228, qi r229, qi (r225 &&& (7 : Int32)), qi ((XT.ushr r225 (3 : Int32)) &&& (7 : Int32)), qu, qu, qu, qu, qu, qu, qu, qu, qu]) (S' := [.int 6, .int (r225 &&& (7 : Int32))]) (H' := (qa scr :: bk0 zao zap zaq zag zac zad zae zaf zah zx zy zz zaa zab zai zak zal zam zan zaj zar zas zat [])) rfl ?_
                    by_cases hc263 : (r225 &&& (7 : Int32)) = (6 : Int32)
                    · simp only [if_pos hc263] at h
                      refine OEndsQ.icmpF hm_0 rfl ((teq hc263).2) ?_
                      refine OEndsQ.adv hm_0 7 (pc' := 615) (L' := [qr 0, qr 1, qi v2, qi v3, qi v4, qi r225, qi r226, qi r227, qi r228, qi r229, qi (r225 &&& (7 : Int32)), qi ((XT.ushr r225 (3 : Int32)) &&& (7 : Int32)), qi (((XT.ushr r225 (3 : Int32)) &&& (7 : Int32)) &&& (3 : Int32)), qu, qu, qu, qu, qu, qu, qu, qu]) (S' := [.int (r227 &&& (1 : Int32))]) (H' := (qa scr :: bk0 zao zap zaq zag zac zad zae zaf zah zx zy zz zaa zab zai zak zal zam zan zaj zar zas zat [])) rfl ?_
                      by_cases hc264 : (r227 &&& (1 : Int32)) = (0 : Int32)
                      · simp only [if_pos hc264] at h
                        refine OEndsQ.ifF hm_0 rfl ((teq hc264).2) ?_
                        refine OEndsQ.adv hm_0 6 (pc' := 635) (L' := [qr 0, qr 1, qi v2, qi v3, qi v4, qi r225, qi r226, qi r227, qi r228, qi r229, qi (r225 &&& (7 : Int32)), qi ((XT.ushr r225 (3 : Int32)) &&& (7 : Int32)), qi (((XT.ushr r225 (3 : Int32)) &&& (7 : Int32)) &&& (3 : Int32)), qu, qu, qu, qu, qu, qu, qu, qu]) (S' := [.int ((r226 &&& (15 : Int32)) + (1 : Int32))]) (H' := (qa scr :: bk0 zao zap zaq zag zac zad zae zaf zah zx zy zz zaa zab zai zak zal zam zan zaj zar zas zat [])) rfl ?_
                        exact ok_L_law_635 ih h
                      · simp only [if_neg hc264] at h
                        refine OEndsQ.ifT hm_0 rfl (q := 628) rfl ((feq hc264).2) ?_
                        refine OEndsQ.adv hm_0 5 (pc' := 635) (L' := [qr 0, qr 1, qi v2, qi v3, qi v4, qi r225, qi r226, qi r227, qi r228, qi r229, qi (r225 &&& (7 : Int32)), qi ((XT.ushr r225 (3 : Int32)) &&& (7 : Int32)), qi (((XT.ushr r225 (3 : Int32)) &&& (7 : Int32)) &&& (3 : Int32)), qu, qu, qu, qu, qu, qu, qu, qu]) (S' := [.int ((r226 &&& (16777215 : Int32)) + (1 : Int32))]) (H' := (qa scr :: bk0 zao zap zaq zag zac zad zae zaf zah zx zy zz zaa zab zai zak zal zam zan zaj zar zas zat [])) rfl ?_
                        exact ok_L_law_635 ih h
                    · simp only [if_neg hc263] at h
                      refine OEndsQ.icmpT hm_0 rfl (q := 662) rfl ((feq hc263).2) ?_
                      refine OEndsQ.adv hm_0 5 (pc' := 670) (L' := [qr 0, qr 1, qi v2, qi v3, qi v4, qi r225, qi r226, qi r227, qi r228, qi r229, qi (r225 &&& (7 : Int32)), qi ((XT.ushr r225 (3 : Int32)) &&& (7 : Int32)), qi (r229 &&& (3 : Int32)), qu, qu, qu, qu, qu, qu, qu, qu]) (S' := [.int (r229 &&& (3 : Int32))]) (H' := (qa scr :: bk0 zao zap zaq zag zac zad zae zaf zah zx zy zz zaa zab zai zak zal zam zan zaj zar zas zat [])) rfl ?_
                      by_cases hc265 : (r229 &&& (3 : Int32)) = (0 : Int32)
                      · simp only [if_pos hc265] at h
                        refine OEndsQ.ifF hm_0 rfl ((teq hc265).2) ?_
                        refine OEndsQ.adv hm_0 2 (pc' := 676) (L' := [qr 0, qr 1, qi v2, qi v3, qi v4, qi r225, qi r226, qi r227, qi r228, qi r229, qi (r225 &&& (7 : Int32)), qi ((XT.ushr r225 (3 : Int32)) &&& (7 : Int32)), qi (r229 &&& (3 : Int32)), qu, qu, qu, qu, qu, qu, qu, qu]) (S' := [.int ((XT.ushr r225 (3 : Int32)) &&& (7 : Int32)), .ref 1]) (H' := (qa scr :: bk0 zao zap zaq zag zac zad zae zaf zah zx zy zz zaa zab zai zak zal zam zan zaj zar zas zat [])) rfl ?_
                        obtain ⟨⟨r240, s241, s242, s243⟩, hq266, h⟩ := bnd h
                        refine OEndsQ.call0 hm_0 rfl rfl (by decide) rfl (as := [.ref 1, .int ((XT.ushr r225 (3 : Int32)) &&& (7 : Int32))]) (rest := []) rfl rfl (ok_loadInfinity hq266) ?_
                        refine OEndsQ.adv hm_0 5 (pc' := 38) (L' := [qr 0, qr 1, qi v2, qi (v3 + (1 : Int32)), qi (v4 + (5 : Int32)), qi r225, qi r226, qi r227, qi r228, qi r229, qi (r225 &&& (7 : Int32)), qi ((XT.ushr r225 (3 : Int32)) &&& (7 : Int32)), qi (r229 &&& (3 : Int32)), qu, qu, qu, qu, qu, qu, qu, qu]) (S' := []) (H' := (qa scr :: bk0 s241 s242 s243 zag zac zad zae zaf zah zx zy zz zaa zab zai zak zal zam zan zaj zar zas zat [])) rfl ?_
                        exact ih h
                      · simp only [if_neg hc265] at h
                        refine OEndsQ.ifT hm_0 rfl (q := 683) rfl ((feq hc265).2) ?_
                        refine OEndsQ.adv hm_0 2 (pc' := 686) (L' := [qr 0, qr 1, qi v2, qi v3, qi v4, qi r225, qi r226, qi r227, qi r228, qi r229, qi (r225 &&& (7 : Int32)), qi ((XT.ushr r225 (3 : Int32)) &&& (7 : Int32)), qi (r229 &&& (3 : Int32)), qu, qu, qu, qu, qu, qu, qu, qu]) (S' := [.int 1, .int (r229 &&& (3 : Int32))]) (H' := (qa scr :: bk0 zao zap zaq zag zac zad zae zaf zah zx zy zz zaa zab zai zak zal zam zan zaj zar zas zat [])) rfl ?_
                        by_cases hc267 : (r229 &&& (3 : Int32)) = (1 : Int32)
                        · simp only [if_pos hc267] at h
                          refine OEndsQ.icmpF hm_0 rfl ((teq hc267).2) ?_
                          refine OEndsQ.adv hm_0 4 (pc' := 694) (L' := [qr 0, qr 1, qi v2, qi v3, qi v4, qi r225, qi r226, qi r227, qi r228, qi r229, qi (r225 &&& (7 : Int32)), qi ((XT.ushr r225 (3 : Int32)) &&& (7 : Int32)), qi (r229 &&& (3 : Int32)), qu, qu, qu, qu, qu, qu, qu, qu]) (S' := [.int (r229 &&& (4 : Int32)), .ref 1]) (H' := (qa scr :: bk0 zao zap zaq zag zac zad zae zaf zah zx zy zz zaa zab zai zak zal zam zan zaj zar zas zat [])) rfl ?_
                          by_cases hc268 : (r229 &&& (4 : Int32)) = (0 : Int32)
                          · simp only [if_pos hc268] at h
                            refine OEndsQ.ifT hm_0 rfl (q := 701) rfl ((teq hc268).1) ?_
                            refine OEndsQ.adv hm_0 1 (pc' := 703) (L' := [qr 0, qr 1, qi v2, qi v3, qi v4, qi r225, qi r226, qi r227, qi r228, qi r229, qi (r225 &&& (7 : Int32)), qi ((XT.ushr r225 (3 : Int32)) &&& (7 : Int32)), qi (r229 &&& (3 : Int32)), qu, qu, qu, qu, qu, qu, qu, qu]) (S' := [.int r226, .ref 1]) (H' := (qa scr :: bk0 zao zap zaq zag zac zad zae zaf zah zx zy zz zaa zab zai zak zal zam zan zaj zar zas zat [])) rfl ?_
                            exact ok_L_law_703 ih h
                          · simp only [if_neg hc268] at h
                            refine OEndsQ.ifF hm_0 rfl ((feq hc268).1) ?_
                            refine OEndsQ.adv hm_0 2 (pc' := 703) (L' := [qr 0, qr 1, qi v2, qi v3, qi v4, qi r225, qi r226, qi r227, qi r228, qi r229, qi (r225 &&& (7 : Int32)), qi ((XT.ushr r225 (3 : Int32)) &&& (7 : Int32)), qi (r229 &&& (3 : Int32)), qu, qu, qu, qu, qu, qu, qu, qu]) (S' := [.int (-1), .ref 1]) (H' := (qa scr :: bk0 zao zap zaq zag zac zad zae zaf zah zx zy zz zaa zab zai zak zal zam zan zaj zar zas zat [])) rfl ?_
                            exact ok_L_law_703 ih h
                        · simp only [if_neg hc267] at h
                          refine OEndsQ.icmpT hm_0 rfl (q := 718) rfl ((feq hc267).2) ?_
                          refine OEndsQ.adv hm_0 2 (pc' := 721) (L' := [qr 0, qr 1, qi v2, qi v3, qi v4, qi r225, qi r226, qi r227, qi r228, qi r229, qi (r225 &&& (7 : Int32)), qi ((XT.ushr r225 (3 : Int32)) &&& (7 : Int32)), qi (r229 &&& (3 : Int32)), qu, qu, qu, qu, qu, qu, qu, qu]) (S' := [.int 2, .int (r229 &&& (3 : Int32))]) (H' := (qa scr :: bk0 zao zap zaq zag zac zad zae zaf zah zx zy zz zaa zab zai zak zal zam zan zaj zar zas zat [])) rfl ?_
                          by_cases hc269 : (r229 &&& (3 : Int32)) = (2 : Int32)
                          · simp only [if_pos hc269] at h
                            refine OEndsQ.icmpF hm_0 rfl ((teq hc269).2) ?_
                            refine OEndsQ.adv hm_0 9 (pc' := 738) (L' := [qr 0, qr 1, qi v2, qi v3, qi v4, qi r225, qi r226, qi r227, qi r228, qi r229, qi (r225 &&& (7 : Int32)), qi ((XT.ushr r225 (3 : Int32)) &&& (7 : Int32)), qi (r229 &&& (3 : Int32)), qi (r226 &&& (7 : Int32)), qu, qu, qu, qu, qu, qu, qu]) (S' := [.int 0, .int (r226 &&& (7 : Int32)), .ref 1, .int ((XT.ushr r225 (3 : Int32)) &&& (7 : Int32)), .ref 1]) (H' := (qa scr :: bk0 zao zap zaq zag zac zad zae zaf zah zx zy zz zaa zab zai zak zal zam zan zaj zar zas zat [])) rfl ?_
                            obtain ⟨r234, hq270, h⟩ := bnd h
                            refine OEndsQ.call0 hm_0 rfl rfl (by decide) rfl (as := [.ref 1, .int (r226 &&& (7 : Int32)), .int 0]) (rest := [.int ((XT.ushr r225 (3 : Int32)) &&& (7 : Int32)), .ref 1]) rfl rfl (ok_coord hq270) ?_
                            refine OEndsQ.adv hm_0 3 (pc' := 745) (L' := [qr 0, qr 1, qi v2, qi v3, qi v4, qi r225, qi r226, qi r227, qi r228, qi r229, qi (r225 &&& (7 : Int32)), qi ((XT.ushr r225 (3 : Int32)) &&& (7 : Int32)), qi (r229 &&& (3 : Int32)), qi (r226 &&& (7 : Int32)), qu, qu, qu, qu, qu, qu, qu]) (S' := [.int 1, .int (r226 &&& (7 : Int32)), .ref 1, .int r234, .int ((XT.ushr r225 (3 : Int32)) &&& (7 : Int32)), .ref 1]) (H' := (qa scr :: bk0 zao zap zaq zag zac zad zae zaf zah zx zy zz zaa zab zai zak zal zam zan zaj zar zas zat [])) rfl ?_
                            obtain ⟨r235, hq271, h⟩ := bnd h
                            refine OEndsQ.call0 hm_0 rfl rfl (by decide) rfl (as := [.ref 1, .int (r226 &&& (7 : Int32)), .int 1]) (rest := [.int r234, .int ((XT.ushr r225 (3 : Int32)) &&& (7 : Int32)), .ref 1]) rfl rfl (ok_coord hq271) ?_
                            show OEndsQ own_P 0 748 [qr 0, qr 1, qi v2, qi v3, qi v4, qi r225, qi r226, qi r227, qi r228, qi r229, qi (r225 &&& (7 : Int32)), qi ((XT.ushr r225 (3 : Int32)) &&& (7 : Int32)), qi (r229 &&& (3 : Int32)), qi (r226 &&& (7 : Int32)), qu, qu, qu, qu, qu, qu, qu] [.int r235, .int r234, .int ((XT.ushr r225 (3 : Int32)) &&& (7 : Int32)), .ref 1] (qa scr :: bk0 zao zap zaq zag zac zad zae zaf zah zx zy zz zaa zab zai zak zal zam zan zaj zar zas zat []) _
                            obtain ⟨⟨r236, s237, s238, s239⟩, hq272, h⟩ := bnd h
                            refine OEndsQ.call0 hm_0 rfl rfl (by decide) rfl (as := [.ref 1, .int ((XT.ushr r225 (3 : Int32)) &&& (7 : Int32)), .int r234, .int r235]) (rest := []) rfl rfl (ok_load hq272) ?_
                            refine OEndsQ.adv hm_0 5 (pc' := 38) (L' := [qr 0, qr 1, qi v2, qi (v3 + (1 : Int32)), qi (v4 + (5 : Int32)), qi r225, qi r226, qi r227, qi r228, qi r229, qi (r225 &&& (7 : Int32)), qi ((XT.ushr r225 (3 : Int32)) &&& (7 : Int32)), qi (r229 &&& (3 : Int32)), qi (r226 &&& (7 : Int32)), qu, qu, qu, qu, qu, qu, qu]) (S' := []) (H' := (qa scr :: bk0 s237 s238 s239 zag zac zad zae zaf zah zx zy zz zaa zab zai zak zal zam zan zaj zar zas zat [])) rfl ?_
                            exact ih h
                          · simp only [if_neg hc269] at h
                            refine OEndsQ.icmpT hm_0 rfl (q := 755) rfl ((feq hc269).2) ?_
                            refine OEndsQ.adv hm_0 4 (pc' := 762) (L' := [qr 0, qr 1, qi v2, qi v3, qi v4, qi r225, qi r226, qi r227, qi r228, qi r229, qi (r225 &&& (7 : Int32)), qi ((XT.ushr r225 (3 : Int32)) &&& (7 : Int32)), qi (r229 &&& (3 : Int32)), qu, qu, qu, qu, qu, qu, qu, qu]) (S' := [.int r227, .int r226, .int ((XT.ushr r225 (3 : Int32)) &&& (7 : Int32)), .ref 1]) (H' := (qa scr :: bk0 zao zap zaq zag zac zad zae zaf zah zx zy zz zaa zab zai zak zal zam zan zaj zar zas zat [])) rfl ?_
                            obtain ⟨⟨r230, s231, s232, s233⟩, hq273, h⟩ := bnd h
                            refine OEndsQ.call0 hm_0 rfl rfl (by decide) rfl (as := [.ref 1, .int ((XT.ushr r225 (3 : Int32)) &&& (7 : Int32)), .int r226, .int r227]) (rest := []) rfl rfl (ok_load hq273) ?_
                            refine OEndsQ.adv hm_0 4 (pc' := 38) (L' := [qr 0, qr 1, qi v2, qi (v3 + (1 : Int32)), qi (v4 + (5 : Int32)), qi r225, qi r226, qi r227, qi r228, qi r229, qi (r225 &&& (7 : Int32)), qi ((XT.ushr r225 (3 : Int32)) &&& (7 : Int32)), qi (r229 &&& (3 : Int32)), qu, qu, qu, qu, qu, qu, qu, qu]) (S' := []) (H' := (qa scr :: bk0 s231 s232 s233 zag zac zad zae zaf zah zx zy zz zaa zab zai zak zal zam zan zaj zar zas zat [])) rfl ?_
                            exact ih h
      · simp only [if_neg hc232] at h
        refine OEndsQ.icmpT hm_0 rfl (q := 775) rfl ((flt hc232).2.1) ?_
        refine OEndsQ.adv hm_0 1 (pc' := 776) (L' := [qr 0, qr 1, qi v2, qi v3, qi v4, qu, qu, qu, qu, qu, qu, qu, qu, qu, qu, qu, qu, qu, qu, qu, qu]) (S' := [.int 1]) (H' := (qa scr :: bk0 zao zap zaq zag zac zad zae zaf zah zx zy zz zaa zab zai zak zal zam zan zaj zar zas zat [])) rfl ?_
        cases h
        exact OEndsQ.iret hm_0 rfl rfl
    · simp only [if_neg hc231] at h
      refine OEndsQ.icmpT hm_0 rfl (q := 775) rfl ((flt hc231).2.1) ?_
      refine OEndsQ.adv hm_0 1 (pc' := 776) (L' := [qr 0, qr 1, qi v2, qi v3, qi v4, qu, qu, qu, qu, qu, qu, qu, qu, qu, qu, qu, qu, qu, qu, qu, qu]) (S' := [.int 1]) (H' := (qa scr :: bk0 zao zap zaq zag zac zad zae zaf zah zx zy zz zaa zab zai zak zal zam zan zaj zar zas zat [])) rfl ?_
      cases h
      exact OEndsQ.iret hm_0 rfl rfl
theorem ok_L_law {scr : List Int32} {res : Int32} (h : f_L_law scr = some res) : OEndsQ own_P 0 0 [qr 0, qu, qu, qu, qu, qu, qu, qu, qu, qu, qu, qu, qu, qu, qu, qu, qu, qu, qu, qu, qu] [] (qa scr :: []) (LawQ res 10 131) := by
  unfold f_L_law at h
  refine OEndsQ.made hm_0 rfl rfl (ks := 23) (c0 := 9) (s0 := 108) rfl (Nat.le_of_ble_eq_true rfl) (Nat.le_of_ble_eq_true rfl) ?_
  refine OEndsQ.adv hm_0 3 (pc' := 6) (L' := [qr 0, qu, qu, qu, qu, qu, qu, qu, qu, qu, qu, qu, qu, qu, qu, qu, qu, qu, qu, qu, qu]) (S' := [.int 0, .ref 0, .ref 1, .ref 1]) (H' := (qa scr :: (.inl (0, [.null, .null, .null, .null, .null, .null, .null, .null, .null, .long 0, .long 0, .long 0, .long 0, .long 0, .int 0, .long 0, .long 0, .int 0, .long 0, .int 0, .int 0, .long 0, .long 0]) : ACell) :: [])) rfl ?_
  obtain ⟨r198, hq274, h⟩ := bnd h
  refine OEndsQ.call0 hm_0 rfl rfl (by decide) rfl (as := [.ref 0, .int 0]) (rest := [.ref 1, .ref 1]) rfl rfl (ok_L_cell hq274) ?_
  refine OEndsQ.adv hm_0 4 (pc' := 14) (L' := [qr 0, qu, qu, qu, qu, qu, qu, qu, qu, qu, qu, qu, qu, qu, qu, qu, qu, qu, qu, qu, qu]) (S' := [.int 1, .ref 0, .int (r198 &&& (7 : Int32)), .ref 1, .ref 1]) (H' := (qa scr :: (.inl (0, [.null, .null, .null, .null, .null, .null, .null, .null, .null, .long 0, .long 0, .long 0, .long 0, .long 0, .int 0, .long 0, .long 0, .int 0, .long 0, .int 0, .int 0, .long 0, .long 0]) : ACell) :: [])) rfl ?_
  obtain ⟨r199, hq275, h⟩ := bnd h
  refine OEndsQ.call0 hm_0 rfl rfl (by decide) rfl (as := [.ref 0, .int 1]) (rest := [.int (r198 &&& (7 : Int32)), .ref 1, .ref 1]) rfl rfl (ok_L_cell hq275) ?_
  refine OEndsQ.adv hm_0 2 (pc' := 19) (L' := [qr 0, qu, qu, qu, qu, qu, qu, qu, qu, qu, qu, qu, qu, qu, qu, qu, qu, qu, qu, qu, qu]) (S' := [.int 2, .ref 0, .int r199, .int (r198 &&& (7 : Int32)), .ref 1, .ref 1]) (H' := (qa scr :: (.inl (0, [.null, .null, .null, .null, .null, .null, .null, .null, .null, .long 0, .long 0, .long 0, .long 0, .long 0, .int 0, .long 0, .long 0, .int 0, .long 0, .int 0, .int 0, .long 0, .long 0]) : ACell) :: [])) rfl ?_
  obtain ⟨r200, hq276, h⟩ := bnd h
  refine OEndsQ.call0 hm_0 rfl rfl (by decide) rfl (as := [.ref 0, .int 2]) (rest := [.int r199, .int (r198 &&& (7 : Int32)), .ref 1, .ref 1]) rfl rfl (ok_L_cell hq276) ?_
  refine OEndsQ.adv hm_0 2 (pc' := 24) (L' := [qr 0, qu, qu, qu, qu, qu, qu, qu, qu, qu, qu, qu, qu, qu, qu, qu, qu, qu, qu, qu, qu]) (S' := [.int 3, .ref 0, .int r200, .int r199, .int (r198 &&& (7 : Int32)), .ref 1, .ref 1]) (H' := (qa scr :: (.inl (0, [.null, .null, .null, .null, .null, .null, .null, .null, .null, .long 0, .long 0, .long 0, .long 0, .long 0, .int 0, .long 0, .long 0, .int 0, .long 0, .int 0, .int 0, .long 0, .long 0]) : ACell) :: [])) rfl ?_
  obtain ⟨r201, hq277, h⟩ := bnd h
  refine OEndsQ.call0 hm_0 rfl rfl (by decide) rfl (as := [.ref 0, .int 3]) (rest := [.int r200, .int r199, .int (r198 &&& (7 : Int32)), .ref 1, .ref 1]) rfl rfl (ok_L_cell hq277) ?_
  show OEndsQ own_P 0 27 [qr 0, qu, qu, qu, qu, qu, qu, qu, qu, qu, qu, qu, qu, qu, qu, qu, qu, qu, qu, qu, qu] [.int r201, .int r200, .int r199, .int (r198 &&& (7 : Int32)), .ref 1, .ref 1] (qa scr :: (.inl (0, [.null, .null, .null, .null, .null, .null, .null, .null, .null, .long 0, .long 0, .long 0, .long 0, .long 0, .int 0, .long 0, .long 0, .int 0, .long 0, .int 0, .int 0, .long 0, .long 0]) : ACell) :: []) _
  obtain ⟨⟨s202, s203, s204, s205, s206, s207, s208, s209, s210, s211, s212, s213, s214, s215, s216, s217, s218, s219, s220, s221, s222, s223, s224⟩, hq278, h⟩ := bnd h
  refine OEndsQ.callN hm_0 rfl rfl (by decide) rfl (as := [.ref 1, .int (r198 &&& (7 : Int32)), .int r199, .int r200, .int r201]) (rest := [.ref 1]) rfl rfl (c0 := 0) (s0 := 0) (ok_init hq278) (Nat.le_of_ble_eq_true rfl) (Nat.le_of_ble_eq_true rfl) ?_
  refine OEndsQ.adv hm_0 7 (pc' := 38) (L' := [qr 0, qr 1, qi 0, qi 0, qi 4, qu, qu, qu, qu, qu, qu, qu, qu, qu, qu, qu, qu, qu, qu, qu, qu]) (S' := []) (H' := (qa scr :: bk0 s202 s203 s204 s205 s206 s207 s208 s209 s210 s211 s212 s213 s214 s215 s216 s217 s218 s219 s220 s221 s222 s223 s224 [])) rfl ?_
  exact ok_L_law_38 100000 h
def own_pr (p : Int64) : Prop := p = 8191 ∨ p = 65521 ∨ p = 65537 ∨ p = 131071 ∨ p = 524287 ∨ p = 998244353 ∨ p = 1000000007 ∨ p = 2147483647
def own_prI (P : Int) : Prop := P = 8191 ∨ P = 65521 ∨ P = 65537 ∨ P = 131071 ∨ P = 524287 ∨ P = 998244353 ∨ P = 1000000007 ∨ P = 2147483647
theorem own_pr_i {p : Int64} (h : own_pr p) : own_prI p.toInt := by
  unfold own_prI
  rcases h with rfl | rfl | rfl | rfl | rfl | rfl | rfl | rfl <;> decide
theorem own_pr_b {P : Int} (h : own_prI P) : 8191 ≤ P ∧ P ≤ 2147483647 := by
  rcases h with rfl | rfl | rfl | rfl | rfl | rfl | rfl | rfl <;> decide
def own_fd (p a : Int64) : Prop := 0 ≤ a.toInt ∧ a.toInt < p.toInt
theorem own_ne {p : Int64} (h : own_pr p) : ¬ p = 0 := by
  rcases h with rfl | rfl | rfl | rfl | rfl | rfl | rfl | rfl <;> decide
theorem own_mulI {p a b : Int64} (h : own_pr p) (ha : own_fd p a) (hb : own_fd p b) : ((a * b) % p).toInt = (a.toInt * b.toInt) % p.toInt ∧ own_fd p ((a * b) % p) := by
  have hp := own_pr_b (own_pr_i h)
  have m := mulb (M := 2147483647) ha.1 (by have := ha.2; omega) hb.1 (by have := hb.2; omega)
  have e : (a * b).toInt = a.toInt * b.toInt := lmul_i (by omega) (by omega)
  have e2 : ((a * b) % p).toInt = (a.toInt * b.toInt) % p.toInt := by rw [lmod_i (by omega), e]
  refine ⟨e2, ?_⟩
  unfold own_fd
  rw [e2]
  exact ⟨Int.emod_nonneg _ (by omega), Int.emod_lt_of_pos _ (by omega)⟩
theorem own_mul {p a b : Int64} (h : own_pr p) : f_mulMod p a b = some ((a * b) % p) := by
  unfold f_mulMod
  rw [if_neg (own_ne h)]
theorem own_add {p a b : Int64} (h : own_pr p) (ha : own_fd p a) (hb : own_fd p b) : f_addMod p a b = some ((a + b) % p) ∧ ((a + b) % p).toInt = (a.toInt + b.toInt) % p.toInt ∧ own_fd p ((a + b) % p) := by
  have hp := own_pr_b (own_pr_i h)
  have hi := own_pr_i h
  obtain ⟨a0, a1⟩ := ha
  obtain ⟨b0, b1⟩ := hb
  have e : (a + b).toInt = a.toInt + b.toInt := ladd_i (by omega) (by omega)
  have e2 : ((a + b) % p).toInt = (a.toInt + b.toInt) % p.toInt := by rw [lmod_i (by omega), e]
  refine ⟨?_, e2, ?_⟩
  · unfold f_addMod
    congr 1
    rw [leqI, e2]
    by_cases g : a + b < p
    · rw [if_pos g, e]
      rw [lltI, e] at g
      rw [Int.emod_eq_of_lt (by omega) g]
    · have e3 : (a + b - p).toInt = a.toInt + b.toInt - p.toInt := by rw [lsub_i (by omega) (by omega), e]
      rw [if_neg g, e3]
      rw [lltI, e] at g
      clear e e2 e3
      generalize a.toInt = x at a0 a1 g ⊢
      generalize b.toInt = y at b0 b1 g ⊢
      generalize p.toInt = P at hi a1 b1 g hp ⊢
      rcases hi with rfl | rfl | rfl | rfl | rfl | rfl | rfl | rfl <;> omega
  · unfold own_fd
    rw [e2]
    exact ⟨Int.emod_nonneg _ (by omega), Int.emod_lt_of_pos _ (by omega)⟩
theorem own_sub {p a b : Int64} (h : own_pr p) (ha : own_fd p a) (hb : own_fd p b) : ∃ r, f_subMod p a b = some r ∧ r.toInt = (a.toInt - b.toInt) % p.toInt ∧ own_fd p r := by
  have hp := own_pr_b (own_pr_i h)
  have hi := own_pr_i h
  obtain ⟨a0, a1⟩ := ha
  obtain ⟨b0, b1⟩ := hb
  have e : (a - b).toInt = a.toInt - b.toInt := lsub_i (by omega) (by omega)
  have e0 : (0 : Int64).toInt = 0 := rfl
  have key : (if (a - b) < (0 : Int64) then ((a - b) + p) else (a - b)).toInt = (a.toInt - b.toInt) % p.toInt := by
    by_cases g : a - b < 0
    · have g' := g
      rw [lltI, e, e0] at g'
      have e3 : (a - b + p).toInt = a.toInt - b.toInt + p.toInt := by rw [ladd_i (by omega) (by omega), e]
      rw [if_pos g, e3]
      clear e e3 g
      generalize a.toInt = x at a0 a1 g' ⊢
      generalize b.toInt = y at b0 b1 g' ⊢
      generalize p.toInt = P at hi a1 b1 hp ⊢
      rcases hi with rfl | rfl | rfl | rfl | rfl | rfl | rfl | rfl <;> omega
    · have g' := g
      rw [lltI, e, e0] at g'
      rw [if_neg g, e, Int.emod_eq_of_lt (by omega) (by omega)]
  refine ⟨_, rfl, key, ?_⟩
  unfold own_fd
  rw [key]
  exact ⟨Int.emod_nonneg _ (by omega), Int.emod_lt_of_pos _ (by omega)⟩
def own_bI (P a gx gy : Int) : Int := ((gy * gy) % P - (((gx * gx) % P) * gx) % P - (a * gx) % P) % P
theorem own_cb {p a gx gy : Int64} (h : own_pr p) (ha : own_fd p a) (hx : own_fd p gx) (hy : own_fd p gy) : ∃ b, f_computeB p a gx gy = some b ∧ b.toInt = own_bI p.toInt a.toInt gx.toInt gy.toInt ∧ own_fd p b := by
  have hi := own_pr_i h
  obtain ⟨e1, f1⟩ := own_mulI h hy hy
  obtain ⟨e2, f2⟩ := own_mulI h hx hx
  obtain ⟨e3, f3⟩ := own_mulI h f2 hx
  obtain ⟨e4, f4⟩ := own_mulI h ha hx
  obtain ⟨r5, q5, e5, f5⟩ := own_sub h f1 f3
  obtain ⟨r6, q6, e6, f6⟩ := own_sub h f5 f4
  refine ⟨r6, ?_, ?_, f6⟩
  · unfold f_computeB
    rw [own_mul h, Option.bind_some, own_mul h, Option.bind_some, own_mul h, Option.bind_some, own_mul h, Option.bind_some, q5, Option.bind_some, q6, Option.bind_some]
  · rw [e6, e5, e1, e3, e4, e2]
    unfold own_bI
    generalize (gy.toInt * gy.toInt) = A
    generalize (gx.toInt * gx.toInt % p.toInt * gx.toInt) = B
    generalize (a.toInt * gx.toInt) = C
    generalize p.toInt = P at hi ⊢
    rcases hi with rfl | rfl | rfl | rfl | rfl | rfl | rfl | rfl <;> omega
def own_dI (P a b : Int) : Int := (4 * ((((a * a) % P) * a) % P) + 27 * ((b * b) % P)) % P
theorem own_disc {p a b : Int64} (h : own_pr p) (ha : own_fd p a) (hb : own_fd p b) : ∃ d, f_discriminant p a b = some d ∧ d.toInt = own_dI p.toInt a.toInt b.toInt ∧ own_fd p d := by
  have hi := own_pr_i h
  have hp := own_pr_b hi
  have t4 : own_fd p 4 := ⟨by decide, by have e : (4 : Int64).toInt = 4 := rfl; omega⟩
  have t27 : own_fd p 27 := ⟨by decide, by have e : (27 : Int64).toInt = 27 := rfl; omega⟩
  have e4 : (4 : Int64).toInt = 4 := rfl
  have e27 : (27 : Int64).toInt = 27 := rfl
  obtain ⟨e1, f1⟩ := own_mulI h ha ha
  obtain ⟨e2, f2⟩ := own_mulI h f1 ha
  obtain ⟨e3, f3⟩ := own_mulI h t4 f2
  obtain ⟨e5, f5⟩ := own_mulI h hb hb
  obtain ⟨e6, f6⟩ := own_mulI h t27 f5
  obtain ⟨q7, e7, f7⟩ := own_add h f3 f6
  refine ⟨_, ?_, ?_, f7⟩
  · unfold f_discriminant
    rw [own_mul h, Option.bind_some, own_mul h, Option.bind_some, own_mul h, Option.bind_some, own_mul h, Option.bind_some, own_mul h, Option.bind_some, q7, Option.bind_some]
  · rw [e7, e3, e6, e2, e5, e1, e4, e27]
    unfold own_dI
    generalize (a.toInt * a.toInt % p.toInt * a.toInt) % p.toInt = A
    generalize (b.toInt * b.toInt) % p.toInt = B
    generalize p.toInt = P at hi ⊢
    rcases hi with rfl | rfl | rfl | rfl | rfl | rfl | rfl | rfl <;> omega
theorem own_clF {p : Int64} (h : own_pr p) (v : Int32) : ∃ c, f_clampField p v = some c ∧ own_fd p c ∧ c = (if v.toInt64 < (0 : Int64) then (0 : Int64) else (if (p - (1 : Int64)) < v.toInt64 then (p - (1 : Int64)) else v.toInt64)) := by
  have hp := own_pr_b (own_pr_i h)
  have e1 : (1 : Int64).toInt = 1 := rfl
  have e0 : (0 : Int64).toInt = 0 := rfl
  have ep : (p - 1).toInt = p.toInt - 1 := by rw [lsub_i (by omega) (by omega), e1]
  refine ⟨_, rfl, ?_, rfl⟩
  unfold own_fd
  split
  · constructor <;> omega
  · rename_i g
    split
    · constructor <;> omega
    · rename_i g2
      rw [lltI] at g g2
      constructor <;> omega
theorem own_prime (v : Int32) : ∃ p, f_primeAt v = some p ∧ own_pr p := by
  refine ⟨_, rfl, ?_⟩
  unfold own_pr
  repeat' split
  all_goals simp
theorem own_mp {P a b c d : Int} (h1 : a % P = b % P) (h2 : c % P = d % P) : (a * c) % P = (b * d) % P := by
  rw [Int.mul_emod, h1, h2, ← Int.mul_emod]
theorem own_pp {P a b : Int} (h : a % P = b % P) : ∀ k : Nat, (a ^ k) % P = (b ^ k) % P := by
  intro k
  induction k with
  | zero => rw [Int.pow_zero, Int.pow_zero]
  | succ k ih => rw [Int.pow_succ, Int.pow_succ]; exact own_mp ih h
theorem own_sq (b : Int) : ∀ h : Nat, (b * b) ^ h = b ^ (2 * h) := by
  intro h
  induction h with
  | zero => rw [Nat.mul_zero, Int.pow_zero, Int.pow_zero]
  | succ h ih => rw [Int.pow_succ, ih, show 2 * (h + 1) = 2 * h + 1 + 1 by omega, Int.pow_succ, Int.pow_succ, Int.mul_assoc]
theorem own_pw_even {P r b : Int} (h : Nat) : (r * ((b * b) % P) ^ h) % P = (r * b ^ (2 * h)) % P := by
  rw [← own_sq]
  exact own_mp rfl (own_pp (Int.emod_emod_of_dvd _ (Int.dvd_refl P)) h)
theorem own_pw_odd {P r b : Int} (h : Nat) : (((r * b) % P) * ((b * b) % P) ^ h) % P = (r * b ^ (2 * h + 1)) % P := by
  rw [own_pw_even, Int.pow_succ, Int.mul_comm (b ^ (2 * h)) b, ← Int.mul_assoc]
  exact own_mp (Int.emod_emod_of_dvd _ (Int.dvd_refl P)) rfl
def own_isP (p : Nat) : Prop := ∀ a b : Nat, p ∣ a * b → p ∣ a ∨ p ∣ b
def own_td (n lo : Nat) : Nat → Bool
  | 0 => n % lo != 0
  | k + 1 => own_td n lo k && own_td n (lo + 2 ^ k) k
theorem own_td_ok (n : Nat) : ∀ (k lo : Nat), own_td n lo k = true → ∀ d, lo ≤ d → d < lo + 2 ^ k → n % d ≠ 0 := by
  intro k
  induction k with
  | zero =>
    intro lo h d h1 h2
    have : d = lo := by rw [Nat.pow_zero] at h2; omega
    subst this
    unfold own_td at h
    simpa using h
  | succ k ih =>
    intro lo h d h1 h2
    unfold own_td at h
    rw [Bool.and_eq_true] at h
    rw [Nat.pow_succ] at h2
    by_cases g : d < lo + 2 ^ k
    · exact ih lo h.1 d h1 g
    · exact ih (lo + 2 ^ k) h.2 d (by omega) (by omega)
theorem own_isP_of {n k : Nat} (h : own_td n 2 k = true) (hn : 2 ≤ n) (hk : n < (2 + 2 ^ k) * (2 + 2 ^ k)) : own_isP n := by
  have nd : ∀ d, 2 ≤ d → d < n → n % d ≠ 0 := by
    intro d h2 hd e
    by_cases g : d < 2 + 2 ^ k
    · exact own_td_ok n k 2 h d h2 g e
    · obtain ⟨q, hq⟩ := Nat.dvd_of_mod_eq_zero e
      have q2 : 2 ≤ q := by
        rcases Nat.lt_or_ge q 2 with l | l
        · exfalso
          have : q = 0 ∨ q = 1 := by omega
          rcases this with r | r
          · rw [r, Nat.mul_zero] at hq; omega
          · rw [r, Nat.mul_one] at hq; omega
        · exact l
      have qk : q < 2 + 2 ^ k := by
        rcases Nat.lt_or_ge q (2 + 2 ^ k) with l | l
        · exact l
        · exfalso
          have : (2 + 2 ^ k) * (2 + 2 ^ k) ≤ d * q := Nat.mul_le_mul (by omega) l
          omega
      exact own_td_ok n k 2 h q q2 qk (by rw [hq]; exact Nat.mul_mod_left d q)
  intro a b hab
  by_cases ga : n ∣ a
  · exact Or.inl ga
  · right
    have c : Nat.Coprime n a := by
      have d1 := Nat.gcd_dvd_left n a
      have d2 := Nat.gcd_dvd_right n a
      have pos : 0 < Nat.gcd n a := Nat.gcd_pos_of_pos_left a (by omega)
      have le : Nat.gcd n a ≤ n := Nat.le_of_dvd (by omega) d1
      show Nat.gcd n a = 1
      generalize Nat.gcd n a = g at *
      rcases Nat.lt_or_ge g 2 with l | l
      · omega
      · exfalso
        rcases Nat.lt_or_ge g n with l2 | l2
        · exact nd g l l2 (Nat.mod_eq_zero_of_dvd d1)
        · have : g = n := by omega
          rw [this] at d2
          exact ga d2
    exact c.dvd_of_dvd_mul_left hab
def own_ch : Nat → Nat → Nat
  | _, 0 => 1
  | 0, _ + 1 => 0
  | n + 1, k + 1 => own_ch n k + own_ch n (k + 1)
theorem own_ch_0 (n : Nat) : own_ch n 0 = 1 := by cases n <;> rfl
theorem own_ch_gt : ∀ (n k : Nat), n < k → own_ch n k = 0 := by
  intro n
  induction n with
  | zero => intro k h; cases k with
    | zero => omega
    | succ k => rfl
  | succ n ih => intro k h; cases k with
    | zero => omega
    | succ k => rw [own_ch, ih k (by omega), ih (k + 1) (by omega)]
theorem own_ch_self (n : Nat) : own_ch n n = 1 := by
  induction n with
  | zero => rfl
  | succ n ih => rw [own_ch, ih, own_ch_gt n (n + 1) (by omega)]
theorem own_ch_mul : ∀ (n k : Nat), (k + 1) * own_ch (n + 1) (k + 1) = (n + 1) * own_ch n k := by
  intro n
  induction n with
  | zero =>
    intro k
    cases k with
    | zero => rfl
    | succ k => rw [own_ch_gt (0 + 1) (k + 1 + 1) (by omega), own_ch_gt 0 (k + 1) (by omega), Nat.mul_zero, Nat.mul_zero]
  | succ n ih =>
    intro k
    cases k with
    | zero =>
      have := ih 0
      rw [own_ch_0] at this ⊢
      rw [own_ch, own_ch_0]
      omega
    | succ k =>
      have a := ih k
      have b := ih (k + 1)
      rw [own_ch, Nat.mul_add]
      have e1 : (k + 1 + 1) * own_ch (n + 1) (k + 1) = (n + 1) * own_ch n k + own_ch (n + 1) (k + 1) := by rw [Nat.add_mul (k + 1) 1, a, Nat.one_mul]
      rw [e1, b]
      have e2 : own_ch (n + 1) (k + 1) = own_ch n k + own_ch n (k + 1) := rfl
      have e3 : (n + 1 + 1) * own_ch (n + 1) (k + 1) = (n + 1) * own_ch (n + 1) (k + 1) + own_ch (n + 1) (k + 1) := by rw [Nat.add_mul (n + 1) 1, Nat.one_mul]
      rw [e3]
      have e4 : (n + 1) * own_ch (n + 1) (k + 1) = (n + 1) * own_ch n k + (n + 1) * own_ch n (k + 1) := by rw [e2, Nat.mul_add]
      rw [e4]
      omega
def own_sum (f : Nat → Nat) : Nat → Nat
  | 0 => 0
  | n + 1 => own_sum f n + f n
theorem own_sum_same {f g : Nat → Nat} : ∀ n, (∀ k, k < n → f k = g k) → own_sum f n = own_sum g n := by
  intro n
  induction n with
  | zero => intro _; rfl
  | succ n ih => intro h; rw [own_sum, own_sum, ih (fun k hk => h k (by omega)), h n (by omega)]
theorem own_sum_add (f g : Nat → Nat) : ∀ n, own_sum (fun k => f k + g k) n = own_sum f n + own_sum g n := by
  intro n
  induction n with
  | zero => rfl
  | succ n ih => rw [own_sum, own_sum, own_sum, ih]; omega
theorem own_sum_mul (c : Nat) (f : Nat → Nat) : ∀ n, own_sum (fun k => c * f k) n = c * own_sum f n := by
  intro n
  induction n with
  | zero => rfl
  | succ n ih => rw [own_sum, own_sum, ih, Nat.mul_add]
theorem own_sum_sh (f : Nat → Nat) : ∀ n, own_sum f (n + 1) = f 0 + own_sum (fun k => f (k + 1)) n := by
  intro n
  induction n with
  | zero => rw [own_sum, own_sum, own_sum]; omega
  | succ n ih => rw [own_sum, ih, own_sum]; omega
theorem own_bin (x : Nat) : ∀ n, (x + 1) ^ n = own_sum (fun k => own_ch n k * x ^ k) (n + 1) := by
  intro n
  induction n with
  | zero => rfl
  | succ n ih =>
    have e1 : own_sum (fun k => own_ch (n + 1) k * x ^ k) (n + 1 + 1) = 1 + own_sum (fun k => x * (own_ch n k * x ^ k) + own_ch n (k + 1) * x ^ (k + 1)) (n + 1) := by
      rw [own_sum_sh]
      congr 1
      apply own_sum_same
      intro k hk
      show own_ch (n + 1) (k + 1) * x ^ (k + 1) = _
      rw [own_ch, Nat.add_mul]
      congr 1
      rw [Nat.pow_succ, Nat.mul_comm (x ^ k) x]
      ac_rfl
    have e2 : own_sum (fun k => own_ch n k * x ^ k) (n + 1) = 1 + own_sum (fun k => own_ch n (k + 1) * x ^ (k + 1)) (n + 1) := by
      have a := own_sum_sh (fun k => own_ch n k * x ^ k) (n + 1)
      have z : own_ch n (n + 1) * x ^ (n + 1) = 0 := by rw [own_ch_gt n (n + 1) (by omega), Nat.zero_mul]
      rw [own_sum, z, Nat.add_zero] at a
      rw [a, own_ch_0, Nat.pow_zero]
    rw [e1, own_sum_add, own_sum_mul, Nat.pow_succ, ih, Nat.mul_add, Nat.mul_one]
    generalize hS : own_sum (fun k => own_ch n k * x ^ k) (n + 1) = S at *
    rw [Nat.mul_comm S x]
    omega
theorem own_ch_dvd {p : Nat} (hp : own_isP p) {k : Nat} (h0 : 0 < k) (h1 : k < p) : p ∣ own_ch p k := by
  obtain ⟨q, rfl⟩ : ∃ q, p = q + 1 := ⟨p - 1, by omega⟩
  obtain ⟨j, rfl⟩ : ∃ j, k = j + 1 := ⟨k - 1, by omega⟩
  have m := own_ch_mul q j
  rcases hp (j + 1) (own_ch (q + 1) (j + 1)) ⟨own_ch q j, m⟩ with d | d
  · exact absurd (Nat.le_of_dvd (by omega) d) (by omega)
  · exact d
theorem own_sum_dvd {p : Nat} {f : Nat → Nat} : ∀ n, (∀ k, k < n → p ∣ f k) → p ∣ own_sum f n := by
  intro n
  induction n with
  | zero => intro _; exact Nat.dvd_zero p
  | succ n ih => intro h; exact Nat.dvd_add (ih (fun k hk => h k (by omega))) (h n (by omega))
theorem own_fermat {p : Nat} (hp : own_isP p) (h2 : 2 ≤ p) : ∀ x : Nat, (x ^ p) % p = x % p := by
  intro x
  induction x with
  | zero => rw [Nat.zero_pow (by omega)]
  | succ x ih =>
    obtain ⟨q, rfl⟩ : ∃ q, p = q + 1 := ⟨p - 1, by omega⟩
    rw [own_bin, own_sum, own_sum_sh, own_ch_0, own_ch_self, Nat.pow_zero, Nat.one_mul, Nat.one_mul]
    have d : (q + 1) ∣ own_sum (fun k => own_ch (q + 1) (k + 1) * x ^ (k + 1)) q := own_sum_dvd q (fun k hk => Nat.dvd_mul_right_of_dvd (own_ch_dvd hp (by omega) (by omega)) _)
    obtain ⟨c, hc⟩ := d
    rw [hc, show 1 + (q + 1) * c + x ^ (q + 1) = (x ^ (q + 1) + 1) + (q + 1) * c by omega, Nat.add_mul_mod_self_left, Nat.add_mod, ih, ← Nat.add_mod]
theorem own_inv {p x : Nat} (hp : own_isP p) (h2 : 2 ≤ p) (hx : ¬ p ∣ x) : (x * x ^ (p - 2)) % p = 1 % p := by
  have f := own_fermat hp h2 x
  have e : x ^ p = x * (x * x ^ (p - 2)) := by
    have : p = (p - 2) + 1 + 1 := by omega
    conv => lhs; rw [this]
    rw [Nat.pow_succ, Nat.pow_succ, Nat.mul_comm (x ^ (p - 2) * x) x, Nat.mul_comm (x ^ (p - 2)) x]
  rw [e] at f
  generalize x * x ^ (p - 2) = y at *
  have px : 1 ≤ x := by
    rcases Nat.eq_zero_or_pos x with r | r
    · subst r; exact absurd (Nat.dvd_zero p) hx
    · exact r
  rcases Nat.lt_or_ge y 1 with l | l
  · exfalso
    have : y = 0 := by omega
    subst this
    rw [Nat.mul_zero, Nat.zero_mod] at f
    exact hx (Nat.dvd_of_mod_eq_zero f.symm)
  · have d : p ∣ x * (y - 1) := by
      have : x * y - x = x * (y - 1) := by rw [Nat.mul_sub, Nat.mul_one]
      rw [← this]
      have le : x ≤ x * y := Nat.le_mul_of_pos_right x (by omega)
      exact Nat.dvd_of_mod_eq_zero (Nat.sub_mod_eq_zero_of_mod_eq f)
    rcases hp x (y - 1) d with r | r
    · exact absurd r hx
    · obtain ⟨c, hc⟩ := r
      rw [show y = 1 + p * c by omega, Nat.add_mul_mod_self_left]
theorem own_td_all : own_td 8191 2 7 = true ∧ own_td 65521 2 8 = true ∧ own_td 65537 2 8 = true ∧ own_td 131071 2 9 = true ∧ own_td 524287 2 10 = true ∧ own_td 998244353 2 15 = true ∧ own_td 1000000007 2 15 = true ∧ own_td 2147483647 2 16 = true := by decide +kernel
theorem own_and1 {e : Int64} (h : 0 ≤ e.toInt) : (e &&& 1).toInt = e.toInt % 2 := by
  have lt : e.toBitVec.toNat < 2 ^ 64 := e.toBitVec.isLt
  have hm : e.toBitVec.msb = false := by rw [BitVec.msb_eq_toInt]; simpa using h
  have e1 : e.toInt = (e.toBitVec.toNat : Int) := BitVec.toInt_eq_toNat_of_msb hm
  have hx : (e &&& 1).toBitVec.msb = false := by rw [Int64.toBitVec_and, BitVec.msb_and, hm, Bool.false_and]
  have e2 : (e &&& 1).toInt = (((e &&& 1).toBitVec).toNat : Int) := BitVec.toInt_eq_toNat_of_msb hx
  rw [e2, e1, Int64.toBitVec_and, BitVec.toNat_and]
  have o : (1 : Int64).toBitVec.toNat = 1 := rfl
  rw [o, Nat.and_one_is_mod]
  rfl
theorem own_ushr1 {e : Int64} (h : 0 ≤ e.toInt) : (XT.ushrL e 1).toInt = e.toInt / 2 := by
  have hm : e.toBitVec.msb = false := by rw [BitVec.msb_eq_toInt]; simpa using h
  have e1 : e.toInt = (e.toBitVec.toNat : Int) := BitVec.toInt_eq_toNat_of_msb hm
  have q : (XT.ushrL e 1).toBitVec = e.toBitVec >>> 1 := rfl
  have lt : e.toBitVec.toNat < 2 ^ 64 := e.toBitVec.isLt
  have n : (XT.ushrL e 1).toBitVec.toNat = e.toBitVec.toNat / 2 := by rw [q, BitVec.toNat_ushiftRight, Nat.shiftRight_eq_div_pow]
  have hx : (XT.ushrL e 1).toBitVec.msb = false := by rw [BitVec.msb_eq_decide, decide_eq_false_iff_not, n]; omega
  have e2 : (XT.ushrL e 1).toInt = ((XT.ushrL e 1).toBitVec.toNat : Int) := BitVec.toInt_eq_toNat_of_msb hx
  rw [e2, e1, n]
  rfl
theorem own_prm {P : Int} (h : own_prI P) : own_isP P.toNat ∧ 2 ≤ P.toNat := by
  obtain ⟨t1, t2, t3, t4, t5, t6, t7, t8⟩ := own_td_all
  rcases h with rfl | rfl | rfl | rfl | rfl | rfl | rfl | rfl
  · exact ⟨own_isP_of (n := 8191) t1 (by decide) (by decide), by decide⟩
  · exact ⟨own_isP_of (n := 65521) t2 (by decide) (by decide), by decide⟩
  · exact ⟨own_isP_of (n := 65537) t3 (by decide) (by decide), by decide⟩
  · exact ⟨own_isP_of (n := 131071) t4 (by decide) (by decide), by decide⟩
  · exact ⟨own_isP_of (n := 524287) t5 (by decide) (by decide), by decide⟩
  · exact ⟨own_isP_of (n := 998244353) t6 (by decide) (by decide), by decide⟩
  · exact ⟨own_isP_of (n := 1000000007) t7 (by decide) (by decide), by decide⟩
  · exact ⟨own_isP_of (n := 2147483647) t8 (by decide) (by decide), by decide⟩
theorem own_pw22 {p : Int64} (h : own_pr p) : ∀ (n : Nat) (r b e : Int64) (i : Int32) (k : Nat), own_fd p r → own_fd p b → 0 ≤ e.toInt → e.toInt < 2 ^ k → 0 ≤ i.toInt → i.toInt + k ≤ 63 → k < n → ∃ v, f_powMod_22 p n r b e i = some v ∧ own_fd p v ∧ v.toInt % p.toInt = (r.toInt * b.toInt ^ e.toInt.toNat) % p.toInt := by
  have hp := own_pr_b (own_pr_i h)
  have e64 : (64 : Int32).toInt = 64 := rfl
  have z : (0 : Int64).toInt = 0 := rfl
  have o : (1 : Int64).toInt = 1 := rfl
  intro n
  induction n with
  | zero => intro r b e i k hr hb h0 h1 h2 h3 h4; exfalso; omega
  | succ n ih =>
    intro r b e i k hr hb h0 h1 h2 h3 h4
    unfold f_powMod_22
    rw [if_pos (by rw [ilt]; omega)]
    by_cases g : 0 < e
    · have g' := lltI.mp g
      cases k with
      | zero => exfalso; rw [show (2 : Int) ^ 0 = 1 from rfl] at h1; omega
      | succ k =>
        have ei : (i + 1).toInt = i.toInt + 1 := by
          rw [iadd_i (by have e : (1 : Int32).toInt = 1 := rfl; omega) (by have e : (1 : Int32).toInt = 1 := rfl; omega)]
          rfl
        have sh : (XT.ushrL e 1).toInt = e.toInt / 2 := own_ushr1 h0
        have an := own_and1 h0
        have h1' : e.toInt / 2 < 2 ^ k := by
          rw [Int.pow_succ] at h1
          omega
        obtain ⟨eb, fb⟩ := own_mulI h hb hb
        rw [if_pos g]
        by_cases od : e &&& 1 = 1
        · have od' : e.toInt % 2 = 1 := by rw [← an, od, o]
          obtain ⟨er, fr⟩ := own_mulI h hr hb
          rw [if_pos od, own_mul h, Option.bind_some]
          unfold f_powMod_55
          rw [own_mul h, Option.bind_some]
          obtain ⟨v, q1, q2, q3⟩ := ih ((r * b) % p) ((b * b) % p) (XT.ushrL e 1) (i + 1) k fr fb (by omega) (by omega) (by omega) (by omega) (by omega)
          refine ⟨v, q1, q2, ?_⟩
          rw [q3, er, eb, sh, own_pw_odd, show 2 * (e.toInt / 2).toNat + 1 = e.toInt.toNat by omega]
        · have od' : e.toInt % 2 = 0 := by
            have : ¬ (e &&& 1).toInt = 1 := fun q => od (by rw [leqI, q, o])
            omega
          rw [if_neg od]
          unfold f_powMod_55
          rw [own_mul h, Option.bind_some]
          obtain ⟨v, q1, q2, q3⟩ := ih r ((b * b) % p) (XT.ushrL e 1) (i + 1) k hr fb (by omega) (by omega) (by omega) (by omega) (by omega)
          refine ⟨v, q1, q2, ?_⟩
          rw [q3, eb, sh, own_pw_even, show 2 * (e.toInt / 2).toNat = e.toInt.toNat by omega]
    · rw [if_neg g]
      rw [lltI] at g
      refine ⟨r, rfl, hr, ?_⟩
      rw [show e.toInt.toNat = 0 by omega, Int.pow_zero, Int.mul_one]
theorem own_invX {p zv : Int64} (h : own_pr p) (hz : own_fd p zv) (nz : zv.toInt ≠ 0) : ∃ v, f_inv p zv = some v ∧ own_fd p v ∧ (zv.toInt * v.toInt) % p.toInt = 1 % p.toInt := by
  have hp := own_pr_b (own_pr_i h)
  have two : (2 : Int64).toInt = 2 := rfl
  have o : (1 : Int64).toInt = 1 := rfl
  have e2 : (p - 2).toInt = p.toInt - 2 := by rw [lsub_i (by omega) (by omega), two]
  have em : (1 : Int64) % p = 1 := by rw [leqI, lmod_i (by decide), o, Int.emod_eq_of_lt (by omega) (by omega)]
  have ez : zv % p = zv := by rw [leqI, lmod_i hz.1, Int.emod_eq_of_lt hz.1 hz.2]
  obtain ⟨v, q1, q2, q3⟩ := own_pw22 h 100000 1 zv (p - 2) 0 31 ⟨by omega, by omega⟩ hz (by omega) (by rw [show (2 : Int) ^ 31 = 2147483648 from rfl]; omega) (by decide) (by decide) (by decide)
  refine ⟨v, ?_, q2, ?_⟩
  · unfold f_inv f_powMod
    rw [if_neg (own_ne h), if_neg (own_ne h), em, ez, q1, Option.bind_some]
  · rw [Int.mul_emod, q3, ← Int.mul_emod, o, Int.one_mul, e2]
    obtain ⟨pp, p2⟩ := own_prm (own_pr_i h)
    have nd : ¬ p.toInt.toNat ∣ zv.toInt.toNat := by
      intro d
      have := Nat.le_of_dvd (by have := hz.1; omega) d
      have := hz.2
      omega
    have f := own_inv pp p2 nd
    have ec : zv.toInt = (zv.toInt.toNat : Int) := by have := hz.1; omega
    have pc : p.toInt = (p.toInt.toNat : Int) := by omega
    rw [show (p.toInt - 2).toNat = p.toInt.toNat - 2 by omega]
    generalize zv.toInt.toNat = x at *
    generalize p.toInt.toNat = q at *
    rw [ec, pc, ← Int.natCast_pow, ← Int.natCast_mul]
    have : (((x * x ^ (q - 2)) % q : Nat) : Int) = ((1 % q : Nat) : Int) := by rw [f]
    rw [Int.natCast_emod, Int.natCast_emod] at this
    exact this
abbrev own_pt (p a b x y : Int64) (i : Int32) : Prop := (i = 0 ∨ i = 1) ∧ (own_fd p x) ∧ (own_fd p y) ∧ (i = 0 → (y.toInt * y.toInt) % p.toInt = (x.toInt * x.toInt * x.toInt + a.toInt * x.toInt + b.toInt) % p.toInt)
theorem own_pt.a {p a b x y : Int64} {i : Int32} (self : own_pt p a b x y i) : i = 0 ∨ i = 1 := self.1
theorem own_pt.b {p a b x y : Int64} {i : Int32} (self : own_pt p a b x y i) : own_fd p x := self.2.1
theorem own_pt.c {p a b x y : Int64} {i : Int32} (self : own_pt p a b x y i) : own_fd p y := self.2.2.1
theorem own_pt.d {p a b x y : Int64} {i : Int32} (self : own_pt p a b x y i) : i = 0 → (y.toInt * y.toInt) % p.toInt = (x.toInt * x.toInt * x.toInt + a.toInt * x.toInt + b.toInt) % p.toInt := self.2.2.2
theorem own_ee (a P : Int) : (a % P) % P = a % P := Int.emod_emod_of_dvd _ (Int.dvd_refl P)
theorem own_sm (a b P : Int) : (a % P - b) % P = (a - b) % P := by rw [Int.sub_emod, own_ee, ← Int.sub_emod]
theorem own_am (a b P : Int) : (a % P + b) % P = (a + b) % P := by rw [Int.add_emod, own_ee, ← Int.add_emod]
theorem own_130 {p a : Int64} (h : own_pr p) (ri : Int32) (rx ry x1 y1 x2 num den : Int64) (h1 : own_fd p x1) (h2 : own_fd p y1) (h3 : own_fd p x2) (h4 : own_fd p num) (h5 : own_fd p den) (nz : den.toInt ≠ 0) :
    Tot (f_pointAdd_130 p a ri rx ry x1 y1 x2 num den) (fun r => r.1 = 0 ∧ own_fd p r.2.1 ∧ own_fd p r.2.2 ∧ ∃ d l : Int, (den.toInt * d) % p.toInt = 1 % p.toInt ∧ l % p.toInt = (num.toInt * d) % p.toInt ∧ r.2.1.toInt % p.toInt = (l * l - x1.toInt - x2.toInt) % p.toInt ∧ r.2.2.toInt % p.toInt = (l * (x1.toInt - r.2.1.toInt) - y1.toInt) % p.toInt) := by
  obtain ⟨di, q1, q2, q3⟩ := own_invX h h5 nz
  obtain ⟨e6, f6⟩ := own_mulI h h4 q2
  obtain ⟨e7, f7⟩ := own_mulI h f6 f6
  obtain ⟨r8, q8, e8, f8⟩ := own_sub h f7 h1
  obtain ⟨r9, q9, e9, f9⟩ := own_sub h f8 h3
  obtain ⟨r10, q10, e10, f10⟩ := own_sub h h1 f9
  obtain ⟨e11, f11⟩ := own_mulI h f6 f10
  obtain ⟨r12, q12, e12, f12⟩ := own_sub h f11 h2
  unfold f_pointAdd_130
  rw [q1, Option.bind_some, own_mul h, Option.bind_some, own_mul h, Option.bind_some, q8, Option.bind_some, q9, Option.bind_some, q10, Option.bind_some, own_mul h, Option.bind_some, q12, Option.bind_some]
  unfold f_setResult
  rw [if_pos (Or.inl rfl)]
  unfold f_setResult_17 f_setResult_31
  rw [Option.bind_some, if_pos rfl, if_pos rfl]
  refine Tot.mk ⟨rfl, f9, f12, di.toInt, (num * di % p).toInt, q3, ?_, ?_, ?_⟩
  · rw [e6, own_ee]
  · show r9.toInt % p.toInt = _
    rw [e9, own_ee, e8, own_sm, e7, Int.sub_sub, own_sm, ← Int.sub_sub]
  · show r12.toInt % p.toInt = _
    rw [e12, own_ee, e11, own_sm, e10]
    rw [Int.sub_emod, own_mp (a := (num * di % p).toInt) rfl (own_ee (x1.toInt - r9.toInt) p.toInt), ← Int.sub_emod]
theorem own_nz {p x y : Int64} (h : own_pr p) (hx : own_fd p x) (hy : own_fd p y) (ne : ¬ x = y) : (y.toInt - x.toInt) % p.toInt ≠ 0 := by
  have hi := own_pr_i h
  obtain ⟨a0, a1⟩ := hx
  obtain ⟨b0, b1⟩ := hy
  rw [leqI] at ne
  generalize x.toInt = u at *
  generalize y.toInt = v at *
  generalize p.toInt = P at *
  rcases hi with rfl | rfl | rfl | rfl | rfl | rfl | rfl | rfl <;> omega
theorem own_2sq {P u v : Int} (hi : own_prI P) (e : (u * u) % P = (v * v) % P) : (v - u) % P = 0 ∨ (u + v) % P = 0 := by
  obtain ⟨pp, p2⟩ := own_prm hi
  have hp := own_pr_b hi
  have d : P ∣ (v - u) * (u + v) := by
    have : (v - u) * (u + v) = v * v - u * u := by rw [Int.sub_mul, Int.mul_add, Int.mul_add, Int.mul_comm v u]; omega
    rw [this]
    exact Int.dvd_of_emod_eq_zero (Int.emod_eq_emod_iff_emod_sub_eq_zero.mp e.symm)
  have d' : P.toNat ∣ (v - u).natAbs * (u + v).natAbs := by
    rw [← Int.natAbs_mul]
    have := Int.natAbs_dvd_natAbs.mpr d
    rwa [show P.natAbs = P.toNat by omega] at this
  have back : ∀ w : Int, P.toNat ∣ w.natAbs → w % P = 0 := by
    intro w hw
    rw [show P.toNat = P.natAbs by omega] at hw
    exact Int.emod_eq_zero_of_dvd (Int.natAbs_dvd_natAbs.mp hw)
  rcases pp _ _ d' with q | q
  · exact Or.inl (back _ q)
  · exact Or.inr (back _ q)
def own_Ln {p : Nat} [NeZero p] (a b l n x y z : Fin p) : Prop := x + y + z = l*l ∧ x*y + x*z + y*z = a - 2*l*n ∧ x*y*z = n*n - b
def own_ID (p : Nat) [NeZero p] : Prop := ∀ u v : Fin p, u * v = 0 → u = 0 ∨ v = 0
theorem own_Ln.sw {p : Nat} [NeZero p] {a b l n x y z : Fin p} (h : own_Ln a b l n x y z) : own_Ln a b l n y x z := by
  obtain ⟨h1, h2, h3⟩ := h
  exact ⟨by grobner, by grobner, by grobner⟩
theorem own_Ln.ro {p : Nat} [NeZero p] {a b l n x y z : Fin p} (h : own_Ln a b l n x y z) : own_Ln a b l n x z y := by
  obtain ⟨h1, h2, h3⟩ := h
  exact ⟨by grobner, by grobner, by grobner⟩
theorem own_Ln.ng {p : Nat} [NeZero p] {a b l n x y z : Fin p} (h : own_Ln a b l n x y z) : own_Ln a b (-l) (-n) x y z := by
  obtain ⟨h1, h2, h3⟩ := h
  exact ⟨by grobner, by grobner, by grobner⟩
theorem own_Ln.on {p : Nat} [NeZero p] {a b l n x y z : Fin p} (h : own_Ln a b l n x y z) : (l*z+n)*(l*z+n) = z*z*z + a*z + b := by
  obtain ⟨h1, h2, h3⟩ := h
  grobner
theorem own_Ln.pr {p : Nat} [NeZero p] {a b l n x y z : Fin p} (h : own_Ln a b l n x y z) (w : Fin p) : w*w*w + a*w + b - (l*w+n)*(l*w+n) = (w-x)*(w-y)*(w-z) := by
  obtain ⟨h1, h2, h3⟩ := h
  grobner
theorem own_Ln.dr {p : Nat} [NeZero p] {a b l n x y z : Fin p} (h : own_Ln a b l n x y z) : 3*x*x + a = 2*l*(l*x+n) + (x-y)*(x-z) := by
  obtain ⟨h1, h2, h3⟩ := h
  grobner
theorem own_sb0 {p : Nat} [NeZero p] {u v : Fin p} (h : u - v = 0) : u = v := by grobner
theorem own_Ln.ch {p : Nat} [NeZero p] (hz : own_ID p) {a b l n x y : Fin p} (h1 : (l*x+n)*(l*x+n) = x*x*x + a*x + b) (h2 : (l*y+n)*(l*y+n) = y*y*y + a*y + b) (ne : ¬ x = y) : own_Ln a b l n x y (l*l - x - y) := by
  have k : (x - y) * (x*x + x*y + y*y + a - l*l*(x+y) - 2*l*n) = 0 := by grobner
  rcases hz _ _ k with k | k
  · exact absurd (own_sb0 k) ne
  · exact ⟨by grobner, by grobner, by grobner⟩
theorem own_Ln.tg {p : Nat} [NeZero p] {a b l n x : Fin p} (h1 : (l*x+n)*(l*x+n) = x*x*x + a*x + b) (h2 : 2*(l*x+n)*l = 3*x*x + a) : own_Ln a b l n x x (l*l - x - x) := by
  exact ⟨by grobner, by grobner, by grobner⟩
theorem own_2L {p : Nat} [NeZero p] {a b l n s r xA xB xS xC xD : Fin p} (h : own_Ln a b l n xA xB xS) (k : own_Ln a b s r xS xC xD) (e : s*xS+r = -(l*xS+n)) : (l+s)*l - xA - xB = (l+s)*s - xC - xD ∧ (l+s)*n + xA*xB = (l+s)*r + xC*xD := by
  obtain ⟨h1, h2, h3⟩ := h
  obtain ⟨k1, k2, k3⟩ := k
  have e1 : l*(l*xS+n + (s*xS+r)) = 0 := by rw [e]; grobner
  have e2 : s*(l*xS+n + (s*xS+r)) = 0 := by rw [e]; grobner
  refine ⟨by clear e1 e2 h2 h3 k2 k3 e; grobner, ?_⟩
  have q1 : (l+s)*n + xA*xB = a + l*r + s*n + xS*(xS + l*s) := by
    clear h3 k1 k2 k3 e e2
    have : xA*xB = a - 2*l*n - xS*(l*l - xS) := by clear e1; grobner
    rw [this]
    clear this h1 h2
    grobner
  have q2 : (l+s)*r + xC*xD = a + l*r + s*n + xS*(xS + l*s) := by
    clear h3 h1 h2 k3 e e1 q1
    have : xC*xD = a - 2*s*r - xS*(s*s - xS) := by clear e2; grobner
    rw [this]
    clear this k1 k2
    grobner
  rw [q1, q2]
theorem own_mc {p : Nat} [NeZero p] (hz : own_ID p) {u v w : Fin p} (h : u * w = v * w) (ne : ¬ w = 0) : u = v := by
  have k : (u - v) * w = 0 := by grobner
  rcases hz _ _ k with k | k
  · exact own_sb0 k
  · exact absurd k ne
theorem own_snz {p : Nat} [NeZero p] {u v : Fin p} (h : ¬ u = v) : ¬ u - v = 0 := fun k => h (own_sb0 k)
theorem own_asG {p : Nat} [NeZero p] (hz : own_ID p) {a b l n s r m k t w xA xB xC xS xU xD xE : Fin p} (L1 : own_Ln a b l n xA xB xS) (L2 : own_Ln a b s r xS xC xD) (L3 : own_Ln a b m k xB xC xU) (L4 : own_Ln a b t w xU xA xE) (eS : s*xS+r = -(l*xS+n)) (eU : t*xU+w = -(m*xU+k)) (eA : l*xA+n = t*xA+w) (eB : l*xB+n = m*xB+k) (eC : s*xC+r = m*xC+k) (nAB : ¬ xA = xB) (nBC : ¬ xB = xC) (nAC : ¬ xA = xC) (nS : ¬ (xC = xS ∧ m*xC+k = l*xS+n)) : xD = xE ∧ s*xD+r = t*xE+w := by
  obtain ⟨b1, c1⟩ := own_2L L1 L2 eS
  obtain ⟨b2, c2⟩ := own_2L L3 L4 eU
  obtain ⟨hB, hC⟩ : (l+s)*l - xA - xB - ((m+t)*m - xB - xC) = (l+s-(m+t))*l ∧ (l+s)*l - xA - xB - ((m+t)*m - xB - xC) = (l+s-(m+t))*m := by
    have A1 : ((l+s)*l - xA - xB)*xA + ((l+s)*n + xA*xB) = (l+s)*(l*xA+n) - xA*xA := by clear L1 L2 L3 L4 eS eU eA eB eC b1 c1 b2 c2; grobner
    have A2 : ((m+t)*m - xB - xC)*xA + ((m+t)*k + xB*xC) = (m+t)*(l*xA+n) - xA*xA := by rw [b2, c2, eA]; clear L1 L2 L3 L4 eS eU eA eB eC b1 c1 b2 c2 A1; grobner
    have B1 : ((l+s)*l - xA - xB)*xB + ((l+s)*n + xA*xB) = (l+s)*(l*xB+n) - xB*xB := by clear L1 L2 L3 L4 eS eU eA eB eC b1 c1 b2 c2 A1 A2; grobner
    have B2 : ((m+t)*m - xB - xC)*xB + ((m+t)*k + xB*xC) = (m+t)*(l*xB+n) - xB*xB := by rw [eB]; clear L1 L2 L3 L4 eS eU eA eB eC b1 c1 b2 c2 A1 A2 B1; grobner
    have C1 : ((l+s)*l - xA - xB)*xC + ((l+s)*n + xA*xB) = (l+s)*(m*xC+k) - xC*xC := by rw [b1, c1, ← eC]; clear L1 L2 L3 L4 eS eU eA eB eC b1 c1 b2 c2 A1 A2 B1 B2; grobner
    have C2 : ((m+t)*m - xB - xC)*xC + ((m+t)*k + xB*xC) = (m+t)*(m*xC+k) - xC*xC := by clear L1 L2 L3 L4 eS eU eA eB eC b1 c1 b2 c2 A1 A2 B1 B2 C1; grobner
    clear L1 L2 L3 L4 eS eU eA eC b1 c1 b2 c2 nS
    generalize (l+s)*l - xA - xB = be at *
    generalize (m+t)*m - xB - xC = be' at *
    generalize (l+s)*n + xA*xB = al at *
    generalize (m+t)*k + xB*xC = al' at *
    generalize l + s = g at *
    generalize m + t = g' at *
    refine ⟨own_mc hz (w := xA - xB) ?_ (own_snz nAB), own_mc hz (w := xB - xC) ?_ (own_snz nBC)⟩
    · clear C1 C2 eB nAB nBC nAC
      grobner
    · rw [eB] at B1 B2
      clear A1 A2 eB nAB nBC nAC
      grobner
  have hW : l+s-(m+t) = 0 := by
    have : (l+s-(m+t)) * (l - m) = 0 := by rw [hB] at hC; clear L1 L2 L3 L4 eS eU eA eB eC b1 c1 b2 c2 hB; grobner
    rcases hz _ _ this with q | q
    · exact q
    · exfalso
      have q := own_sb0 q
      subst q
      have nk : n = k := by clear L1 L2 L3 L4 eS eU eA eC b1 c1 b2 c2 hB hC; grobner
      subst nk
      have pr := L1.pr xC
      have on := L3.ro.on
      have : (xC - xA) * ((xC - xB) * (xC - xS)) = 0 := by clear L1 L2 L3 L4 eS eU eA eC b1 c1 b2 c2 hB hC eB; grobner
      rcases hz _ _ this with q | q
      · exact nAC (own_sb0 q).symm
      · rcases hz _ _ q with q | q
        · exact nBC (own_sb0 q).symm
        · have q := own_sb0 q
          exact nS ⟨q, by rw [q]⟩
  have hG : l + s = m + t := own_sb0 hW
  have hb : (l+s)*l - xA - xB = (l+s)*m - xB - xC := by
    rw [hW] at hB
    rw [← hG] at hB
    clear L1 L2 L3 L4 eS eU eA eB eC b1 c1 b2 c2 hC
    grobner
  rw [← hG] at b2 c2
  have xx : xD = xE := by
    clear L1 L2 L3 L4 eS eU eA eB eC c1 c2 hC hB hW
    have i1 : 2*((l+s)*l - xA - xB) = (l+s)*(l+s) - xA - xB - xC - xD := by clear hb b2; grobner
    have i2 : 2*((l+s)*m - xB - xC) = (l+s)*(l+s) - xA - xB - xC - xE := by
      have : t = l + s - m := by clear b1 b2 hb i1; grobner
      subst this
      clear b1 hb i1 hG
      grobner
    rw [hb, i2] at i1
    clear i2 hb b1 b2
    grobner
  refine ⟨xx, ?_⟩
  have gn : ¬ l + s = 0 := by
    intro z
    have : (xC - xA) * (xC - xB) = 0 := by
      rw [z] at b1 c1
      clear L1 L2 L3 L4 eS eU eA eB eC b2 c2 hC hB hW hb xx
      grobner
    rcases hz _ _ this with q | q
    · exact nAC (own_sb0 q).symm
    · exact nBC (own_sb0 q).symm
  have : (s*xD+r) * (l+s) = (t*xE+w) * (l+s) := by
    subst xx
    have a1 : (l+s)*n + xA*xB = (l+s)*k + xB*xC := by
      have e1 : ((l+s)*n + xA*xB) + ((l+s)*l - xA - xB)*xB = (l+s)*(l*xB+n) - xB*xB := by clear L1 L2 L3 L4 eS eU eA eB eC b1 c1 b2 c2 hC hB hW hb gn hG; grobner
      have e2 : ((l+s)*k + xB*xC) + ((l+s)*m - xB - xC)*xB = (l+s)*(m*xB+k) - xB*xB := by clear L1 L2 L3 L4 eS eU eA eB eC b1 c1 b2 c2 hC hB hW hb gn hG e1; grobner
      rw [← eB, ← hb] at e2
      clear L1 L2 L3 L4 eS eU eA eB eC b1 c1 b2 c2 hC hB hW hb gn hG
      grobner
    have f1 : (s*xD+r) * (l+s) = xD*xD + ((l+s)*l - xA - xB)*xD + ((l+s)*n + xA*xB) := by
      rw [b1, c1]
      clear L1 L2 L3 L4 eS eU eA eB eC b1 c1 b2 c2 hC hB hW hb gn hG a1
      grobner
    have f2 : (t*xD+w) * (l+s) = xD*xD + ((l+s)*m - xB - xC)*xD + ((l+s)*k + xB*xC) := by
      rw [b2, c2]
      clear L1 L2 L3 L4 eS eU eA eB eC b1 c1 b2 c2 hC hB hW hb gn hG a1 f1
      grobner
    rw [f1, f2, hb, a1]
  exact own_mc hz this gn
theorem own_asD {p : Nat} [NeZero p] (hz : own_ID p) {a b l n s r m k t w xA xC xS xU xD xE : Fin p} (L1 : own_Ln a b l n xA xA xS) (L2 : own_Ln a b s r xS xC xD) (L3 : own_Ln a b m k xA xC xU) (L4 : own_Ln a b t w xU xA xE) (eS : s*xS+r = -(l*xS+n)) (eU : t*xU+w = -(m*xU+k)) (eA : l*xA+n = t*xA+w) (eB : l*xA+n = m*xA+k) (eC : s*xC+r = m*xC+k) (nAC : ¬ xA = xC) (ny : ¬ (l*xA+n) + (l*xA+n) = 0) : xD = xE ∧ s*xD+r = t*xE+w := by
  obtain ⟨b1, c1⟩ := own_2L L1 L2 eS
  obtain ⟨b2, c2⟩ := own_2L L3 L4 eU
  have d1 := L1.dr
  have d3 := L3.dr
  have u2 : (m+t)*(xA-xU) = (l*xA+n) + (l*xA+n) := by
    have : (m+t)*xU = -(k + w) := by clear L1 L2 L3 L4 eS eA eB eC b1 c1 b2 c2 d1 d3; grobner
    have h2 : (m+t)*xA + (k+w) = (l*xA+n) + (l*xA+n) := by clear L1 L2 L3 L4 eS eC b1 c1 b2 c2 d1 d3 eU this; grobner
    clear L1 L2 L3 L4 eS eA eB eC b1 c1 b2 c2 d1 d3 eU
    grobner
  have hx : (m+t)*(l-m) = xA - xC := by
    refine own_mc hz (w := (l*xA+n) + (l*xA+n)) ?_ ny
    have : ((l*xA+n) + (l*xA+n))*(l-m) = (xA-xC)*(xA-xU) := by
      rw [← eB] at d3
      clear L1 L2 L3 L4 eS eA eB eC b1 c1 b2 c2 eU u2
      grobner
    rw [← u2] at this ⊢
    clear L1 L2 L3 L4 eS eA eB eC b1 c1 b2 c2 eU u2 d1 d3
    grobner
  obtain ⟨hB, hC⟩ : (l+s)*l - xA - xA - ((m+t)*m - xA - xC) = (l+s-(m+t))*l ∧ (l+s)*l - xA - xA - ((m+t)*m - xA - xC) = (l+s-(m+t))*m := by
    refine ⟨by clear L1 L2 L3 L4 eS eA eB eC b1 c1 b2 c2 eU u2 d1 d3; grobner, ?_⟩
    have B1 : ((l+s)*l - xA - xA)*xA + ((l+s)*n + xA*xA) = (l+s)*(m*xA+k) - xA*xA := by rw [← eB]; clear L1 L2 L3 L4 eS eU eA eB eC b1 c1 b2 c2 d1 d3 u2 hx; grobner
    have B2 : ((m+t)*m - xA - xC)*xA + ((m+t)*k + xA*xC) = (m+t)*(m*xA+k) - xA*xA := by clear L1 L2 L3 L4 eS eU eA eB eC b1 c1 b2 c2 d1 d3 u2 hx B1; grobner
    have C1 : ((l+s)*l - xA - xA)*xC + ((l+s)*n + xA*xA) = (l+s)*(m*xC+k) - xC*xC := by rw [b1, c1, ← eC]; clear L1 L2 L3 L4 eS eU eA eB eC b1 c1 b2 c2 d1 d3 u2 hx B1 B2; grobner
    have C2 : ((m+t)*m - xA - xC)*xC + ((m+t)*k + xA*xC) = (m+t)*(m*xC+k) - xC*xC := by clear L1 L2 L3 L4 eS eU eA eB eC b1 c1 b2 c2 d1 d3 u2 hx B1 B2 C1; grobner
    clear L1 L2 L3 L4 eS eU eA eC b1 c1 b2 c2 d1 d3 u2 hx eB ny
    generalize (l+s)*l - xA - xA = be at *
    generalize (m+t)*m - xA - xC = be' at *
    generalize (l+s)*n + xA*xA = al at *
    generalize (m+t)*k + xA*xC = al' at *
    generalize l + s = g at *
    generalize m + t = g' at *
    refine own_mc hz (w := xA - xC) ?_ (own_snz nAC)
    clear nAC
    grobner
  have hW : l+s-(m+t) = 0 := by
    have : (l+s-(m+t)) * (l - m) = 0 := by rw [hB] at hC; clear L1 L2 L3 L4 eS eU eA eB eC b1 c1 b2 c2 hB d1 d3 u2 hx; grobner
    rcases hz _ _ this with q | q
    · exact q
    · exfalso
      rw [q] at hx
      refine own_snz nAC ?_
      rw [← hx]
      clear L1 L2 L3 L4 eS eU eA eB eC b1 c1 b2 c2 hB d1 d3 u2 hx hC this q
      grobner
  have hG : l + s = m + t := own_sb0 hW
  have hb : (l+s)*l - xA - xA = (l+s)*m - xA - xC := by
    rw [hW] at hB
    rw [← hG] at hB
    clear L1 L2 L3 L4 eS eU eA eB eC b1 c1 b2 c2 hC d1 d3 u2 hx
    grobner
  clear d1 d3 u2 hx
  rw [← hG] at b2 c2
  have xx : xD = xE := by
    clear L1 L2 L3 L4 eS eU eA eB eC c1 c2 hC hB hW
    have i1 : 2*((l+s)*l - xA - xA) = (l+s)*(l+s) - xA - xA - xC - xD := by clear hb b2; grobner
    have i2 : 2*((l+s)*m - xA - xC) = (l+s)*(l+s) - xA - xA - xC - xE := by
      have : t = l + s - m := by clear b1 b2 hb i1; grobner
      subst this
      clear b1 hb i1 hG
      grobner
    rw [hb, i2] at i1
    clear i2 hb b1 b2
    grobner
  refine ⟨xx, ?_⟩
  have gn : ¬ l + s = 0 := by
    intro z
    have : (xC - xA) * (xC - xA) = 0 := by
      rw [z] at b1 c1
      clear L1 L2 L3 L4 eS eU eA eB eC b2 c2 hC hB hW hb xx
      grobner
    rcases hz _ _ this with q | q
    · exact nAC (own_sb0 q).symm
    · exact nAC (own_sb0 q).symm
  have : (s*xD+r) * (l+s) = (t*xE+w) * (l+s) := by
    subst xx
    have a1 : (l+s)*n + xA*xA = (l+s)*k + xA*xC := by
      have e1 : ((l+s)*n + xA*xA) + ((l+s)*l - xA - xA)*xA = (l+s)*(l*xA+n) - xA*xA := by clear L1 L2 L3 L4 eS eU eA eB eC b1 c1 b2 c2 hC hB hW hb gn hG; grobner
      have e2 : ((l+s)*k + xA*xC) + ((l+s)*m - xA - xC)*xA = (l+s)*(m*xA+k) - xA*xA := by clear L1 L2 L3 L4 eS eU eA eB eC b1 c1 b2 c2 hC hB hW hb gn hG e1; grobner
      rw [← eB, ← hb] at e2
      clear L1 L2 L3 L4 eS eU eA eB eC b1 c1 b2 c2 hC hB hW hb gn hG
      grobner
    have f1 : (s*xD+r) * (l+s) = xD*xD + ((l+s)*l - xA - xA)*xD + ((l+s)*n + xA*xA) := by
      rw [b1, c1]
      clear L1 L2 L3 L4 eS eU eA eB eC b1 c1 b2 c2 hC hB hW hb gn hG a1
      grobner
    have f2 : (t*xD+w) * (l+s) = xD*xD + ((l+s)*m - xA - xC)*xD + ((l+s)*k + xA*xC) := by
      rw [b2, c2]
      clear L1 L2 L3 L4 eS eU eA eB eC b1 c1 b2 c2 hC hB hW hb gn hG a1 f1
      grobner
    rw [f1, f2, hb, a1]
  exact own_mc hz this gn
def own_ng {p : Nat} [NeZero p] : Option (Fin p × Fin p) → Option (Fin p × Fin p)
  | none => none
  | some (x, y) => some (x, -y)
def own_on {p : Nat} [NeZero p] (a b : Fin p) (P : Option (Fin p × Fin p)) : Prop := ∀ x y, P = some (x, y) → y*y = x*x*x + a*x + b
def own_Ad {p : Nat} [NeZero p] (a b : Fin p) (P Q R : Option (Fin p × Fin p)) : Prop :=
  (P = none ∧ R = Q) ∨ (Q = none ∧ R = P) ∨ (∃ x y, P = some (x, y) ∧ Q = some (x, -y) ∧ R = none) ∨
  ∃ l n x1 x2 x3, own_Ln a b l n x1 x2 x3 ∧ P = some (x1, l*x1+n) ∧ Q = some (x2, l*x2+n) ∧ ¬ (x1 = x2 ∧ (l*x1+n) + (l*x2+n) = 0) ∧ R = some (x3, -(l*x3+n))
def own_Cv {p : Nat} [NeZero p] (a b : Fin p) : Prop := own_ID p ∧ (∀ u : Fin p, u + u = 0 → u = 0) ∧ ¬ 4*a*a*a + 27*b*b = 0 ∧ ∀ u : Fin p, ¬ u = 0 → ∃ v, u * v = 1
theorem own_nn {p : Nat} [NeZero p] (u : Fin p) : - -u = u := by grobner
theorem own_ngng {p : Nat} [NeZero p] (P : Option (Fin p × Fin p)) : own_ng (own_ng P) = P := by
  rcases P with _ | ⟨x, y⟩
  · rfl
  · show some (x, - -y) = some (x, y)
    rw [own_nn]
theorem own_Ad.cm {p : Nat} [NeZero p] {a b : Fin p} {P Q R : Option (Fin p × Fin p)} (h : own_Ad a b P Q R) : own_Ad a b Q P R := by
  rcases h with ⟨rfl, rfl⟩ | ⟨rfl, rfl⟩ | ⟨x, y, rfl, rfl, rfl⟩ | ⟨l, n, x1, x2, x3, h, rfl, rfl, ne, rfl⟩
  · exact Or.inr (Or.inl ⟨rfl, rfl⟩)
  · exact Or.inl ⟨rfl, rfl⟩
  · exact Or.inr (Or.inr (Or.inl ⟨x, -y, rfl, by rw [own_nn], rfl⟩))
  · refine Or.inr (Or.inr (Or.inr ⟨l, n, x2, x1, x3, h.sw, rfl, rfl, fun q => ne ⟨q.1.symm, ?_⟩, rfl⟩))
    have := q.2
    clear h ne
    grobner
theorem own_Ad.ng {p : Nat} [NeZero p] {a b : Fin p} {P Q R : Option (Fin p × Fin p)} (h : own_Ad a b P Q R) : own_Ad a b (own_ng P) (own_ng Q) (own_ng R) := by
  rcases h with ⟨rfl, rfl⟩ | ⟨rfl, rfl⟩ | ⟨x, y, rfl, rfl, rfl⟩ | ⟨l, n, x1, x2, x3, h, rfl, rfl, ne, rfl⟩
  · exact Or.inl ⟨rfl, rfl⟩
  · exact Or.inr (Or.inl ⟨rfl, rfl⟩)
  · exact Or.inr (Or.inr (Or.inl ⟨x, -y, rfl, rfl, rfl⟩))
  · have e : ∀ x : Fin p, -(l*x+n) = (-l)*x + -n := fun x => by grobner
    refine Or.inr (Or.inr (Or.inr ⟨-l, -n, x1, x2, x3, h.ng, ?_, ?_, fun q => ne ⟨q.1, ?_⟩, ?_⟩))
    · show some (x1, -(l*x1+n)) = _
      rw [e]
    · show some (x2, -(l*x2+n)) = _
      rw [e]
    · have := q.2
      clear h ne
      grobner
    · show some (x3, - -(l*x3+n)) = _
      rw [e]
theorem own_on.ng {p : Nat} [NeZero p] {a b : Fin p} {P : Option (Fin p × Fin p)} (h : own_on a b P) : own_on a b (own_ng P) := by
  intro x y e
  rcases P with _ | ⟨u, v⟩
  · cases e
  · have e' : some (u, -v) = some (x, y) := e
    have e' := Option.some.inj e'
    have e1 : u = x := congrArg Prod.fst e'
    have e2 : -v = y := congrArg Prod.snd e'
    have := h u v rfl
    subst e1
    subst e2
    grobner
theorem own_Ad.on {p : Nat} [NeZero p] {a b : Fin p} {P Q R : Option (Fin p × Fin p)} (h : own_Ad a b P Q R) (hP : own_on a b P) (hQ : own_on a b Q) : own_on a b R := by
  rcases h with ⟨rfl, rfl⟩ | ⟨rfl, rfl⟩ | ⟨x, y, rfl, rfl, rfl⟩ | ⟨l, n, x1, x2, x3, h, rfl, rfl, ne, rfl⟩
  · exact hQ
  · exact hP
  · intro x y e; cases e
  · intro x y e
    have e := Option.some.inj e
    have e1 : x3 = x := congrArg Prod.fst e
    have e2 : -(l*x3+n) = y := congrArg Prod.snd e
    have := h.on
    subst e1
    subst e2
    clear h ne e hP hQ
    grobner
theorem own_pi {p : Nat} {u v x y : Fin p} (h : some (u, v) = some (x, y)) : u = x ∧ v = y := by
  have h := Option.some.inj h
  exact ⟨congrArg Prod.fst h, congrArg Prod.snd h⟩
theorem own_Ad.fn {p : Nat} [NeZero p] {a b : Fin p} (C : own_Cv a b) {P Q R R' : Option (Fin p × Fin p)} (h : own_Ad a b P Q R) (h' : own_Ad a b P Q R') : R = R' := by
  rcases h with ⟨rfl, rfl⟩ | ⟨rfl, rfl⟩ | ⟨x, y, rfl, rfl, rfl⟩ | ⟨l, n, x1, x2, x3, h, rfl, rfl, ne, rfl⟩
  · rcases h' with ⟨-, rfl⟩ | ⟨rfl, rfl⟩ | ⟨x, y, e, -⟩ | ⟨l, n, x1, x2, x3, -, e, -⟩
    · rfl
    · rfl
    · cases e
    · cases e
  · rcases h' with ⟨rfl, rfl⟩ | ⟨-, rfl⟩ | ⟨x, y, -, e, -⟩ | ⟨l, n, x1, x2, x3, -, -, e, -⟩
    · rfl
    · rfl
    · cases e
    · cases e
  · rcases h' with ⟨e, -⟩ | ⟨e, -⟩ | ⟨x', y', -, -, rfl⟩ | ⟨l, n, x1, x2, x3, -, e1, e2, ne, -⟩
    · cases e
    · cases e
    · rfl
    · exfalso
      obtain ⟨a1, a2⟩ := own_pi e1
      obtain ⟨b1, b2⟩ := own_pi e2
      refine ne ⟨by rw [← a1, ← b1], ?_⟩
      rw [← a2, ← b2]
      grobner
  · rcases h' with ⟨e, -⟩ | ⟨e, -⟩ | ⟨x', y', e1, e2, -⟩ | ⟨l', n', z1, z2, z3, h', e1, e2, ne', rfl⟩
    · cases e
    · cases e
    · exfalso
      obtain ⟨a1, a2⟩ := own_pi e1
      obtain ⟨b1, b2⟩ := own_pi e2
      refine ne ⟨by rw [a1, b1], ?_⟩
      rw [a2, b2]
      grobner
    · obtain ⟨a1, a2⟩ := own_pi e1
      obtain ⟨b1, b2⟩ := own_pi e2
      subst a1
      subst b1
      have hl : l = l' := by
        by_cases q : x1 = x2
        · subst q
          have d1 := h.dr
          have d2 := h'.dr
          rw [← a2] at d2
          refine own_mc C.1 (w := (l*x1+n) + (l*x1+n)) ?_ (fun z => ne ⟨rfl, z⟩)
          clear h h' ne ne' e1 e2 a2 b2
          grobner
        · refine own_mc C.1 (w := x1 - x2) ?_ (own_snz q)
          clear h h' ne ne' e1 e2
          grobner
      subst hl
      have hn : n = n' := by clear h h' ne ne' e1 e2 b2; grobner
      subst hn
      have hx : x3 = z3 := by
        have h1 := h.1
        have h2 := h'.1
        clear h h' ne ne' e1 e2 b2
        grobner
      rw [hx]
theorem own_Ad.ca {p : Nat} [NeZero p] {a b : Fin p} (C : own_Cv a b) {P Q R : Option (Fin p × Fin p)} (hP : own_on a b P) (h : own_Ad a b P Q R) : own_Ad a b (own_ng P) R Q := by
  rcases h with ⟨rfl, rfl⟩ | ⟨rfl, rfl⟩ | ⟨x, y, rfl, rfl, rfl⟩ | ⟨l, n, x1, x2, x3, h, rfl, rfl, ne, rfl⟩
  · exact Or.inl ⟨rfl, rfl⟩
  · rcases R with _ | ⟨x, y⟩
    · exact Or.inl ⟨rfl, rfl⟩
    · exact Or.inr (Or.inr (Or.inl ⟨x, -y, rfl, by rw [own_nn], rfl⟩))
  · exact Or.inr (Or.inl ⟨rfl, rfl⟩)
  · have e : ∀ x : Fin p, -(l*x+n) = (-l)*x + -n := fun x => by grobner
    refine Or.inr (Or.inr (Or.inr ⟨-l, -n, x1, x3, x2, h.ng.ro, ?_, ?_, fun q => ?_, ?_⟩))
    · show some (x1, -(l*x1+n)) = _
      rw [e]
    · rw [e]
    · obtain ⟨rfl, q⟩ := q
      have y0 : l*x1 + n = 0 := C.2.1 _ (by clear h ne hP; grobner)
      have d := h.dr
      rw [y0] at d
      have o := hP _ _ rfl
      rw [y0] at o
      have d' : 3*x1*x1 + a = 0 := by clear h ne hP o q y0; grobner
      refine C.2.2.1 ?_
      have ea : a = -3*x1*x1 := by clear h ne hP o q y0 d; grobner
      have eb : b = 2*x1*x1*x1 := by clear h ne hP q y0 d; grobner
      subst ea
      subst eb
      clear h ne hP q y0 d d' o
      grobner
    · rw [← e, own_nn]
def own_iv {p : Nat} [NeZero p] (u : Fin p) : Fin p := match (List.range p).find? (fun k => decide (u * Fin.ofNat p k = 1)) with
  | some k => Fin.ofNat p k
  | none => 0
theorem own_iv_e {p : Nat} [NeZero p] {u : Fin p} (h : ∃ v, u * v = 1) : u * own_iv u = 1 := by
  obtain ⟨v, hv⟩ := h
  have ev : Fin.ofNat p v.val = v := Fin.ext (Nat.mod_eq_of_lt v.isLt)
  unfold own_iv
  generalize e : (List.range p).find? (fun k => decide (u * Fin.ofNat p k = 1)) = o
  cases o with
  | none =>
    exfalso
    have := List.find?_eq_none.1 e v.val (List.mem_range.2 v.isLt)
    rw [ev] at this
    exact this (decide_eq_true hv)
  | some k =>
    have := List.find?_some e
    exact of_decide_eq_true this
def own_li {p : Nat} [NeZero p] (l x y z : Fin p) : Option (Fin p × Fin p) := some (l*l - x - z, -(l*(l*l - x - z) + (y - l*x)))
def own_pl {p : Nat} [NeZero p] (a b : Fin p) (P Q : Option (Fin p × Fin p)) : Option (Fin p × Fin p) := match P with
  | none => Q
  | some (x1, y1) => match Q with
    | none => some (x1, y1)
    | some (x2, y2) => if x1 = x2 then (if y1 + y2 = 0 then none else own_li ((3*x1*x1+a) * own_iv (y1 + y1)) x1 y1 x1) else own_li ((y1 - y2) * own_iv (x1 - x2)) x1 y1 x2
theorem own_pl_A {p : Nat} [NeZero p] {a b : Fin p} (C : own_Cv a b) {P Q : Option (Fin p × Fin p)} (hP : own_on a b P) (hQ : own_on a b Q) : own_Ad a b P Q (own_pl a b P Q) := by
  rcases P with _ | ⟨x1, y1⟩
  · exact Or.inl ⟨rfl, rfl⟩
  rcases Q with _ | ⟨x2, y2⟩
  · exact Or.inr (Or.inl ⟨rfl, rfl⟩)
  have o1 := hP x1 y1 rfl
  have o2 := hQ x2 y2 rfl
  show own_Ad a b _ _ (if x1 = x2 then (if y1 + y2 = 0 then none else own_li ((3*x1*x1+a) * own_iv (y1 + y1)) x1 y1 x1) else own_li ((y1 - y2) * own_iv (x1 - x2)) x1 y1 x2)
  unfold own_li
  by_cases q : x1 = x2
  · rw [if_pos q]
    subst q
    by_cases z : y1 + y2 = 0
    · rw [if_pos z]
      exact Or.inr (Or.inr (Or.inl ⟨x1, y1, rfl, by rw [show y2 = -y1 by grobner], rfl⟩))
    · rw [if_neg z]
      have : (y1 + y2) * (y1 - y2) = 0 := by clear z hP hQ; grobner
      rcases C.1 _ _ this with k | k
      · exact absurd k z
      · have k := own_sb0 k
        subst k
        have hd := own_iv_e (C.2.2.2 _ z)
        generalize own_iv (y1 + y1) = d at hd
        have t : 2 * y1 * ((3*x1*x1+a)*d) = 3*x1*x1 + a := by clear z hP hQ o1 o2 this; grobner
        generalize (3*x1*x1+a)*d = l at t
        have ey : y1 = l*x1 + (y1 - l*x1) := by clear z hP hQ o1 o2 this t hd; grobner
        generalize y1 - l*x1 = n at ey
        subst ey
        exact Or.inr (Or.inr (Or.inr ⟨l, n, x1, x1, _, own_Ln.tg o1 t, rfl, rfl, fun q => z q.2, rfl⟩))
  · rw [if_neg q]
    have hd := own_iv_e (C.2.2.2 _ (own_snz q))
    generalize own_iv (x1 - x2) = d at hd
    have t : (y1 - y2)*d*(x1-x2) = y1 - y2 := by clear hP hQ o1 o2; grobner
    generalize (y1 - y2)*d = l at t
    have ey : y1 = l*x1 + (y1 - l*x1) := by clear hP hQ o1 o2 t hd; grobner
    have ez : y2 = l*x2 + (y1 - l*x1) := by clear hP hQ o1 o2 hd ey; grobner
    generalize y1 - l*x1 = n at ey ez
    subst ey
    subst ez
    exact Or.inr (Or.inr (Or.inr ⟨l, n, x1, x2, _, own_Ln.ch C.1 o1 o2 q, rfl, rfl, fun z => q z.1, rfl⟩))
theorem own_pl_e {p : Nat} [NeZero p] {a b : Fin p} (C : own_Cv a b) {P Q R : Option (Fin p × Fin p)} (hP : own_on a b P) (hQ : own_on a b Q) (h : own_Ad a b P Q R) : own_pl a b P Q = R := own_Ad.fn C (own_pl_A C hP hQ) h
theorem own_pl_on {p : Nat} [NeZero p] {a b : Fin p} (C : own_Cv a b) {P Q : Option (Fin p × Fin p)} (hP : own_on a b P) (hQ : own_on a b Q) : own_on a b (own_pl a b P Q) := (own_pl_A C hP hQ).on hP hQ
theorem own_pl_c {p : Nat} [NeZero p] {a b : Fin p} (C : own_Cv a b) {P Q : Option (Fin p × Fin p)} (hP : own_on a b P) (hQ : own_on a b Q) : own_pl a b P Q = own_pl a b Q P := own_pl_e C hP hQ (own_pl_A C hQ hP).cm
theorem own_pl_n {p : Nat} [NeZero p] {a b : Fin p} (C : own_Cv a b) {P Q : Option (Fin p × Fin p)} (hP : own_on a b P) (hQ : own_on a b Q) : own_pl a b (own_ng P) (own_ng Q) = own_ng (own_pl a b P Q) := own_pl_e C hP.ng hQ.ng (own_pl_A C hP hQ).ng
theorem own_pl_k {p : Nat} [NeZero p] {a b : Fin p} (C : own_Cv a b) {P Q : Option (Fin p × Fin p)} (hP : own_on a b P) (hQ : own_on a b Q) : own_pl a b (own_ng P) (own_pl a b P Q) = Q := own_pl_e C hP.ng (own_pl_on C hP hQ) (own_Ad.ca C hP (own_pl_A C hP hQ))
theorem own_pl_k2 {p : Nat} [NeZero p] {a b : Fin p} (C : own_Cv a b) {P Q : Option (Fin p × Fin p)} (hP : own_on a b P) (hQ : own_on a b Q) : own_pl a b P (own_pl a b (own_ng P) Q) = Q := by
  have := own_pl_k C hP.ng hQ
  rw [own_ngng] at this
  exact this
theorem own_pl_0 {p : Nat} [NeZero p] {a b : Fin p} (C : own_Cv a b) (P : Option (Fin p × Fin p)) : own_pl a b none P = P := rfl
theorem own_pl_z {p : Nat} [NeZero p] {a b : Fin p} (C : own_Cv a b) (P : Option (Fin p × Fin p)) : own_pl a b P none = P := by
  rcases P with _ | ⟨x, y⟩ <;> rfl
theorem own_pl_v {p : Nat} [NeZero p] {a b : Fin p} (C : own_Cv a b) (P : Option (Fin p × Fin p)) : own_pl a b P (own_ng P) = none := by
  rcases P with _ | ⟨x, y⟩
  · exact own_pl_0 C _
  · show (if x = x then (if y + -y = 0 then none else _) else _) = _
    rw [if_pos rfl, if_pos (by grobner)]
theorem own_pl_l {p : Nat} [NeZero p] {a b : Fin p} (C : own_Cv a b) {x1 y1 x2 y2 : Fin p} (hP : own_on a b (some (x1, y1))) (hQ : own_on a b (some (x2, y2))) (ne : ¬ (some (x2, y2) = own_ng (some (x1, y1)))) : ∃ l n x3, own_Ln a b l n x1 x2 x3 ∧ y1 = l*x1+n ∧ y2 = l*x2+n ∧ own_pl a b (some (x1, y1)) (some (x2, y2)) = some (x3, -(l*x3+n)) ∧ ¬ (x1 = x2 ∧ (l*x1+n) + (l*x2+n) = 0) := by
  rcases own_pl_A C hP hQ with ⟨e, -⟩ | ⟨e, -⟩ | ⟨x, y, e1, e2, -⟩ | ⟨l, n, z1, z2, z3, h, e1, e2, nq, e3⟩
  · cases e
  · cases e
  · exfalso
    refine ne ?_
    rw [e1, e2]
    rfl
  · obtain ⟨a1, a2⟩ := own_pi e1
    obtain ⟨b1, b2⟩ := own_pi e2
    subst a1
    subst b1
    exact ⟨l, n, z3, h, a2, b2, e3, nq⟩
theorem own_xne {p : Nat} [NeZero p] {a b : Fin p} (C : own_Cv a b) {x1 y1 x2 y2 : Fin p} (hP : own_on a b (some (x1, y1))) (hQ : own_on a b (some (x2, y2))) (n1 : ¬ (some (x2, y2) = own_ng (some (x1, y1)))) (n2 : ¬ (some (x1, y1) = some (x2, y2))) : ¬ x1 = x2 := by
  intro q
  subst q
  have o1 := hP x1 y1 rfl
  have o2 := hQ x1 y2 rfl
  have : (y1 + y2) * (y1 - y2) = 0 := by clear n1 n2 hP hQ; grobner
  rcases C.1 _ _ this with k | k
  · refine n1 ?_
    show some (x1, y2) = some (x1, -y1)
    rw [show y2 = -y1 by clear n1 n2 hP hQ o1 o2 this; grobner]
  · exact n2 (by rw [own_sb0 k])
theorem own_as2 {p : Nat} [NeZero p] {a b : Fin p} (C : own_Cv a b) {A Q : Option (Fin p × Fin p)} (hA : own_on a b A) (hQ : own_on a b Q) : own_pl a b (own_pl a b A A) Q = own_pl a b A (own_pl a b A Q) := by
  by_cases z1 : Q = own_ng A
  · subst z1
    rw [own_pl_v C, own_pl_z C, own_pl_c C (own_pl_on C hA hA) hA.ng, own_pl_k C hA hA]
  by_cases z2 : A = own_ng A
  · have : own_pl a b A A = none := by
      have := own_pl_v C A
      rw [← z2] at this
      exact this
    rw [this, own_pl_0 C]
    have k := own_pl_k2 C hA hQ
    rw [← z2] at k
    exact k.symm
  by_cases z3 : Q = own_ng (own_pl a b A A)
  · subst z3
    rw [own_pl_v C, ← own_pl_n C hA hA, own_pl_k2 C hA hA.ng, own_pl_v C]
  by_cases z4 : own_pl a b A Q = own_ng A
  · exfalso
    refine z3 ?_
    have := own_pl_k C hA hQ
    rw [z4, own_pl_n C hA hA] at this
    exact this.symm
  by_cases z5 : A = Q
  · subst z5
    rw [own_pl_c C (own_pl_on C hA hA) hA]
  rcases A with _ | ⟨xA, yA⟩
  · rw [own_pl_0 C, own_pl_0 C, own_pl_0 C]
  rcases Q with _ | ⟨xC, yC⟩
  · rw [own_pl_z C, own_pl_z C]
  have nAC := own_xne C hA hQ z1 z5
  obtain ⟨l, n, xS, L1, e1, -, s1, nq⟩ := own_pl_l C hA hA z2
  have hS := own_pl_on C hA hA
  rw [s1] at hS z3 ⊢
  obtain ⟨s, r, xD, L2, e2, e3, s2, -⟩ := own_pl_l C hS hQ z3
  obtain ⟨m, k, xU, L3, e4, e5, s3, -⟩ := own_pl_l C hA hQ z1
  have hU := own_pl_on C hA hQ
  rw [s3] at hU z4 ⊢
  obtain ⟨t, w, xE, L4, e6, e7, s4, -⟩ := own_pl_l C hA hU z4
  rw [s2, s4]
  have := own_asD C.1 L1 L2 L3 L4.sw e2.symm e7.symm (by rw [← e1, ← e6]) (by rw [← e1, ← e4]) (by rw [← e3, ← e5]) nAC (fun z => nq ⟨rfl, z⟩)
  obtain ⟨rfl, q⟩ := this
  rw [q]
theorem own_as {p : Nat} [NeZero p] {a b : Fin p} (C : own_Cv a b) {A B Q : Option (Fin p × Fin p)} (hA : own_on a b A) (hB : own_on a b B) (hQ : own_on a b Q) : own_pl a b (own_pl a b A B) Q = own_pl a b A (own_pl a b B Q) := by
  by_cases z1 : B = own_ng A
  · subst z1
    rw [own_pl_v C, own_pl_0 C, own_pl_k2 C hA hQ]
  by_cases z2 : Q = own_ng B
  · subst z2
    rw [own_pl_v C, own_pl_z C, own_pl_c C (own_pl_on C hA hB) hB.ng, own_pl_c C hA hB, own_pl_k C hB hA]
  by_cases z3 : Q = own_ng A
  · subst z3
    rw [own_pl_c C (own_pl_on C hA hB) hA.ng, own_pl_k C hA hB, own_pl_c C hB hA.ng, own_pl_k2 C hA hB]
  by_cases z4 : A = Q
  · subst z4
    rw [own_pl_c C (own_pl_on C hA hB) hA, own_pl_c C hA hB]
  by_cases z5 : A = B
  · subst z5
    exact own_as2 C hA hQ
  by_cases z6 : B = Q
  · subst z6
    rw [own_pl_c C (own_pl_on C hA hB) hB, own_pl_c C hA hB, ← own_as2 C hB hA, own_pl_c C hA (own_pl_on C hB hB)]
  by_cases z7 : Q = own_ng (own_pl a b A B)
  · subst z7
    rw [own_pl_v C, ← own_pl_n C hA hB, own_pl_c C hA.ng hB.ng, own_pl_k2 C hB hA.ng, own_pl_v C]
  by_cases z8 : own_pl a b B Q = own_ng A
  · exfalso
    refine z7 ?_
    have := own_pl_k C hB hQ
    rw [z8, own_pl_n C hB hA, own_pl_c C hB hA] at this
    exact this.symm
  rcases A with _ | ⟨xA, yA⟩
  · rw [own_pl_0 C, own_pl_0 C]
  rcases B with _ | ⟨xB, yB⟩
  · rw [own_pl_0 C, own_pl_z C]
  rcases Q with _ | ⟨xC, yC⟩
  · rw [own_pl_z C, own_pl_z C]
  have nAB := own_xne C hA hB z1 z5
  have nBC := own_xne C hB hQ z2 z6
  have nAC := own_xne C hA hQ z3 z4
  obtain ⟨l, n, xS, L1, e1, e1', s1, -⟩ := own_pl_l C hA hB z1
  have hS := own_pl_on C hA hB
  rw [s1] at hS z7 ⊢
  obtain ⟨s, r, xD, L2, e2, e3, s2, -⟩ := own_pl_l C hS hQ z7
  obtain ⟨m, k, xU, L3, e4, e5, s3, -⟩ := own_pl_l C hB hQ z2
  have hU := own_pl_on C hB hQ
  rw [s3] at hU z8 ⊢
  obtain ⟨t, w, xE, L4, e6, e7, s4, -⟩ := own_pl_l C hA hU z8
  rw [s2, s4]
  have := own_asG C.1 L1 L2 L3 L4.sw e2.symm e7.symm (by rw [← e1, ← e6]) (by rw [← e1', ← e4]) (by rw [← e3, ← e5]) nAB nBC nAC (fun z => z7 (by
    show some (xC, yC) = some (xS, - -(l*xS+n))
    rw [own_nn, ← z.2, ← e5, z.1]))
  obtain ⟨rfl, q⟩ := this
  rw [q]
def own_ml {p : Nat} [NeZero p] (a b : Fin p) (P : Option (Fin p × Fin p)) : Nat → Option (Fin p × Fin p)
  | 0 => none
  | n + 1 => own_pl a b (own_ml a b P n) P
theorem own_ml_on {p : Nat} [NeZero p] {a b : Fin p} (C : own_Cv a b) {P : Option (Fin p × Fin p)} (hP : own_on a b P) : ∀ n, own_on a b (own_ml a b P n) := by
  intro n
  induction n with
  | zero => intro x y e; cases e
  | succ n ih => exact own_pl_on C ih hP
theorem own_ml_add {p : Nat} [NeZero p] {a b : Fin p} (C : own_Cv a b) {P : Option (Fin p × Fin p)} (hP : own_on a b P) (m : Nat) : ∀ n, own_ml a b P (m + n) = own_pl a b (own_ml a b P m) (own_ml a b P n) := by
  intro n
  induction n with
  | zero => exact (own_pl_z C _).symm
  | succ n ih =>
    show own_pl a b (own_ml a b P (m + n)) P = own_pl a b (own_ml a b P m) (own_pl a b (own_ml a b P n) P)
    rw [ih, own_as C (own_ml_on C hP m) (own_ml_on C hP n) hP]
theorem own_ml_mul {p : Nat} [NeZero p] {a b : Fin p} (C : own_Cv a b) {P : Option (Fin p × Fin p)} (hP : own_on a b P) (m : Nat) : ∀ n, own_ml a b (own_ml a b P m) n = own_ml a b P (m * n) := by
  intro n
  induction n with
  | zero => rfl
  | succ n ih =>
    show own_pl a b (own_ml a b (own_ml a b P m) n) (own_ml a b P m) = _
    rw [ih, Nat.mul_succ, own_ml_add C hP]
theorem own_ml_1 {p : Nat} [NeZero p] {a b : Fin p} (C : own_Cv a b) (P : Option (Fin p × Fin p)) : own_ml a b P 1 = P := own_pl_0 C P
def own_ci (q : Nat) [NeZero q] (u : Int) : Fin q := Fin.ofNat q (u % q).toNat
theorem own_q0 (q : Nat) [n : NeZero q] : 0 < q := Nat.pos_of_ne_zero n.out
theorem own_ci_v (q : Nat) [NeZero q] (u : Int) : ((own_ci q u).val : Int) = u % q := by
  have h0 := own_q0 q
  have e : (own_ci q u).val = (u % q).toNat % q := rfl
  have n0 := Int.emod_nonneg u (show (q : Int) ≠ 0 by omega)
  have n1 := Int.emod_lt_of_pos u (show (0 : Int) < q by omega)
  rw [e, Nat.mod_eq_of_lt (by omega)]
  omega
theorem own_ci_x (q : Nat) [NeZero q] {u : Int} {w : Fin q} (h : (w.val : Int) = u % q) : own_ci q u = w := by
  apply Fin.ext
  have := own_ci_v q u
  omega
theorem own_ci_e (q : Nat) [NeZero q] {u v : Int} (h : u % q = v % q) : own_ci q u = own_ci q v := by
  unfold own_ci
  rw [h]
theorem own_ci_i (q : Nat) [NeZero q] {u v : Int} (h : own_ci q u = own_ci q v) : u % q = v % q := by
  rw [← own_ci_v, ← own_ci_v, h]
theorem own_ci_add (q : Nat) [NeZero q] (u v : Int) : own_ci q (u + v) = own_ci q u + own_ci q v := by
  apply own_ci_x
  rw [Fin.val_add, Int.natCast_emod, Int.natCast_add, own_ci_v, own_ci_v, ← Int.add_emod]
theorem own_ci_mul (q : Nat) [NeZero q] (u v : Int) : own_ci q (u * v) = own_ci q u * own_ci q v := by
  apply own_ci_x
  rw [Fin.val_mul, Int.natCast_emod, Int.natCast_mul, own_ci_v, own_ci_v, ← Int.mul_emod]
theorem own_ci_sub (q : Nat) [NeZero q] (u v : Int) : own_ci q (u - v) = own_ci q u - own_ci q v := by
  have := own_ci_add q (u - v) v
  rw [Int.sub_add_cancel] at this
  rw [this]
  generalize own_ci q (u - v) = x
  generalize own_ci q v = y
  grobner
theorem own_ci_m (q : Nat) [NeZero q] (u : Int) : own_ci q (u % q) = own_ci q u := own_ci_e q (Int.emod_emod_of_dvd _ (Int.dvd_refl _))
theorem own_ci_n (q : Nat) [NeZero q] (k : Nat) : own_ci q (k : Int) = Fin.ofNat q k := by
  apply own_ci_x
  show ((k % q : Nat) : Int) = _
  rw [Int.natCast_emod]
theorem own_ci_1 (q : Nat) [NeZero q] : own_ci q 1 = 1 := own_ci_n q 1
theorem own_ci_0 (q : Nat) [NeZero q] : own_ci q 0 = 0 := own_ci_n q 0
theorem own_f0 {q : Nat} [NeZero q] {u : Fin q} (h : u.val = 0) : u = 0 := by
  apply Fin.ext
  rw [h]
  rfl
theorem own_fld {q : Nat} [NeZero q] (hp : own_isP q) (h2 : 2 < q) : own_ID q ∧ (∀ u : Fin q, u + u = 0 → u = 0) ∧ ∀ u : Fin q, ¬ u = 0 → ∃ v, u * v = 1 := by
  have id : own_ID q := by
    intro u v h
    have e : (u * v).val = 0 := by rw [h]; rfl
    rw [Fin.val_mul] at e
    rcases hp _ _ (Nat.dvd_of_mod_eq_zero e) with k | k
    · exact Or.inl (own_f0 (Nat.eq_zero_of_dvd_of_lt k u.isLt))
    · exact Or.inr (own_f0 (Nat.eq_zero_of_dvd_of_lt k v.isLt))
  refine ⟨id, ?_, ?_⟩
  · intro u h
    have : (2 : Fin q) * u = 0 := by grobner
    rcases id _ _ this with k | k
    · exfalso
      have e : (2 : Fin q).val = 2 := Nat.mod_eq_of_lt h2
      rw [k] at e
      have : (0 : Fin q).val = 0 := rfl
      omega
    · exact k
  · intro u h
    have nd : ¬ q ∣ u.val := fun k => h (own_f0 (Nat.eq_zero_of_dvd_of_lt k u.isLt))
    refine ⟨Fin.ofNat q (u.val ^ (q - 2)), ?_⟩
    apply Fin.ext
    have := own_inv hp (by omega) nd
    rw [Fin.val_mul]
    show (u.val * (u.val ^ (q - 2) % q)) % q = 1 % q
    rw [Nat.mul_mod, Nat.mod_mod, ← Nat.mul_mod, this]
def own_cp (q : Nat) [NeZero q] (x y : Int64) (i : Int32) : Option (Fin q × Fin q) := if i = 0 then some (own_ci q x.toInt, own_ci q y.toInt) else none
theorem own_cp_on {q : Nat} [NeZero q] {p a b x y : Int64} {i : Int32} (eq : p.toInt = q) (h : own_pt p a b x y i) : own_on (own_ci q a.toInt) (own_ci q b.toInt) (own_cp q x y i) := by
  intro u v e
  unfold own_cp at e
  by_cases g : i = 0
  · rw [if_pos g] at e
    obtain ⟨rfl, rfl⟩ := own_pi e
    have := h.d g
    rw [eq] at this
    have := own_ci_e q this
    rw [own_ci_mul, own_ci_add, own_ci_add, own_ci_mul, own_ci_mul, own_ci_mul] at this
    exact this
  · rw [if_neg g] at e
    cases e
theorem own_fi {q : Nat} [NeZero q] {p x y : Int64} (eq : p.toInt = q) (hx : own_fd p x) (hy : own_fd p y) (h : own_ci q x.toInt = own_ci q y.toInt) : x = y := by
  have := own_ci_i q h
  rw [← eq, Int.emod_eq_of_lt hx.1 hx.2, Int.emod_eq_of_lt hy.1 hy.2] at this
  rw [leqI]
  exact this
theorem own_cp_i {q : Nat} [NeZero q] {p a b x y x' y' : Int64} {i i' : Int32} (eq : p.toInt = q) (h : own_pt p a b x y i) (h' : own_pt p a b x' y' i') (e : own_cp q x y i = own_cp q x' y' i') : i = i' ∧ (i = 0 → x = x' ∧ y = y') := by
  unfold own_cp at e
  by_cases g : i = 0
  · by_cases g' : i' = 0
    · rw [if_pos g, if_pos g'] at e
      obtain ⟨e1, e2⟩ := own_pi e
      exact ⟨by rw [g, g'], fun _ => ⟨own_fi eq h.b h'.b e1, own_fi eq h.c h'.c e2⟩⟩
    · rw [if_pos g, if_neg g'] at e; cases e
  · by_cases g' : i' = 0
    · rw [if_neg g, if_pos g'] at e; cases e
    · rcases h.a with k | k
      · exact absurd k g
      · rcases h'.a with k' | k'
        · exact absurd k' g'
        · exact ⟨by rw [k, k'], fun z => absurd z g⟩
theorem own_cp_0 {q : Nat} [NeZero q] (x y : Int64) : own_cp q x y 0 = some (own_ci q x.toInt, own_ci q y.toInt) := rfl
theorem own_li_A {q : Nat} [NeZero q] {a b x1 y1 x2 y2 l x3 y3 : Fin q} (id : own_ID q) (o1 : y1*y1 = x1*x1*x1 + a*x1 + b) (o2 : y2*y2 = x2*x2*x2 + a*x2 + b) (h : (¬ x1 = x2 ∧ l*(x2-x1) = y2-y1) ∨ (x1 = x2 ∧ y1 = y2 ∧ ¬ y1 + y1 = 0 ∧ 2*y1*l = 3*x1*x1 + a)) (e3 : x3 = l*l - x1 - x2) (e4 : y3 = l*(x1-x3) - y1) : own_Ad a b (some (x1, y1)) (some (x2, y2)) (some (x3, y3)) := by
  have ey : y1 = l*x1 + (y1 - l*x1) := by clear o1 o2 h e3 e4; grobner
  have ey3 : y3 = -(l*x3 + (y1 - l*x1)) := by clear o1 o2 h e3 ey; grobner
  rw [ey3]
  clear ey3 e4 y3
  rcases h with ⟨ne, hl⟩ | ⟨rfl, rfl, ny, hl⟩
  · have ez : y2 = l*x2 + (y1 - l*x1) := by clear o1 o2 e3 ey ne; grobner
    generalize y1 - l*x1 = n at ey ez
    subst ey
    subst ez
    subst e3
    exact Or.inr (Or.inr (Or.inr ⟨l, n, x1, x2, _, own_Ln.ch id o1 o2 ne, rfl, rfl, fun z => ne z.1, rfl⟩))
  · generalize y1 - l*x1 = n at ey
    subst ey
    subst e3
    exact Or.inr (Or.inr (Or.inr ⟨l, n, x1, x1, _, own_Ln.tg o1 hl, rfl, rfl, fun z => ny z.2, rfl⟩))
theorem own_paX {q : Nat} [NeZero q] {p a b : Int64} (eq : p.toInt = q) (id : own_ID q) (h : own_pr p) (ha : own_fd p a) (hb : own_fd p b) (ri : Int32) (rx ry x1 y1 : Int64) (i1 : Int32) (x2 y2 : Int64) (i2 : Int32) (h1 : own_pt p a b x1 y1 i1) (h2 : own_pt p a b x2 y2 i2) :
    Tot (f_pointAdd p a ri rx ry x1 y1 i1 x2 y2 i2) (fun r => own_pt p a b r.2.1 r.2.2 r.1 ∧ own_Ad (own_ci q a.toInt) (own_ci q b.toInt) (own_cp q x1 y1 i1) (own_cp q x2 y2 i2) (own_cp q r.2.1 r.2.2 r.1)) := by
  have hi := own_pr_i h
  have hp := own_pr_b hi
  have z : (0 : Int64).toInt = 0 := rfl
  have fz : own_fd p 0 := ⟨by omega, by omega⟩
  have res : ∀ (x y : Int64) (i : Int32), own_pt p a b x y i → own_Ad (own_ci q a.toInt) (own_ci q b.toInt) (own_cp q x1 y1 i1) (own_cp q x2 y2 i2) (own_cp q x y i) → Tot ((f_setResult ri rx ry x y i).bind fun (s, t, u) => some (s, t, u)) (fun r => own_pt p a b r.2.1 r.2.2 r.1 ∧ own_Ad (own_ci q a.toInt) (own_ci q b.toInt) (own_cp q x1 y1 i1) (own_cp q x2 y2 i2) (own_cp q r.2.1 r.2.2 r.1)) := by
    intro x y i hq hA
    unfold f_setResult f_setResult_17 f_setResult_31
    rw [if_pos hq.a, Option.bind_some]
    refine Tot.mk ?_
    show own_pt p a b (if i = 0 then x else 0) (if i = 0 then y else 0) i ∧ own_Ad _ _ _ _ (own_cp q (if i = 0 then x else 0) (if i = 0 then y else 0) i)
    by_cases g : i = 0
    · rw [if_pos g, if_pos g]; exact ⟨hq, hA⟩
    · rw [if_neg g, if_neg g]
      refine ⟨⟨hq.a, fz, fz, fun q => absurd q g⟩, ?_⟩
      unfold own_cp at hA ⊢
      rw [if_neg g] at hA ⊢
      exact hA
  have to_pt : ∀ r : Int32 × Int64 × Int64, r.1 = 0 → own_fd p r.2.1 → own_fd p r.2.2 → own_Ad (own_ci q a.toInt) (own_ci q b.toInt) (own_cp q x1 y1 i1) (own_cp q x2 y2 i2) (some (own_ci q r.2.1.toInt, own_ci q r.2.2.toInt)) → own_pt p a b r.2.1 r.2.2 r.1 ∧ own_Ad (own_ci q a.toInt) (own_ci q b.toInt) (own_cp q x1 y1 i1) (own_cp q x2 y2 i2) (own_cp q r.2.1 r.2.2 r.1) := by
    intro r q0 q1 q2 hA
    refine ⟨⟨Or.inl q0, q1, q2, fun _ => ?_⟩, ?_⟩
    · have o := hA.on (own_cp_on eq h1) (own_cp_on eq h2) _ _ rfl
      rw [← own_ci_mul, ← own_ci_mul, ← own_ci_mul, ← own_ci_mul, ← own_ci_add, ← own_ci_add] at o
      have := own_ci_i q o
      rw [← eq] at this
      exact this
    · rw [q0]; exact hA
  unfold f_pointAdd
  refine Tot.ite (fun g1 => Tot.ite (fun g2 => ?_) (fun g2 => ?_)) (fun g1 => res _ _ _ h2 ?_)
  rotate_left
  · rw [g1] at h1
    refine res _ _ _ h1 (Or.inr (Or.inl ⟨?_, ?_⟩))
    · unfold own_cp; rw [if_neg g2]
    · rw [g1]
  · refine Or.inl ⟨?_, rfl⟩
    unfold own_cp; rw [if_neg g1]
  have o1 := own_cp_on eq h1
  have o2 := own_cp_on eq h2
  rw [g1, own_cp_0] at to_pt o1
  rw [g2, own_cp_0] at to_pt o2
  have o1 := o1 _ _ rfl
  have o2 := o2 _ _ rfl
  have fin3 : ∀ (r : Int32 × Int64 × Int64) (num den : Int) (d l : Int), (den * d) % p.toInt = 1 % p.toInt → l % p.toInt = (num * d) % p.toInt → r.2.1.toInt % p.toInt = (l * l - x1.toInt - x2.toInt) % p.toInt → r.2.2.toInt % p.toInt = (l * (x1.toInt - r.2.1.toInt) - y1.toInt) % p.toInt → own_ci q den * own_ci q d = 1 ∧ own_ci q l = own_ci q num * own_ci q d ∧ own_ci q r.2.1.toInt = own_ci q l * own_ci q l - own_ci q x1.toInt - own_ci q x2.toInt ∧ own_ci q r.2.2.toInt = own_ci q l * (own_ci q x1.toInt - own_ci q r.2.1.toInt) - own_ci q y1.toInt := by
    intro r num den d l k3 k4 k5 k6
    rw [eq] at k3 k4 k5 k6
    refine ⟨?_, ?_, ?_, ?_⟩
    · rw [← own_ci_mul, own_ci_e q k3, own_ci_1]
    · rw [← own_ci_mul, own_ci_e q k4]
    · rw [own_ci_e q k5, own_ci_sub, own_ci_sub, own_ci_mul]
    · rw [own_ci_e q k6, own_ci_sub, own_ci_mul, own_ci_sub]
  have chord : ¬ x1 = x2 → Tot (f_pointAdd_112 p a ri rx ry x1 y1 x2 y2) (fun r => own_pt p a b r.2.1 r.2.2 r.1 ∧ own_Ad (own_ci q a.toInt) (own_ci q b.toInt) (own_cp q x1 y1 i1) (own_cp q x2 y2 i2) (own_cp q r.2.1 r.2.2 r.1)) := by
    intro ne
    obtain ⟨r1, q1, e1, f1⟩ := own_sub h h2.c h1.c
    obtain ⟨r2, q2, e2, f2⟩ := own_sub h h2.b h1.b
    unfold f_pointAdd_112
    rw [q1, Option.bind_some, q2, Option.bind_some]
    refine Tot.mono (own_130 h ri rx ry x1 y1 x2 r1 r2 h1.b h1.c h2.b f1 f2 (by rw [e2]; exact own_nz h h1.b h2.b ne)) ?_
    rintro r ⟨k0, k1, k2, d, l, k3, k4, k5, k6⟩
    rw [g1, g2]
    obtain ⟨j1, j2, j3, j4⟩ := fin3 r _ _ d l k3 k4 k5 k6
    rw [e2, eq, own_ci_m, own_ci_sub] at j1
    rw [e1, eq, own_ci_m, own_ci_sub] at j2
    refine to_pt r k0 k1 k2 (own_li_A id o1 o2 (Or.inl ⟨fun q => ne (own_fi eq h1.b h2.b q), ?_⟩) j3 j4)
    clear o1 o2 j3 j4 fin3 to_pt res
    grobner
  have f56 : (x1 = x2 → (y1.toInt + y2.toInt) % p.toInt ≠ 0) → Tot (f_pointAdd_56 p a ri rx ry x1 y1 x2 y2) (fun r => own_pt p a b r.2.1 r.2.2 r.1 ∧ own_Ad (own_ci q a.toInt) (own_ci q b.toInt) (own_cp q x1 y1 i1) (own_cp q x2 y2 i2) (own_cp q r.2.1 r.2.2 r.1)) := by
    intro hs
    unfold f_pointAdd_56
    refine Tot.ite (fun gx => ?_) (fun gx => chord gx)
    have hs' := hs gx
    subst gx
    refine Tot.ite (fun gy => ?_) (fun gy => ?_)
    · subst gy
      have t3 : own_fd p 3 := ⟨by decide, by have e : (3 : Int64).toInt = 3 := rfl; omega⟩
      obtain ⟨e1, f1⟩ := own_mulI h h1.b h1.b
      obtain ⟨e2, f2⟩ := own_mulI h t3 f1
      obtain ⟨q3, e3, f3⟩ := own_add h f2 ha
      obtain ⟨q4, e4, f4⟩ := own_add h h1.c h1.c
      rw [own_mul h, Option.bind_some, own_mul h, Option.bind_some, q3, Option.bind_some, q4, Option.bind_some]
      refine Tot.mono (own_130 h ri rx ry x1 y1 x1 _ _ h1.b h1.c h1.b f3 f4 (by rw [e4]; exact hs')) ?_
      rintro r ⟨k0, k1, k2, d, l, k3, k4, k5, k6⟩
      rw [g1, g2]
      obtain ⟨j1, j2, j3, j4⟩ := fin3 r _ _ d l k3 k4 k5 k6
      rw [e4, eq, own_ci_m, own_ci_add] at j1
      rw [e3, eq, own_ci_m, own_ci_add, e2, eq, own_ci_m, own_ci_mul, e1, eq, own_ci_m, own_ci_mul] at j2
      have n3 : own_ci q (3 : Int64).toInt = (3 : Fin q) := own_ci_n q 3
      rw [n3] at j2
      refine to_pt r k0 k1 k2 (own_li_A id o1 o2 (Or.inr ⟨rfl, rfl, fun q => ?_, ?_⟩) j3 j4)
      · rw [← own_ci_add, ← own_ci_0] at q
        have := own_ci_i _ q
        rw [← eq] at this
        exact hs' (by rw [this]; exact Int.zero_emod _)
      · clear o1 o2 j3 j4 fin3 to_pt res
        grobner
    · exfalso
      have c12 : (y1.toInt * y1.toInt) % p.toInt = (y2.toInt * y2.toInt) % p.toInt := by rw [h1.d g1, h2.d g2]
      rcases own_2sq hi c12 with q | q
      · exact own_nz h h1.c h2.c gy q
      · exact hs' q
  refine Tot.ite (fun gx => ?_) (fun gx => f56 (fun q => absurd q gx))
  obtain ⟨q1, e1, f1⟩ := own_add h h1.c h2.c
  rw [q1, Option.bind_some]
  refine Tot.ite (fun g3 => ?_) (fun g3 => f56 (fun _ => ?_))
  · refine res 0 0 1 ⟨Or.inr rfl, fz, fz, fun q => absurd q (by decide)⟩ (Or.inr (Or.inr (Or.inl ⟨own_ci q x1.toInt, own_ci q y1.toInt, ?_, ?_, rfl⟩)))
    · rw [g1]; rfl
    · rw [g2, own_cp_0, gx]
      rw [leqI, e1, z] at g3
      have : own_ci q (y1.toInt + y2.toInt) = 0 := by
        rw [← own_ci_0]
        apply own_ci_e
        rw [← eq, g3]
        exact (Int.zero_emod _).symm
      rw [own_ci_add] at this
      have t : own_ci q y2.toInt = - own_ci q y1.toInt := by
        generalize own_ci q y1.toInt = u at this ⊢
        generalize own_ci q y2.toInt = v at this ⊢
        clear o1 o2 fin3 to_pt res chord f56
        grobner
      rw [t]
  · rw [leqI, e1, z] at g3
    exact g3
theorem own_ushrj {e : Int64} (h : 0 ≤ e.toInt) {j : Int32} (j0 : 0 ≤ j.toInt) (j1 : j.toInt < 64) : (XT.ushrL e j).toInt = e.toInt / 2 ^ j.toInt.toNat ∧ 0 ≤ (XT.ushrL e j).toInt := by
  have hm : e.toBitVec.msb = false := by rw [BitVec.msb_eq_toInt]; simpa using h
  have e1 : e.toInt = (e.toBitVec.toNat : Int) := BitVec.toInt_eq_toNat_of_msb hm
  have lt : e.toBitVec.toNat < 2 ^ 63 := by
    have := BitVec.msb_eq_false_iff_two_mul_lt.1 hm
    omega
  have ej : j = Int32.ofNat j.toInt.toNat := by
    rw [ieq, Int32.toInt_ofNat_of_lt (by omega)]; omega
  have q : (XT.ushrL e j).toBitVec = e.toBitVec >>> j.toInt.toNat := by
    have all : ∀ k : Fin 64, (XT.ushrL e (Int32.ofNat k.val)).toBitVec = e.toBitVec >>> k.val := by
      intro k
      have s : ∀ k : Fin 64, (((Int32.ofNat k.val).toInt64.toUInt64 &&& Int64.toUInt64 63).toBitVec % 64#64).toNat = k.val := by decide +kernel
      have sk := s k
      show e.toBitVec >>> (((Int32.ofNat k.val).toInt64.toUInt64 &&& Int64.toUInt64 63).toBitVec % 64#64) = _
      rw [BitVec.ushiftRight_eq', sk]
    have := all ⟨j.toInt.toNat, by omega⟩
    simp only at this
    rw [← ej] at this
    exact this
  have n : (XT.ushrL e j).toBitVec.toNat = e.toBitVec.toNat / 2 ^ j.toInt.toNat := by rw [q, BitVec.toNat_ushiftRight, Nat.shiftRight_eq_div_pow]
  have le : e.toBitVec.toNat / 2 ^ j.toInt.toNat ≤ e.toBitVec.toNat := Nat.div_le_self _ _
  have hx : (XT.ushrL e j).toBitVec.msb = false := by rw [BitVec.msb_eq_decide, decide_eq_false_iff_not, n]; omega
  have e2 : (XT.ushrL e j).toInt = ((XT.ushrL e j).toBitVec.toNat : Int) := BitVec.toInt_eq_toNat_of_msb hx
  refine ⟨?_, by omega⟩
  rw [e2, e1, n, Int.natCast_ediv, Int.natCast_pow]
  rfl
theorem own_smX {q : Nat} [NeZero q] {p a b : Int64} (eq : p.toInt = q) (C : own_Cv (own_ci q a.toInt) (own_ci q b.toInt)) (h : own_pr p) (ha : own_fd p a) (hb : own_fd p b) (x y : Int64) (i : Int32) (k : Int64) (k0 : 0 ≤ k.toInt) (hq : own_pt p a b x y i) :
    ∀ (n : Nat) (ri : Int32) (rx ry ax ay : Int64) (ai j : Int32) (m : Nat), own_pt p a b ax ay ai → own_cp q ax ay ai = own_ml (own_ci q a.toInt) (own_ci q b.toInt) (own_cp q x y i) (k.toInt.toNat / 2 ^ m) → j.toInt + 1 = m → m ≤ 48 → m < n → Tot (f_scalarMul_13 (f_scalarMul_102 p a) p a n ri rx ry x y i k ax ay ai j) (fun r => own_pt p a b r.2.1 r.2.2 r.1 ∧ own_cp q r.2.1 r.2.2 r.1 = own_ml (own_ci q a.toInt) (own_ci q b.toInt) (own_cp q x y i) k.toInt.toNat) := by
  have hi := own_pr_i h
  have hp := own_pr_b hi
  have z : (0 : Int64).toInt = 0 := rfl
  have z0 : (0 : Int32).toInt = 0 := rfl
  have fz : own_fd p 0 := ⟨by omega, by omega⟩
  have oP := own_cp_on eq hq
  intro n
  induction n with
  | zero => intro ri rx ry ax ay ai j m h0 h1 h2 h3 h4; exfalso; omega
  | succ n ih =>
    intro ri rx ry ax ay ai j m h0 h1 h2 h3 h4
    unfold f_scalarMul_13
    refine Tot.ite (fun g => ?_) (fun g => ?_)
    · rw [ilt] at g
      have m0 : m = 0 := by omega
      subst m0
      rw [Nat.pow_zero, Nat.div_one] at h1
      unfold f_scalarMul_102 f_setResult f_setResult_17 f_setResult_31
      rw [if_pos h0.a, Option.bind_some]
      refine Tot.mk ?_
      show own_pt p a b (if ai = 0 then ax else 0) (if ai = 0 then ay else 0) ai ∧ own_cp q (if ai = 0 then ax else 0) (if ai = 0 then ay else 0) ai = _
      by_cases g : ai = 0
      · rw [if_pos g, if_pos g]; exact ⟨h0, h1⟩
      · rw [if_neg g, if_neg g]
        refine ⟨⟨h0.a, fz, fz, fun q => absurd q g⟩, ?_⟩
        rw [← h1]
        unfold own_cp
        rw [if_neg g, if_neg g]
    · rw [ilt] at g
      have g' : 0 ≤ j.toInt := by omega
      have ej : (j + -1).toInt = j.toInt - 1 := by
        have m1 : (-1 : Int32).toInt = -1 := rfl
        rw [iadd_i (by omega) (by omega), m1]
        omega
      obtain ⟨m', rfl⟩ : ∃ m', m = m' + 1 := ⟨m - 1, by omega⟩
      have ej' : j.toInt.toNat = m' := by omega
      have half : k.toInt.toNat / 2 ^ (m' + 1) = k.toInt.toNat / 2 ^ m' / 2 := by rw [Nat.pow_succ, Nat.div_div_eq_div_mul]
      obtain ⟨us, us0⟩ := own_ushrj k0 g' (by omega)
      have bit : (XT.ushrL k j &&& 1).toInt = ((k.toInt.toNat / 2 ^ m' % 2 : Nat) : Int) := by
        rw [own_and1 us0, us, ej', Int.natCast_emod, Int.natCast_ediv, Int.natCast_pow, Int.toNat_of_nonneg k0]
        rfl
      refine Tot.bind (own_paX eq C.1 h ha hb ri rx ry ax ay ai ax ay ai h0 h0) ?_
      rintro ⟨s, t, u⟩ ⟨q1, q2⟩
      have oA := own_cp_on eq h0
      have q3 := own_pl_e C oA oA q2
      rw [h1, half, ← own_ml_add C oP] at q3
      have q3 : own_ml (own_ci q a.toInt) (own_ci q b.toInt) (own_cp q x y i) (k.toInt.toNat / 2 ^ m' / 2 + k.toInt.toNat / 2 ^ m' / 2) = own_cp q t u s := q3
      refine Tot.ite (fun g2 => ?_) (fun g2 => ?_)
      · rw [leqI, bit] at g2
        have g2 : ((k.toInt.toNat / 2 ^ m' % 2 : Nat) : Int) = 1 := g2
        refine Tot.bind (own_paX eq C.1 h ha hb s t u t u s x y i q1 hq) ?_
        rintro ⟨s', t', u'⟩ ⟨q4, q5⟩
        have q6 := own_pl_e C (own_cp_on eq q1) oP q5
        refine ih s' t' u' t' u' s' (j + -1) m' q4 ?_ (by omega) (by omega) (by omega)
        rw [← q3] at q6
        have e : k.toInt.toNat / 2 ^ m' = (k.toInt.toNat / 2 ^ m' / 2 + k.toInt.toNat / 2 ^ m' / 2) + 1 := by
          generalize k.toInt.toNat / 2 ^ m' = N at g2
          omega
        rw [e]
        exact q6.symm
      · rw [leqI, bit] at g2
        have g2 : ¬ ((k.toInt.toNat / 2 ^ m' % 2 : Nat) : Int) = 1 := g2
        refine ih s t u t u s (j + -1) m' q1 ?_ (by omega) (by omega) (by omega)
        have e : k.toInt.toNat / 2 ^ m' = (k.toInt.toNat / 2 ^ m' / 2 + k.toInt.toNat / 2 ^ m' / 2) := by
          generalize k.toInt.toNat / 2 ^ m' = N at g2
          omega
        rw [e]
        exact q3.symm
theorem own_sMX {q : Nat} [NeZero q] {p a b : Int64} (eq : p.toInt = q) (C : own_Cv (own_ci q a.toInt) (own_ci q b.toInt)) (h : own_pr p) (ha : own_fd p a) (hb : own_fd p b) (ri : Int32) (rx ry x y : Int64) (i : Int32) (k : Int64) (k0 : 0 ≤ k.toInt) (k1 : k.toInt < 281474976710656) (hq : own_pt p a b x y i) : Tot (f_scalarMul p a ri rx ry x y i k) (fun r => own_pt p a b r.2.1 r.2.2 r.1 ∧ own_cp q r.2.1 r.2.2 r.1 = own_ml (own_ci q a.toInt) (own_ci q b.toInt) (own_cp q x y i) k.toInt.toNat) := by
  have hp := own_pr_b (own_pr_i h)
  have z : (0 : Int64).toInt = 0 := rfl
  have fz : own_fd p 0 := ⟨by omega, by omega⟩
  unfold f_scalarMul
  refine own_smX eq C h ha hb x y i k k0 hq 100000 ri rx ry 0 0 1 47 48 ⟨Or.inr rfl, fz, fz, fun q => absurd q (by decide)⟩ ?_ (by decide) (by decide) (by decide)
  rw [Nat.div_eq_of_lt (by omega)]
  rfl
theorem own_bpt {P a x y : Int} : (x * x * x + a * x + own_bI P a x y) % P = (y * y) % P := by
  unfold own_bI
  have t : ((x * x) % P * x) % P = (x * x * x) % P := own_mp (own_ee _ _) rfl
  rw [t]
  generalize x * x * x = X
  generalize a * x = A
  generalize y * y = Y
  have e : (Y % P - X % P - A % P) % P = (Y - X - A) % P := by
    rw [Int.sub_emod, Int.sub_emod (Y % P), own_ee, own_ee, own_ee, ← Int.sub_emod Y, ← Int.sub_emod]
  rw [e, Int.add_comm, own_am]
  congr 1
  omega
theorem own_cpt {p a gx gy b : Int64} (ha : own_fd p a) (hx : own_fd p gx) (hy : own_fd p gy) (e : b.toInt = own_bI p.toInt a.toInt gx.toInt gy.toInt) : own_pt p a b gx gy 0 := by
  refine ⟨Or.inl rfl, hx, hy, fun _ => ?_⟩
  rw [e, own_bpt]
theorem own_193 (pk : List Int64) (hk : List Int32) (px py : List Int64) (pi msg : List Int32) (p a gx gy b : Int64) (ml : Int32) (sx sy : Int64) (si : Int32) (ss : Int64) (se ri : Int32) (rx ry : Int64) :
    f_init_193 f_init_215 100000 [0, 0, 0, 0, 0, 0, 0, 0] [0, 0, 0, 0, 0, 0, 0, 0] [0, 0, 0, 0, 0, 0, 0, 0] pk hk px py pi msg p a gx gy b ml sx sy si ss se ri rx ry 0 = some ([gx, 0, 0, 0, 0, 0, 0, 0], [gy, 0, 0, 0, 0, 0, 0, 0], [0, 1, 1, 1, 1, 1, 1, 1], pk, hk, px, py, pi, msg, p, a, gx, gy, b, 0, 0, 0, 1, 0, 0, ri, rx, ry) := by
  have m1 : (1 : Int32) &&& 1 = 1 := by decide
  have m0 : (0 : Int32) &&& 1 = 0 := by decide
  simp [f_init_193, f_setRegister, f_setRegister_23, f_setRegister_40, f_init_215, wrA, m1, m0]
theorem own_dF {q : Nat} [NeZero q] {p a b gx gy : Int64} (eq : p.toInt = q) (e : b.toInt = own_bI p.toInt a.toInt gx.toInt gy.toInt) : own_ci q b.toInt = own_ci q gy.toInt * own_ci q gy.toInt - own_ci q gx.toInt * own_ci q gx.toInt * own_ci q gx.toInt - own_ci q a.toInt * own_ci q gx.toInt := by
  rw [e]
  unfold own_bI
  rw [eq, own_ci_m, own_ci_sub, own_ci_sub, own_ci_m, own_ci_m, own_ci_m, own_ci_mul, own_ci_mul, own_ci_m, own_ci_mul, own_ci_mul]
theorem own_dG {q : Nat} [NeZero q] {p : Int64} (eq : p.toInt = q) (a b : Int) : own_ci q (own_dI p.toInt a b) = 4 * own_ci q a * own_ci q a * own_ci q a + 27 * own_ci q b * own_ci q b := by
  have n4 : own_ci q 4 = (4 : Fin q) := own_ci_n q 4
  have n27 : own_ci q 27 = (27 : Fin q) := own_ci_n q 27
  unfold own_dI
  rw [eq, own_ci_m, own_ci_add, own_ci_mul, own_ci_mul, own_ci_m, own_ci_m, own_ci_mul, own_ci_m, own_ci_mul, own_ci_mul, n4, n27]
  grobner
theorem own_142 {p gx gy : Int64} (pk : List Int64) (hk : List Int32) (px py : List Int64) (pi msg : List Int32) (h : own_pr p) (hx : own_fd p gx) (hy : own_fd p gy) (n : Nat) (a b : Int64) (i : Int32) (ha : own_fd p a) (hb : own_fd p b) (eb : b.toInt = own_bI p.toInt a.toInt gx.toInt gy.toInt) (hi : i.toInt < 8) :
    (¬ own_dI p.toInt a.toInt b.toInt = 0 ∧ f_init_142 (f_init_193 f_init_215 100000) (n + 1) [0, 0, 0, 0, 0, 0, 0, 0] [0, 0, 0, 0, 0, 0, 0, 0] [0, 0, 0, 0, 0, 0, 0, 0] pk hk px py pi msg p a gx gy b 0 0 0 0 0 0 0 0 0 i = some ([gx, 0, 0, 0, 0, 0, 0, 0], [gy, 0, 0, 0, 0, 0, 0, 0], [0, 1, 1, 1, 1, 1, 1, 1], pk, hk, px, py, pi, msg, p, a, gx, gy, b, 0, 0, 0, 1, 0, 0, 0, 0, 0)) ∨
    (own_dI p.toInt a.toInt b.toInt = 0 ∧ ∃ a' b', own_fd p a' ∧ own_fd p b' ∧ a'.toInt = (a.toInt + 1) % p.toInt ∧ b'.toInt = own_bI p.toInt a'.toInt gx.toInt gy.toInt ∧ f_init_142 (f_init_193 f_init_215 100000) (n + 1) [0, 0, 0, 0, 0, 0, 0, 0] [0, 0, 0, 0, 0, 0, 0, 0] [0, 0, 0, 0, 0, 0, 0, 0] pk hk px py pi msg p a gx gy b 0 0 0 0 0 0 0 0 0 i = f_init_142 (f_init_193 f_init_215 100000) n [0, 0, 0, 0, 0, 0, 0, 0] [0, 0, 0, 0, 0, 0, 0, 0] [0, 0, 0, 0, 0, 0, 0, 0] pk hk px py pi msg p a' gx gy b' 0 0 0 0 0 0 0 0 0 (i + 1)) := by
  have hp := own_pr_b (own_pr_i h)
  have z : (0 : Int64).toInt = 0 := rfl
  obtain ⟨d, e, ed, -⟩ := own_disc h ha hb
  by_cases g2 : d = 0
  · right
    have t1 : own_fd p 1 := ⟨by decide, by have e : (1 : Int64).toInt = 1 := rfl; omega⟩
    obtain ⟨-, e1, f1⟩ := own_add h ha t1
    obtain ⟨b', e', eb', f2⟩ := own_cb h f1 hx hy
    refine ⟨by rw [← ed, g2, z], _, b', f1, f2, e1, eb', ?_⟩
    conv => lhs; unfold f_init_142
    rw [if_pos (ilt.mpr hi), e, Option.bind_some, if_pos g2, if_neg (own_ne h), e', Option.bind_some]
  · left
    refine ⟨fun k => g2 (by rw [leqI, ed, k, z]), ?_⟩
    unfold f_init_142
    rw [if_pos (ilt.mpr hi), e, Option.bind_some, if_neg g2, own_193]
theorem own_initX (v0 va v1 v2 : Int32) : ∃ (p a gx gy b : Int64), own_pr p ∧ own_fd p a ∧ own_fd p gx ∧ own_fd p gy ∧ own_fd p b ∧ own_pt p a b gx gy 0 ∧ ¬ own_dI p.toInt a.toInt b.toInt = 0 ∧
    f_init v0 va v1 v2 = some ([gx, 0, 0, 0, 0, 0, 0, 0], [gy, 0, 0, 0, 0, 0, 0, 0], [0, 1, 1, 1, 1, 1, 1, 1], [0, 0, 0, 0], [0, 0, 0, 0], [0, 0, 0, 0], [0, 0, 0, 0], [0, 0, 0, 0], List.replicate 64 0, p, a, gx, gy, b, 0, 0, 0, 1, 0, 0, 0, 0, 0) := by
  unfold f_init f_init_82 f_init_93
  obtain ⟨p, e, h⟩ := own_prime (if (7 : Int32) < (if v0 < (0 : Int32) then (0 : Int32) else v0) then (7 : Int32) else (if v0 < (0 : Int32) then (0 : Int32) else v0))
  obtain ⟨a, ea, ha, -⟩ := own_clF h va
  obtain ⟨gx, ex, hx, -⟩ := own_clF h v1
  obtain ⟨gy, ey, hy, -⟩ := own_clF h v2
  obtain ⟨b, eb, eqb, hb⟩ := own_cb h ha hx hy
  rw [e, Option.bind_some, ea, Option.bind_some, ex, Option.bind_some, ey, Option.bind_some, eb, Option.bind_some]
  have r8 : (List.replicate 8 0 : List Int64) = [0, 0, 0, 0, 0, 0, 0, 0] := rfl
  have i8 : (List.replicate 8 0 : List Int32) = [0, 0, 0, 0, 0, 0, 0, 0] := rfl
  have r4 : (List.replicate 4 0 : List Int64) = [0, 0, 0, 0] := rfl
  have i4 : (List.replicate 4 0 : List Int32) = [0, 0, 0, 0] := rfl
  rw [r8, i8, r4, i4]
  have st := fun (n : Nat) (a b : Int64) (i : Int32) (ha : own_fd p a) (hb : own_fd p b) (eb : b.toInt = own_bI p.toInt a.toInt gx.toInt gy.toInt) (hi : i.toInt < 8) => own_142 [0, 0, 0, 0] [0, 0, 0, 0] [0, 0, 0, 0] [0, 0, 0, 0] [0, 0, 0, 0] (List.replicate 64 0) h hx hy n a b i ha hb eb hi
  rcases st 99999 a b 0 ha hb eqb (by decide) with ⟨d0, q0⟩ | ⟨d0, a1, b1, ha1, hb1, ea1, eb1, q0⟩
  · exact ⟨p, a, gx, gy, b, h, ha, hx, hy, hb, own_cpt ha hx hy eqb, d0, q0⟩
  rcases st 99998 a1 b1 1 ha1 hb1 eb1 (by decide) with ⟨d1, q1⟩ | ⟨d1, a2, b2, ha2, hb2, ea2, eb2, q1⟩
  · exact ⟨p, a1, gx, gy, b1, h, ha1, hx, hy, hb1, own_cpt ha1 hx hy eb1, d1, q0.trans q1⟩
  rcases st 99997 a2 b2 2 ha2 hb2 eb2 (by decide) with ⟨d2, q2⟩ | ⟨d2, a3, b3, ha3, hb3, ea3, eb3, q2⟩
  · exact ⟨p, a2, gx, gy, b2, h, ha2, hx, hy, hb2, own_cpt ha2 hx hy eb2, d2, q0.trans (q1.trans q2)⟩
  rcases st 99996 a3 b3 3 ha3 hb3 eb3 (by decide) with ⟨d3, q3⟩ | ⟨d3, a4, b4, ha4, hb4, ea4, eb4, q3⟩
  · exact ⟨p, a3, gx, gy, b3, h, ha3, hx, hy, hb3, own_cpt ha3 hx hy eb3, d3, q0.trans (q1.trans (q2.trans q3))⟩
  exfalso
  have hp := own_pr_b (own_pr_i h)
  have eq : p.toInt = (p.toInt.toNat : Int) := by omega
  have q24 : 8191 ≤ p.toInt.toNat := by omega
  generalize p.toInt.toNat = q at eq q24
  have nz : NeZero q := ⟨by omega⟩
  have D : ∀ u v : Int, own_dI p.toInt u v = 0 → 4 * own_ci q u * own_ci q u * own_ci q u + 27 * own_ci q v * own_ci q v = 0 := by
    intro u v k
    rw [← own_dG eq, k, own_ci_0]
  have E1 := D _ _ d0
  have E2 := D _ _ d1
  have E3 := D _ _ d2
  have E4 := D _ _ d3
  rw [own_dF eq eqb] at E1
  rw [own_dF eq eb1, ea1, eq, own_ci_m, own_ci_add, own_ci_1] at E2
  rw [own_dF eq eb2, ea2, eq, own_ci_m, own_ci_add, own_ci_1, ea1, eq, own_ci_m, own_ci_add, own_ci_1] at E3
  rw [own_dF eq eb3, ea3, eq, own_ci_m, own_ci_add, own_ci_1, ea2, eq, own_ci_m, own_ci_add, own_ci_1, ea1, eq, own_ci_m, own_ci_add, own_ci_1] at E4
  clear D st d0 d1 d2 d3
  generalize own_ci q gy.toInt * own_ci q gy.toInt - own_ci q gx.toInt * own_ci q gx.toInt * own_ci q gx.toInt = K at E1 E2 E3 E4
  generalize own_ci q gx.toInt = G at E1 E2 E3 E4
  generalize own_ci q a.toInt = A at E1 E2 E3 E4
  have t : (24 : Fin q) = 0 := by
    have i : (4 * (A + 1 + 1 + 1) * (A + 1 + 1 + 1) * (A + 1 + 1 + 1) + 27 * (K - (A + 1 + 1 + 1) * G) * (K - (A + 1 + 1 + 1) * G)) - 3 * (4 * (A + 1 + 1) * (A + 1 + 1) * (A + 1 + 1) + 27 * (K - (A + 1 + 1) * G) * (K - (A + 1 + 1) * G)) + 3 * (4 * (A + 1) * (A + 1) * (A + 1) + 27 * (K - (A + 1) * G) * (K - (A + 1) * G)) - (4 * A * A * A + 27 * (K - A * G) * (K - A * G)) = 24 := by clear E1 E2 E3 E4; grobner
    rw [E1, E2, E3, E4] at i
    rw [← i]
    clear E1 E2 E3 E4 i
    grobner
  have v : (24 : Fin q).val = 24 := Nat.mod_eq_of_lt (show 24 < q by omega)
  rw [t] at v
  have : (0 : Fin q).val = 0 := rfl
  omega
theorem own_CvX {q : Nat} [NeZero q] {p : Int64} (eq : p.toInt = q) (h : own_pr p) {a b : Int64} (d : ¬ own_dI p.toInt a.toInt b.toInt = 0) : own_Cv (own_ci q a.toInt) (own_ci q b.toInt) := by
  have hi := own_pr_i h
  have hp := own_pr_b hi
  obtain ⟨pp, -⟩ := own_prm hi
  have e : p.toInt.toNat = q := by omega
  rw [e] at pp
  obtain ⟨f1, f2, f3⟩ := own_fld pp (by omega)
  refine ⟨f1, f2, fun k => d ?_, f3⟩
  rw [← own_dG eq, ← own_ci_0] at k
  have := own_ci_i q k
  have m : own_dI p.toInt a.toInt b.toInt % p.toInt = own_dI p.toInt a.toInt b.toInt := by unfold own_dI; exact Int.emod_emod_of_dvd _ (Int.dvd_refl _)
  rw [← eq, m] at this
  rw [this]
  exact Int.zero_emod _
def own_gL (L : List Int64) (j : Int32) : Int64 := (rdA L j).getD 0
theorem own_rdL {L : List Int64} {j : Int32} (h0 : 0 ≤ j.toInt) (h1 : j.toInt < L.length) : rdA L j = some (own_gL L j) := by
  have h2 : j.toInt.toNat < L.length := by omega
  unfold own_gL
  rw [rdA_in h0 h2]
  rfl
theorem own_setL {L : List Int64} {i j : Int32} {x : Int64} (hi : 0 ≤ i.toInt) (hl : i.toInt < L.length) (hj : 0 ≤ j.toInt) : own_gL (L.set i.toInt.toNat x) j = if i = j then x else own_gL L j := by
  unfold own_gL
  rw [rdA_nn hj, rdA_nn hj]
  by_cases h : i = j
  · subst h
    rw [if_pos rfl, List.getElem?_set_self (by omega)]
    rfl
  · rw [if_neg h, List.getElem?_set_ne (by rw [ieq] at h; omega)]
theorem own_tL {β : Type} {L : List Int64} {j : Int32} {f : Int64 → Option β} {Q : β → Prop} (h0 : 0 ≤ j.toInt) (h1 : j.toInt < L.length) (g : Tot (f (own_gL L j)) Q) : Tot ((rdA L j).bind f) Q := by
  rw [own_rdL h0 h1]
  exact g
abbrev own_R (p a b : Int64) (RX RY : List Int64) (RI : List Int32) : Prop := (RX.length = 8) ∧ (RY.length = 8) ∧ (RI.length = 8) ∧ (∀ j : Int32, 0 ≤ j.toInt → j.toInt < 8 → own_pt p a b (own_gL RX j) (own_gL RY j) (gI RI j))
theorem own_R.x {p a b : Int64} {RX RY : List Int64} {RI : List Int32} (self : own_R p a b RX RY RI) : RX.length = 8 := self.1
theorem own_R.y {p a b : Int64} {RX RY : List Int64} {RI : List Int32} (self : own_R p a b RX RY RI) : RY.length = 8 := self.2.1
theorem own_R.i {p a b : Int64} {RX RY : List Int64} {RI : List Int32} (self : own_R p a b RX RY RI) : RI.length = 8 := self.2.2.1
theorem own_R.q {p a b : Int64} {RX RY : List Int64} {RI : List Int32} (self : own_R p a b RX RY RI) : ∀ j : Int32, 0 ≤ j.toInt → j.toInt < 8 → own_pt p a b (own_gL RX j) (own_gL RY j) (gI RI j) := self.2.2.2
abbrev own_K (p a b : Int64) (PK : List Int64) (HK : List Int32) (PX PY : List Int64) (PI : List Int32) : Prop := (PK.length = 4) ∧ (HK.length = 4) ∧ (PX.length = 4) ∧ (PY.length = 4) ∧ (PI.length = 4) ∧ (∀ j : Int32, 0 ≤ j.toInt → j.toInt < 4 → ¬ gI HK j = 0 → own_pt p a b (own_gL PX j) (own_gL PY j) (gI PI j) ∧ 1 ≤ (own_gL PK j).toInt ∧ (own_gL PK j).toInt ≤ 2147483647)
theorem own_K.k {p a b : Int64} {PK : List Int64} {HK : List Int32} {PX PY : List Int64} {PI : List Int32} (self : own_K p a b PK HK PX PY PI) : PK.length = 4 := self.1
theorem own_K.h {p a b : Int64} {PK : List Int64} {HK : List Int32} {PX PY : List Int64} {PI : List Int32} (self : own_K p a b PK HK PX PY PI) : HK.length = 4 := self.2.1
theorem own_K.x {p a b : Int64} {PK : List Int64} {HK : List Int32} {PX PY : List Int64} {PI : List Int32} (self : own_K p a b PK HK PX PY PI) : PX.length = 4 := self.2.2.1
theorem own_K.y {p a b : Int64} {PK : List Int64} {HK : List Int32} {PX PY : List Int64} {PI : List Int32} (self : own_K p a b PK HK PX PY PI) : PY.length = 4 := self.2.2.2.1
theorem own_K.i {p a b : Int64} {PK : List Int64} {HK : List Int32} {PX PY : List Int64} {PI : List Int32} (self : own_K p a b PK HK PX PY PI) : PI.length = 4 := self.2.2.2.2.1
theorem own_K.q {p a b : Int64} {PK : List Int64} {HK : List Int32} {PX PY : List Int64} {PI : List Int32} (self : own_K p a b PK HK PX PY PI) : ∀ j : Int32, 0 ≤ j.toInt → j.toInt < 4 → ¬ gI HK j = 0 → own_pt p a b (own_gL PX j) (own_gL PY j) (gI PI j) ∧ 1 ≤ (own_gL PK j).toInt ∧ (own_gL PK j).toInt ≤ 2147483647 := self.2.2.2.2.2
theorem own_m01 {i : Int32} (h : i = 0 ∨ i = 1) : i &&& 1 = i := by
  rcases h with rfl | rfl <;> decide
theorem own_vR (r : Int32) : ∃ v, f_validRegister r = some v ∧ (v = 0 ∨ (0 ≤ r.toInt ∧ r.toInt < 8)) := by
  unfold f_validRegister
  have z : (0 : Int32).toInt = 0 := rfl
  have e : (8 : Int32).toInt = 8 := rfl
  by_cases g : r < 0
  · exact ⟨0, by rw [if_pos g], Or.inl rfl⟩
  · by_cases g2 : r < 8
    · refine ⟨1, by rw [if_neg g, if_pos g2], Or.inr ?_⟩
      rw [ilt] at g g2
      omega
    · exact ⟨0, by rw [if_neg g, if_neg g2], Or.inl rfl⟩
theorem own_tvR {β : Type} {r : Int32} {f : Int32 → Option β} {a : Option β} {b : Option β} {Q : β → Prop} (hf : ∀ v, f v = if v = 0 then a else b) (h0 : Tot a Q) (h1 : 0 ≤ r.toInt → r.toInt < 8 → Tot b Q) : Tot ((f_validRegister r).bind f) Q := by
  obtain ⟨v, e, q⟩ := own_vR r
  rw [e, Option.bind_some, hf]
  refine Tot.ite (fun _ => h0) (fun g => ?_)
  rcases q with q | q
  · exact absurd q g
  · exact h1 q.1 q.2
theorem own_rhs (P x a b : Int) : (((x * x) % P * x) % P + (a * x) % P + b) % P = (x * x * x + a * x + b) % P := by
  have t : ((x * x) % P * x) % P = (x * x * x) % P := own_mp (own_ee _ _) rfl
  rw [t, Int.add_emod, Int.add_emod ((x * x * x) % P), own_ee, own_ee, ← Int.add_emod (x * x * x), ← Int.add_emod]
theorem own_155 {M : List Int32} {ml : Int32} (hM : M.length = 64) (h0 : 0 ≤ ml.toInt) (h1 : ml.toInt ≤ 64) : ∀ (n : Nat) (v i : Int32), 0 ≤ i.toInt → i.toInt ≤ 64 → 64 - i.toInt < n → Tot (f_challenge_155 (f_challenge_192 M ml) M ml n v i) (fun r => 0 ≤ r.toInt ∧ r.toInt ≤ 65535) := by
  have k : ∀ v, Tot (f_challenge_192 M ml v) (fun r => 0 ≤ r.toInt ∧ r.toInt ≤ 65535) := fun v => by
    unfold f_challenge_192
    exact Tot.mk (iand_rng _ 65535 (by decide))
  intro n
  induction n with
  | zero => intro v i h2 h3 h4; exfalso; omega
  | succ n ih =>
    intro v i h2 h3 h4
    unfold f_challenge_155
    refine Tot.ite (fun g => Tot.ite (fun g2 => ?_) (fun _ => k v)) (fun _ => k v)
    have g' := ilt.mp g
    have ei : (i + 1).toInt = i.toInt + 1 := by
      have o : (1 : Int32).toInt = 1 := rfl
      rw [iadd_i (by omega) (by omega), o]
    refine Tot.rdI h2 (by omega) ?_
    unfold f_mix
    rw [Option.bind_some]
    exact ih _ (i + 1) (by omega) (by omega) (by omega)
theorem own_chal {M : List Int32} {ml : Int32} (hM : M.length = 64) (h0 : 0 ≤ ml.toInt) (h1 : ml.toInt ≤ 64) (i : Int32) (x y : Int64) (j : Int32) (u v : Int64) : Tot (f_challenge M ml i x y j u v) (fun r => 0 ≤ r.toInt ∧ r.toInt ≤ 65535) := by
  have mx : ∀ a b, ∃ c, f_mix a b = some c := fun a b => ⟨_, rfl⟩
  unfold f_challenge f_challenge_13
  obtain ⟨c1, e1⟩ := mx 1779033703 (if i = 0 then (0 : Int32) else 1)
  rw [e1, Option.bind_some]
  unfold f_challenge_35
  obtain ⟨c2, e2⟩ := mx c1 (if i = 0 then x.toInt32 else 0)
  rw [e2, Option.bind_some]
  unfold f_challenge_58
  obtain ⟨c3, e3⟩ := mx c2 (if i = 0 then y.toInt32 else 0)
  rw [e3, Option.bind_some]
  unfold f_challenge_80
  obtain ⟨c4, e4⟩ := mx c3 (if j = 0 then (0 : Int32) else 1)
  rw [e4, Option.bind_some]
  unfold f_challenge_104
  obtain ⟨c5, e5⟩ := mx c4 (if j = 0 then u.toInt32 else 0)
  rw [e5, Option.bind_some]
  unfold f_challenge_128
  obtain ⟨c6, e6⟩ := mx c5 (if j = 0 then v.toInt32 else 0)
  rw [e6, Option.bind_some]
  obtain ⟨c7, e7⟩ := mx c6 ml
  rw [e7, Option.bind_some]
  exact own_155 hM h0 h1 100000 c7 0 (by decide) (by decide) (by decide)
theorem own_coord {p a b : Int64} {RX RY : List Int64} {RI : List Int32} (hR : own_R p a b RX RY RI) (r : Int32) (h0 : 0 ≤ r.toInt) (h1 : r.toInt < 8) :
    f_coord RX RY RI r 0 = some (if gI RI r = 0 then (own_gL RX r).toInt32 else 0) ∧ f_coord RX RY RI r 1 = some (if gI RI r = 0 then (own_gL RY r).toInt32 else 0) ∧ f_coord RX RY RI r 2 = some (if gI RI r = 0 then 0 else 1) := by
  have hx := hR.x
  have hy := hR.y
  have hi := hR.i
  have v : f_validRegister r = some 1 := by
    unfold f_validRegister
    have z : (0 : Int32).toInt = 0 := rfl
    have e : (8 : Int32).toInt = 8 := rfl
    rw [if_neg (by rw [ilt]; omega), if_pos (by rw [ilt]; omega)]
  have d1 : ¬ (1 : Int32) = 0 := by decide
  have d2 : ¬ (2 : Int32) = 0 := by decide
  have d3 : ¬ (2 : Int32) = 1 := by decide
  have rx := own_rdL (L := RX) (j := r) h0 (by omega)
  have ry := own_rdL (L := RY) (j := r) h0 (by omega)
  have ri := rdg (L := RI) (j := r) h0 (by omega)
  refine ⟨?_, ?_, ?_⟩
  · unfold f_coord
    rw [v, Option.bind_some, if_neg d1, if_pos rfl, ri, Option.bind_some]
    by_cases g : gI RI r = 0
    · rw [if_pos g, if_pos g, rx, Option.bind_some]
    · rw [if_neg g, if_neg g]
  · unfold f_coord
    rw [v, Option.bind_some, if_neg d1, if_neg d1, if_pos rfl, ri, Option.bind_some]
    by_cases g : gI RI r = 0
    · rw [if_pos g, if_pos g, ry, Option.bind_some]
    · rw [if_neg g, if_neg g]
  · unfold f_coord
    rw [v, Option.bind_some, if_neg d1, if_neg d2, if_neg d3, if_pos rfl, ri, Option.bind_some]
def own_rg (q : Nat) [NeZero q] (RX RY : List Int64) (RI : List Int32) (j : Int32) : Option (Fin q × Fin q) := own_cp q (own_gL RX j) (own_gL RY j) (gI RI j)
theorem own_cpz {q : Nat} [NeZero q] (x y : Int64) (i : Int32) : own_cp q (if i = 0 then x else 0) (if i = 0 then y else 0) i = own_cp q x y i := by
  unfold own_cp
  by_cases g : i = 0
  · rw [if_pos g, if_pos g, if_pos g, if_pos g]
  · rw [if_neg g, if_neg g]
theorem own_ptz {p a b x y : Int64} {i : Int32} (fz : own_fd p 0) (hq : own_pt p a b x y i) : own_pt p a b (if i = 0 then x else 0) (if i = 0 then y else 0) i := by
  by_cases g : i = 0
  · rw [if_pos g, if_pos g]; exact hq
  · rw [if_neg g, if_neg g]; exact ⟨hq.a, fz, fz, fun q => absurd q g⟩
theorem own_fz0 {p : Int64} (h : own_pr p) : own_fd p 0 := by
  have hp := own_pr_b (own_pr_i h)
  have z : (0 : Int64).toInt = 0 := rfl
  exact ⟨by omega, by omega⟩
theorem own_setX {q : Nat} [NeZero q] {p a b : Int64} {RX RY : List Int64} {RI : List Int32} (h : own_R p a b RX RY RI) (fz : own_fd p 0) (r : Int32) (h0 : 0 ≤ r.toInt) (h1 : r.toInt < 8) (x y : Int64) (i : Int32) (hq : own_pt p a b x y i) :
    Tot (f_setRegister RX RY RI r x y i) (fun t => own_R p a b t.1 t.2.1 t.2.2 ∧ ∀ j : Int32, 0 ≤ j.toInt → j.toInt < 8 → own_rg q t.1 t.2.1 t.2.2 j = if r = j then own_cp q x y i else own_rg q RX RY RI j) := by
  have hx := h.x
  have hy := h.y
  have hi := h.i
  unfold f_setRegister
  refine Tot.wr h0 (by omega) (fun A a1 a2 => ?_)
  unfold f_setRegister_23
  refine Tot.wr h0 (by omega) (fun B b1 b2 => ?_)
  unfold f_setRegister_40
  refine Tot.wr h0 (by omega) (fun C c1 c2 => Tot.mk ⟨⟨by show B.length = 8; omega, by show C.length = 8; omega, by show A.length = 8; omega, fun j j0 j1 => ?_⟩, fun j j0 j1 => ?_⟩)
  · show own_pt p a b (own_gL B j) (own_gL C j) (gI A j)
    rw [a1, b1, c1, gset h0 (by omega) j0, own_setL h0 (by omega) j0, own_setL h0 (by omega) j0, own_m01 hq.a]
    by_cases e : r = j
    · rw [if_pos e, if_pos e, if_pos e]
      exact own_ptz fz hq
    · rw [if_neg e, if_neg e, if_neg e]
      exact h.q j j0 j1
  · show own_rg q B C A j = _
    unfold own_rg
    rw [a1, b1, c1, gset h0 (by omega) j0, own_setL h0 (by omega) j0, own_setL h0 (by omega) j0, own_m01 hq.a]
    by_cases e : r = j
    · rw [if_pos e, if_pos e, if_pos e, if_pos e, own_cpz]
    · rw [if_neg e, if_neg e, if_neg e, if_neg e]
theorem own_vR1 {r : Int32} (h0 : 0 ≤ r.toInt) (h1 : r.toInt < 8) : f_validRegister r = some 1 := by
  have z : (0 : Int32).toInt = 0 := rfl
  have e : (8 : Int32).toInt = 8 := rfl
  unfold f_validRegister
  rw [if_neg (by rw [ilt]; omega), if_pos (by rw [ilt]; omega)]
theorem own_vP1 {r : Int32} (h0 : 0 ≤ r.toInt) (h1 : r.toInt < 4) : f_validParty r = some 1 := by
  have z : (0 : Int32).toInt = 0 := rfl
  have e : (4 : Int32).toInt = 4 := rfl
  unfold f_validParty
  rw [if_neg (by rw [ilt]; omega), if_pos (by rw [ilt]; omega)]
theorem own_mulX {q : Nat} [NeZero q] {p a b : Int64} (eq : p.toInt = q) (C : own_Cv (own_ci q a.toInt) (own_ci q b.toInt)) (h : own_pr p) (ha : own_fd p a) (hb : own_fd p b) {RX RY : List Int64} {RI : List Int32} (hR : own_R p a b RX RY RI) (ri : Int32) (rx ry : Int64) {u v : Int32} {w : Int64} (u0 : 0 ≤ u.toInt) (u1 : u.toInt < 8) (v0 : 0 ≤ v.toInt) (v1 : v.toInt < 8) (w0 : 0 ≤ w.toInt) (w1 : w.toInt < 281474976710656) :
    Tot (f_mul p a RX RY RI ri rx ry u v w) (fun t => t.1 = 1 ∧ own_R p a b t.2.1 t.2.2.1 t.2.2.2.1 ∧ ∀ j : Int32, 0 ≤ j.toInt → j.toInt < 8 → own_rg q t.2.1 t.2.2.1 t.2.2.2.1 j = if u = j then own_ml (own_ci q a.toInt) (own_ci q b.toInt) (own_rg q RX RY RI v) w.toInt.toNat else own_rg q RX RY RI j) := by
  have z : (0 : Int64).toInt = 0 := rfl
  have m : (281474976710656 : Int64).toInt = 281474976710656 := rfl
  have hx := hR.x
  have hy := hR.y
  have hi := hR.i
  unfold f_mul
  rw [own_vR1 u0 u1, Option.bind_some, if_neg (by decide), own_vR1 v0 v1, Option.bind_some, if_neg (by decide), if_neg (by rw [lltI]; omega), if_pos (by rw [lltI]; omega)]
  refine own_tL v0 (by omega) (own_tL v0 (by omega) (Tot.rdI v0 (by omega) ?_))
  refine Tot.bind (own_sMX eq C h ha hb ri rx ry _ _ _ w w0 w1 (hR.q v v0 v1)) ?_
  rintro ⟨s, t, r⟩ ⟨q1, q2⟩
  refine Tot.bind (own_setX (q := q) hR (own_fz0 h) u u0 u1 t r s q1) ?_
  rintro ⟨A, B, D⟩ ⟨q3, q4⟩
  refine Tot.mk ⟨rfl, q3, fun j j0 j1 => ?_⟩
  have q2 : own_cp q t r s = own_ml (own_ci q a.toInt) (own_ci q b.toInt) (own_rg q RX RY RI v) w.toInt.toNat := q2
  have := q4 j j0 j1
  rw [q2] at this
  exact this
theorem own_storeE (sx sy : Int64) (si : Int32) (ss x y : Int64) (i : Int32) (s : Int64) (hi : i = 0 ∨ i = 1) : f_storeSig sx sy si ss x y i s = some (if i = 0 then x else 0, if i = 0 then y else 0, i, s) := by
  unfold f_storeSig f_storeSig_17 f_storeSig_31
  rw [if_pos hi]
theorem own_chI2 (M : List Int32) (ml i : Int32) (x y : Int64) (j : Int32) (u v : Int64) : f_challenge M ml i (if i = 0 then x else 0) (if i = 0 then y else 0) j u v = f_challenge M ml i x y j u v := by
  by_cases g : i = 0
  · rw [if_pos g, if_pos g]
  · rw [if_neg g, if_neg g]
    unfold f_challenge f_challenge_13 f_challenge_35
    simp only [if_neg g]
theorem own_onY {p a b x y : Int64} (h : own_pr p) (ha : own_fd p a) (hb : own_fd p b) (hq : own_pt p a b x y 0) : f_onCurve p a b x y = some 1 := by
  have hx := hq.b
  have hy := hq.c
  have hd := hq.d rfl
  obtain ⟨e0, f0⟩ := own_mulI h hy hy
  obtain ⟨e1, f1⟩ := own_mulI h hx hx
  obtain ⟨e2, f2⟩ := own_mulI h f1 hx
  obtain ⟨e3, f3⟩ := own_mulI h ha hx
  obtain ⟨q4, e4, f4⟩ := own_add h f2 f3
  obtain ⟨q5, e5, f5⟩ := own_add h f4 hb
  unfold f_onCurve f_curveRhs
  rw [own_mul h, Option.bind_some, own_mul h, Option.bind_some, own_mul h, Option.bind_some, own_mul h, Option.bind_some, q4, Option.bind_some, q5, Option.bind_some, Option.bind_some]
  generalize hc : ((x * x % p * x % p + a * x % p) % p + b) % p = c at *
  rw [if_pos]
  rw [leqI, e0, e5, e4, own_am, e2, e1, e3, own_rhs]
  exact hd
abbrev own_KX (q : Nat) [NeZero q] (p a b gx gy : Int64) (PK : List Int64) (HK : List Int32) (PX PY : List Int64) (PI : List Int32) : Prop := (own_K p a b PK HK PX PY PI) ∧ (∀ j : Int32, 0 ≤ j.toInt → j.toInt < 4 → ¬ gI HK j = 0 → own_cp q (own_gL PX j) (own_gL PY j) (gI PI j) = own_ml (own_ci q a.toInt) (own_ci q b.toInt) (own_cp q gx gy 0) (own_gL PK j).toInt.toNat)
theorem own_KX.k {q : Nat} [NeZero q] {p a b gx gy : Int64} {PK : List Int64} {HK : List Int32} {PX PY : List Int64} {PI : List Int32} (self : own_KX q p a b gx gy PK HK PX PY PI) : own_K p a b PK HK PX PY PI := self.1
theorem own_KX.m {q : Nat} [NeZero q] {p a b gx gy : Int64} {PK : List Int64} {HK : List Int32} {PX PY : List Int64} {PI : List Int32} (self : own_KX q p a b gx gy PK HK PX PY PI) : ∀ j : Int32, 0 ≤ j.toInt → j.toInt < 4 → ¬ gI HK j = 0 → own_cp q (own_gL PX j) (own_gL PY j) (gI PI j) = own_ml (own_ci q a.toInt) (own_ci q b.toInt) (own_cp q gx gy 0) (own_gL PK j).toInt.toNat := self.2
theorem own_l64 (v : Int32) : v.toInt64.toInt = v.toInt := Int32.toInt_toInt64 v
theorem own_gnX {q : Nat} [NeZero q] {p a b gx gy : Int64} (eq : p.toInt = q) (C : own_Cv (own_ci q a.toInt) (own_ci q b.toInt)) (h : own_pr p) (ha : own_fd p a) (hb : own_fd p b) (hg : own_pt p a b gx gy 0) {PK : List Int64} {HK : List Int32} {PX PY : List Int64} {PI : List Int32} (hK : own_KX q p a b gx gy PK HK PX PY PI) (ri : Int32) (rx ry : Int64) {u v : Int32} (u0 : 0 ≤ u.toInt) (u1 : u.toInt < 4) (v1 : 1 ≤ v.toInt) :
    Tot (f_genKey p a gx gy PK HK PX PY PI ri rx ry u v) (fun t => t.1 = 1 ∧ own_KX q p a b gx gy t.2.1 t.2.2.1 t.2.2.2.1 t.2.2.2.2.1 t.2.2.2.2.2.1 ∧ (∀ j : Int32, 0 ≤ j.toInt → j.toInt < 4 → gI t.2.2.1 j = if u = j then 1 else gI HK j) ∧ t.2.1 = PK.set u.toInt.toNat v.toInt64) := by
  obtain ⟨⟨k1, k2, k3, k4, k5, k6⟩, m⟩ := hK
  have o : (1 : Int32).toInt = 1 := rfl
  have rv := irng v
  have tv := own_l64 v
  unfold f_genKey
  rw [own_vP1 u0 u1, Option.bind_some, if_neg (by decide), if_neg (by rw [ilt]; omega)]
  refine Tot.bind (own_sMX eq C h ha hb ri rx ry gx gy 0 v.toInt64 (by omega) (by omega) hg) ?_
  rintro ⟨s, t, r⟩ ⟨q1, q2⟩
  have q1 : own_pt p a b t r s := q1
  have q2 : own_cp q t r s = own_ml (own_ci q a.toInt) (own_ci q b.toInt) (own_cp q gx gy 0) v.toInt64.toInt.toNat := q2
  refine Tot.wr u0 (by omega) (fun A a1 a2 => ?_)
  refine Tot.wr u0 (by omega) (fun B b1 b2 => ?_)
  refine Tot.wr u0 (by omega) (fun D d1 d2 => ?_)
  refine Tot.wr u0 (by omega) (fun E e1 e2 => ?_)
  refine Tot.wr u0 (by omega) (fun F f1 f2 => ?_)
  have hB : ∀ j : Int32, 0 ≤ j.toInt → j.toInt < 4 → gI B j = if u = j then 1 else gI HK j := by
    intro j j0 j1
    rw [b1, gset u0 (by omega) j0]
  refine Tot.mk ⟨rfl, ⟨⟨by show A.length = 4; omega, by show B.length = 4; omega, by show D.length = 4; omega, by show E.length = 4; omega, by show F.length = 4; omega, fun j j0 j1 hj => ?_⟩, fun j j0 j1 hj => ?_⟩, hB, a1⟩
  · have hj : ¬ gI B j = 0 := hj
    show own_pt p a b (own_gL D j) (own_gL E j) (gI F j) ∧ 1 ≤ (own_gL A j).toInt ∧ (own_gL A j).toInt ≤ 2147483647
    rw [hB j j0 j1] at hj
    rw [a1, d1, e1, f1, own_setL u0 (by omega) j0, own_setL u0 (by omega) j0, own_setL u0 (by omega) j0, gset u0 (by omega) j0, own_m01 q1.a]
    by_cases e : u = j
    · rw [if_pos e, if_pos e, if_pos e, if_pos e]
      exact ⟨q1, by omega, by omega⟩
    · rw [if_neg e, if_neg e, if_neg e, if_neg e]
      rw [if_neg e] at hj
      exact k6 j j0 j1 hj
  · have hj : ¬ gI B j = 0 := hj
    show own_cp q (own_gL D j) (own_gL E j) (gI F j) = own_ml _ _ _ (own_gL A j).toInt.toNat
    rw [hB j j0 j1] at hj
    rw [a1, d1, e1, f1, own_setL u0 (by omega) j0, own_setL u0 (by omega) j0, own_setL u0 (by omega) j0, gset u0 (by omega) j0, own_m01 q1.a]
    by_cases e : u = j
    · rw [if_pos e, if_pos e, if_pos e, if_pos e]
      exact q2
    · rw [if_neg e, if_neg e, if_neg e, if_neg e]
      rw [if_neg e] at hj
      exact m j j0 j1 hj
def own_SG (q : Nat) [NeZero q] (p a b gx gy : Int64) (PK : List Int64) (PX PY : List Int64) (PI M : List Int32) (ml u v : Int32) (sx sy : Int64) (si : Int32) (ss : Int64) (se : Int32) : Prop :=
  own_pt p a b sx sy si ∧ own_cp q sx sy si = own_ml (own_ci q a.toInt) (own_ci q b.toInt) (own_cp q gx gy 0) v.toInt.toNat ∧ f_challenge M ml si sx sy (gI PI u) (own_gL PX u) (own_gL PY u) = some se ∧ 0 ≤ se.toInt ∧ se.toInt ≤ 65535 ∧ ss = v.toInt64 + se.toInt64 * own_gL PK u
theorem own_sgX {q : Nat} [NeZero q] {p a b gx gy : Int64} (eq : p.toInt = q) (C : own_Cv (own_ci q a.toInt) (own_ci q b.toInt)) (h : own_pr p) (ha : own_fd p a) (hb : own_fd p b) (hg : own_pt p a b gx gy 0) {PK : List Int64} {HK : List Int32} {PX PY : List Int64} {PI : List Int32} (hK : own_KX q p a b gx gy PK HK PX PY PI) {M : List Int32} {ml : Int32} (hM : M.length = 64) (h0 : 0 ≤ ml.toInt) (h1 : ml.toInt ≤ 64) (sx sy : Int64) (si : Int32) (ss : Int64) (se ri : Int32) (rx ry : Int64) {u v : Int32} (u0 : 0 ≤ u.toInt) (u1 : u.toInt < 4) :
    Tot (f_sign PK HK PX PY PI M p a gx gy ml sx sy si ss se ri rx ry u v) (fun t => (t.1 = 0 ∧ (gI HK u = 0 ∨ v.toInt < 1) ∧ t.2.1 = sx ∧ t.2.2.1 = sy ∧ t.2.2.2.1 = si ∧ t.2.2.2.2.1 = ss ∧ t.2.2.2.2.2.1 = se) ∨ (t.1 = 1 ∧ ¬ gI HK u = 0 ∧ 1 ≤ v.toInt ∧ own_SG q p a b gx gy PK PX PY PI M ml u v t.2.1 t.2.2.1 t.2.2.2.1 t.2.2.2.2.1 t.2.2.2.2.2.1)) := by
  obtain ⟨⟨k1, k2, k3, k4, k5, k6⟩, m⟩ := hK
  have o : (1 : Int32).toInt = 1 := rfl
  have rv := irng v
  have tv := own_l64 v
  unfold f_sign
  rw [own_vP1 u0 u1, Option.bind_some, if_neg (by decide)]
  refine Tot.rdI u0 (by omega) (Tot.ite (fun g => Tot.mk (Or.inl ⟨rfl, Or.inl g, rfl, rfl, rfl, rfl, rfl⟩)) (fun g => Tot.ite (fun g2 => Tot.mk (Or.inl ⟨rfl, Or.inr ?_, rfl, rfl, rfl, rfl, rfl⟩)) (fun g2 => ?_)))
  · rw [ilt] at g2; omega
  rw [ilt] at g2
  refine Tot.bind (own_sMX eq C h ha hb ri rx ry gx gy 0 v.toInt64 (by omega) (by omega) hg) ?_
  rintro ⟨s, t, r⟩ ⟨q1, q2⟩
  have q1 : own_pt p a b t r s := q1
  have q2 : own_cp q t r s = own_ml (own_ci q a.toInt) (own_ci q b.toInt) (own_cp q gx gy 0) v.toInt64.toInt.toNat := q2
  refine Tot.rdI u0 (by omega) (own_tL u0 (by omega) (own_tL u0 (by omega) ?_))
  obtain ⟨e, ce, he⟩ := own_chal hM h0 h1 s t r (gI PI u) (own_gL PX u) (own_gL PY u)
  show Tot (Option.bind (f_challenge M ml s t r (gI PI u) (own_gL PX u) (own_gL PY u)) _) _
  rw [ce, Option.bind_some]
  refine own_tL u0 (by omega) ?_
  rw [own_storeE _ _ _ _ _ _ _ _ q1.a, Option.bind_some]
  refine Tot.mk (Or.inr ⟨rfl, g, by omega, own_ptz (own_fz0 h) q1, ?_, ?_, he.1, he.2, rfl⟩)
  · rw [tv] at q2
    show own_cp q (if s = 0 then t else 0) (if s = 0 then r else 0) s = _
    rw [own_cpz, q2]
  · show f_challenge M ml s (if s = 0 then t else 0) (if s = 0 then r else 0) (gI PI u) (own_gL PX u) (own_gL PY u) = some e
    rw [own_chI2, ce]
theorem own_vfX {q : Nat} [NeZero q] {p a b gx gy : Int64} (eq : p.toInt = q) (C : own_Cv (own_ci q a.toInt) (own_ci q b.toInt)) (h : own_pr p) (ha : own_fd p a) (hb : own_fd p b) (hg : own_pt p a b gx gy 0) {PK : List Int64} {HK : List Int32} {PX PY : List Int64} {PI : List Int32} (hK : own_KX q p a b gx gy PK HK PX PY PI) {M : List Int32} {ml : Int32} {sx sy : Int64} {si : Int32} {ss : Int64} {se u v : Int32} (u0 : 0 ≤ u.toInt) (u1 : u.toInt < 4) (hu : ¬ gI HK u = 0) (v1 : 1 ≤ v.toInt) (hS : own_SG q p a b gx gy PK PX PY PI M ml u v sx sy si ss se) (ri : Int32) (rx ry : Int64) :
    Tot (f_verify HK PX PY PI M p a gx gy b ml sx sy si ss ri rx ry u) (fun t => t.1 = 1) := by
  obtain ⟨⟨k1, k2, k3, k4, k5, k6⟩, m⟩ := hK
  obtain ⟨s1, s2, s3, s4, s5, s6⟩ := hS
  obtain ⟨kp, d1, d2⟩ := k6 u u0 u1 hu
  have mu := m u u0 u1 hu
  have o : (1 : Int32).toInt = 1 := rfl
  have rv := irng v
  have t1 := own_l64 v
  have t2 := own_l64 se
  have mb : 0 ≤ se.toInt * (own_gL PK u).toInt ∧ se.toInt * (own_gL PK u).toInt ≤ 65535 * 2147483647 := ⟨Int.mul_nonneg s4 (by omega), Int.mul_le_mul s5 d2 (by omega) (by decide)⟩
  have em : (se.toInt64 * own_gL PK u).toInt = se.toInt * (own_gL PK u).toInt := by rw [lmul_i (by rw [t2]; omega) (by rw [t2]; omega), t2]
  have ea : ss.toInt = v.toInt + se.toInt * (own_gL PK u).toInt := by rw [s6, ladd_i (by rw [em, t1]; omega) (by rw [em, t1]; omega), em, t1]
  have en : ss.toInt.toNat = v.toInt.toNat + (own_gL PK u).toInt.toNat * se.toInt.toNat := by
    have e1 : (se.toInt * (own_gL PK u).toInt).toNat = (own_gL PK u).toInt.toNat * se.toInt.toNat := by
      rw [Int.toNat_mul s4 (by omega), Nat.mul_comm]
    rw [ea, ← e1]
    omega
  have oG := own_cp_on eq hg
  have fn43 : Tot (f_verify_43 HK PX PY PI M p a gx gy b ml sx sy si ss ri rx ry u) (fun t => t.1 = 1) := by
    unfold f_verify_43
    refine Tot.rdI u0 (by omega) (own_tL u0 (by omega) (own_tL u0 (by omega) ?_))
    show Tot (Option.bind (f_challenge M ml si sx sy (gI PI u) (own_gL PX u) (own_gL PY u)) _) _
    rw [s3, Option.bind_some]
    refine Tot.bind (own_sMX eq C h ha hb ri rx ry gx gy 0 ss (by omega) (by omega) hg) ?_
    rintro ⟨l0, lx, ly⟩ ⟨q1, q2⟩
    have q1 : own_pt p a b lx ly l0 := q1
    have q2 : own_cp q lx ly l0 = own_ml (own_ci q a.toInt) (own_ci q b.toInt) (own_cp q gx gy 0) ss.toInt.toNat := q2
    refine own_tL u0 (by omega) (own_tL u0 (by omega) (Tot.rdI u0 (by omega) ?_))
    refine Tot.bind (own_sMX eq C h ha hb l0 lx ly _ _ _ se.toInt64 (by omega) (by omega) kp) ?_
    rintro ⟨r0, rx', ry'⟩ ⟨q3, q4⟩
    have q3 : own_pt p a b rx' ry' r0 := q3
    have q4 : own_cp q rx' ry' r0 = own_ml (own_ci q a.toInt) (own_ci q b.toInt) (own_cp q (own_gL PX u) (own_gL PY u) (gI PI u)) se.toInt64.toInt.toNat := q4
    refine Tot.bind (own_paX eq C.1 h ha hb r0 rx' ry' sx sy si rx' ry' r0 s1 q3) ?_
    rintro ⟨w0, wx, wy⟩ ⟨q5, q6⟩
    have q5 : own_pt p a b wx wy w0 := q5
    have q6 : own_Ad (own_ci q a.toInt) (own_ci q b.toInt) (own_cp q sx sy si) (own_cp q rx' ry' r0) (own_cp q wx wy w0) := q6
    have q7 := own_pl_e C (own_cp_on eq s1) (own_cp_on eq q3) q6
    rw [s2, q4, mu, own_ml_mul C oG, t2, ← own_ml_add C oG, ← en, ← q2] at q7
    obtain ⟨i1, i2⟩ := own_cp_i eq q1 q5 q7
    show Tot (if l0 = 0 then (if w0 = 0 then some ((if lx = wx then (if ly = wy then (1 : Int32) else (0 : Int32)) else (0 : Int32)), w0, wx, wy) else _) else _) _
    refine Tot.ite (fun g => ?_) (fun g => ?_)
    · obtain ⟨x1, x2⟩ := i2 g
      rw [if_pos (i1 ▸ g), if_pos x1, if_pos x2]
      exact Tot.mk rfl
    · unfold f_verify_176
      rw [if_pos i1]
      exact Tot.mk rfl
  unfold f_verify
  rw [own_vP1 u0 u1, Option.bind_some, if_neg (by decide)]
  refine Tot.rdI u0 (by omega) (Tot.ite (fun g => absurd g hu) (fun _ => Tot.ite (fun g => ?_) (fun _ => fn43)))
  rw [g] at s1
  rw [own_onY h ha hb s1, Option.bind_some, if_neg (by decide)]
  exact fn43
theorem own_startX {q : Nat} [NeZero q] {p a b gx gy : Int64} (h : own_pr p) (hg : own_pt p a b gx gy 0) : own_R p a b [gx, 0, 0, 0, 0, 0, 0, 0] [gy, 0, 0, 0, 0, 0, 0, 0] [0, 1, 1, 1, 1, 1, 1, 1] ∧ own_KX q p a b gx gy [0, 0, 0, 0] [0, 0, 0, 0] [0, 0, 0, 0] [0, 0, 0, 0] [0, 0, 0, 0] := by
  have fz := own_fz0 h
  have io : own_pt p a b 0 0 1 := ⟨Or.inr rfl, fz, fz, fun q => absurd q (by decide)⟩
  have hz : ∀ j : Int32, 0 ≤ j.toInt → j.toInt < 4 → gI [0, 0, 0, 0] j = 0 := by
    intro j j0 j1
    have k : j = 0 ∨ j = 1 ∨ j = 2 ∨ j = 3 := by
      simp only [ieq, Int32.reduceToInt]
      omega
    rcases k with rfl | rfl | rfl | rfl <;> rfl
  refine ⟨⟨rfl, rfl, rfl, fun j j0 j1 => ?_⟩, ⟨⟨rfl, rfl, rfl, rfl, rfl, fun j j0 j1 hj => absurd (hz j j0 j1) hj⟩, fun j j0 j1 hj => absurd (hz j j0 j1) hj⟩⟩
  have k : j = 0 ∨ j = 1 ∨ j = 2 ∨ j = 3 ∨ j = 4 ∨ j = 5 ∨ j = 6 ∨ j = 7 := by
    simp only [ieq, Int32.reduceToInt]
    omega
  rcases k with rfl | rfl | rfl | rfl | rfl | rfl | rfl | rfl
  · exact hg
  all_goals exact io
theorem own_setR {p a b : Int64} {RX RY : List Int64} {RI : List Int32} (h : own_R p a b RX RY RI) (fz : own_fd p 0) (r : Int32) (h0 : 0 ≤ r.toInt) (h1 : r.toInt < 8) (x y : Int64) (i : Int32) (hq : own_pt p a b x y i) :
    Tot (f_setRegister RX RY RI r x y i) (fun t => own_R p a b t.1 t.2.1 t.2.2) := by
  have hx := h.x
  have hy := h.y
  have hi := h.i
  unfold f_setRegister
  refine Tot.wr h0 (by omega) (fun A a1 a2 => ?_)
  unfold f_setRegister_23
  refine Tot.wr h0 (by omega) (fun B b1 b2 => ?_)
  unfold f_setRegister_40
  refine Tot.wr h0 (by omega) (fun C c1 c2 => Tot.mk ⟨by show B.length = 8; omega, by show C.length = 8; omega, by show A.length = 8; omega, fun j j0 j1 => ?_⟩)
  show own_pt p a b (own_gL B j) (own_gL C j) (gI A j)
  rw [a1, b1, c1, gset h0 (by omega) j0, own_setL h0 (by omega) j0, own_setL h0 (by omega) j0, own_m01 hq.a]
  by_cases e : r = j
  · rw [if_pos e, if_pos e, if_pos e]
    by_cases g : i = 0
    · rw [if_pos g, if_pos g]; exact hq
    · rw [if_neg g, if_neg g]; exact ⟨hq.a, fz, fz, fun q => absurd q g⟩
  · rw [if_neg e, if_neg e, if_neg e]
    exact h.q j j0 j1
theorem own_inF {p v : Int64} (h : own_pr p) : ∃ r, f_inField p v = some r ∧ (r = 0 ∨ own_fd p v) := by
  have hp := own_pr_b (own_pr_i h)
  have e1 : (1 : Int64).toInt = 1 := rfl
  have e0 : (0 : Int64).toInt = 0 := rfl
  have ep : (p - 1).toInt = p.toInt - 1 := by rw [lsub_i (by omega) (by omega), e1]
  unfold f_inField
  by_cases g : v < 0
  · exact ⟨0, by rw [if_pos g], Or.inl rfl⟩
  · by_cases g2 : p - 1 < v
    · exact ⟨0, by rw [if_neg g, if_pos g2], Or.inl rfl⟩
    · refine ⟨1, by rw [if_neg g, if_neg g2], Or.inr ?_⟩
      rw [lltI] at g g2
      exact ⟨by omega, by omega⟩
theorem own_onX {p a b x y : Int64} (h : own_pr p) (ha : own_fd p a) (hb : own_fd p b) (hx : own_fd p x) (hy : own_fd p y) : ∃ r, f_onCurve p a b x y = some r ∧ (r = 0 ∨ own_pt p a b x y 0) := by
  obtain ⟨e0, f0⟩ := own_mulI h hy hy
  obtain ⟨e1, f1⟩ := own_mulI h hx hx
  obtain ⟨e2, f2⟩ := own_mulI h f1 hx
  obtain ⟨e3, f3⟩ := own_mulI h ha hx
  obtain ⟨q4, e4, f4⟩ := own_add h f2 f3
  obtain ⟨q5, e5, f5⟩ := own_add h f4 hb
  unfold f_onCurve f_curveRhs
  rw [own_mul h, Option.bind_some, own_mul h, Option.bind_some, own_mul h, Option.bind_some, own_mul h, Option.bind_some, q4, Option.bind_some, q5, Option.bind_some, Option.bind_some]
  generalize hc : ((x * x % p * x % p + a * x % p) % p + b) % p = c at *
  by_cases g : y * y % p = c
  · refine ⟨1, by rw [if_pos g], Or.inr ⟨Or.inl rfl, hx, hy, fun _ => ?_⟩⟩
    rw [leqI, e0, e5, e4, own_am, e2, e1, e3, own_rhs] at g
    exact g
  · exact ⟨0, by rw [if_neg g], Or.inl rfl⟩
theorem own_load {p a b : Int64} {RX RY : List Int64} {RI : List Int32} (h : own_pr p) (ha : own_fd p a) (hb : own_fd p b) (hR : own_R p a b RX RY RI) (u v w : Int32) : Tot (f_load p a b RX RY RI u v w) (fun t => own_R p a b t.2.1 t.2.2.1 t.2.2.2) := by
  have hp := own_pr_b (own_pr_i h)
  have fz : own_fd p 0 := ⟨by decide, by have e : (0 : Int64).toInt = 0 := rfl; omega⟩
  unfold f_load
  refine own_tvR (fun _ => rfl) (Tot.mk hR) (fun u0 u1 => ?_)
  obtain ⟨r1, q1, d1⟩ := own_inF (v := v.toInt64) h
  obtain ⟨r2, q2, d2⟩ := own_inF (v := w.toInt64) h
  rw [q1, Option.bind_some]
  refine Tot.ite (fun _ => Tot.mk hR) (fun g1 => ?_)
  rw [q2, Option.bind_some]
  refine Tot.ite (fun _ => Tot.mk hR) (fun g2 => ?_)
  have k1 : own_fd p v.toInt64 := by rcases d1 with d | d; exact absurd d g1; exact d
  have k2 : own_fd p w.toInt64 := by rcases d2 with d | d; exact absurd d g2; exact d
  obtain ⟨r3, q3, d3⟩ := own_onX h ha hb k1 k2
  rw [q3, Option.bind_some]
  refine Tot.ite (fun _ => Tot.mk hR) (fun g3 => ?_)
  have k3 : own_pt p a b v.toInt64 w.toInt64 0 := by rcases d3 with d | d; exact absurd d g3; exact d
  refine Tot.bind (own_setR hR fz u u0 u1 _ _ _ k3) ?_
  rintro ⟨A, B, C⟩ q
  exact Tot.mk q
theorem own_loadI {p a b : Int64} {RX RY : List Int64} {RI : List Int32} (h : own_pr p) (hR : own_R p a b RX RY RI) (u : Int32) : Tot (f_loadInfinity RX RY RI u) (fun t => own_R p a b t.2.1 t.2.2.1 t.2.2.2) := by
  have hp := own_pr_b (own_pr_i h)
  have fz : own_fd p 0 := ⟨by decide, by have e : (0 : Int64).toInt = 0 := rfl; omega⟩
  unfold f_loadInfinity
  refine own_tvR (fun _ => rfl) (Tot.mk hR) (fun u0 u1 => ?_)
  refine Tot.bind (own_setR hR fz u u0 u1 0 0 1 ⟨Or.inr rfl, fz, fz, fun q => absurd q (by decide)⟩) ?_
  rintro ⟨A, B, C⟩ q
  exact Tot.mk q
theorem own_addX {q : Nat} [NeZero q] {p a b : Int64} (eq : p.toInt = q) (C : own_Cv (own_ci q a.toInt) (own_ci q b.toInt)) (h : own_pr p) (ha : own_fd p a) (hb : own_fd p b) {RX RY : List Int64} {RI : List Int32} (hR : own_R p a b RX RY RI) (ri : Int32) (rx ry : Int64) {u v w : Int32} (u0 : 0 ≤ u.toInt) (u1 : u.toInt < 8) (v0 : 0 ≤ v.toInt) (v1 : v.toInt < 8) (w0 : 0 ≤ w.toInt) (w1 : w.toInt < 8) :
    Tot (f_add p a RX RY RI ri rx ry u v w) (fun t => t.1 = 1 ∧ own_R p a b t.2.1 t.2.2.1 t.2.2.2.1 ∧ ∀ j : Int32, 0 ≤ j.toInt → j.toInt < 8 → own_rg q t.2.1 t.2.2.1 t.2.2.2.1 j = if u = j then own_pl (own_ci q a.toInt) (own_ci q b.toInt) (own_rg q RX RY RI v) (own_rg q RX RY RI w) else own_rg q RX RY RI j) := by
  have hx := hR.x
  have hy := hR.y
  have hi := hR.i
  unfold f_add
  rw [own_vR1 u0 u1, Option.bind_some, if_neg (by decide), own_vR1 v0 v1, Option.bind_some, if_neg (by decide), own_vR1 w0 w1, Option.bind_some, if_neg (by decide)]
  refine own_tL v0 (by omega) (own_tL v0 (by omega) (Tot.rdI v0 (by omega) (own_tL w0 (by omega) (own_tL w0 (by omega) (Tot.rdI w0 (by omega) ?_)))))
  have pv := hR.q v v0 v1
  have pw := hR.q w w0 w1
  refine Tot.bind (own_paX eq C.1 h ha hb ri rx ry _ _ _ _ _ _ pv pw) ?_
  rintro ⟨s, t, r⟩ ⟨q1, q2⟩
  refine Tot.bind (own_setX (q := q) hR (own_fz0 h) u u0 u1 t r s q1) ?_
  rintro ⟨A, B, D⟩ ⟨q3, q4⟩
  refine Tot.mk ⟨rfl, q3, fun j j0 j1 => ?_⟩
  have q5 := own_pl_e C (own_cp_on eq pv) (own_cp_on eq pw) q2
  have q5 : own_pl (own_ci q a.toInt) (own_ci q b.toInt) (own_rg q RX RY RI v) (own_rg q RX RY RI w) = own_cp q t r s := q5
  have := q4 j j0 j1
  rw [← q5] at this
  exact this
theorem own_shX {q : Nat} [NeZero q] {p a b gx gy : Int64} (eq : p.toInt = q) (C : own_Cv (own_ci q a.toInt) (own_ci q b.toInt)) (h : own_pr p) (ha : own_fd p a) (hb : own_fd p b) (hg : own_pt p a b gx gy 0) {PK : List Int64} {HK : List Int32} {PX PY : List Int64} {PI : List Int32} (hK : own_KX q p a b gx gy PK HK PX PY PI) {RX RY : List Int64} {RI : List Int32} (hR : own_R p a b RX RY RI) (ri : Int32) (rx ry : Int64) {u v w : Int32} (u0 : 0 ≤ u.toInt) (u1 : u.toInt < 8) (v0 : 0 ≤ v.toInt) (v1 : v.toInt < 4) (w0 : 0 ≤ w.toInt) (w1 : w.toInt < 4) (hv : ¬ gI HK v = 0) (hw : ¬ gI HK w = 0) :
    Tot (f_shared PK HK PX PY PI p a RX RY RI ri rx ry u v w) (fun t => t.1 = 1 ∧ own_R p a b t.2.1 t.2.2.1 t.2.2.2.1 ∧ ∀ j : Int32, 0 ≤ j.toInt → j.toInt < 8 → own_rg q t.2.1 t.2.2.1 t.2.2.2.1 j = if u = j then own_ml (own_ci q a.toInt) (own_ci q b.toInt) (own_cp q gx gy 0) ((own_gL PK w).toInt.toNat * (own_gL PK v).toInt.toNat) else own_rg q RX RY RI j) := by
  obtain ⟨⟨k1, k2, k3, k4, k5, k6⟩, m⟩ := hK
  obtain ⟨kw, -, -⟩ := k6 w w0 w1 hw
  obtain ⟨-, d1, d2⟩ := k6 v v0 v1 hv
  have mw := m w w0 w1 hw
  unfold f_shared
  rw [own_vR1 u0 u1, Option.bind_some, if_neg (by decide), own_vP1 v0 v1, Option.bind_some, if_neg (by decide), own_vP1 w0 w1, Option.bind_some, if_neg (by decide)]
  refine Tot.rdI v0 (by omega) (Tot.ite (fun g => absurd g hv) (fun _ => Tot.rdI w0 (by omega) (Tot.ite (fun g => absurd g hw) (fun _ => ?_))))
  refine own_tL w0 (by omega) (own_tL w0 (by omega) (Tot.rdI w0 (by omega) (own_tL v0 (by omega) ?_)))
  refine Tot.bind (own_sMX eq C h ha hb ri rx ry _ _ _ (own_gL PK v) (by omega) (by omega) kw) ?_
  rintro ⟨s, t, r⟩ ⟨q1, q2⟩
  refine Tot.bind (own_setX (q := q) hR (own_fz0 h) u u0 u1 t r s q1) ?_
  rintro ⟨A, B, D⟩ ⟨q3, q4⟩
  refine Tot.mk ⟨rfl, q3, fun j j0 j1 => ?_⟩
  have q2 : own_cp q t r s = own_ml (own_ci q a.toInt) (own_ci q b.toInt) (own_cp q (own_gL PX w) (own_gL PY w) (gI PI w)) (own_gL PK v).toInt.toNat := q2
  rw [mw, own_ml_mul C (own_cp_on eq hg)] at q2
  have := q4 j j0 j1
  rw [q2] at this
  exact this
theorem own_sameX {q : Nat} [NeZero q] {p a b : Int64} (eq : p.toInt = q) {RX RY : List Int64} {RI : List Int32} (hR : own_R p a b RX RY RI) {u v : Int32} (u0 : 0 ≤ u.toInt) (u1 : u.toInt < 8) (v0 : 0 ≤ v.toInt) (v1 : v.toInt < 8) (e : own_rg q RX RY RI u = own_rg q RX RY RI v) : f_L_same RX RY RI u v = some 1 := by
  obtain ⟨i1, i2⟩ := own_cp_i eq (hR.q u u0 u1) (hR.q v v0 v1) e
  obtain ⟨c0, c1, c2⟩ := own_coord hR u u0 u1
  obtain ⟨d0, d1, d2⟩ := own_coord hR v v0 v1
  rw [i1] at c0 c1 c2
  have x0 : (if gI RI v = 0 then (own_gL RX u).toInt32 else 0) = (if gI RI v = 0 then (own_gL RX v).toInt32 else 0) := by
    by_cases g : gI RI v = 0
    · rw [if_pos g, if_pos g, (i2 (i1 ▸ g)).1]
    · rw [if_neg g, if_neg g]
  have x1 : (if gI RI v = 0 then (own_gL RY u).toInt32 else 0) = (if gI RI v = 0 then (own_gL RY v).toInt32 else 0) := by
    by_cases g : gI RI v = 0
    · rw [if_pos g, if_pos g, (i2 (i1 ▸ g)).2]
    · rw [if_neg g, if_neg g]
  have z1 : (0 : Int32) + 1 = 1 := rfl
  have z2 : (1 : Int32) + 1 = 2 := rfl
  unfold f_L_same f_L_same_2
  rw [if_pos (by decide), c0, Option.bind_some, d0, Option.bind_some, if_pos x0, z1]
  unfold f_L_same_2
  rw [if_pos (by decide), c1, Option.bind_some, d1, Option.bind_some, if_pos x1, z2]
  unfold f_L_same_2
  rw [if_pos (by decide), c2, Option.bind_some, d2, Option.bind_some, if_pos rfl]
  unfold f_L_same_2
  rw [if_neg (by decide)]
theorem own_tn {e : Int64} (h : 0 ≤ e.toInt) : (e.toBitVec.toNat : Int) = e.toInt := by
  have hm : e.toBitVec.msb = false := by rw [BitVec.msb_eq_toInt]; simpa using h
  exact (BitVec.toInt_eq_toNat_of_msb hm).symm
theorem own_n47 {x : Int64} (h : x.toBitVec.toNat < 2 ^ 47) : 0 ≤ x.toInt ∧ x.toInt < 140737488355328 := by
  have hm : x.toBitVec.msb = false := by
    rw [BitVec.msb_eq_decide, decide_eq_false_iff_not]
    omega
  have e : x.toInt = (x.toBitVec.toNat : Int) := BitVec.toInt_eq_toNat_of_msb hm
  omega
theorem own_scR (hi lo s : Int32) : ∃ k, f_L_scalar hi lo s = some k ∧ 0 ≤ k.toInt ∧ k.toInt < 140737488355328 := by
  unfold f_L_scalar
  refine ⟨_, rfl, ?_⟩
  by_cases g : s = 0
  · rw [if_pos g]
    have r1 := iand_rng hi 8388607 (by decide)
    have r2 := iand_rng lo 16777215 (by decide)
    have c1 : (8388607 : Int32).toInt = 8388607 := rfl
    have c2 : (16777215 : Int32).toInt = 16777215 := rfl
    generalize hi &&& 8388607 = X at r1
    generalize lo &&& 16777215 = Y at r2
    have t1 := own_tn (e := X.toInt64) (by rw [own_l64]; omega)
    have t2 := own_tn (e := Y.toInt64) (by rw [own_l64]; omega)
    rw [own_l64] at t1 t2
    apply own_n47
    have e : (X.toInt64 <<< ((24 : Int32).toInt64 &&& 63)).toBitVec = X.toInt64.toBitVec <<< 24 := rfl
    rw [Int64.toBitVec_or, BitVec.toNat_or, e, BitVec.toNat_shiftLeft, Nat.shiftLeft_eq]
    apply Nat.or_lt_two_pow
    · rw [Nat.mod_eq_of_lt (by omega)]
      omega
    · omega
  · rw [if_neg g]
    have r2 := iand_rng lo 15 (by decide)
    have c2 : (15 : Int32).toInt = 15 := rfl
    rw [own_l64]
    omega
theorem own_feL {M : List Int32} {ml : Int32} (hM : M.length = 64) (h0 : 0 ≤ ml.toInt) (h1 : ml.toInt ≤ 64) (v : Int32) : Tot (f_feed M ml v) (fun t => t.2.1.length = 64 ∧ 0 ≤ t.2.2.toInt ∧ t.2.2.toInt ≤ 64) := by
  have e : (64 : Int32).toInt = 64 := rfl
  have o : (1 : Int32).toInt = 1 := rfl
  unfold f_feed
  refine Tot.ite (fun g => ?_) (fun g => Tot.mk ⟨hM, h0, h1⟩)
  rw [ilt] at g
  refine Tot.wr h0 (by omega) (fun A a1 a2 => Tot.mk ⟨by show A.length = 64; omega, ?_⟩)
  show 0 ≤ (ml + 1).toInt ∧ (ml + 1).toInt ≤ 64
  rw [iadd_i (by omega) (by omega)]
  omega
theorem own_ssX {p : Int64} (h : own_pr p) (sx sy : Int64) (si : Int32) (ss : Int64) (u v : Int32) (s : Int64) : Tot (f_setSig p sx sy si ss u v s) (fun _ => True) := by
  unfold f_setSig
  refine Tot.ite (fun _ => Tot.mk trivial) (fun g1 => Tot.ite (fun g2 => ?_) (fun _ => Tot.mk trivial))
  refine Tot.ite (fun _ => ?_) (fun _ => ?_)
  · rw [own_storeE _ _ _ _ _ _ _ _ (Or.inr rfl), Option.bind_some]
    exact Tot.mk trivial
  · obtain ⟨r1, q1, -⟩ := own_inF (v := u.toInt64) h
    obtain ⟨r2, q2, -⟩ := own_inF (v := v.toInt64) h
    rw [q1, Option.bind_some]
    refine Tot.ite (fun _ => Tot.mk trivial) (fun _ => ?_)
    rw [q2, Option.bind_some]
    refine Tot.ite (fun _ => Tot.mk trivial) (fun _ => ?_)
    rw [own_storeE _ _ _ _ _ _ _ _ (Or.inl rfl), Option.bind_some]
    exact Tot.mk trivial
theorem own_kb {v c d : Int32} (h : c &&& d = 0) : (v ||| c) &&& d = v &&& d := by
  rw [← Int32.toBitVec_inj] at h ⊢
  rw [Int32.toBitVec_and] at h
  rw [Int32.toBitVec_and, Int32.toBitVec_or, Int32.toBitVec_and]
  apply BitVec.eq_of_getLsbD_eq
  intro j hj
  have := congrArg (fun w => BitVec.getLsbD w j) h
  simp only [BitVec.getLsbD_and] at this
  rw [BitVec.getLsbD_and, BitVec.getLsbD_or, BitVec.getLsbD_and]
  have z : (0 : Int32).toBitVec.getLsbD j = false := BitVec.getLsbD_zero
  rw [z] at this
  cases h1 : v.toBitVec.getLsbD j <;> cases h2 : c.toBitVec.getLsbD j <;> cases h3 : d.toBitVec.getLsbD j <;> rw [h2, h3] at this <;> first | rfl | cases this
theorem own_kc_all : ∀ i j : Fin 4, ¬ i = j → ((1 : Int32) <<< (Int32.ofNat i.val &&& 31)) &&& ((1 : Int32) <<< (Int32.ofNat j.val &&& 31)) = 0 := by decide +kernel
theorem own_kc {i j : Int32} (i0 : 0 ≤ i.toInt) (i1 : i.toInt < 4) (j0 : 0 ≤ j.toInt) (j1 : j.toInt < 4) (ne : ¬ i = j) : ((1 : Int32) <<< (i &&& 31)) &&& ((1 : Int32) <<< (j &&& 31)) = 0 := by
  have ei : i = Int32.ofNat i.toInt.toNat := by rw [ieq, Int32.toInt_ofNat_of_lt (by omega)]; omega
  have ej : j = Int32.ofNat j.toInt.toNat := by rw [ieq, Int32.toInt_ofNat_of_lt (by omega)]; omega
  have := own_kc_all ⟨i.toInt.toNat, by omega⟩ ⟨j.toInt.toNat, by omega⟩ (fun q => ne (by
    have : i.toInt.toNat = j.toInt.toNat := congrArg Fin.val q
    rw [ieq]; omega))
  simp only at this
  rw [← ei, ← ej] at this
  exact this
theorem own_d9_all : ∀ s : Fin 8, ∀ i j : Fin 5, ¬ i = j → ¬ ((Int32.ofNat s.val + Int32.ofNat i.val) &&& 7) = ((Int32.ofNat s.val + Int32.ofNat j.val) &&& 7) := by decide +kernel
theorem own_265 {q : Nat} [NeZero q] {p a b gx gy : Int64} (eq : p.toInt = q) (C : own_Cv (own_ci q a.toInt) (own_ci q b.toInt)) (h : own_pr p) (ha : own_fd p a) (hb : own_fd p b) {RX RY : List Int64} {RI : List Int32} (hR : own_R p a b RX RY RI) {K : List Int64 → List Int64 → List Int32 → List Int64 → List Int32 → List Int64 → List Int64 → List Int32 → List Int32 → Int64 → Int64 → Int64 → Int64 → Int64 → Int32 → Int64 → Int64 → Int32 → Int64 → Int32 → Int32 → Int64 → Int64 → Int32 → Int32 → Int32 → Option (Int32)} {scr : List Int32} {PK : List Int64} {HK : List Int32} {PX PY : List Int64} {PI M : List Int32} {ml : Int32} {sx sy : Int64} {si : Int32} {ss : Int64} {se ri : Int32} {rx ry : Int64} {v2 v3 v4 s d1 d2 d3 d4 t0 t1 t2 : Int32} {k1 : Int64} (k10 : 0 ≤ k1.toInt) (k11 : k1.toInt < 140737488355328) (s0 : 0 ≤ s.toInt) (s1 : s.toInt < 8) (a0 : 0 ≤ d1.toInt) (a1 : d1.toInt < 8) (b0 : 0 ≤ d2.toInt) (b1 : d2.toInt < 8) (c0 : 0 ≤ d3.toInt) (c1 : d3.toInt < 8) (e0 : 0 ≤ d4.toInt) (e1 : d4.toInt < 8) (n1s : ¬ d1 = s) (n2s : ¬ d2 = s) (n3s : ¬ d3 = s) (n4s : ¬ d4 = s) (n21 : ¬ d2 = d1) (n43 : ¬ d4 = d3) (hk : ∀ (RX' RY' : List Int64) (RI' : List Int32) (ri' : Int32) (rx' ry' : Int64), own_R p a b RX' RY' RI' → K RX' RY' RI' PK HK PX PY PI M p a gx gy b ml sx sy si ss se ri' rx' ry' v2 (v3 + 1) (v4 + 5) = some 1) : f_L_law_265 K scr RX RY RI PK HK PX PY PI M p a gx gy b ml sx sy si ss se ri rx ry v2 v3 v4 s d1 d2 d3 d4 k1 t0 t1 t2 = some 1 := by
  obtain ⟨k2, ek, k20, k21⟩ := own_scR t2 t1 t0
  unfold f_L_law_265
  rw [ek, Option.bind_some]
  have ks : (k1 + k2).toInt = k1.toInt + k2.toInt := ladd_i (by omega) (by omega)
  obtain ⟨⟨x1, A1, B1, D1, i1, j1, l1⟩, f1, g1, R1, m1⟩ := own_mulX eq C h ha hb hR ri rx ry a0 a1 s0 s1 k10 (by omega)
  have g1 : x1 = 1 := g1
  have R1 : own_R p a b A1 B1 D1 := R1
  have m1 : ∀ j : Int32, 0 ≤ j.toInt → j.toInt < 8 → own_rg q A1 B1 D1 j = if d1 = j then own_ml (own_ci q a.toInt) (own_ci q b.toInt) (own_rg q RX RY RI s) k1.toInt.toNat else own_rg q RX RY RI j := m1
  rw [f1, Option.bind_some]
  show (if x1 = 0 then _ else Option.bind (f_mul p a A1 B1 D1 i1 j1 l1 d2 s k2) _) = _
  rw [g1, if_neg (by decide)]
  obtain ⟨⟨x2, A2, B2, D2, i2, j2, l2⟩, f2, g2, R2, m2⟩ := own_mulX eq C h ha hb R1 i1 j1 l1 b0 b1 s0 s1 k20 (by omega)
  have g2 : x2 = 1 := g2
  have R2 : own_R p a b A2 B2 D2 := R2
  have m2 : ∀ j : Int32, 0 ≤ j.toInt → j.toInt < 8 → own_rg q A2 B2 D2 j = if d2 = j then own_ml (own_ci q a.toInt) (own_ci q b.toInt) (own_rg q A1 B1 D1 s) k2.toInt.toNat else own_rg q A1 B1 D1 j := m2
  rw [f2, Option.bind_some]
  show (if x2 = 0 then _ else Option.bind (f_add p a A2 B2 D2 i2 j2 l2 d3 d1 d2) _) = _
  rw [g2, if_neg (by decide)]
  obtain ⟨⟨x3, A3, B3, D3, i3, j3, l3⟩, f3, g3, R3, m3⟩ := own_addX eq C h ha hb R2 i2 j2 l2 c0 c1 a0 a1 b0 b1
  have g3 : x3 = 1 := g3
  have R3 : own_R p a b A3 B3 D3 := R3
  have m3 : ∀ j : Int32, 0 ≤ j.toInt → j.toInt < 8 → own_rg q A3 B3 D3 j = if d3 = j then own_pl (own_ci q a.toInt) (own_ci q b.toInt) (own_rg q A2 B2 D2 d1) (own_rg q A2 B2 D2 d2) else own_rg q A2 B2 D2 j := m3
  rw [f3, Option.bind_some]
  show (if x3 = 0 then _ else Option.bind (f_mul p a A3 B3 D3 i3 j3 l3 d4 s (k1 + k2)) _) = _
  rw [g3, if_neg (by decide)]
  obtain ⟨⟨x4, A4, B4, D4, i4, j4, l4⟩, f4, g4, R4, m4⟩ := own_mulX eq C h ha hb R3 i3 j3 l3 (w := k1 + k2) e0 e1 s0 s1 (by omega) (by omega)
  have g4 : x4 = 1 := g4
  have R4 : own_R p a b A4 B4 D4 := R4
  have m4 : ∀ j : Int32, 0 ≤ j.toInt → j.toInt < 8 → own_rg q A4 B4 D4 j = if d4 = j then own_ml (own_ci q a.toInt) (own_ci q b.toInt) (own_rg q A3 B3 D3 s) (k1 + k2).toInt.toNat else own_rg q A3 B3 D3 j := m4
  rw [f4, Option.bind_some]
  show (if x4 = 0 then _ else Option.bind (f_L_same A4 B4 D4 d3 d4) _) = _
  rw [g4, if_neg (by decide)]
  have oS := own_cp_on eq (hR.q s s0 s1)
  have S1 := m1 s s0 s1
  rw [if_neg n1s] at S1
  have S2 := m2 s s0 s1
  rw [if_neg n2s, S1] at S2
  have S3 := m3 s s0 s1
  rw [if_neg n3s, S2] at S3
  have S4 := m4 s s0 s1
  rw [if_neg n4s, S3] at S4
  have T3 : own_rg q A3 B3 D3 d3 = own_ml (own_ci q a.toInt) (own_ci q b.toInt) (own_rg q RX RY RI s) (k1.toInt.toNat + k2.toInt.toNat) := by
    rw [m3 d3 c0 c1, if_pos rfl, m2 d1 a0 a1, if_neg n21, m1 d1 a0 a1, if_pos rfl, m2 d2 b0 b1, if_pos rfl, S1]
    exact (own_ml_add C oS _ _).symm
  have sm : own_rg q A4 B4 D4 d3 = own_rg q A4 B4 D4 d4 := by
    rw [m4 d3 c0 c1, if_neg n43, m4 d4 e0 e1, if_pos rfl, T3, S3]
    congr 1
    rw [ks]
    omega
  rw [own_sameX eq R4 c0 c1 e0 e1 sm, Option.bind_some, if_neg (by decide)]
  obtain ⟨⟨x5, A5, B5, D5, i5, j5, l5⟩, f5, g5, R5, m5⟩ := own_mulX eq C h ha hb R4 i4 j4 l4 (w := 1) a0 a1 s0 s1 (by decide) (by decide)
  have g5 : x5 = 1 := g5
  have R5 : own_R p a b A5 B5 D5 := R5
  have m5 : ∀ j : Int32, 0 ≤ j.toInt → j.toInt < 8 → own_rg q A5 B5 D5 j = if d1 = j then own_ml (own_ci q a.toInt) (own_ci q b.toInt) (own_rg q A4 B4 D4 s) (1 : Int64).toInt.toNat else own_rg q A4 B4 D4 j := m5
  rw [f5, Option.bind_some]
  show (if x5 = 0 then _ else Option.bind (f_L_same A5 B5 D5 d1 s) _) = _
  rw [g5, if_neg (by decide)]
  have sm2 : own_rg q A5 B5 D5 d1 = own_rg q A5 B5 D5 s := by
    rw [m5 d1 a0 a1, if_pos rfl, m5 s s0 s1, if_neg n1s]
    exact own_ml_1 C _
  rw [own_sameX eq R5 a0 a1 s0 s1 sm2, Option.bind_some, if_neg (by decide)]
  obtain ⟨⟨x6, A6, B6, D6, i6, j6, l6⟩, f6, g6, R6, m6⟩ := own_mulX eq C h ha hb R5 i5 j5 l5 (w := 0) b0 b1 s0 s1 (by decide) (by decide)
  have g6 : x6 = 1 := g6
  have R6 : own_R p a b A6 B6 D6 := R6
  have m6 : ∀ j : Int32, 0 ≤ j.toInt → j.toInt < 8 → own_rg q A6 B6 D6 j = if d2 = j then own_ml (own_ci q a.toInt) (own_ci q b.toInt) (own_rg q A5 B5 D5 s) (0 : Int64).toInt.toNat else own_rg q A5 B5 D5 j := m6
  rw [f6, Option.bind_some]
  show (if x6 = 0 then _ else Option.bind (f_coord A6 B6 D6 d2 2) _) = _
  rw [g6, if_neg (by decide)]
  have nn : own_rg q A6 B6 D6 d2 = none := by rw [m6 d2 b0 b1, if_pos rfl]; rfl
  obtain ⟨-, -, co⟩ := own_coord R6 d2 b0 b1
  have ni : ¬ gI D6 d2 = 0 := by
    intro z
    unfold own_rg own_cp at nn
    rw [if_pos z] at nn
    cases nn
  rw [co, Option.bind_some, if_neg ni, if_pos rfl]
  exact hk A6 B6 D6 i6 j6 l6 R6
abbrev own_Y (q : Nat) [NeZero q] (p a b gx gy : Int64) (RX RY : List Int64) (RI : List Int32) (PK : List Int64) (HK : List Int32) (PX PY : List Int64) (PI M : List Int32) (ml ks : Int32) : Prop := (own_R p a b RX RY RI) ∧ (own_KX q p a b gx gy PK HK PX PY PI) ∧ (M.length = 64) ∧ (0 ≤ ml.toInt) ∧ (ml.toInt ≤ 64) ∧ (∀ i : Int32, 0 ≤ i.toInt → i.toInt < 4 → ¬ (ks &&& ((1 : Int32) <<< (i &&& 31))) = 0 → ¬ gI HK i = 0)
theorem own_Y.r {q : Nat} [NeZero q] {p a b gx gy : Int64} {RX RY : List Int64} {RI : List Int32} {PK : List Int64} {HK : List Int32} {PX PY : List Int64} {PI M : List Int32} {ml ks : Int32} (self : own_Y q p a b gx gy RX RY RI PK HK PX PY PI M ml ks) : own_R p a b RX RY RI := self.1
theorem own_Y.k {q : Nat} [NeZero q] {p a b gx gy : Int64} {RX RY : List Int64} {RI : List Int32} {PK : List Int64} {HK : List Int32} {PX PY : List Int64} {PI M : List Int32} {ml ks : Int32} (self : own_Y q p a b gx gy RX RY RI PK HK PX PY PI M ml ks) : own_KX q p a b gx gy PK HK PX PY PI := self.2.1
theorem own_Y.m {q : Nat} [NeZero q] {p a b gx gy : Int64} {RX RY : List Int64} {RI : List Int32} {PK : List Int64} {HK : List Int32} {PX PY : List Int64} {PI M : List Int32} {ml ks : Int32} (self : own_Y q p a b gx gy RX RY RI PK HK PX PY PI M ml ks) : M.length = 64 := self.2.2.1
theorem own_Y.l0 {q : Nat} [NeZero q] {p a b gx gy : Int64} {RX RY : List Int64} {RI : List Int32} {PK : List Int64} {HK : List Int32} {PX PY : List Int64} {PI M : List Int32} {ml ks : Int32} (self : own_Y q p a b gx gy RX RY RI PK HK PX PY PI M ml ks) : 0 ≤ ml.toInt := self.2.2.2.1
theorem own_Y.l1 {q : Nat} [NeZero q] {p a b gx gy : Int64} {RX RY : List Int64} {RI : List Int32} {PK : List Int64} {HK : List Int32} {PX PY : List Int64} {PI M : List Int32} {ml ks : Int32} (self : own_Y q p a b gx gy RX RY RI PK HK PX PY PI M ml ks) : ml.toInt ≤ 64 := self.2.2.2.2.1
theorem own_Y.b {q : Nat} [NeZero q] {p a b gx gy : Int64} {RX RY : List Int64} {RI : List Int32} {PK : List Int64} {HK : List Int32} {PX PY : List Int64} {PI M : List Int32} {ml ks : Int32} (self : own_Y q p a b gx gy RX RY RI PK HK PX PY PI M ml ks) : ∀ i : Int32, 0 ≤ i.toInt → i.toInt < 4 → ¬ (ks &&& ((1 : Int32) <<< (i &&& 31))) = 0 → ¬ gI HK i = 0 := self.2.2.2.2.2
theorem own_cell (scr : List Int32) (hs : scr.length ≤ 260) (j : Int32) (j0 : 0 ≤ j.toInt) : ∃ x, f_L_cell scr j = some x := by
  unfold f_L_cell
  have e : scr.length.toInt32.toInt = scr.length := Int32.toInt_ofNat_of_lt (by omega)
  by_cases g : j < scr.length.toInt32
  · rw [if_pos g]
    rw [ilt, e] at g
    rw [rdg j0 (by omega), Option.bind_some]
    exact ⟨_, rfl⟩
  · rw [if_neg g]
    exact ⟨_, rfl⟩
theorem own_i7 (x : Int32) : 0 ≤ (x &&& 7).toInt ∧ (x &&& 7).toInt < 8 := by
  have r := iand_rng x 7 (by decide)
  have e : (7 : Int32).toInt = 7 := rfl
  omega
theorem own_i3 (x : Int32) : 0 ≤ (x &&& 3).toInt ∧ (x &&& 3).toInt < 4 := by
  have r := iand_rng x 3 (by decide)
  have e : (3 : Int32).toInt = 3 := rfl
  omega
theorem own_of8 {s : Int32} (s0 : 0 ≤ s.toInt) (s1 : s.toInt < 8) : s = Int32.ofNat s.toInt.toNat := by
  rw [ieq, Int32.toInt_ofNat_of_lt (by omega)]; omega
theorem own_dd {s : Int32} (s0 : 0 ≤ s.toInt) (s1 : s.toInt < 8) (i j : Fin 5) (ne : ¬ i = j) : ¬ ((s + Int32.ofNat i.val) &&& 7) = ((s + Int32.ofNat j.val) &&& 7) := by
  have := own_d9_all ⟨s.toInt.toNat, by omega⟩ i j ne
  simp only at this
  rw [← own_of8 s0 s1] at this
  exact this
theorem own_d0 {s : Int32} (s0 : 0 ≤ s.toInt) (s1 : s.toInt < 8) : (s + Int32.ofNat (0 : Fin 5).val) &&& 7 = s := by
  have all : ∀ s : Fin 8, (Int32.ofNat s.val + Int32.ofNat (0 : Fin 5).val) &&& 7 = Int32.ofNat s.val := by decide +kernel
  have := all ⟨s.toInt.toNat, by omega⟩
  simp only at this
  rw [← own_of8 s0 s1] at this
  exact this
theorem own_d7 {s m : Int32} (s0 : 0 ≤ s.toInt) (s1 : s.toInt < 8) (m0 : 0 ≤ m.toInt) (m1 : m.toInt < 7) : ¬ s = ((s + 1) + m) &&& 7 := by
  have all : ∀ s : Fin 8, ∀ k : Fin 7, ¬ Int32.ofNat s.val = ((Int32.ofNat s.val + 1) + Int32.ofNat k.val) &&& 7 := by decide +kernel
  have := all ⟨s.toInt.toNat, by omega⟩ ⟨m.toInt.toNat, by omega⟩
  have em : m = Int32.ofNat m.toInt.toNat := by rw [ieq, Int32.toInt_ofNat_of_lt (by omega)]; omega
  simp only at this
  rw [← own_of8 s0 s1, ← em] at this
  exact this
theorem own_m7 (x : Int32) : 0 ≤ ((x &&& 255) % 7).toInt ∧ ((x &&& 255) % 7).toInt < 7 := by
  have r := iand_rng x 255 (by decide)
  have e7 : (7 : Int32).toInt = 7 := rfl
  generalize x &&& 255 = y at r
  rw [Int32.toInt_mod, e7, Int.tmod_eq_emod_of_nonneg r.1]
  omega
theorem own_38 {q : Nat} [NeZero q] {p a b gx gy : Int64} (eq : p.toInt = q) (C : own_Cv (own_ci q a.toInt) (own_ci q b.toInt)) (h : own_pr p) (ha : own_fd p a) (hb : own_fd p b) (hg : own_pt p a b gx gy 0) (scr : List Int32) (hs : scr.length ≤ 260) : ∀ (f : Nat) (RX RY : List Int64) (RI : List Int32) (PK : List Int64) (HK : List Int32) (PX PY : List Int64) (PI M : List Int32) (ml : Int32) (sx sy : Int64) (si : Int32) (ss : Int64) (se ri : Int32) (rx ry : Int64) (v2 v3 v4 : Int32), own_Y q p a b gx gy RX RY RI PK HK PX PY PI M ml v2 → 0 ≤ v3.toInt → v3.toInt ≤ 64 → v4.toInt = 4 + 5 * v3.toInt → 64 - v3.toInt < f → f_L_law_38 scr f RX RY RI PK HK PX PY PI M p a gx gy b ml sx sy si ss se ri rx ry v2 v3 v4 = some 1 := by
  intro f
  have z64 : (64 : Int32).toInt = 64 := rfl
  have z1 : (1 : Int32).toInt = 1 := rfl
  have z2 : (2 : Int32).toInt = 2 := rfl
  have z3 : (3 : Int32).toInt = 3 := rfl
  have z4 : (4 : Int32).toInt = 4 := rfl
  have z5 : (5 : Int32).toInt = 5 := rfl
  induction f with
  | zero => intro RX RY RI PK HK PX PY PI M ml sx sy si ss se ri rx ry v2 v3 v4 Y a0 a1 a2 a3; exfalso; omega
  | succ f ih =>
    intro RX RY RI PK HK PX PY PI M ml sx sy si ss se ri rx ry v2 v3 v4 Y a0 a1 a2 a3
    unfold f_L_law_38
    by_cases c1 : v4 < scr.length.toInt32
    case neg => rw [if_neg c1]
    by_cases c2 : v3 < 64
    case neg => rw [if_pos c1, if_neg c2]
    rw [if_pos c1, if_pos c2]
    rw [ilt] at c2
    have p3 : (v3 + 1).toInt = v3.toInt + 1 := by rw [iadd_i (by omega) (by omega), z1]
    have p4 : (v4 + 5).toInt = v4.toInt + 5 := by rw [iadd_i (by omega) (by omega), z5]
    obtain ⟨w0, e0⟩ := own_cell scr hs v4 (by omega)
    obtain ⟨w1, e1⟩ := own_cell scr hs (v4 + 1) (by rw [iadd_i (by omega) (by omega)]; omega)
    obtain ⟨w2, e2⟩ := own_cell scr hs (v4 + 2) (by rw [iadd_i (by omega) (by omega)]; omega)
    obtain ⟨w3, e3⟩ := own_cell scr hs (v4 + 3) (by rw [iadd_i (by omega) (by omega)]; omega)
    obtain ⟨w4, e4⟩ := own_cell scr hs (v4 + 4) (by rw [iadd_i (by omega) (by omega)]; omega)
    rw [e0, Option.bind_some, e1, Option.bind_some, e2, Option.bind_some, e3, Option.bind_some, e4, Option.bind_some]
    clear e0 e1 e2 e3 e4
    have IH : ∀ (RX RY : List Int64) (RI : List Int32) (PK : List Int64) (HK : List Int32) (PX PY : List Int64) (PI M : List Int32) (ml : Int32) (sx sy : Int64) (si : Int32) (ss : Int64) (se ri : Int32) (rx ry : Int64) (v2 : Int32), own_Y q p a b gx gy RX RY RI PK HK PX PY PI M ml v2 → f_L_law_38 scr f RX RY RI PK HK PX PY PI M p a gx gy b ml sx sy si ss se ri rx ry v2 (v3 + 1) (v4 + 5) = some 1 := fun RX RY RI PK HK PX PY PI M ml sx sy si ss se ri rx ry v2 Y => ih RX RY RI PK HK PX PY PI M ml sx sy si ss se ri rx ry v2 (v3 + 1) (v4 + 5) Y (by omega) (by omega) (by omega) (by omega)
    clear ih
    have yr := Y.r
    have yk := Y.k
    have ym := Y.m
    have y0 := Y.l0
    have y1 := Y.l1
    have yb := Y.b
    have nR : ∀ (RX' RY' : List Int64) (RI' : List Int32), own_R p a b RX' RY' RI' → own_Y q p a b gx gy RX' RY' RI' PK HK PX PY PI M ml v2 := fun RX' RY' RI' r => ⟨r, yk, ym, y0, y1, yb⟩
    obtain ⟨r0, r1⟩ := own_i7 (XT.ushr w0 3)
    have pr := own_i3 (XT.ushr w0 3 &&& 7)
    generalize XT.ushr w0 3 &&& 7 = r at r0 r1 pr
    by_cases o0 : w0 &&& 7 = 0
    · rw [if_pos o0]
      unfold f_L_law_144
      obtain ⟨k, ek, k0, k1⟩ := own_scR w2 w3 (if w4 &&& 1 = 0 then 1 else 0)
      rw [ek, Option.bind_some]
      obtain ⟨i0, i1⟩ := own_i7 w1
      obtain ⟨⟨x1, A1, B1, D1, i1, j1, l1⟩, f1, -, R1, -⟩ := own_mulX eq C h ha hb yr ri rx ry r0 r1 i0 i1 k0 (by omega)
      rw [f1, Option.bind_some]
      exact IH _ _ _ _ _ _ _ _ _ _ _ _ _ _ _ _ _ _ _ (nR _ _ _ R1)
    rw [if_neg o0]
    by_cases o1 : w0 &&& 7 = 1
    · rw [if_pos o1]
      obtain ⟨i0, i1⟩ := own_i7 w1
      obtain ⟨n0, n1⟩ := own_i7 w2
      obtain ⟨⟨x1, A1, B1, D1, i1, j1, l1⟩, f1, -, R1, -⟩ := own_addX eq C h ha hb yr ri rx ry r0 r1 i0 i1 n0 n1
      rw [f1, Option.bind_some]
      exact IH _ _ _ _ _ _ _ _ _ _ _ _ _ _ _ _ _ _ _ (nR _ _ _ R1)
    rw [if_neg o1]
    by_cases o2 : w0 &&& 7 = 2
    · rw [if_pos o2]
      unfold f_L_law_242
      obtain ⟨k, ek, k0, k1⟩ := own_scR w1 w2 (if w4 &&& 1 = 0 then 1 else 0)
      rw [ek, Option.bind_some]
      have q1 := own_i7 (r + 1)
      have q2 := own_i7 (r + 2)
      have q3 := own_i7 (r + 3)
      have q4 := own_i7 (r + 4)
      have nn : ∀ i : Fin 5, ¬ i = 0 → ¬ (r + Int32.ofNat i.val) &&& 7 = r := by
        intro i ne z
        have := own_dd r0 r1 i 0 ne
        rw [own_d0 r0 r1] at this
        exact this z
      exact own_265 eq C h ha hb yr k0 k1 r0 r1 q1.1 q1.2 q2.1 q2.2 q3.1 q3.2 q4.1 q4.2 (nn 1 (by decide)) (nn 2 (by decide)) (nn 3 (by decide)) (nn 4 (by decide)) (own_dd r0 r1 2 1 (by decide)) (own_dd r0 r1 4 3 (by decide)) (fun RX' RY' RI' ri' rx' ry' R' => IH _ _ _ _ _ _ _ _ _ _ _ _ _ _ _ _ _ _ _ (nR _ _ _ R'))
    rw [if_neg o2]
    by_cases o3 : w0 &&& 7 = 3
    · rw [if_pos o3]
      have sv : 1 ≤ ((w1 &&& 1073741823) + 1).toInt := by
        have rr := iand_rng w1 1073741823 (by decide)
        have ee : (1073741823 : Int32).toInt = 1073741823 := rfl
        rw [iadd_i (by omega) (by omega)]
        omega
      obtain ⟨⟨x1, A1, B1, D1, E1, F1, i1, j1, l1⟩, f1, g1, K1, H1, -⟩ := own_gnX eq C h ha hb hg yk ri rx ry pr.1 pr.2 sv
      have g1 : x1 = 1 := g1
      have K1 : own_KX q p a b gx gy A1 B1 D1 E1 F1 := K1
      have H1 : ∀ j : Int32, 0 ≤ j.toInt → j.toInt < 4 → gI B1 j = if r &&& 3 = j then 1 else gI HK j := H1
      rw [f1, Option.bind_some]
      refine IH _ _ _ _ _ _ _ _ _ _ _ _ _ _ _ _ _ _ _ ⟨yr, K1, ym, y0, y1, fun i i0 i1 hi => ?_⟩
      have hi : ¬ ((if x1 = 0 then v2 else (v2 ||| ((1 : Int32) <<< ((r &&& 3) &&& 31)))) &&& ((1 : Int32) <<< (i &&& 31))) = 0 := hi
      rw [g1, if_neg (by decide)] at hi
      show ¬ gI B1 i = 0
      rw [H1 i i0 i1]
      by_cases z : r &&& 3 = i
      · rw [if_pos z]; decide
      · rw [if_neg z]
        rw [own_kb (own_kc pr.1 pr.2 i0 i1 z)] at hi
        exact yb i i0 i1 hi
    rw [if_neg o3]
    by_cases o4 : w0 &&& 7 = 4
    · rw [if_pos o4]
      by_cases b1 : (v2 &&& ((1 : Int32) <<< ((r &&& 3) &&& 31))) = 0
      · rw [if_pos b1]
        exact IH _ _ _ _ _ _ _ _ _ _ _ _ _ _ _ _ _ _ _ Y
      rw [if_neg b1]
      have pj := own_i3 w1
      by_cases b2 : (v2 &&& ((1 : Int32) <<< ((w1 &&& 3) &&& 31))) = 0
      · rw [if_pos b2]
        exact IH _ _ _ _ _ _ _ _ _ _ _ _ _ _ _ _ _ _ _ Y
      rw [if_neg b2]
      have hv := yb _ pr.1 pr.2 b1
      have hw := yb _ pj.1 pj.2 b2
      have q1 := own_i7 w2
      have q2 := own_i7 (((w2 &&& 7) + 1) + ((w3 &&& 255) % 7))
      have m7 := own_m7 w3
      have ne := own_d7 q1.1 q1.2 m7.1 m7.2
      generalize w2 &&& 7 = d1 at q1 q2 ne
      generalize ((d1 + 1) + ((w3 &&& 255) % 7)) &&& 7 = d2 at q2 ne
      obtain ⟨⟨x1, A1, B1, D1, i1, j1, l1⟩, f1, g1, R1, m1⟩ := own_shX eq C h ha hb hg yk yr ri rx ry q1.1 q1.2 pr.1 pr.2 pj.1 pj.2 hv hw
      have g1 : x1 = 1 := g1
      have R1 : own_R p a b A1 B1 D1 := R1
      have m1 : ∀ j : Int32, 0 ≤ j.toInt → j.toInt < 8 → own_rg q A1 B1 D1 j = if d1 = j then own_ml (own_ci q a.toInt) (own_ci q b.toInt) (own_cp q gx gy 0) ((own_gL PK (w1 &&& 3)).toInt.toNat * (own_gL PK (r &&& 3)).toInt.toNat) else own_rg q RX RY RI j := m1
      rw [f1, Option.bind_some]
      show (if x1 = 0 then _ else Option.bind (f_shared PK HK PX PY PI p a A1 B1 D1 i1 j1 l1 d2 (w1 &&& 3) (r &&& 3)) _) = _
      rw [g1, if_neg (by decide)]
      obtain ⟨⟨x2, A2, B2, D2, i2, j2, l2⟩, f2, g2, R2, m2⟩ := own_shX eq C h ha hb hg yk R1 i1 j1 l1 q2.1 q2.2 pj.1 pj.2 pr.1 pr.2 hw hv
      have g2 : x2 = 1 := g2
      have R2 : own_R p a b A2 B2 D2 := R2
      have m2 : ∀ j : Int32, 0 ≤ j.toInt → j.toInt < 8 → own_rg q A2 B2 D2 j = if d2 = j then own_ml (own_ci q a.toInt) (own_ci q b.toInt) (own_cp q gx gy 0) ((own_gL PK (r &&& 3)).toInt.toNat * (own_gL PK (w1 &&& 3)).toInt.toNat) else own_rg q A1 B1 D1 j := m2
      rw [f2, Option.bind_some]
      show (if x2 = 0 then _ else Option.bind (f_L_same A2 B2 D2 d1 d2) _) = _
      rw [g2, if_neg (by decide)]
      have sm : own_rg q A2 B2 D2 d1 = own_rg q A2 B2 D2 d2 := by
        rw [m2 d1 q1.1 q1.2, if_neg (fun z => ne z.symm), m1 d1 q1.1 q1.2, if_pos rfl, m2 d2 q2.1 q2.2, if_pos rfl, Nat.mul_comm]
      rw [own_sameX eq R2 q1.1 q1.2 q2.1 q2.2 sm, Option.bind_some, if_neg (by decide)]
      exact IH _ _ _ _ _ _ _ _ _ _ _ _ _ _ _ _ _ _ _ (nR _ _ _ R2)
    rw [if_neg o4]
    by_cases o5 : w0 &&& 7 = 5
    · rw [if_pos o5]
      obtain ⟨⟨x1, M1, n1⟩, f1, l1, b1, c1⟩ := own_feL ym y0 y1 w1
      obtain ⟨⟨x2, M2, n2⟩, f2, l2, b2, c2⟩ := own_feL l1 b1 c1 w2
      obtain ⟨⟨x3, M3, n3⟩, f3, l3, b3, c3⟩ := own_feL l2 b2 c2 w3
      obtain ⟨⟨x4, M4, n4⟩, f4, l4, b4, c4⟩ := own_feL l3 b3 c3 w4
      rw [f1, Option.bind_some]
      show Option.bind (f_feed M1 n1 w2) _ = _
      rw [f2, Option.bind_some]
      show Option.bind (f_feed M2 n2 w3) _ = _
      rw [f3, Option.bind_some]
      show Option.bind (f_feed M3 n3 w4) _ = _
      rw [f4, Option.bind_some]
      show (if r &&& 7 = 0 then Option.bind (f_clearMessage n4) _ else _) = _
      by_cases z : r &&& 7 = 0
      · rw [if_pos z]
        exact IH _ _ _ _ _ _ _ _ _ _ _ _ _ _ _ _ _ _ _ ⟨yr, yk, l4, by decide, by decide, yb⟩
      · rw [if_neg z]
        exact IH _ _ _ _ _ _ _ _ _ _ _ _ _ _ _ _ _ _ _ ⟨yr, yk, l4, b4, c4, yb⟩
    rw [if_neg o5]
    by_cases o6 : w0 &&& 7 = 6
    · rw [if_pos o6]
      unfold f_L_law_635
      obtain ⟨⟨t0, t1, t2, t3, t4, t5, t6, t7, t8⟩, et, ht⟩ := own_sgX eq C h ha hb hg yk ym y0 y1 sx sy si ss se ri rx ry (u := r &&& 3) (v := if w2 &&& 1 = 0 then ((w1 &&& 15) + 1) else ((w1 &&& 16777215) + 1)) pr.1 pr.2
      rw [et, Option.bind_some]
      show (if t0 = 0 then f_L_law_38 scr f RX RY RI PK HK PX PY PI M p a gx gy b ml t1 t2 t3 t4 t5 t6 t7 t8 v2 (v3 + 1) (v4 + 5) else Option.bind (f_verify HK PX PY PI M p a gx gy b ml t1 t2 t3 t4 t6 t7 t8 (r &&& 3)) _) = _
      rcases ht with ⟨c0, -⟩ | ⟨c0, c1, c2, c3⟩
      · have c0 : t0 = 0 := c0
        rw [if_pos c0]
        exact IH _ _ _ _ _ _ _ _ _ _ _ _ _ _ _ _ _ _ _ Y
      · have c0 : t0 = 1 := c0
        rw [c0, if_neg (by decide)]
        obtain ⟨⟨u1, u2, u3, u4⟩, eu, hu⟩ := own_vfX eq C h ha hb hg yk pr.1 pr.2 c1 c2 c3 t6 t7 t8
        have hu : u1 = 1 := hu
        have eu : f_verify HK PX PY PI M p a gx gy b ml t1 t2 t3 t4 t6 t7 t8 (r &&& 3) = some (u1, u2, u3, u4) := eu
        rw [eu, Option.bind_some]
        show (if u1 = 0 then _ else f_L_law_38 scr f RX RY RI PK HK PX PY PI M p a gx gy b ml t1 t2 t3 t4 t5 u2 u3 u4 v2 (v3 + 1) (v4 + 5)) = _
        rw [hu, if_neg (by decide)]
        exact IH _ _ _ _ _ _ _ _ _ _ _ _ _ _ _ _ _ _ _ Y
    rw [if_neg o6]
    by_cases s0 : w4 &&& 3 = 0
    · rw [if_pos s0]
      obtain ⟨⟨x1, A1, B1, D1⟩, f1, R1⟩ := own_loadI h yr r
      rw [f1, Option.bind_some]
      exact IH _ _ _ _ _ _ _ _ _ _ _ _ _ _ _ _ _ _ _ (nR _ _ _ R1)
    rw [if_neg s0]
    by_cases s1 : w4 &&& 3 = 1
    · rw [if_pos s1]
      unfold f_L_law_703
      obtain ⟨⟨x1, A1, B1, D1, E1⟩, f1, -⟩ := own_ssX h sx sy si ss (if w4 &&& 4 = 0 then w1 else -1) w2 (w3 &&& 2147483647).toInt64
      rw [f1, Option.bind_some]
      exact IH _ _ _ _ _ _ _ _ _ _ _ _ _ _ _ _ _ _ _ Y
    rw [if_neg s1]
    by_cases s2 : w4 &&& 3 = 2
    · rw [if_pos s2]
      have q1 := own_i7 w1
      obtain ⟨co, cp, -⟩ := own_coord yr (w1 &&& 7) q1.1 q1.2
      rw [co, Option.bind_some, cp, Option.bind_some]
      obtain ⟨⟨x1, A1, B1, D1⟩, f1, R1⟩ := own_load h ha hb yr r (if gI RI (w1 &&& 7) = 0 then (own_gL RX (w1 &&& 7)).toInt32 else 0) (if gI RI (w1 &&& 7) = 0 then (own_gL RY (w1 &&& 7)).toInt32 else 0)
      rw [f1, Option.bind_some]
      exact IH _ _ _ _ _ _ _ _ _ _ _ _ _ _ _ _ _ _ _ (nR _ _ _ R1)
    rw [if_neg s2]
    obtain ⟨⟨x1, A1, B1, D1⟩, f1, R1⟩ := own_load h ha hb yr r w1 w2
    rw [f1, Option.bind_some]
    exact IH _ _ _ _ _ _ _ _ _ _ _ _ _ _ _ _ _ _ _ (nR _ _ _ R1)
theorem own_true (scr : List Int32) (hs : scr.length ≤ 260) : f_L_law scr = some 1 := by
  obtain ⟨w0, e0⟩ := own_cell scr hs 0 (by decide)
  obtain ⟨w1, e1⟩ := own_cell scr hs 1 (by decide)
  obtain ⟨w2, e2⟩ := own_cell scr hs 2 (by decide)
  obtain ⟨w3, e3⟩ := own_cell scr hs 3 (by decide)
  unfold f_L_law
  rw [e0, Option.bind_some, e1, Option.bind_some, e2, Option.bind_some, e3, Option.bind_some]
  obtain ⟨p, a, gx, gy, b, h, ha, hx, hy, hb, hg, dd, hi⟩ := own_initX (w0 &&& 7) w1 w2 w3
  have hp := own_pr_b (own_pr_i h)
  have eq : p.toInt = (p.toInt.toNat : Int) := by omega
  have q0 : 0 < p.toInt.toNat := by omega
  generalize p.toInt.toNat = q at eq q0
  have nz : NeZero q := ⟨by omega⟩
  have C := own_CvX eq h dd
  obtain ⟨R0, K0⟩ := own_startX (q := q) h hg
  rw [hi, Option.bind_some]
  refine own_38 eq C h ha hb hg scr hs 100000 _ _ _ _ _ _ _ _ _ _ _ _ _ _ _ _ _ _ 0 0 4 ⟨R0, K0, List.length_replicate, by decide, by decide, fun i i0 i1 hi => ?_⟩ (by decide) (by decide) (by decide) (by decide)
  exfalso
  apply hi
  rw [← Int32.toBitVec_inj, Int32.toBitVec_and]
  exact BitVec.zero_and

set_option maxRecDepth 65536 in
theorem comes_1 {Post : Tables → Env → Array Value → State → Outcome → State → Prop} (hpost : ∀ tb e args s v u, (limb_1_1.after args s (.returned v) u = true ∧ limb_1_2.after args s (.returned v) u = true ∧ True) → FrameEnd s (.returned v) u (Jvm.fieldLocs frame_1_writes args s ++ Jvm.arrayLocs frame_1_arrays args s ++ Jvm.staticLocs frame_1_statics s) 32 384 → Post tb e args s (.returned v) u) :
    ArmFor flags0 classFile x code maxLocals ret World_1 tables_1 room_1 Calls_1 rest_1 Pre_1 Post := by
  intro l hfl _ _ p e ha hc hk s m args below hf hA hF happ hP
  obtain ⟨hcalls, hrest, hpre⟩ := hP
  obtain ⟨-, -, -, hnamed, -, -, -, hat⟩ := (Spec.applies_iff hf).mp happ
  obtain ⟨hg, hn⟩ := and_e (Cond.before_iff.mp (show (Jvm.Cond.and given_1 narrow_1).before args s = true from hpre))
  obtain ⟨h1, h2⟩ := and_e hg
  have hw := fun d (hd : d ∈ tables_1) => atoms_spec (ws := Jvm.Cond.code x code maxLocals ret :: tables_1) hat d (List.mem_cons_of_mem _ hd)
  obtain ⟨w0, rfl⟩ : ∃ w0 : Value, args = #[w0] := by
    have hs : args.size = 1 := by simpa [Cond.value, given_1] using h1
    obtain ⟨L⟩ := args
    match L, hs with
    | [w0], _ => exact ⟨w0, rfl⟩
  have hfit : Fit s := fun {y c} hc i hi => by
    obtain ⟨ha, rfl⟩ := Array.getElem?_eq_some_iff.mp hc
    have q := List.all_eq_true.mp ((Array.all_eq_true_iff_forall_mem.mp hF) _ (Array.getElem_mem ha)) i (List.mem_range.mpr hi)
    simpa [Array.getElem?_eq_getElem hi] using q
  obtain ⟨hn1, hn2⟩ := and_e hn
  obtain ⟨ad, e0⟩ := arr_v hn1
  obtain ⟨cl, A⟩ := Arr.start e0 hn1
  obtain rfl : w0 = .ref ad := Option.some.inj e0
  obtain ⟨scr, hs1, hs2, hs3⟩ := script_of hfit A e0 hn2
  have E : OEndsQ own_P 0 0 (entL [.ref 0] d_0.maxL) [] [.inr (.inl (false, scr))] (LawQ 1 10 131) := ok_L_law (own_true scr hs2)
  have hS : SR [ad] [.ref 0] [.ref ad] := ⟨_, _, rfl, ⟨ad, rfl, rfl⟩, rfl⟩
  have hH : HR own_P s s.heap.size s.heap [ad] [.inr (.inl (false, scr))] := hr_script rfl A hs1 hs2 hs3
  have M := law_met (l := l) own_chk (fun w hw' => hw w (own_in w hw')) hm_0 E hS (Nat.le_of_ble_eq_true rfl) hH tables_1 room_1 (Nat.le_of_ble_eq_true rfl) (Nat.le_of_ble_eq_true rfl) (Nat.le_of_ble_eq_true rfl) (Nat.le_of_ble_eq_true rfl)
  obtain ⟨n, o, h1, h2, h3, L, rfl, N, hq⟩ := M p e ha hc hk s m _ below hf ((Spec.applies_iff_loose hf).mp happ).1 ⟨rfl, State.Warmed39.refl s, rfl⟩ trivial
  refine ⟨n, _, h1, h2, h3, hpost _ _ _ _ _ _ ⟨Cond.after_iff.mpr rfl, Cond.after_iff.mpr (eq_i res_at (Term.int_eval (1)) rfl), trivial⟩ ⟨hq.1, hq.2.1, (hq.2.2.sift fun y hy => Or.inr (N y hy)).mono (by decide) (by decide)⟩⟩
theorem main_1_1 : Claimed_1_1 := comes_1 fun _ _ _ _ _ _ h hF => ⟨h.1, hF⟩
theorem main_1_2 : Claimed_1_2 := comes_1 fun _ _ _ _ _ _ h hF => ⟨h.2.1, hF⟩
end Jvm.Pilot.@@N@@
namespace Jvm.Pilot.@@N@@
open Jvm Jvm.ClassFile Sem Op Lib Jvm.Free Jvm.Stand Jvm.Pilot.@@N@@.Jvm.D
/-! MADE BY PROGRAM (witnessworld.py) out of the Statement's table words and the real class files: 13 classes; the members and pool entries that the words name. The judged class is class 1, her method 4. -/
namespace start1
open Jvm.ClassFile
def u (s : String) : CpInfo := .utf8 (stringToUtf16 s)
/-- a pool by its gaps: so many unusable entries, then the entry; so many at the end -/
def gap : Nat → List CpInfo → List CpInfo
  | 0, r => r
  | n + 1, r => .unusable :: gap n r
def poolList (es : List (Nat × CpInfo)) (last : Nat) : List CpInfo := es.foldr (fun e r => gap e.1 (e.2 :: r)) (gap last [])
def pool (es : List (Nat × CpInfo)) (last : Nat) : Array CpInfo := ⟨poolList es last⟩
def fileOf (pool : Array CpInfo) (this : Nat) (attrs : Array Attribute := #[]) (ms : Array MethodInfo := #[]) (fl : Nat := 33) (sup : Nat := 0) (ifs : Array Nat := #[]) (fds : Array FieldInfo := #[]) : ClassFile where
  minorVersion := 0
  majorVersion := 65
  constantPool := pool
  accessFlags := fl
  thisClass := this
  superClass := sup
  interfaces := ifs
  fields := fds
  methods := ms
  attributes := attrs
def plain (name : String) (sup : Option ClassId) : Class where
  name := name
  kind := .ordinary
  loader := none
  accessFlags := 33
  super := sup
  interfaces := #[]
  cf := none
  fields := #[]
  methods := #[]
  instanceTypes := #[]
  staticTypes := #[]
  resolved := #[]
  callSites := []
  init := .initialized
  statics := none
  mirror := none

def pool0 : Array CpInfo := pool [(5, u "<init>"), (0, u "()V"), (1, .class_ 10), (1, u "java/lang/Object")] 113

def k0c0 : Code := { maxStack := 0, maxLocals := 1, code := object_method_1_code, exceptionTable := #[], attributes := #[] }
def k0m0 : Method := { name := "<init>", desc := "()V", sig := { parameters := [], returnType := none }, accessFlags := 1, code := some k0c0 }
/-- java/lang/Object -/
def k0 : Class := { plain "java/lang/Object" none with
  accessFlags := 33
  interfaces := #[]
  cf := some (fileOf pool0 8 #[] #[{ accessFlags := 1, nameIndex := 5, descriptorIndex := 6, attributes := #[] }] 33 0 #[] #[])
  fields := #[]
  methods := #[k0m0]
  instanceTypes := #[]
  staticTypes := #[]
  resolved := Array.replicate 124 none
  statics := none }

def pool1 : Array CpInfo := pool [(2, .class_ 4), (1, u "java/lang/Object"), (0, u "<init>"), (0, u "()V"), (0, .methodref 8 9), (0, .class_ 10), (0, .nameAndType 11 12), (0, u "CurveLadder"), (0, u "coord"), (0, u "(II)I"), (0, .integer 8388607), (0, .integer 16777215), (0, .methodref 16 17), (0, .class_ 18), (0, .nameAndType 19 20), (0, u "CurveLadderOwnLaw"), (0, u "cell"), (0, u "([II)I"), (0, .methodref 8 22), (0, .nameAndType 5 23), (0, u "(IIII)V"), (0, .methodref 16 25), (0, .nameAndType 26 27), (0, u "scalar"), (0, u "(IIZ)J"), (0, .methodref 8 29), (0, .nameAndType 30 31), (0, u "mul"), (0, u "(IIJ)Z"), (0, .methodref 8 33), (0, .nameAndType 34 35), (0, u "add"), (0, u "(III)Z"), (0, .methodref 16 37), (0, .nameAndType 38 39), (0, u "same"), (0, u "(LCurveLadder;II)Z"), (0, .integer 1073741823), (0, .methodref 8 42), (0, .nameAndType 43 44), (0, u "genKey"), (0, u "(II)Z"), (0, .methodref 8 46), (0, .nameAndType 47 35), (0, u "shared"), (0, .methodref 8 49), (0, .nameAndType 50 51), (0, u "feed"), (0, u "(I)Z"), (0, .methodref 8 53), (0, .nameAndType 54 6), (0, u "clearMessage"), (0, .methodref 8 56), (0, .nameAndType 57 44), (0, u "sign"), (0, .methodref 8 59), (0, .nameAndType 60 51), (0, u "verify"), (0, .methodref 8 62), (0, .nameAndType 63 51), (0, u "loadInfinity"), (0, .integer 2147483647), (0, .methodref 8 66), (0, .nameAndType 67 31), (0, u "setSig"), (0, .methodref 8 69), (0, .nameAndType 70 35), (0, u "load"), (3, u "law"), (0, u "([I)Z")] 4

def k1m0 : Method := { name := "<init>", desc := "()V", sig := { parameters := [], returnType := none }, accessFlags := 1, code := none }
def k1c1 : Code := { maxStack := 2, maxLocals := 2, code := method_2_code, exceptionTable := #[], attributes := #[] }
def k1m1 : Method := { name := "cell", desc := "([II)I", sig := { parameters := [(.array .int), .int], returnType := some .int }, accessFlags := 10, code := some k1c1 }
def k1c2 : Code := { maxStack := 4, maxLocals := 4, code := method_3_code, exceptionTable := #[], attributes := #[] }
def k1m2 : Method := { name := "same", desc := "(LCurveLadder;II)Z", sig := { parameters := [(.object "CurveLadder"), .int, .int], returnType := some .boolean }, accessFlags := 10, code := some k1c2 }
def k1c3 : Code := { maxStack := 4, maxLocals := 3, code := method_4_code, exceptionTable := #[], attributes := #[] }
def k1m3 : Method := { name := "scalar", desc := "(IIZ)J", sig := { parameters := [.int, .int, .boolean], returnType := some .long }, accessFlags := 10, code := some k1c3 }
def k1c4 : Code := { maxStack := 7, maxLocals := 21, code := code, exceptionTable := #[], attributes := #[] }
def k1m4 : Method := { name := "law", desc := "([I)Z", sig := { parameters := [(.array .int)], returnType := some .boolean }, accessFlags := 9, code := some k1c4 }
/-- CurveLadderOwnLaw -/
def k1 : Class := { plain "CurveLadderOwnLaw" (some 0) with
  accessFlags := 49
  interfaces := #[]
  cf := some (fileOf pool1 16 #[] #[{ accessFlags := 1, nameIndex := 5, descriptorIndex := 6, attributes := #[] }, { accessFlags := 10, nameIndex := 19, descriptorIndex := 20, attributes := #[] }, { accessFlags := 10, nameIndex := 38, descriptorIndex := 39, attributes := #[] }, { accessFlags := 10, nameIndex := 26, descriptorIndex := 27, attributes := #[] }, { accessFlags := 9, nameIndex := 74, descriptorIndex := 75, attributes := #[] }] 49 2 #[] #[])
  fields := #[]
  methods := #[k1m0, k1m1, k1m2, k1m3, k1m4]
  instanceTypes := #[]
  staticTypes := #[]
  resolved := Array.replicate 80 none
  statics := none }

def pool2 : Array CpInfo := pool [(1, .methodref 2 3), (0, .class_ 4), (0, .nameAndType 5 6), (0, u "java/lang/Object"), (0, u "<init>"), (0, u "()V"), (0, .fieldref 8 9), (0, .class_ 10), (0, .nameAndType 11 12), (0, u "CurveLadder"), (0, u "regX"), (0, u "[J"), (0, .fieldref 8 14), (0, .nameAndType 15 12), (0, u "regY"), (0, .fieldref 8 17), (0, .nameAndType 18 19), (0, u "regInf"), (0, u "[Z"), (0, .fieldref 8 21), (0, .nameAndType 22 12), (0, u "privKey"), (0, .fieldref 8 24), (0, .nameAndType 25 19), (0, u "hasKey"), (0, .fieldref 8 27), (0, .nameAndType 28 12), (0, u "pubX"), (0, .fieldref 8 30), (0, .nameAndType 31 12), (0, u "pubY"), (0, .fieldref 8 33), (0, .nameAndType 34 19), (0, u "pubInf"), (0, .fieldref 8 36), (0, .nameAndType 37 38), (0, u "msg"), (0, u "[I"), (0, .methodref 8 40), (0, .nameAndType 41 42), (0, u "primeAt"), (0, u "(I)J"), (0, .fieldref 8 44), (0, .nameAndType 45 46), (0, u "p"), (0, u "J"), (0, .methodref 8 48), (0, .nameAndType 49 42), (0, u "clampField"), (0, .fieldref 8 51), (0, .nameAndType 52 46), (0, u "a"), (0, .fieldref 8 54), (0, .nameAndType 55 46), (0, u "gx"), (0, .fieldref 8 57), (0, .nameAndType 58 46), (0, u "gy"), (0, .methodref 8 60), (0, .nameAndType 61 62), (0, u "computeB"), (0, u "()J"), (0, .fieldref 8 64), (0, .nameAndType 65 46), (0, u "b"), (0, .methodref 8 67), (0, .nameAndType 68 62), (0, u "discriminant"), (0, .methodref 8 70), (0, .nameAndType 71 72), (0, u "setRegister"), (0, u "(IJJZ)V"), (0, .fieldref 8 74), (0, .nameAndType 75 76), (0, u "msgLen"), (0, u "I"), (0, .fieldref 8 78), (0, .nameAndType 79 46), (0, u "sigX"), (0, .fieldref 8 81), (0, .nameAndType 82 46), (0, u "sigY"), (0, .fieldref 8 84), (0, .nameAndType 85 86), (0, u "sigInf"), (0, u "Z"), (0, .fieldref 8 88), (0, .nameAndType 89 46), (0, u "sigS"), (0, .fieldref 8 91), (0, .nameAndType 92 76), (0, u "sigE"), (0, .methodref 8 94), (0, .nameAndType 95 96), (0, u "validRegister"), (0, u "(I)Z"), (0, .methodref 8 98), (0, .nameAndType 99 100), (0, u "inField"), (0, u "(J)Z"), (0, .methodref 8 102), (0, .nameAndType 103 104), (0, u "onCurve"), (0, u "(JJ)Z"), (0, .methodref 8 106), (0, .nameAndType 107 108), (0, u "pointAdd"), (0, u "(JJZJJZ)V"), (0, .fieldref 8 110), (0, .nameAndType 111 46), (0, u "resX"), (0, .fieldref 8 113), (0, .nameAndType 114 46), (0, u "resY"), (0, .fieldref 8 116), (0, .nameAndType 117 86), (0, u "resInf"), (0, .long 281474976710656), (1, .methodref 8 121), (0, .nameAndType 122 123), (0, u "scalarMul"), (0, u "(JJZJ)V"), (0, .methodref 8 125), (0, .nameAndType 126 96), (0, u "validParty"), (0, .methodref 8 128), (0, .nameAndType 129 130), (0, u "challenge"), (0, u "(ZJJZJJ)I"), (0, .methodref 8 132), (0, .nameAndType 133 123), (0, u "storeSig"), (2, .long 8191), (1, .long 65521), (1, .long 65537), (1, .long 131071), (1, .long 524287), (1, .long 998244353), (1, .long 1000000007), (1, .long 2147483647), (1, .methodref 8 153), (0, .nameAndType 154 155), (0, u "mulMod"), (0, u "(JJ)J"), (0, .methodref 8 157), (0, .nameAndType 158 155), (0, u "subMod"), (0, .long 4), (1, .long 27), (1, .methodref 8 164), (0, .nameAndType 165 155), (0, u "addMod"), (0, .long 2), (1, .methodref 8 169), (0, .nameAndType 170 155), (0, u "powMod"), (0, .methodref 8 172), (0, .nameAndType 173 174), (0, u "curveRhs"), (0, u "(J)J"), (0, .methodref 8 176), (0, .nameAndType 177 178), (0, u "setResult"), (0, u "(JJZ)V"), (0, .long 3), (1, .methodref 8 182), (0, .nameAndType 183 174), (0, u "inv"), (0, .integer 2654435769), (0, .integer 1779033703), (0, .methodref 8 187), (0, .nameAndType 188 189), (0, u "mix"), (0, u "(II)I"), (0, .integer 65535), (0, u "REGISTERS"), (2, u "PARTIES"), (1, u "MESSAGE_CAPACITY"), (1, u "SCALAR_LIMIT"), (0, u "PARAM_P"), (1, u "PARAM_A"), (1, u "PARAM_B"), (1, u "PARAM_GX"), (1, u "PARAM_GY"), (0, u "COORD_X"), (0, u "COORD_Y"), (0, u "COORD_INF"), (0, u "SIG_RX"), (0, u "SIG_RY"), (0, u "SIG_RINF"), (0, u "SIG_S"), (0, u "SIG_CHALLENGE"), (0, u "SIG_MSGLEN"), (1, u "(IIII)V"), (5, u "load"), (0, u "(III)Z"), (0, u "loadInfinity"), (0, u "add"), (0, u "mul"), (0, u "(IIJ)Z"), (0, u "coord"), (0, u "genKey"), (0, u "(II)Z"), (1, u "shared"), (0, u "feed"), (0, u "clearMessage"), (0, u "sign"), (0, u "setSig"), (0, u "verify")] 4

def k2c0 : Code := { maxStack := 7, maxLocals := 7, code := prog_1_method_1_code, exceptionTable := #[], attributes := #[] }
def k2m0 : Method := { name := "<init>", desc := "(IIII)V", sig := { parameters := [.int, .int, .int, .int], returnType := none }, accessFlags := 1, code := some k2c0 }
def k2c1 : Code := { maxStack := 7, maxLocals := 4, code := prog_1_method_3_code, exceptionTable := #[], attributes := #[] }
def k2m1 : Method := { name := "load", desc := "(III)Z", sig := { parameters := [.int, .int, .int], returnType := some .boolean }, accessFlags := 1, code := some k2c1 }
def k2c2 : Code := { maxStack := 7, maxLocals := 2, code := prog_1_method_4_code, exceptionTable := #[], attributes := #[] }
def k2m2 : Method := { name := "loadInfinity", desc := "(I)Z", sig := { parameters := [.int], returnType := some .boolean }, accessFlags := 1, code := some k2c2 }
def k2c3 : Code := { maxStack := 12, maxLocals := 4, code := prog_1_method_5_code, exceptionTable := #[], attributes := #[] }
def k2m3 : Method := { name := "add", desc := "(III)Z", sig := { parameters := [.int, .int, .int], returnType := some .boolean }, accessFlags := 1, code := some k2c3 }
def k2c4 : Code := { maxStack := 8, maxLocals := 5, code := prog_1_method_6_code, exceptionTable := #[], attributes := #[] }
def k2m4 : Method := { name := "mul", desc := "(IIJ)Z", sig := { parameters := [.int, .int, .long], returnType := some .boolean }, accessFlags := 1, code := some k2c4 }
def k2c5 : Code := { maxStack := 2, maxLocals := 3, code := prog_1_method_7_code, exceptionTable := #[], attributes := #[] }
def k2m5 : Method := { name := "coord", desc := "(II)I", sig := { parameters := [.int, .int], returnType := some .int }, accessFlags := 1, code := some k2c5 }
def k2c6 : Code := { maxStack := 8, maxLocals := 3, code := prog_1_method_8_code, exceptionTable := #[], attributes := #[] }
def k2m6 : Method := { name := "genKey", desc := "(II)Z", sig := { parameters := [.int, .int], returnType := some .boolean }, accessFlags := 1, code := some k2c6 }
def k2c7 : Code := { maxStack := 8, maxLocals := 4, code := prog_1_method_10_code, exceptionTable := #[], attributes := #[] }
def k2m7 : Method := { name := "shared", desc := "(III)Z", sig := { parameters := [.int, .int, .int], returnType := some .boolean }, accessFlags := 1, code := some k2c7 }
def k2c8 : Code := { maxStack := 4, maxLocals := 2, code := prog_1_method_11_code, exceptionTable := #[], attributes := #[] }
def k2m8 : Method := { name := "feed", desc := "(I)Z", sig := { parameters := [.int], returnType := some .boolean }, accessFlags := 1, code := some k2c8 }
def k2c9 : Code := { maxStack := 2, maxLocals := 1, code := prog_1_method_12_code, exceptionTable := #[], attributes := #[] }
def k2m9 : Method := { name := "clearMessage", desc := "()V", sig := { parameters := [], returnType := none }, accessFlags := 1, code := some k2c9 }
def k2c10 : Code := { maxStack := 11, maxLocals := 11, code := prog_1_method_13_code, exceptionTable := #[], attributes := #[] }
def k2m10 : Method := { name := "sign", desc := "(II)Z", sig := { parameters := [.int, .int], returnType := some .boolean }, accessFlags := 1, code := some k2c10 }
def k2c11 : Code := { maxStack := 8, maxLocals := 5, code := prog_1_method_14_code, exceptionTable := #[], attributes := #[] }
def k2m11 : Method := { name := "setSig", desc := "(IIJ)Z", sig := { parameters := [.int, .int, .long], returnType := some .boolean }, accessFlags := 1, code := some k2c11 }
def k2c12 : Code := { maxStack := 11, maxLocals := 8, code := prog_1_method_15_code, exceptionTable := #[], attributes := #[] }
def k2m12 : Method := { name := "verify", desc := "(I)Z", sig := { parameters := [.int], returnType := some .boolean }, accessFlags := 1, code := some k2c12 }
def k2c13 : Code := { maxStack := 2, maxLocals := 2, code := prog_1_method_17_code, exceptionTable := #[], attributes := #[] }
def k2m13 : Method := { name := "primeAt", desc := "(I)J", sig := { parameters := [.int], returnType := some .long }, accessFlags := 2, code := some k2c13 }
def k2c14 : Code := { maxStack := 6, maxLocals := 4, code := prog_1_method_18_code, exceptionTable := #[], attributes := #[] }
def k2m14 : Method := { name := "clampField", desc := "(I)J", sig := { parameters := [.int], returnType := some .long }, accessFlags := 2, code := some k2c14 }
def k2c15 : Code := { maxStack := 5, maxLocals := 11, code := prog_1_method_19_code, exceptionTable := #[], attributes := #[] }
def k2m15 : Method := { name := "computeB", desc := "()J", sig := { parameters := [], returnType := some .long }, accessFlags := 2, code := some k2c15 }
def k2c16 : Code := { maxStack := 5, maxLocals := 11, code := prog_1_method_20_code, exceptionTable := #[], attributes := #[] }
def k2m16 : Method := { name := "discriminant", desc := "()J", sig := { parameters := [], returnType := some .long }, accessFlags := 2, code := some k2c16 }
def k2c17 : Code := { maxStack := 2, maxLocals := 2, code := prog_1_method_21_code, exceptionTable := #[], attributes := #[] }
def k2m17 : Method := { name := "validRegister", desc := "(I)Z", sig := { parameters := [.int], returnType := some .boolean }, accessFlags := 2, code := some k2c17 }
def k2c18 : Code := { maxStack := 2, maxLocals := 2, code := prog_1_method_22_code, exceptionTable := #[], attributes := #[] }
def k2m18 : Method := { name := "validParty", desc := "(I)Z", sig := { parameters := [.int], returnType := some .boolean }, accessFlags := 2, code := some k2c18 }
def k2c19 : Code := { maxStack := 6, maxLocals := 3, code := prog_1_method_23_code, exceptionTable := #[], attributes := #[] }
def k2m19 : Method := { name := "inField", desc := "(J)Z", sig := { parameters := [.long], returnType := some .boolean }, accessFlags := 2, code := some k2c19 }
def k2c20 : Code := { maxStack := 4, maxLocals := 7, code := prog_1_method_24_code, exceptionTable := #[], attributes := #[] }
def k2m20 : Method := { name := "setRegister", desc := "(IJJZ)V", sig := { parameters := [.int, .long, .long, .boolean], returnType := none }, accessFlags := 2, code := some k2c20 }
def k2c21 : Code := { maxStack := 3, maxLocals := 8, code := prog_1_method_25_code, exceptionTable := #[], attributes := #[] }
def k2m21 : Method := { name := "storeSig", desc := "(JJZJ)V", sig := { parameters := [.long, .long, .boolean, .long], returnType := none }, accessFlags := 2, code := some k2c21 }
def k2c22 : Code := { maxStack := 4, maxLocals := 5, code := prog_1_method_26_code, exceptionTable := #[], attributes := #[] }
def k2m22 : Method := { name := "mulMod", desc := "(JJ)J", sig := { parameters := [.long, .long], returnType := some .long }, accessFlags := 2, code := some k2c22 }
def k2c23 : Code := { maxStack := 4, maxLocals := 7, code := prog_1_method_27_code, exceptionTable := #[], attributes := #[] }
def k2m23 : Method := { name := "addMod", desc := "(JJ)J", sig := { parameters := [.long, .long], returnType := some .long }, accessFlags := 2, code := some k2c23 }
def k2c24 : Code := { maxStack := 4, maxLocals := 7, code := prog_1_method_28_code, exceptionTable := #[], attributes := #[] }
def k2m24 : Method := { name := "subMod", desc := "(JJ)J", sig := { parameters := [.long, .long], returnType := some .long }, accessFlags := 2, code := some k2c24 }
def k2c25 : Code := { maxStack := 5, maxLocals := 12, code := prog_1_method_29_code, exceptionTable := #[], attributes := #[] }
def k2m25 : Method := { name := "powMod", desc := "(JJ)J", sig := { parameters := [.long, .long], returnType := some .long }, accessFlags := 2, code := some k2c25 }
def k2c26 : Code := { maxStack := 7, maxLocals := 3, code := prog_1_method_30_code, exceptionTable := #[], attributes := #[] }
def k2m26 : Method := { name := "inv", desc := "(J)J", sig := { parameters := [.long], returnType := some .long }, accessFlags := 2, code := some k2c26 }
def k2c27 : Code := { maxStack := 5, maxLocals := 11, code := prog_1_method_31_code, exceptionTable := #[], attributes := #[] }
def k2m27 : Method := { name := "curveRhs", desc := "(J)J", sig := { parameters := [.long], returnType := some .long }, accessFlags := 2, code := some k2c27 }
def k2c28 : Code := { maxStack := 5, maxLocals := 7, code := prog_1_method_32_code, exceptionTable := #[], attributes := #[] }
def k2m28 : Method := { name := "onCurve", desc := "(JJ)Z", sig := { parameters := [.long, .long], returnType := some .boolean }, accessFlags := 2, code := some k2c28 }
def k2c29 : Code := { maxStack := 3, maxLocals := 6, code := prog_1_method_33_code, exceptionTable := #[], attributes := #[] }
def k2m29 : Method := { name := "setResult", desc := "(JJZ)V", sig := { parameters := [.long, .long, .boolean], returnType := none }, accessFlags := 2, code := some k2c29 }
def k2c30 : Code := { maxStack := 6, maxLocals := 31, code := prog_1_method_34_code, exceptionTable := #[], attributes := #[] }
def k2m30 : Method := { name := "pointAdd", desc := "(JJZJJZ)V", sig := { parameters := [.long, .long, .boolean, .long, .long, .boolean], returnType := none }, accessFlags := 2, code := some k2c30 }
def k2c31 : Code := { maxStack := 11, maxLocals := 14, code := prog_1_method_35_code, exceptionTable := #[], attributes := #[] }
def k2m31 : Method := { name := "scalarMul", desc := "(JJZJ)V", sig := { parameters := [.long, .long, .boolean, .long], returnType := none }, accessFlags := 2, code := some k2c31 }
def k2c32 : Code := { maxStack := 4, maxLocals := 4, code := prog_1_method_36_code, exceptionTable := #[], attributes := #[] }
def k2m32 : Method := { name := "mix", desc := "(II)I", sig := { parameters := [.int, .int], returnType := some .int }, accessFlags := 2, code := some k2c32 }
def k2c33 : Code := { maxStack := 4, maxLocals := 14, code := prog_1_method_37_code, exceptionTable := #[], attributes := #[] }
def k2m33 : Method := { name := "challenge", desc := "(ZJJZJJ)I", sig := { parameters := [.boolean, .long, .long, .boolean, .long, .long], returnType := some .int }, accessFlags := 2, code := some k2c33 }
/-- CurveLadder -/
def k2 : Class := { plain "CurveLadder" (some 0) with
  accessFlags := 49
  interfaces := #[]
  cf := some (fileOf pool2 8 #[] #[{ accessFlags := 1, nameIndex := 5, descriptorIndex := 218, attributes := #[] }, { accessFlags := 1, nameIndex := 224, descriptorIndex := 225, attributes := #[] }, { accessFlags := 1, nameIndex := 226, descriptorIndex := 96, attributes := #[] }, { accessFlags := 1, nameIndex := 227, descriptorIndex := 225, attributes := #[] }, { accessFlags := 1, nameIndex := 228, descriptorIndex := 229, attributes := #[] }, { accessFlags := 1, nameIndex := 230, descriptorIndex := 189, attributes := #[] }, { accessFlags := 1, nameIndex := 231, descriptorIndex := 232, attributes := #[] }, { accessFlags := 1, nameIndex := 234, descriptorIndex := 225, attributes := #[] }, { accessFlags := 1, nameIndex := 235, descriptorIndex := 96, attributes := #[] }, { accessFlags := 1, nameIndex := 236, descriptorIndex := 6, attributes := #[] }, { accessFlags := 1, nameIndex := 237, descriptorIndex := 232, attributes := #[] }, { accessFlags := 1, nameIndex := 238, descriptorIndex := 229, attributes := #[] }, { accessFlags := 1, nameIndex := 239, descriptorIndex := 96, attributes := #[] }, { accessFlags := 2, nameIndex := 41, descriptorIndex := 42, attributes := #[] }, { accessFlags := 2, nameIndex := 49, descriptorIndex := 42, attributes := #[] }, { accessFlags := 2, nameIndex := 61, descriptorIndex := 62, attributes := #[] }, { accessFlags := 2, nameIndex := 68, descriptorIndex := 62, attributes := #[] }, { accessFlags := 2, nameIndex := 95, descriptorIndex := 96, attributes := #[] }, { accessFlags := 2, nameIndex := 126, descriptorIndex := 96, attributes := #[] }, { accessFlags := 2, nameIndex := 99, descriptorIndex := 100, attributes := #[] }, { accessFlags := 2, nameIndex := 71, descriptorIndex := 72, attributes := #[] }, { accessFlags := 2, nameIndex := 133, descriptorIndex := 123, attributes := #[] }, { accessFlags := 2, nameIndex := 154, descriptorIndex := 155, attributes := #[] }, { accessFlags := 2, nameIndex := 165, descriptorIndex := 155, attributes := #[] }, { accessFlags := 2, nameIndex := 158, descriptorIndex := 155, attributes := #[] }, { accessFlags := 2, nameIndex := 170, descriptorIndex := 155, attributes := #[] }, { accessFlags := 2, nameIndex := 183, descriptorIndex := 174, attributes := #[] }, { accessFlags := 2, nameIndex := 173, descriptorIndex := 174, attributes := #[] }, { accessFlags := 2, nameIndex := 103, descriptorIndex := 104, attributes := #[] }, { accessFlags := 2, nameIndex := 177, descriptorIndex := 178, attributes := #[] }, { accessFlags := 2, nameIndex := 107, descriptorIndex := 108, attributes := #[] }, { accessFlags := 2, nameIndex := 122, descriptorIndex := 123, attributes := #[] }, { accessFlags := 2, nameIndex := 188, descriptorIndex := 189, attributes := #[] }, { accessFlags := 2, nameIndex := 129, descriptorIndex := 130, attributes := #[] }] 49 2 #[] #[{ accessFlags := 25, nameIndex := 191, descriptorIndex := 76, attributes := #[] }, { accessFlags := 25, nameIndex := 194, descriptorIndex := 76, attributes := #[] }, { accessFlags := 25, nameIndex := 196, descriptorIndex := 76, attributes := #[] }, { accessFlags := 25, nameIndex := 198, descriptorIndex := 46, attributes := #[] }, { accessFlags := 25, nameIndex := 199, descriptorIndex := 76, attributes := #[] }, { accessFlags := 25, nameIndex := 201, descriptorIndex := 76, attributes := #[] }, { accessFlags := 25, nameIndex := 203, descriptorIndex := 76, attributes := #[] }, { accessFlags := 25, nameIndex := 205, descriptorIndex := 76, attributes := #[] }, { accessFlags := 25, nameIndex := 207, descriptorIndex := 76, attributes := #[] }, { accessFlags := 25, nameIndex := 208, descriptorIndex := 76, attributes := #[] }, { accessFlags := 25, nameIndex := 209, descriptorIndex := 76, attributes := #[] }, { accessFlags := 25, nameIndex := 210, descriptorIndex := 76, attributes := #[] }, { accessFlags := 25, nameIndex := 211, descriptorIndex := 76, attributes := #[] }, { accessFlags := 25, nameIndex := 212, descriptorIndex := 76, attributes := #[] }, { accessFlags := 25, nameIndex := 213, descriptorIndex := 76, attributes := #[] }, { accessFlags := 25, nameIndex := 214, descriptorIndex := 76, attributes := #[] }, { accessFlags := 25, nameIndex := 215, descriptorIndex := 76, attributes := #[] }, { accessFlags := 25, nameIndex := 216, descriptorIndex := 76, attributes := #[] }, { accessFlags := 2, nameIndex := 45, descriptorIndex := 46, attributes := #[] }, { accessFlags := 2, nameIndex := 52, descriptorIndex := 46, attributes := #[] }, { accessFlags := 2, nameIndex := 65, descriptorIndex := 46, attributes := #[] }, { accessFlags := 2, nameIndex := 55, descriptorIndex := 46, attributes := #[] }, { accessFlags := 2, nameIndex := 58, descriptorIndex := 46, attributes := #[] }, { accessFlags := 2, nameIndex := 11, descriptorIndex := 12, attributes := #[] }, { accessFlags := 2, nameIndex := 15, descriptorIndex := 12, attributes := #[] }, { accessFlags := 2, nameIndex := 18, descriptorIndex := 19, attributes := #[] }, { accessFlags := 2, nameIndex := 111, descriptorIndex := 46, attributes := #[] }, { accessFlags := 2, nameIndex := 114, descriptorIndex := 46, attributes := #[] }, { accessFlags := 2, nameIndex := 117, descriptorIndex := 86, attributes := #[] }, { accessFlags := 2, nameIndex := 22, descriptorIndex := 12, attributes := #[] }, { accessFlags := 2, nameIndex := 25, descriptorIndex := 19, attributes := #[] }, { accessFlags := 2, nameIndex := 28, descriptorIndex := 12, attributes := #[] }, { accessFlags := 2, nameIndex := 31, descriptorIndex := 12, attributes := #[] }, { accessFlags := 2, nameIndex := 34, descriptorIndex := 19, attributes := #[] }, { accessFlags := 2, nameIndex := 37, descriptorIndex := 38, attributes := #[] }, { accessFlags := 2, nameIndex := 75, descriptorIndex := 76, attributes := #[] }, { accessFlags := 2, nameIndex := 79, descriptorIndex := 46, attributes := #[] }, { accessFlags := 2, nameIndex := 82, descriptorIndex := 46, attributes := #[] }, { accessFlags := 2, nameIndex := 85, descriptorIndex := 86, attributes := #[] }, { accessFlags := 2, nameIndex := 89, descriptorIndex := 46, attributes := #[] }, { accessFlags := 2, nameIndex := 92, descriptorIndex := 76, attributes := #[] }])
  fields := #[{ name := "REGISTERS", type := .int, accessFlags := 25, slot := 0, constantValue := 0 }, { name := "PARTIES", type := .int, accessFlags := 25, slot := 1, constantValue := 0 }, { name := "MESSAGE_CAPACITY", type := .int, accessFlags := 25, slot := 2, constantValue := 0 }, { name := "SCALAR_LIMIT", type := .long, accessFlags := 25, slot := 3, constantValue := 0 }, { name := "PARAM_P", type := .int, accessFlags := 25, slot := 4, constantValue := 0 }, { name := "PARAM_A", type := .int, accessFlags := 25, slot := 5, constantValue := 0 }, { name := "PARAM_B", type := .int, accessFlags := 25, slot := 6, constantValue := 0 }, { name := "PARAM_GX", type := .int, accessFlags := 25, slot := 7, constantValue := 0 }, { name := "PARAM_GY", type := .int, accessFlags := 25, slot := 8, constantValue := 0 }, { name := "COORD_X", type := .int, accessFlags := 25, slot := 9, constantValue := 0 }, { name := "COORD_Y", type := .int, accessFlags := 25, slot := 10, constantValue := 0 }, { name := "COORD_INF", type := .int, accessFlags := 25, slot := 11, constantValue := 0 }, { name := "SIG_RX", type := .int, accessFlags := 25, slot := 12, constantValue := 0 }, { name := "SIG_RY", type := .int, accessFlags := 25, slot := 13, constantValue := 0 }, { name := "SIG_RINF", type := .int, accessFlags := 25, slot := 14, constantValue := 0 }, { name := "SIG_S", type := .int, accessFlags := 25, slot := 15, constantValue := 0 }, { name := "SIG_CHALLENGE", type := .int, accessFlags := 25, slot := 16, constantValue := 0 }, { name := "SIG_MSGLEN", type := .int, accessFlags := 25, slot := 17, constantValue := 0 }, { name := "p", type := .long, accessFlags := 2, slot := 0, constantValue := 0 }, { name := "a", type := .long, accessFlags := 2, slot := 1, constantValue := 0 }, { name := "b", type := .long, accessFlags := 2, slot := 2, constantValue := 0 }, { name := "gx", type := .long, accessFlags := 2, slot := 3, constantValue := 0 }, { name := "gy", type := .long, accessFlags := 2, slot := 4, constantValue := 0 }, { name := "regX", type := (.array .long), accessFlags := 2, slot := 5, constantValue := 0 }, { name := "regY", type := (.array .long), accessFlags := 2, slot := 6, constantValue := 0 }, { name := "regInf", type := (.array .boolean), accessFlags := 2, slot := 7, constantValue := 0 }, { name := "resX", type := .long, accessFlags := 2, slot := 8, constantValue := 0 }, { name := "resY", type := .long, accessFlags := 2, slot := 9, constantValue := 0 }, { name := "resInf", type := .boolean, accessFlags := 2, slot := 10, constantValue := 0 }, { name := "privKey", type := (.array .long), accessFlags := 2, slot := 11, constantValue := 0 }, { name := "hasKey", type := (.array .boolean), accessFlags := 2, slot := 12, constantValue := 0 }, { name := "pubX", type := (.array .long), accessFlags := 2, slot := 13, constantValue := 0 }, { name := "pubY", type := (.array .long), accessFlags := 2, slot := 14, constantValue := 0 }, { name := "pubInf", type := (.array .boolean), accessFlags := 2, slot := 15, constantValue := 0 }, { name := "msg", type := (.array .int), accessFlags := 2, slot := 16, constantValue := 0 }, { name := "msgLen", type := .int, accessFlags := 2, slot := 17, constantValue := 0 }, { name := "sigX", type := .long, accessFlags := 2, slot := 18, constantValue := 0 }, { name := "sigY", type := .long, accessFlags := 2, slot := 19, constantValue := 0 }, { name := "sigInf", type := .boolean, accessFlags := 2, slot := 20, constantValue := 0 }, { name := "sigS", type := .long, accessFlags := 2, slot := 21, constantValue := 0 }, { name := "sigE", type := .int, accessFlags := 2, slot := 22, constantValue := 0 }]
  methods := #[k2m0, k2m1, k2m2, k2m3, k2m4, k2m5, k2m6, k2m7, k2m8, k2m9, k2m10, k2m11, k2m12, k2m13, k2m14, k2m15, k2m16, k2m17, k2m18, k2m19, k2m20, k2m21, k2m22, k2m23, k2m24, k2m25, k2m26, k2m27, k2m28, k2m29, k2m30, k2m31, k2m32, k2m33]
  instanceTypes := #[.long, .long, .long, .long, .long, (.array .long), (.array .long), (.array .boolean), .long, .long, .boolean, (.array .long), (.array .boolean), (.array .long), (.array .long), (.array .boolean), (.array .int), .int, .long, .long, .boolean, .long, .int]
  staticTypes := #[.int, .int, .int, .long, .int, .int, .int, .int, .int, .int, .int, .int, .int, .int, .int, .int, .int, .int]
  resolved := Array.replicate 244 none
  statics := none }

def pool3 : Array CpInfo := pool [(1, u "java/lang/Cloneable"), (0, .class_ 1), (0, u "java/lang/Object"), (0, .class_ 3)] 3

/-- java/lang/Cloneable -/
def k3 : Class := { plain "java/lang/Cloneable" (some 0) with
  accessFlags := 1537
  interfaces := #[]
  cf := some (fileOf pool3 2 #[] #[] 1537 4 #[] #[])
  fields := #[]
  methods := #[]
  instanceTypes := #[]
  staticTypes := #[]
  resolved := Array.replicate 8 none
  statics := none }

def pool4 : Array CpInfo := pool [(1, u "java/io/Serializable"), (0, .class_ 1), (0, u "java/lang/Object"), (0, .class_ 3)] 3

/-- java/io/Serializable -/
def k4 : Class := { plain "java/io/Serializable" (some 0) with
  accessFlags := 1537
  interfaces := #[]
  cf := some (fileOf pool4 2 #[] #[] 1537 4 #[] #[])
  fields := #[]
  methods := #[]
  instanceTypes := #[]
  staticTypes := #[]
  resolved := Array.replicate 8 none
  statics := none }

/-- the primitive boolean -/
def k5 : Class := { plain "boolean" none with kind := .primitive 'Z', accessFlags := 0x411 }
/-- [Z -/
def k6 : Class := { plain "[Z" (some 0) with kind := .array 5 .boolean, interfaces := #[3, 4], accessFlags := 1041 }

/-- the primitive byte -/
def k7 : Class := { plain "byte" none with kind := .primitive 'B', accessFlags := 0x411 }
/-- [B -/
def k8 : Class := { plain "[B" (some 0) with kind := .array 7 .byte, interfaces := #[3, 4], accessFlags := 1041 }

/-- the primitive int -/
def k9 : Class := { plain "int" none with kind := .primitive 'I', accessFlags := 0x411 }
/-- [I -/
def k10 : Class := { plain "[I" (some 0) with kind := .array 9 .int, interfaces := #[3, 4], accessFlags := 1041 }

/-- the primitive long -/
def k11 : Class := { plain "long" none with kind := .primitive 'J', accessFlags := 0x411 }
/-- [J -/
def k12 : Class := { plain "[J" (some 0) with kind := .array 11 .long, interfaces := #[3, 4], accessFlags := 1041 }

def heap : Heap := #[{ cls := 10, slots := #[.int 1, .int 2, .int 3], vm := .none }]
def classes : Array Class := #[k0, k1, k2, k3, k4, k5, k6, k7, k8, k9, k10, k11, k12]
def interned : List (Array UInt16 × Addr) := []
def slotsUsed : Nat := 3
def theMethod : MethodId := ⟨1, 4⟩
def args0 : Array Value := #[.ref 0]
def aboutOver (below : List Frame) : State where
  vm := { classes := classes, interned := interned.toArray }
  heap := heap
  slotsUsed := slotsUsed
  threads := #[{ frames := .invoking theMethod args0 :: below }]
def below0 : List Frame := [.native { method := ⟨0, 0⟩, args := #[] }]
def about1 : State := aboutOver below0
def p0 : Program := .bare "" "" ""
def e0 : Env := launch0.env 0 0 0
theorem w_frames : about1.frames = Frame.invoking theMethod args0 :: below0 := rfl
set_option maxRecDepth 65536 in
theorem w_args : argsFit about1.vm theMethod args0 = true := by decide +kernel
set_option maxRecDepth 65536 in
theorem w_heap : heapFits about1 = true := by decide +kernel
set_option maxRecDepth 65536 in
theorem w_runnable : about1.curStatus? = some .runnable := by decide +kernel
set_option maxRecDepth 65536 in
theorem w_alone : about1.alone = true := by decide +kernel
set_option maxRecDepth 65536 in
theorem w_named : about1.methodNamed? x = some theMethod := by decide +kernel
set_option maxRecDepth 65536 in
theorem w_hears : about1.hears theMethod below0 = true := by decide +kernel
set_option maxRecDepth 65536 in
theorem w_ripe : about1.ripe theMethod args0 below0 = true := by decide +kernel
theorem w_running : about1.status = .running := rfl
set_option maxRecDepth 65536 in
theorem w_room : about1.hasRoom e0.platform room_1 = true :=
  launch0.hasRoom_least _ room_1 (by decide +kernel) (by decide +kernel) (by decide +kernel) (by decide +kernel) (by decide +kernel) (by decide +kernel)
theorem allAtoms_all (ts : List Jvm.Cond) (a : Array Jvm.Value) (st : Jvm.State) : (allAtoms ts).before a st = ts.all (fun c => c.before a st) := by
  induction ts with
  | nil => rfl
  | cons c t ih =>
    show (Jvm.Cond.and c (allAtoms t)).before a st = _
    rw [Jvm.Cond.before_and, ih, List.all_cons]
def words1 : List Jvm.Cond := Jvm.Cond.code x code maxLocals ret :: tables_1
/-- a 'code' word, met by the world's own term for the bytes: nothing is compared byte by byte -/
theorem code_word {y : MethodName} {bytes : ByteArray} {mx : Nat} {rt : Option FieldType} {a : Array Value} {s : State} {m : MethodId} {meth : Method} {c : Code} (h1 : s.methodNamed? y = some m) (h2 : s.vm.method? m = some meth) (h3 : meth.code = some c) (h4 : c.code = bytes)
    (h5 : (c.maxLocals == mx && c.exceptionTable.isEmpty && decide (c.maxStack ≤ mostOperands) && decide (meth.sig.returnType = rt) && !meth.locks && decide (parseMethodDescriptor y.desc = some meth.sig)) = true) : (Jvm.Cond.code y bytes mx rt).before a s = true := by
  simp only [Bool.and_eq_true, beq_iff_eq, Bool.not_eq_true', decide_eq_true_eq] at h5
  obtain ⟨⟨⟨⟨⟨g1, g2⟩, g3⟩, g4⟩, g5⟩, g6⟩ := h5
  simp [Cond.before, Cond.holds, Cond.value, h1, h2, h3, h4, g1, g2, g3, g4, g5, g6]
def isCode : Jvm.Cond → Bool
  | .code _ _ _ _ => true
  | _ => false
theorem all_split {L : List Jvm.Cond} {P : Jvm.Cond → Bool} (h1 : L.all (fun c => isCode c || P c) = true) (h2 : ∀ c ∈ L.filter isCode, P c = true) : L.all P = true := by
  refine List.all_eq_true.mpr fun c hc => ?_
  have h := List.all_eq_true.mp h1 c hc
  rcases Bool.eq_false_or_eq_true (isCode c) with hi | hi
  · exact h2 c (List.mem_filter.mpr ⟨hc, hi⟩)
  · simpa [hi] using h
set_option maxRecDepth 65536 in
theorem w_c0 : (Jvm.Cond.code x code maxLocals ret).before args0 about1 = true := code_word (m := ⟨1, 4⟩) (meth := k1m4) (c := k1c4) (by decide +kernel) rfl rfl rfl (by decide +kernel)
set_option maxRecDepth 65536 in
theorem w_c1 : (Jvm.Cond.code ({ cls := "CurveLadderOwnLaw", name := "cell", desc := "([II)I" } : Jvm.MethodName) method_2_code (2 : Nat) (Option.some Jvm.ClassFile.FieldType.int)).before args0 about1 = true := code_word (m := ⟨1, 1⟩) (meth := k1m1) (c := k1c1) (by decide +kernel) rfl rfl rfl (by decide +kernel)
set_option maxRecDepth 65536 in
theorem w_c2 : (Jvm.Cond.code ({ cls := "CurveLadder", name := "<init>", desc := "(IIII)V" } : Jvm.MethodName) prog_1_method_1_code (7 : Nat) (Option.none : Option Jvm.ClassFile.FieldType)).before args0 about1 = true := code_word (m := ⟨2, 0⟩) (meth := k2m0) (c := k2c0) (by decide +kernel) rfl rfl rfl (by decide +kernel)
set_option maxRecDepth 65536 in
theorem w_c3 : (Jvm.Cond.code ({ cls := "java/lang/Object", name := "<init>", desc := "()V" } : Jvm.MethodName) object_method_1_code (1 : Nat) (Option.none : Option Jvm.ClassFile.FieldType)).before args0 about1 = true := code_word (m := ⟨0, 0⟩) (meth := k0m0) (c := k0c0) (by decide +kernel) rfl rfl rfl (by decide +kernel)
set_option maxRecDepth 65536 in
theorem w_c4 : (Jvm.Cond.code ({ cls := "CurveLadder", name := "primeAt", desc := "(I)J" } : Jvm.MethodName) prog_1_method_17_code (2 : Nat) (Option.some Jvm.ClassFile.FieldType.long)).before args0 about1 = true := code_word (m := ⟨2, 13⟩) (meth := k2m13) (c := k2c13) (by decide +kernel) rfl rfl rfl (by decide +kernel)
set_option maxRecDepth 65536 in
theorem w_c5 : (Jvm.Cond.code ({ cls := "CurveLadder", name := "clampField", desc := "(I)J" } : Jvm.MethodName) prog_1_method_18_code (4 : Nat) (Option.some Jvm.ClassFile.FieldType.long)).before args0 about1 = true := code_word (m := ⟨2, 14⟩) (meth := k2m14) (c := k2c14) (by decide +kernel) rfl rfl rfl (by decide +kernel)
set_option maxRecDepth 65536 in
theorem w_c6 : (Jvm.Cond.code ({ cls := "CurveLadder", name := "computeB", desc := "()J" } : Jvm.MethodName) prog_1_method_19_code (11 : Nat) (Option.some Jvm.ClassFile.FieldType.long)).before args0 about1 = true := code_word (m := ⟨2, 15⟩) (meth := k2m15) (c := k2c15) (by decide +kernel) rfl rfl rfl (by decide +kernel)
set_option maxRecDepth 65536 in
theorem w_c7 : (Jvm.Cond.code ({ cls := "CurveLadder", name := "mulMod", desc := "(JJ)J" } : Jvm.MethodName) prog_1_method_26_code (5 : Nat) (Option.some Jvm.ClassFile.FieldType.long)).before args0 about1 = true := code_word (m := ⟨2, 22⟩) (meth := k2m22) (c := k2c22) (by decide +kernel) rfl rfl rfl (by decide +kernel)
set_option maxRecDepth 65536 in
theorem w_c8 : (Jvm.Cond.code ({ cls := "CurveLadder", name := "subMod", desc := "(JJ)J" } : Jvm.MethodName) prog_1_method_28_code (7 : Nat) (Option.some Jvm.ClassFile.FieldType.long)).before args0 about1 = true := code_word (m := ⟨2, 24⟩) (meth := k2m24) (c := k2c24) (by decide +kernel) rfl rfl rfl (by decide +kernel)
set_option maxRecDepth 65536 in
theorem w_c9 : (Jvm.Cond.code ({ cls := "CurveLadder", name := "discriminant", desc := "()J" } : Jvm.MethodName) prog_1_method_20_code (11 : Nat) (Option.some Jvm.ClassFile.FieldType.long)).before args0 about1 = true := code_word (m := ⟨2, 16⟩) (meth := k2m16) (c := k2c16) (by decide +kernel) rfl rfl rfl (by decide +kernel)
set_option maxRecDepth 65536 in
theorem w_c10 : (Jvm.Cond.code ({ cls := "CurveLadder", name := "addMod", desc := "(JJ)J" } : Jvm.MethodName) prog_1_method_27_code (7 : Nat) (Option.some Jvm.ClassFile.FieldType.long)).before args0 about1 = true := code_word (m := ⟨2, 23⟩) (meth := k2m23) (c := k2c23) (by decide +kernel) rfl rfl rfl (by decide +kernel)
set_option maxRecDepth 65536 in
theorem w_c11 : (Jvm.Cond.code ({ cls := "CurveLadder", name := "setRegister", desc := "(IJJZ)V" } : Jvm.MethodName) prog_1_method_24_code (7 : Nat) (Option.none : Option Jvm.ClassFile.FieldType)).before args0 about1 = true := code_word (m := ⟨2, 20⟩) (meth := k2m20) (c := k2c20) (by decide +kernel) rfl rfl rfl (by decide +kernel)
set_option maxRecDepth 65536 in
theorem w_c12 : (Jvm.Cond.code ({ cls := "CurveLadder", name := "genKey", desc := "(II)Z" } : Jvm.MethodName) prog_1_method_8_code (3 : Nat) (Option.some Jvm.ClassFile.FieldType.boolean)).before args0 about1 = true := code_word (m := ⟨2, 6⟩) (meth := k2m6) (c := k2c6) (by decide +kernel) rfl rfl rfl (by decide +kernel)
set_option maxRecDepth 65536 in
theorem w_c13 : (Jvm.Cond.code ({ cls := "CurveLadder", name := "validParty", desc := "(I)Z" } : Jvm.MethodName) prog_1_method_22_code (2 : Nat) (Option.some Jvm.ClassFile.FieldType.boolean)).before args0 about1 = true := code_word (m := ⟨2, 18⟩) (meth := k2m18) (c := k2c18) (by decide +kernel) rfl rfl rfl (by decide +kernel)
set_option maxRecDepth 65536 in
theorem w_c14 : (Jvm.Cond.code ({ cls := "CurveLadder", name := "scalarMul", desc := "(JJZJ)V" } : Jvm.MethodName) prog_1_method_35_code (14 : Nat) (Option.none : Option Jvm.ClassFile.FieldType)).before args0 about1 = true := code_word (m := ⟨2, 31⟩) (meth := k2m31) (c := k2c31) (by decide +kernel) rfl rfl rfl (by decide +kernel)
set_option maxRecDepth 65536 in
theorem w_c15 : (Jvm.Cond.code ({ cls := "CurveLadder", name := "pointAdd", desc := "(JJZJJZ)V" } : Jvm.MethodName) prog_1_method_34_code (31 : Nat) (Option.none : Option Jvm.ClassFile.FieldType)).before args0 about1 = true := code_word (m := ⟨2, 30⟩) (meth := k2m30) (c := k2c30) (by decide +kernel) rfl rfl rfl (by decide +kernel)
set_option maxRecDepth 65536 in
theorem w_c16 : (Jvm.Cond.code ({ cls := "CurveLadder", name := "setResult", desc := "(JJZ)V" } : Jvm.MethodName) prog_1_method_33_code (6 : Nat) (Option.none : Option Jvm.ClassFile.FieldType)).before args0 about1 = true := code_word (m := ⟨2, 29⟩) (meth := k2m29) (c := k2c29) (by decide +kernel) rfl rfl rfl (by decide +kernel)
set_option maxRecDepth 65536 in
theorem w_c17 : (Jvm.Cond.code ({ cls := "CurveLadderOwnLaw", name := "scalar", desc := "(IIZ)J" } : Jvm.MethodName) method_4_code (3 : Nat) (Option.some Jvm.ClassFile.FieldType.long)).before args0 about1 = true := code_word (m := ⟨1, 3⟩) (meth := k1m3) (c := k1c3) (by decide +kernel) rfl rfl rfl (by decide +kernel)
set_option maxRecDepth 65536 in
theorem w_c18 : (Jvm.Cond.code ({ cls := "CurveLadder", name := "mul", desc := "(IIJ)Z" } : Jvm.MethodName) prog_1_method_6_code (5 : Nat) (Option.some Jvm.ClassFile.FieldType.boolean)).before args0 about1 = true := code_word (m := ⟨2, 4⟩) (meth := k2m4) (c := k2c4) (by decide +kernel) rfl rfl rfl (by decide +kernel)
set_option maxRecDepth 65536 in
theorem w_c19 : (Jvm.Cond.code ({ cls := "CurveLadder", name := "validRegister", desc := "(I)Z" } : Jvm.MethodName) prog_1_method_21_code (2 : Nat) (Option.some Jvm.ClassFile.FieldType.boolean)).before args0 about1 = true := code_word (m := ⟨2, 17⟩) (meth := k2m17) (c := k2c17) (by decide +kernel) rfl rfl rfl (by decide +kernel)
set_option maxRecDepth 65536 in
theorem w_c20 : (Jvm.Cond.code ({ cls := "CurveLadder", name := "add", desc := "(III)Z" } : Jvm.MethodName) prog_1_method_5_code (4 : Nat) (Option.some Jvm.ClassFile.FieldType.boolean)).before args0 about1 = true := code_word (m := ⟨2, 3⟩) (meth := k2m3) (c := k2c3) (by decide +kernel) rfl rfl rfl (by decide +kernel)
set_option maxRecDepth 65536 in
theorem w_c21 : (Jvm.Cond.code ({ cls := "CurveLadderOwnLaw", name := "same", desc := "(LCurveLadder;II)Z" } : Jvm.MethodName) method_3_code (4 : Nat) (Option.some Jvm.ClassFile.FieldType.boolean)).before args0 about1 = true := code_word (m := ⟨1, 2⟩) (meth := k1m2) (c := k1c2) (by decide +kernel) rfl rfl rfl (by decide +kernel)
set_option maxRecDepth 65536 in
theorem w_c22 : (Jvm.Cond.code ({ cls := "CurveLadder", name := "coord", desc := "(II)I" } : Jvm.MethodName) prog_1_method_7_code (3 : Nat) (Option.some Jvm.ClassFile.FieldType.int)).before args0 about1 = true := code_word (m := ⟨2, 5⟩) (meth := k2m5) (c := k2c5) (by decide +kernel) rfl rfl rfl (by decide +kernel)
set_option maxRecDepth 65536 in
theorem w_c23 : (Jvm.Cond.code ({ cls := "CurveLadder", name := "sign", desc := "(II)Z" } : Jvm.MethodName) prog_1_method_13_code (11 : Nat) (Option.some Jvm.ClassFile.FieldType.boolean)).before args0 about1 = true := code_word (m := ⟨2, 10⟩) (meth := k2m10) (c := k2c10) (by decide +kernel) rfl rfl rfl (by decide +kernel)
set_option maxRecDepth 65536 in
theorem w_c24 : (Jvm.Cond.code ({ cls := "CurveLadder", name := "feed", desc := "(I)Z" } : Jvm.MethodName) prog_1_method_11_code (2 : Nat) (Option.some Jvm.ClassFile.FieldType.boolean)).before args0 about1 = true := code_word (m := ⟨2, 8⟩) (meth := k2m8) (c := k2c8) (by decide +kernel) rfl rfl rfl (by decide +kernel)
set_option maxRecDepth 65536 in
theorem w_c25 : (Jvm.Cond.code ({ cls := "CurveLadder", name := "clearMessage", desc := "()V" } : Jvm.MethodName) prog_1_method_12_code (1 : Nat) (Option.none : Option Jvm.ClassFile.FieldType)).before args0 about1 = true := code_word (m := ⟨2, 9⟩) (meth := k2m9) (c := k2c9) (by decide +kernel) rfl rfl rfl (by decide +kernel)
set_option maxRecDepth 65536 in
theorem w_c26 : (Jvm.Cond.code ({ cls := "CurveLadder", name := "setSig", desc := "(IIJ)Z" } : Jvm.MethodName) prog_1_method_14_code (5 : Nat) (Option.some Jvm.ClassFile.FieldType.boolean)).before args0 about1 = true := code_word (m := ⟨2, 11⟩) (meth := k2m11) (c := k2c11) (by decide +kernel) rfl rfl rfl (by decide +kernel)
set_option maxRecDepth 65536 in
theorem w_c27 : (Jvm.Cond.code ({ cls := "CurveLadder", name := "storeSig", desc := "(JJZJ)V" } : Jvm.MethodName) prog_1_method_25_code (8 : Nat) (Option.none : Option Jvm.ClassFile.FieldType)).before args0 about1 = true := code_word (m := ⟨2, 21⟩) (meth := k2m21) (c := k2c21) (by decide +kernel) rfl rfl rfl (by decide +kernel)
set_option maxRecDepth 65536 in
theorem w_c28 : (Jvm.Cond.code ({ cls := "CurveLadder", name := "load", desc := "(III)Z" } : Jvm.MethodName) prog_1_method_3_code (4 : Nat) (Option.some Jvm.ClassFile.FieldType.boolean)).before args0 about1 = true := code_word (m := ⟨2, 1⟩) (meth := k2m1) (c := k2c1) (by decide +kernel) rfl rfl rfl (by decide +kernel)
set_option maxRecDepth 65536 in
theorem w_c29 : (Jvm.Cond.code ({ cls := "CurveLadder", name := "inField", desc := "(J)Z" } : Jvm.MethodName) prog_1_method_23_code (3 : Nat) (Option.some Jvm.ClassFile.FieldType.boolean)).before args0 about1 = true := code_word (m := ⟨2, 19⟩) (meth := k2m19) (c := k2c19) (by decide +kernel) rfl rfl rfl (by decide +kernel)
set_option maxRecDepth 65536 in
theorem w_c30 : (Jvm.Cond.code ({ cls := "CurveLadder", name := "onCurve", desc := "(JJ)Z" } : Jvm.MethodName) prog_1_method_32_code (7 : Nat) (Option.some Jvm.ClassFile.FieldType.boolean)).before args0 about1 = true := code_word (m := ⟨2, 28⟩) (meth := k2m28) (c := k2c28) (by decide +kernel) rfl rfl rfl (by decide +kernel)
set_option maxRecDepth 65536 in
theorem w_c31 : (Jvm.Cond.code ({ cls := "CurveLadder", name := "curveRhs", desc := "(J)J" } : Jvm.MethodName) prog_1_method_31_code (11 : Nat) (Option.some Jvm.ClassFile.FieldType.long)).before args0 about1 = true := code_word (m := ⟨2, 27⟩) (meth := k2m27) (c := k2c27) (by decide +kernel) rfl rfl rfl (by decide +kernel)
set_option maxRecDepth 65536 in
theorem w_c32 : (Jvm.Cond.code ({ cls := "CurveLadder", name := "inv", desc := "(J)J" } : Jvm.MethodName) prog_1_method_30_code (3 : Nat) (Option.some Jvm.ClassFile.FieldType.long)).before args0 about1 = true := code_word (m := ⟨2, 26⟩) (meth := k2m26) (c := k2c26) (by decide +kernel) rfl rfl rfl (by decide +kernel)
set_option maxRecDepth 65536 in
theorem w_c33 : (Jvm.Cond.code ({ cls := "CurveLadder", name := "powMod", desc := "(JJ)J" } : Jvm.MethodName) prog_1_method_29_code (12 : Nat) (Option.some Jvm.ClassFile.FieldType.long)).before args0 about1 = true := code_word (m := ⟨2, 25⟩) (meth := k2m25) (c := k2c25) (by decide +kernel) rfl rfl rfl (by decide +kernel)
set_option maxRecDepth 65536 in
theorem w_c34 : (Jvm.Cond.code ({ cls := "CurveLadder", name := "loadInfinity", desc := "(I)Z" } : Jvm.MethodName) prog_1_method_4_code (2 : Nat) (Option.some Jvm.ClassFile.FieldType.boolean)).before args0 about1 = true := code_word (m := ⟨2, 2⟩) (meth := k2m2) (c := k2c2) (by decide +kernel) rfl rfl rfl (by decide +kernel)
set_option maxRecDepth 65536 in
theorem w_c35 : (Jvm.Cond.code ({ cls := "CurveLadder", name := "challenge", desc := "(ZJJZJJ)I" } : Jvm.MethodName) prog_1_method_37_code (14 : Nat) (Option.some Jvm.ClassFile.FieldType.int)).before args0 about1 = true := code_word (m := ⟨2, 33⟩) (meth := k2m33) (c := k2c33) (by decide +kernel) rfl rfl rfl (by decide +kernel)
set_option maxRecDepth 65536 in
theorem w_c36 : (Jvm.Cond.code ({ cls := "CurveLadder", name := "mix", desc := "(II)I" } : Jvm.MethodName) prog_1_method_36_code (4 : Nat) (Option.some Jvm.ClassFile.FieldType.int)).before args0 about1 = true := code_word (m := ⟨2, 32⟩) (meth := k2m32) (c := k2c32) (by decide +kernel) rfl rfl rfl (by decide +kernel)
set_option maxRecDepth 65536 in
theorem w_c37 : (Jvm.Cond.code ({ cls := "CurveLadder", name := "verify", desc := "(I)Z" } : Jvm.MethodName) prog_1_method_15_code (8 : Nat) (Option.some Jvm.ClassFile.FieldType.boolean)).before args0 about1 = true := code_word (m := ⟨2, 12⟩) (meth := k2m12) (c := k2c12) (by decide +kernel) rfl rfl rfl (by decide +kernel)
set_option maxRecDepth 65536 in
theorem w_c38 : (Jvm.Cond.code ({ cls := "CurveLadder", name := "shared", desc := "(III)Z" } : Jvm.MethodName) prog_1_method_10_code (4 : Nat) (Option.some Jvm.ClassFile.FieldType.boolean)).before args0 about1 = true := code_word (m := ⟨2, 7⟩) (meth := k2m7) (c := k2c7) (by decide +kernel) rfl rfl rfl (by decide +kernel)
def codes1 : List Jvm.Cond := [Jvm.Cond.code x code maxLocals ret, Jvm.Cond.code ({ cls := "CurveLadderOwnLaw", name := "cell", desc := "([II)I" } : Jvm.MethodName) method_2_code (2 : Nat) (Option.some Jvm.ClassFile.FieldType.int), Jvm.Cond.code ({ cls := "CurveLadder", name := "<init>", desc := "(IIII)V" } : Jvm.MethodName) prog_1_method_1_code (7 : Nat) (Option.none : Option Jvm.ClassFile.FieldType), Jvm.Cond.code ({ cls := "java/lang/Object", name := "<init>", desc := "()V" } : Jvm.MethodName) object_method_1_code (1 : Nat) (Option.none : Option Jvm.ClassFile.FieldType), Jvm.Cond.code ({ cls := "CurveLadder", name := "primeAt", desc := "(I)J" } : Jvm.MethodName) prog_1_method_17_code (2 : Nat) (Option.some Jvm.ClassFile.FieldType.long), Jvm.Cond.code ({ cls := "CurveLadder", name := "clampField", desc := "(I)J" } : Jvm.MethodName) prog_1_method_18_code (4 : Nat) (Option.some Jvm.ClassFile.FieldType.long), Jvm.Cond.code ({ cls := "CurveLadder", name := "computeB", desc := "()J" } : Jvm.MethodName) prog_1_method_19_code (11 : Nat) (Option.some Jvm.ClassFile.FieldType.long), Jvm.Cond.code ({ cls := "CurveLadder", name := "mulMod", desc := "(JJ)J" } : Jvm.MethodName) prog_1_method_26_code (5 : Nat) (Option.some Jvm.ClassFile.FieldType.long), Jvm.Cond.code ({ cls := "CurveLadder", name := "subMod", desc := "(JJ)J" } : Jvm.MethodName) prog_1_method_28_code (7 : Nat) (Option.some Jvm.ClassFile.FieldType.long), Jvm.Cond.code ({ cls := "CurveLadder", name := "discriminant", desc := "()J" } : Jvm.MethodName) prog_1_method_20_code (11 : Nat) (Option.some Jvm.ClassFile.FieldType.long), Jvm.Cond.code ({ cls := "CurveLadder", name := "addMod", desc := "(JJ)J" } : Jvm.MethodName) prog_1_method_27_code (7 : Nat) (Option.some Jvm.ClassFile.FieldType.long), Jvm.Cond.code ({ cls := "CurveLadder", name := "setRegister", desc := "(IJJZ)V" } : Jvm.MethodName) prog_1_method_24_code (7 : Nat) (Option.none : Option Jvm.ClassFile.FieldType), Jvm.Cond.code ({ cls := "CurveLadder", name := "genKey", desc := "(II)Z" } : Jvm.MethodName) prog_1_method_8_code (3 : Nat) (Option.some Jvm.ClassFile.FieldType.boolean), Jvm.Cond.code ({ cls := "CurveLadder", name := "validParty", desc := "(I)Z" } : Jvm.MethodName) prog_1_method_22_code (2 : Nat) (Option.some Jvm.ClassFile.FieldType.boolean), Jvm.Cond.code ({ cls := "CurveLadder", name := "scalarMul", desc := "(JJZJ)V" } : Jvm.MethodName) prog_1_method_35_code (14 : Nat) (Option.none : Option Jvm.ClassFile.FieldType), Jvm.Cond.code ({ cls := "CurveLadder", name := "pointAdd", desc := "(JJZJJZ)V" } : Jvm.MethodName) prog_1_method_34_code (31 : Nat) (Option.none : Option Jvm.ClassFile.FieldType), Jvm.Cond.code ({ cls := "CurveLadder", name := "setResult", desc := "(JJZ)V" } : Jvm.MethodName) prog_1_method_33_code (6 : Nat) (Option.none : Option Jvm.ClassFile.FieldType), Jvm.Cond.code ({ cls := "CurveLadderOwnLaw", name := "scalar", desc := "(IIZ)J" } : Jvm.MethodName) method_4_code (3 : Nat) (Option.some Jvm.ClassFile.FieldType.long), Jvm.Cond.code ({ cls := "CurveLadder", name := "mul", desc := "(IIJ)Z" } : Jvm.MethodName) prog_1_method_6_code (5 : Nat) (Option.some Jvm.ClassFile.FieldType.boolean), Jvm.Cond.code ({ cls := "CurveLadder", name := "validRegister", desc := "(I)Z" } : Jvm.MethodName) prog_1_method_21_code (2 : Nat) (Option.some Jvm.ClassFile.FieldType.boolean), Jvm.Cond.code ({ cls := "CurveLadder", name := "add", desc := "(III)Z" } : Jvm.MethodName) prog_1_method_5_code (4 : Nat) (Option.some Jvm.ClassFile.FieldType.boolean), Jvm.Cond.code ({ cls := "CurveLadderOwnLaw", name := "same", desc := "(LCurveLadder;II)Z" } : Jvm.MethodName) method_3_code (4 : Nat) (Option.some Jvm.ClassFile.FieldType.boolean), Jvm.Cond.code ({ cls := "CurveLadder", name := "coord", desc := "(II)I" } : Jvm.MethodName) prog_1_method_7_code (3 : Nat) (Option.some Jvm.ClassFile.FieldType.int), Jvm.Cond.code ({ cls := "CurveLadder", name := "sign", desc := "(II)Z" } : Jvm.MethodName) prog_1_method_13_code (11 : Nat) (Option.some Jvm.ClassFile.FieldType.boolean), Jvm.Cond.code ({ cls := "CurveLadder", name := "feed", desc := "(I)Z" } : Jvm.MethodName) prog_1_method_11_code (2 : Nat) (Option.some Jvm.ClassFile.FieldType.boolean), Jvm.Cond.code ({ cls := "CurveLadder", name := "clearMessage", desc := "()V" } : Jvm.MethodName) prog_1_method_12_code (1 : Nat) (Option.none : Option Jvm.ClassFile.FieldType), Jvm.Cond.code ({ cls := "CurveLadder", name := "setSig", desc := "(IIJ)Z" } : Jvm.MethodName) prog_1_method_14_code (5 : Nat) (Option.some Jvm.ClassFile.FieldType.boolean), Jvm.Cond.code ({ cls := "CurveLadder", name := "storeSig", desc := "(JJZJ)V" } : Jvm.MethodName) prog_1_method_25_code (8 : Nat) (Option.none : Option Jvm.ClassFile.FieldType), Jvm.Cond.code ({ cls := "CurveLadder", name := "load", desc := "(III)Z" } : Jvm.MethodName) prog_1_method_3_code (4 : Nat) (Option.some Jvm.ClassFile.FieldType.boolean), Jvm.Cond.code ({ cls := "CurveLadder", name := "inField", desc := "(J)Z" } : Jvm.MethodName) prog_1_method_23_code (3 : Nat) (Option.some Jvm.ClassFile.FieldType.boolean), Jvm.Cond.code ({ cls := "CurveLadder", name := "onCurve", desc := "(JJ)Z" } : Jvm.MethodName) prog_1_method_32_code (7 : Nat) (Option.some Jvm.ClassFile.FieldType.boolean), Jvm.Cond.code ({ cls := "CurveLadder", name := "curveRhs", desc := "(J)J" } : Jvm.MethodName) prog_1_method_31_code (11 : Nat) (Option.some Jvm.ClassFile.FieldType.long), Jvm.Cond.code ({ cls := "CurveLadder", name := "inv", desc := "(J)J" } : Jvm.MethodName) prog_1_method_30_code (3 : Nat) (Option.some Jvm.ClassFile.FieldType.long), Jvm.Cond.code ({ cls := "CurveLadder", name := "powMod", desc := "(JJ)J" } : Jvm.MethodName) prog_1_method_29_code (12 : Nat) (Option.some Jvm.ClassFile.FieldType.long), Jvm.Cond.code ({ cls := "CurveLadder", name := "loadInfinity", desc := "(I)Z" } : Jvm.MethodName) prog_1_method_4_code (2 : Nat) (Option.some Jvm.ClassFile.FieldType.boolean), Jvm.Cond.code ({ cls := "CurveLadder", name := "challenge", desc := "(ZJJZJJ)I" } : Jvm.MethodName) prog_1_method_37_code (14 : Nat) (Option.some Jvm.ClassFile.FieldType.int), Jvm.Cond.code ({ cls := "CurveLadder", name := "mix", desc := "(II)I" } : Jvm.MethodName) prog_1_method_36_code (4 : Nat) (Option.some Jvm.ClassFile.FieldType.int), Jvm.Cond.code ({ cls := "CurveLadder", name := "verify", desc := "(I)Z" } : Jvm.MethodName) prog_1_method_15_code (8 : Nat) (Option.some Jvm.ClassFile.FieldType.boolean), Jvm.Cond.code ({ cls := "CurveLadder", name := "shared", desc := "(III)Z" } : Jvm.MethodName) prog_1_method_10_code (4 : Nat) (Option.some Jvm.ClassFile.FieldType.boolean)]
set_option maxRecDepth 65536 in
theorem codes_eq : words1.filter isCode = codes1 := rfl
theorem w_codes : ∀ c ∈ words1.filter isCode, c.before args0 about1 = true := by
  rw [codes_eq]
  intro c hc
  simp only [codes1, List.mem_cons, List.not_mem_nil, or_false] at hc
  rcases hc with rfl | rfl | rfl | rfl | rfl | rfl | rfl | rfl | rfl | rfl | rfl | rfl | rfl | rfl | rfl | rfl | rfl | rfl | rfl | rfl | rfl | rfl | rfl | rfl | rfl | rfl | rfl | rfl | rfl | rfl | rfl | rfl | rfl | rfl | rfl | rfl | rfl | rfl | rfl
  · exact w_c0
  · exact w_c1
  · exact w_c2
  · exact w_c3
  · exact w_c4
  · exact w_c5
  · exact w_c6
  · exact w_c7
  · exact w_c8
  · exact w_c9
  · exact w_c10
  · exact w_c11
  · exact w_c12
  · exact w_c13
  · exact w_c14
  · exact w_c15
  · exact w_c16
  · exact w_c17
  · exact w_c18
  · exact w_c19
  · exact w_c20
  · exact w_c21
  · exact w_c22
  · exact w_c23
  · exact w_c24
  · exact w_c25
  · exact w_c26
  · exact w_c27
  · exact w_c28
  · exact w_c29
  · exact w_c30
  · exact w_c31
  · exact w_c32
  · exact w_c33
  · exact w_c34
  · exact w_c35
  · exact w_c36
  · exact w_c37
  · exact w_c38
set_option maxRecDepth 65536 in
theorem w_t1 : (words1.take 24).all (fun c => isCode c || c.before args0 about1) = true := by decide +kernel
set_option maxRecDepth 65536 in
theorem w_t2 : ((words1.drop 24).take 24).all (fun c => isCode c || c.before args0 about1) = true := by decide +kernel
set_option maxRecDepth 65536 in
theorem w_t3 : (((words1.drop 24).drop 24).take 24).all (fun c => isCode c || c.before args0 about1) = true := by decide +kernel
set_option maxRecDepth 65536 in
theorem w_t4 : ((((words1.drop 24).drop 24).drop 24).take 24).all (fun c => isCode c || c.before args0 about1) = true := by decide +kernel
set_option maxRecDepth 65536 in
theorem w_t5 : (((((words1.drop 24).drop 24).drop 24).drop 24).take 24).all (fun c => isCode c || c.before args0 about1) = true := by decide +kernel
set_option maxRecDepth 65536 in
theorem w_t6 : ((((((words1.drop 24).drop 24).drop 24).drop 24).drop 24).take 24).all (fun c => isCode c || c.before args0 about1) = true := by decide +kernel
set_option maxRecDepth 65536 in
theorem w_t7 : (((((((words1.drop 24).drop 24).drop 24).drop 24).drop 24).drop 24).take 24).all (fun c => isCode c || c.before args0 about1) = true := by decide +kernel
set_option maxRecDepth 65536 in
theorem w_t8 : ((((((((words1.drop 24).drop 24).drop 24).drop 24).drop 24).drop 24).drop 24).take 24).all (fun c => isCode c || c.before args0 about1) = true := by decide +kernel
set_option maxRecDepth 65536 in
theorem w_t9 : (((((((((words1.drop 24).drop 24).drop 24).drop 24).drop 24).drop 24).drop 24).drop 24).take 24).all (fun c => isCode c || c.before args0 about1) = true := by decide +kernel
set_option maxRecDepth 65536 in
theorem w_t10 : (((((((((words1.drop 24).drop 24).drop 24).drop 24).drop 24).drop 24).drop 24).drop 24).drop 24).all (fun c => isCode c || c.before args0 about1) = true := by decide +kernel
theorem w_tables : (allAtoms (Jvm.Cond.code x code maxLocals ret :: tables_1)).before args0 about1 = true := by
  rw [allAtoms_all]
  show words1.all (fun c => c.before args0 about1) = true
  refine all_split ?_ w_codes
  rw [← List.take_append_drop 24 words1, List.all_append, w_t1, ← List.take_append_drop 24 (words1.drop 24), List.all_append, w_t2, ← List.take_append_drop 24 ((words1.drop 24).drop 24), List.all_append, w_t3, ← List.take_append_drop 24 (((words1.drop 24).drop 24).drop 24), List.all_append, w_t4, ← List.take_append_drop 24 ((((words1.drop 24).drop 24).drop 24).drop 24), List.all_append, w_t5, ← List.take_append_drop 24 (((((words1.drop 24).drop 24).drop 24).drop 24).drop 24), List.all_append, w_t6, ← List.take_append_drop 24 ((((((words1.drop 24).drop 24).drop 24).drop 24).drop 24).drop 24), List.all_append, w_t7, ← List.take_append_drop 24 (((((((words1.drop 24).drop 24).drop 24).drop 24).drop 24).drop 24).drop 24), List.all_append, w_t8, ← List.take_append_drop 24 ((((((((words1.drop 24).drop 24).drop 24).drop 24).drop 24).drop 24).drop 24).drop 24), List.all_append, w_t9, w_t10]
  rfl
set_option maxRecDepth 65536 in
theorem w_rest : rest_1_c.before args0 about1 = true := by decide +kernel
set_option maxRecDepth 65536 in
theorem w_case : (Jvm.Cond.and given_1 narrow_1).before args0 about1 = true := by decide +kernel
theorem w_applies : (headSpec (Jvm.Cond.code x code maxLocals ret :: tables_1) room_1).applies x e0.platform about1 = true :=
  (Spec.applies_iff w_frames).mpr ⟨w_running, w_runnable, w_alone, w_named, w_hears, w_ripe, w_room, w_tables⟩
theorem atStart : AtStart classFile x code maxLocals ret World_1 tables_1 room_1 Calls_1 rest_1 Pre_1 launch0 p0 e0 about1 theMethod args0 below0 :=
  ⟨lists_1, trivial, launch0.admits_env _ _ _, launch0.least_env, fairChoices_fair.cas, fairChoices_fair.clock, w_frames, w_args, w_heap, w_applies, trivial, w_rest, w_case⟩
end start1
theorem witness_1 : WitnessClaimed_1 := ⟨start1.p0, start1.e0, start1.about1, start1.theMethod, start1.args0, start1.below0, start1.atStart⟩
end Jvm.Pilot.@@N@@
