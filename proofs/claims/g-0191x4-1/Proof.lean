import JvmDerived
import JvmDerived.Pilot.@@N@@Statement
import JvmDerived.Pilot.@@N@@Code
set_option linter.unusedVariables false
set_option linter.unusedSimpArgs false
namespace Jvm.Own
open Jvm Jvm.ClassFile Sem Op Lib Jvm.Free Jvm.Stand Jvm.LawKit Jvm.RoadKit Bundle

/-! A plain machine: the few instructions that these classes use, over a heap of plain lists. -/
/-- an object (class number, fields in order) | an int array (false) or boolean array (true) | a long array -/
abbrev ACell := (Nat × List Value) ⊕ ((Bool × List Int32) ⊕ List Int64)
abbrev AHeap := List ACell
/-- instruction, length, variables forgotten ahead of it, link number, constant -/
abbrev It := Instr × Nat × List Bool × Nat × Int
/-- a field: name, descriptor, type, final -/
abbrev FD := String × String × FieldType × Bool
/-- a class: name, number of its slots, its fields -/
abbrev CD := String × Nat × List FD
/-- a method: name, bytes, variables, return type; kind (0 static, 1 constructor, 2 private, 3 virtual), parameters, class number, frames, words; code -/
abbrev MD := MethodName × ByteArray × Nat × Option FieldType × Nat × Nat × Nat × Nat × Nat × List (Nat × It)
/-- classes, methods, number of cells that are only read -/
abbrev PD := List CD × List MD × Nat
abbrev PD.cls (P : PD) : List CD := P.1
abbrev PD.mth (P : PD) : List MD := P.2.1
abbrev PD.nr (P : PD) : Nat := P.2.2
abbrev MD.name (d : MD) : MethodName := d.1
abbrev MD.bytes (d : MD) : ByteArray := d.2.1
abbrev MD.maxL (d : MD) : Nat := d.2.2.1
abbrev MD.ret (d : MD) : Option FieldType := d.2.2.2.1
abbrev MD.kind (d : MD) : Nat := d.2.2.2.2.1
abbrev MD.npar (d : MD) : Nat := d.2.2.2.2.2.1
abbrev MD.cid (d : MD) : Nat := d.2.2.2.2.2.2.1
abbrev MD.rf (d : MD) : Nat := d.2.2.2.2.2.2.2.1
abbrev MD.rw (d : MD) : Nat := d.2.2.2.2.2.2.2.2.1
abbrev MD.code (d : MD) : List (Nat × It) := d.2.2.2.2.2.2.2.2.2

def rdA {α : Type} (L : List α) (j : Int32) : Option α := if j < 0 then none else L[j.toNatClampNeg]?
def wrA {α : Type} (L : List α) (j : Int32) (x : α) : Option (List α) := if j < 0 then none else if j.toNatClampNeg < L.length then some (L.set j.toNatClampNeg x) else none
def getL (L : List Slot) (k : Nat) : Option Value := match L[k]? with | some (.val v) => some v | _ => none
def isC2 : Option Slot → Bool | some (.val v) => v.category == 2 | _ => false
def isSec : Option Slot → Bool | some .second => true | _ => false
def free1 : Option Slot → Bool | some .unset => true | some (.val v) => v.category == 1 | _ => false
def st1 (L : List Slot) (k : Nat) (v : Value) : Option (List Slot) :=
  if free1 L[k]? && (k == 0 || !isC2 L[k - 1]?) && !isSec L[k + 1]? then some (L.set k (.val v)) else none
def free2 : Option Slot → Option Slot → Bool | some .unset, some .unset => true | some (.val v), some .second => v.category == 2 | _, _ => false
def st2 (L : List Slot) (k : Nat) (v : Value) : Option (List Slot) :=
  if free2 L[k]? L[k + 1]? && (k == 0 || !isC2 L[k - 1]?) && !isSec L[k + 2]? then some ((L.set k (.val v)).set (k + 1) .second) else none
def forget : List Bool → List Slot → List Slot
  | [], L => L
  | _ :: _, [] => []
  | true :: r, _ :: L => .unset :: forget r L
  | false :: r, s :: L => s :: forget r L
def catSum : List Value → Nat
  | [] => 0
  | v :: r => v.category + catSum r
def entA : List Value → List Slot
  | [] => []
  | v :: r => if v.category = 2 then .val v :: .second :: entA r else .val v :: entA r
def entL (as : List Value) (n : Nat) : List Slot := entA as ++ List.replicate (n - (entA as).length) .unset
def putOk : FieldType → Value → Bool
  | .int, .int _ => true
  | .long, .long _ => true
  | .boolean, .int x => (x == 0) || (x == 1)
  | .array _, .ref _ => true
  | _, _ => false
def dflt : FieldType → Value
  | .long => .long 0
  | .array _ => .null
  | _ => .int 0
def dfOk : FieldType → Bool
  | .int => true
  | .boolean => true
  | .long => true
  | .array _ => true
  | _ => false
def tgt (pc : Nat) (o : Int) : Option Nat := if 0 ≤ (pc : Int) + o then some ((pc : Int) + o).toNat else none
def fetch : List (Nat × It) → Nat → Option It
  | [], _ => none
  | (q, i) :: r, pc => if q = pc then some i else fetch r pc
/-- one instruction that neither branches nor calls nor returns -/
def xI (P : PD) (ini : Bool) (cid : Nat) (i : Instr) (a : Nat) (b : Int) (L : List Slot) (S : List Value) (H : AHeap) : Option (List Slot × List Value × AHeap) :=
  match i with
  | .aload_n k => match getL L k.val with | some (.ref x) => some (L, .ref x :: S, H) | _ => none
  | .aload k => match getL L k with | some (.ref x) => some (L, .ref x :: S, H) | _ => none
  | .iload_n k => match getL L k.val with | some (.int x) => some (L, .int x :: S, H) | _ => none
  | .iload k => match getL L k with | some (.int x) => some (L, .int x :: S, H) | _ => none
  | .lload_n k => match getL L k.val with | some (.long x) => some (L, .long x :: S, H) | _ => none
  | .lload k => match getL L k with | some (.long x) => some (L, .long x :: S, H) | _ => none
  | .istore_n k => match S with | .int x :: S' => (st1 L k.val (.int x)).map fun L' => (L', S', H) | _ => none
  | .istore k => match S with | .int x :: S' => (st1 L k (.int x)).map fun L' => (L', S', H) | _ => none
  | .astore_n k => match S with | .ref x :: S' => (st1 L k.val (.ref x)).map fun L' => (L', S', H) | _ => none
  | .astore k => match S with | .ref x :: S' => (st1 L k (.ref x)).map fun L' => (L', S', H) | _ => none
  | .lstore_n k => match S with | .long x :: S' => (st2 L k.val (.long x)).map fun L' => (L', S', H) | _ => none
  | .lstore k => match S with | .long x :: S' => (st2 L k (.long x)).map fun L' => (L', S', H) | _ => none
  | .iinc k d => match getL L k with | some (.int x) => (st1 L k (.int (x + Int32.ofInt d))).map fun L' => (L', S, H) | _ => none
  | .iconst d => some (L, .int (Int32.ofInt d) :: S, H)
  | .bipush d => some (L, .int (Int8.ofInt d).toInt32 :: S, H)
  | .sipush d => some (L, .int (Int16.ofInt d).toInt32 :: S, H)
  | .lconst k => some (L, .long (Int64.ofNat k) :: S, H)
  | .ldc _ => some (L, .int (Int32.ofInt b) :: S, H)
  | .ldc2_w _ => some (L, .long (Int64.ofInt b) :: S, H)
  | .iadd => match S with | .int y :: .int x :: S' => some (L, .int (x + y) :: S', H) | _ => none
  | .isub => match S with | .int y :: .int x :: S' => some (L, .int (x - y) :: S', H) | _ => none
  | .imul => match S with | .int y :: .int x :: S' => some (L, .int (x * y) :: S', H) | _ => none
  | .iand => match S with | .int y :: .int x :: S' => some (L, .int (x &&& y) :: S', H) | _ => none
  | .ior => match S with | .int y :: .int x :: S' => some (L, .int (x ||| y) :: S', H) | _ => none
  | .ixor => match S with | .int y :: .int x :: S' => some (L, .int (x ^^^ y) :: S', H) | _ => none
  | .ishl => match S with | .int y :: .int x :: S' => some (L, .int (x <<< (y &&& 31)) :: S', H) | _ => none
  | .ishr => match S with | .int y :: .int x :: S' => some (L, .int (x >>> (y &&& 31)) :: S', H) | _ => none
  | .iushr => match S with | .int y :: .int x :: S' => some (L, .int (XT.ushr x y) :: S', H) | _ => none
  | .idiv => match S with | .int y :: .int x :: S' => if y = 0 then none else some (L, .int (x / y) :: S', H) | _ => none
  | .irem => match S with | .int y :: .int x :: S' => if y = 0 then none else some (L, .int (x % y) :: S', H) | _ => none
  | .ladd => match S with | .long y :: .long x :: S' => some (L, .long (x + y) :: S', H) | _ => none
  | .lsub => match S with | .long y :: .long x :: S' => some (L, .long (x - y) :: S', H) | _ => none
  | .lmul => match S with | .long y :: .long x :: S' => some (L, .long (x * y) :: S', H) | _ => none
  | .land => match S with | .long y :: .long x :: S' => some (L, .long (x &&& y) :: S', H) | _ => none
  | .lor => match S with | .long y :: .long x :: S' => some (L, .long (x ||| y) :: S', H) | _ => none
  | .lxor => match S with | .long y :: .long x :: S' => some (L, .long (x ^^^ y) :: S', H) | _ => none
  | .lshl => match S with | .int y :: .long x :: S' => some (L, .long (x <<< (y.toInt64 &&& 63)) :: S', H) | _ => none
  | .lshr => match S with | .int y :: .long x :: S' => some (L, .long (x >>> (y.toInt64 &&& 63)) :: S', H) | _ => none
  | .lushr => match S with | .int y :: .long x :: S' => some (L, .long (XT.ushrL x y) :: S', H) | _ => none
  | .ldiv => match S with | .long y :: .long x :: S' => if y = 0 then none else some (L, .long (x / y) :: S', H) | _ => none
  | .lrem => match S with | .long y :: .long x :: S' => if y = 0 then none else some (L, .long (x % y) :: S', H) | _ => none
  | .lcmp => match S with | .long y :: .long x :: S' => some (L, .int (XT.cmpL x y) :: S', H) | _ => none
  | .i2l => match S with | .int x :: S' => some (L, .long x.toInt64 :: S', H) | _ => none
  | .l2i => match S with | .long x :: S' => some (L, .int x.toInt32 :: S', H) | _ => none
  | .dup => match S with
    | .int x :: S' => some (L, .int x :: .int x :: S', H)
    | .ref x :: S' => some (L, .ref x :: .ref x :: S', H)
    | _ => none
  | .dup2 => match S with
    | .int x :: .ref y :: S' => some (L, .int x :: .ref y :: .int x :: .ref y :: S', H)
    | .long x :: S' => some (L, .long x :: .long x :: S', H)
    | _ => none
  | .pop => match S with | .int _ :: S' => some (L, S', H) | _ => none
  | .getfield _ => match S with
    | .ref o :: S' => match H[o]? with
      | some (.inl (c, fs)) => if c = cid then match fs[a]? with
        | some (.int x) => some (L, .int x :: S', H)
        | some (.long x) => some (L, .long x :: S', H)
        | some (.ref x) => some (L, .ref x :: S', H)
        | _ => none
        else none
      | _ => none
    | _ => none
  | .putfield _ => match S with
    | v :: .ref o :: S' => match H[o]? with
      | some (.inl (c, fs)) => if c = cid ∧ P.nr ≤ o then match (P.cls[c]?).bind fun cd => cd.2.2[a]? with
        | some (_, _, ty, fin) => if putOk ty v && (!fin || ini) then some (L, S', H.set o (.inl (c, fs.set a v))) else none
        | none => none
        else none
      | _ => none
    | _ => none
  | .iaload => match S with
    | .int j :: .ref o :: S' => match H[o]? with
      | some (.inr (.inl (false, A))) => (rdA A j).map fun x => (L, .int x :: S', H)
      | _ => none
    | _ => none
  | .baload => match S with
    | .int j :: .ref o :: S' => match H[o]? with
      | some (.inr (.inl (true, A))) => (rdA A j).map fun x => (L, .int x :: S', H)
      | _ => none
    | _ => none
  | .laload => match S with
    | .int j :: .ref o :: S' => match H[o]? with
      | some (.inr (.inr A)) => (rdA A j).map fun x => (L, .long x :: S', H)
      | _ => none
    | _ => none
  | .iastore => match S with
    | .int x :: .int j :: .ref o :: S' => match H[o]? with
      | some (.inr (.inl (false, A))) => if P.nr ≤ o then (wrA A j x).map fun A' => (L, S', H.set o (.inr (.inl (false, A')))) else none
      | _ => none
    | _ => none
  | .bastore => match S with
    | .int x :: .int j :: .ref o :: S' => match H[o]? with
      | some (.inr (.inl (true, A))) => if P.nr ≤ o then (wrA A j (x &&& 1)).map fun A' => (L, S', H.set o (.inr (.inl (true, A')))) else none
      | _ => none
    | _ => none
  | .lastore => match S with
    | .long x :: .int j :: .ref o :: S' => match H[o]? with
      | some (.inr (.inr A)) => if P.nr ≤ o then (wrA A j x).map fun A' => (L, S', H.set o (.inr (.inr A'))) else none
      | _ => none
    | _ => none
  | .arraylength => match S with
    | .ref o :: S' => match H[o]? with
      | some (.inr (.inl (_, A))) => some (L, .int A.length.toInt32 :: S', H)
      | _ => none
    | _ => none
  | _ => none
/-- one instruction that makes a cell: how many slots it takes stands last -/
def xN (P : PD) (i : Instr) (a : Nat) (S : List Value) (H : AHeap) : Option (List Value × AHeap × Nat) :=
  match i with
  | .new _ => match P.cls[a]? with
    | some cd => some (.ref H.length :: S, H ++ [.inl (a, cd.2.2.map fun f => dflt f.2.2.1)], cd.2.1)
    | none => none
  | .newarray t => match S with
    | .int n :: S' => if n < 0 ∨ 100000 < n.toNatClampNeg then none else match t with
      | .int => some (.ref H.length :: S', H ++ [.inr (.inl (false, List.replicate n.toNatClampNeg 0))], n.toNatClampNeg)
      | .boolean => some (.ref H.length :: S', H ++ [.inr (.inl (true, List.replicate n.toNatClampNeg 0))], n.toNatClampNeg)
      | .long => some (.ref H.length :: S', H ++ [.inr (.inr (List.replicate n.toNatClampNeg 0))], n.toNatClampNeg)
      | _ => none
    | _ => none
  | _ => none
/-- the words that a call from d to y asks -/
def fitsRoom (d y : MD) (rest : List Value) : Bool := decide (y.rf + 1 ≤ d.rf) && decide (catSum rest + (y.maxL + 11) + y.rw ≤ d.rw)
/-- the arguments of a call, first to last, and what lies under them -/
def argsOf (n : Nat) (S : List Value) : Option (List Value × List Value) := if n ≤ S.length then some ((S.take n).reverse, S.drop n) else none
def recvOk (P : PD) (H : AHeap) (y : MD) (as : List Value) : Bool :=
  if y.kind = 0 then true else match as with
    | .ref o :: _ => match H[o]? with
      | some (.inl (c, _)) => decide (c = y.cid)
      | _ => false
    | _ => false
def nargs (y : MD) : Nat := if y.kind = 0 then y.npar else y.npar + 1
def invKind (i : Instr) (k : Nat) : Bool := match i with
  | .invokestatic _ => k == 0
  | .invokespecial _ => k == 1
  | .invokevirtual _ => k == 2 || k == 3
  | _ => false
/-- what a method returns of an int on its stack -/
def retV (r : Option FieldType) (x : Int32) : Option Value := match r with
  | some .int => some (.int x)
  | some .boolean => some (.int (x &&& 1))
  | _ => none
def isInv : Instr → Bool
  | .invokestatic _ => true
  | .invokespecial _ => true
  | .invokevirtual _ => true
  | _ => false
def isNew : Instr → Bool
  | .new _ => true
  | .newarray _ => true
  | _ => false
/-- what a run answers: what it returns, the heap, how many cells and slots it has made -/
abbrev Res := Option Value × AHeap × Nat × Nat
def addR (r : Res) (kc ks : Nat) : Res := (r.1, r.2.1, r.2.2.1 + kc, r.2.2.2 + ks)
/-- n instructions at the most, from pc of method mi to its return -/
def exe (P : PD) : Nat → Nat → Nat → List Slot → List Value → AHeap → Option Res
  | 0, _, _, _, _, _ => none
  | n + 1, mi, pc, L0, S, H => match P.mth[mi]? with
    | none => none
    | some d => match fetch d.code pc with
      | none => none
      | some (i, len, er, a, b) =>
        let L := forget er L0
        match i with
        | .goto o => match tgt pc o with
          | some q => exe P n mi q L S H
          | none => none
        | .if_icmp cd o => match S with
          | .int y :: .int x :: S' => if if_icmp.holds cd x y = true then match tgt pc o with
              | some q => exe P n mi q L S' H
              | none => none
            else exe P n mi (pc + 3) L S' H
          | _ => none
        | .ifCond cd o => match S with
          | .int x :: S' => if ifCond.holds cd x = true then match tgt pc o with
              | some q => exe P n mi q L S' H
              | none => none
            else exe P n mi (pc + 3) L S' H
          | _ => none
        | .ifnonnull o => match S with
          | .ref _ :: S' => match tgt pc o with
            | some q => exe P n mi q L S' H
            | none => none
          | _ => none
        | .ireturn => match S with
          | [.int x] => match retV d.ret x with
            | some v => some (some v, H, 0, 0)
            | none => none
          | _ => none
        | .lreturn => match S with
          | [.long x] => if d.ret = some .long then some (some (.long x), H, 0, 0) else none
          | _ => none
        | .return_ => match S with
          | [] => if d.ret = none then some (none, H, 0, 0) else none
          | _ => none
        | i => if isInv i = true then
            if b = -1 then match i, S with
              | .invokespecial _, .ref _ :: S' => if 1 ≤ d.rf ∧ catSum S' + 12 ≤ d.rw then exe P n mi (pc + 3) L S' H else none
              | _, _ => none
            else match P.mth[a]? with
              | none => none
              | some y => match argsOf (nargs y) S with
                | none => none
                | some (as, rest) =>
                  if decide (0 < a) && invKind i y.kind && recvOk P H y as && fitsRoom d y rest && decide ((entA as).length ≤ y.maxL) then
                    match exe P n a 0 (entL as y.maxL) [] H with
                    | some (v, H1, kc, ks) => (exe P n mi (pc + 3) L (v.toList ++ rest) H1).map fun r => addR r kc ks
                    | none => none
                  else none
          else if isNew i = true then match xN P i a S H with
            | some (S', H', ks) => (exe P n mi (pc + len) L S' H').map fun r => addR r 1 ks
            | none => none
          else match xI P (d.name.name == "<init>") d.cid i a b L S H with
            | some (L', S', H') => exe P n mi (pc + len) L' S' H'
            | none => none
end Jvm.Own
namespace Jvm.Own
open Jvm Jvm.ClassFile Sem Op Lib Jvm.Free Jvm.Stand Jvm.LawKit Jvm.RoadKit Bundle

/-! The words that the machine's program rests on -/
def fWord (C : String) (f : FD) : Jvm.Cond := if f.2.2.2 then .laysFinal C C f.1 f.2.1 else .lays C C f.1 f.2.1
def cWords (cd : CD) : List Jvm.Cond := .instantiable cd.1 cd.2.1 :: .initialized cd.1 :: cd.2.2.map (fWord cd.1)
def mWords (y : MD) : List Jvm.Cond := .code y.name y.bytes y.maxL y.ret :: .initialized y.name.cls ::
  (if y.kind = 0 then [.static y.name] else if y.kind = 1 then [.instanceMethod y.name] else if y.kind = 2 then [.instanceMethod y.name, .privateMethod y.name]
   else [.declares y.name, .selects y.name.cls y.name y.name, .instanceMethod y.name])
def fieldOf (P : PD) (c a : Nat) : Option FD := (P.cls[c]?).bind fun cd => cd.2.2[a]?
def fLink (P : PD) (d : MD) (k a : Nat) : List Jvm.Cond := match fieldOf P d.cid a with | some f => [.fieldLink d.name.cls k d.name.cls f.1 f.2.1] | none => []
def mLink (P : PD) (d : MD) (k a : Nat) (b : Int) : List Jvm.Cond :=
  if b = -1 then [.methodLink d.name.cls k Lib.objectInit, .instanceMethod Lib.objectInit, .code Lib.objectInit ⟨#[0xb1]⟩ 1 none]
  else match P.mth[a]? with | some y => [.methodLink d.name.cls k y.name] | none => []
def iWords (P : PD) (d : MD) (x : Nat × It) : List Jvm.Cond := match x with
  | (_, .getfield k, _, _, a, _) => fLink P d k a
  | (_, .putfield k, _, _, a, _) => fLink P d k a
  | (_, .ldc k, _, _, _, b) => [.constant d.name.cls k (Int32.ofInt b)]
  | (_, .ldc2_w k, _, _, _, b) => [.constantLong d.name.cls k (Int64.ofInt b)]
  | (_, .new k, _, _, a, _) => match P.cls[a]? with | some cd => [.classLink d.name.cls k cd.1] | none => []
  | (_, .newarray t, _, _, _, _) => [.arrayClass (newarray.typeOf t)]
  | (_, .invokestatic k, _, _, a, b) => mLink P d k a b
  | (_, .invokespecial k, _, _, a, b) => mLink P d k a b
  | (_, .invokevirtual k, _, _, a, b) => mLink P d k a b
  | _ => []
def wordsOf (P : PD) : List Jvm.Cond := P.cls.flatMap cWords ++ (P.mth.drop 1).flatMap mWords ++ P.mth.flatMap fun d => d.code.flatMap (iWords P d)
/-! What can be looked up in the program itself -/
def nodup : List String → Bool
  | [] => true
  | x :: r => !r.contains x && nodup r
def fChk (f : FD) : Bool := decide (parseFieldDescriptor f.2.1 = some f.2.2.1) && dfOk f.2.2.1
def cChk (cd : CD) : Bool := nodup (cd.2.2.map fun f => f.1) && cd.2.2.all fChk
def sigChk (y : MD) : Bool := match parseMethodDescriptor y.name.desc with
  | some g => decide (g.parameters.length = y.npar)
  | none => false
def lenOk (i : Instr) (n : Nat) : Bool := match i with
  | .aload _ | .iload _ | .lload _ | .istore _ | .astore _ | .lstore _ | .bipush _ | .ldc _ | .newarray _ => n == 2
  | .iinc _ _ | .sipush _ | .ldc2_w _ | .getfield _ | .putfield _ | .new _ | .goto _ | .if_icmp _ _ | .ifCond _ _ | .ifnonnull _ | .invokestatic _ | .invokespecial _ | .invokevirtual _ => n == 3
  | _ => n == 1
def codeChk (y : MD) : Bool := y.code.all fun x => decide (decode y.bytes x.1 = .ok (x.2.1, x.2.2.1)) && lenOk x.2.1 x.2.2.1
def clsChk (P : PD) (y : MD) : Bool := match P.cls[y.cid]? with | some cd => cd.1 == y.name.cls | none => y.kind == 0
def mChk (P : PD) (y : MD) : Bool := plainName y.name.cls && sigChk y && codeChk y && clsChk P y && decide (y.name.cls ≠ "java/lang/invoke/MethodHandle") && decide (y.name.cls ≠ "java/lang/invoke/VarHandle") && (y.kind != 1 || (y.name.name == "<init>" && decide (y.ret = none)))
def chk (P : PD) : Bool := P.cls.all cChk && P.mth.all (mChk P)

/-! Plain and real values -/
def VR (ρ : List Addr) : Value → Value → Prop
  | .ref k, w => ∃ a, ρ[k]? = some a ∧ w = .ref a
  | v, w => w = v
def SR (ρ : List Addr) : List Value → List Value → Prop
  | [], ws => ws = []
  | v :: vs, ws => ∃ w ws', ws = w :: ws' ∧ VR ρ v w ∧ SR ρ vs ws'
def OV (ρ : List Addr) : Option Value → Option Value → Prop
  | none, w => w = none
  | some v, w => ∃ u, w = some u ∧ VR ρ v u
def WFc (A : Array Slot) : Prop := (∀ (i : Nat) w, A[i]? = some (.val w) → w.category = 2 → A[i + 1]? = some .second) ∧ ∀ (i : Nat), A[i]? = some .second → ∃ j w, i = j + 1 ∧ A[j]? = some (.val w) ∧ w.category = 2
def SlR (ρ : List Addr) : Slot → Option Slot → Prop
  | .unset, _ => True
  | .second, o => o = some .second
  | .val v, o => ∃ w, VR ρ v w ∧ o = some (.val w)
def LR (ρ : List Addr) (L : List Slot) (A : Array Slot) : Prop := A.size = L.length ∧ WFc A ∧ ∀ (i : Nat) s, L[i]? = some s → SlR ρ s A[i]?
theorem VR.mono {ρ t : List Addr} {v w : Value} (h : VR ρ v w) : VR (ρ ++ t) v w := by
  cases v <;> first | exact h | skip
  obtain ⟨a, h1, h2⟩ := h
  exact ⟨a, by rw [List.getElem?_append_left (List.getElem?_eq_some_iff.mp h1).1]; exact h1, h2⟩
theorem SR.mono {ρ t : List Addr} : ∀ {v w : List Value}, SR ρ v w → SR (ρ ++ t) v w
  | [], _, h => h
  | _ :: _, _, ⟨w, ws, h1, h2, h3⟩ => ⟨w, ws, h1, h2.mono, SR.mono h3⟩
theorem SlR.mono {ρ t : List Addr} {s : Slot} {o : Option Slot} (h : SlR ρ s o) : SlR (ρ ++ t) s o := by
  cases s with
  | unset => trivial
  | second => exact h
  | val v => obtain ⟨w, h1, h2⟩ := h; exact ⟨w, h1.mono, h2⟩
theorem LR.mono {ρ t : List Addr} {L : List Slot} {A : Array Slot} (h : LR ρ L A) : LR (ρ ++ t) L A := ⟨h.1, h.2.1, fun i s q => (h.2.2 i s q).mono⟩
theorem VR.cat {ρ : List Addr} {v w : Value} (h : VR ρ v w) : w.category = v.category := by
  cases v <;> first | (obtain ⟨a, -, rfl⟩ := h; rfl) | (cases h; rfl)
theorem SR.cat {ρ : List Addr} : ∀ {v w : List Value}, SR ρ v w → (w.map fun v => v.category).sum = catSum v
  | [], _, h => by cases h; rfl
  | _ :: _, _, ⟨w, ws, h1, h2, h3⟩ => by subst h1; simp [catSum, h2.cat, SR.cat h3]
theorem SR.len {ρ : List Addr} : ∀ {v w : List Value}, SR ρ v w → w.length = v.length
  | [], _, h => by cases h; rfl
  | _ :: _, _, ⟨w, ws, h1, h2, h3⟩ => by subst h1; simp [SR.len h3]
theorem SR.app {ρ : List Addr} : ∀ {v w v' w' : List Value}, SR ρ v w → SR ρ v' w' → SR ρ (v ++ v') (w ++ w')
  | [], _, _, _, h, h' => by cases h; exact h'
  | _ :: _, _, _, _, ⟨w, ws, h1, h2, h3⟩, h' => by subst h1; exact ⟨w, ws ++ _, rfl, h2, SR.app h3 h'⟩
theorem SR.rev {ρ : List Addr} : ∀ {v w : List Value}, SR ρ v w → SR ρ v.reverse w.reverse
  | [], _, h => by cases h; exact rfl
  | _ :: _, _, ⟨w, ws, h1, h2, h3⟩ => by subst h1; simp only [List.reverse_cons]; exact (SR.rev h3).app ⟨w, [], rfl, h2, rfl⟩
theorem SR.take {ρ : List Addr} : ∀ (n : Nat) {v w : List Value}, SR ρ v w → SR ρ (v.take n) (w.take n)
  | 0, _, _, _ => rfl
  | n + 1, [], _, h => by cases h; exact rfl
  | n + 1, _ :: _, _, ⟨w, ws, h1, h2, h3⟩ => by subst h1; exact ⟨w, _, rfl, h2, SR.take n h3⟩
theorem SR.drop {ρ : List Addr} : ∀ (n : Nat) {v w : List Value}, SR ρ v w → SR ρ (v.drop n) (w.drop n)
  | 0, _, _, h => h
  | n + 1, [], _, h => by cases h; exact rfl
  | n + 1, _ :: _, _, ⟨w, ws, h1, h2, h3⟩ => by subst h1; exact SR.drop n h3
theorem OV.list {ρ : List Addr} {v w : Option Value} (h : OV ρ v w) : SR ρ v.toList w.toList := by
  cases v with
  | none => cases h; exact rfl
  | some v => obtain ⟨u, rfl, h⟩ := h; exact ⟨u, [], rfl, h, rfl⟩
theorem LR.get {ρ : List Addr} {L : List Slot} {A : Array Slot} (h : LR ρ L A) {k : Nat} {v : Value} (g : getL L k = some v) : ∃ w, VR ρ v w ∧ A[k]? = some (.val w) := by
  unfold getL at g
  split at g
  · rename_i u q
    cases g
    exact h.2.2 k _ q
  · cases g
theorem forget_get : ∀ (er : List Bool) (L : List Slot) (i : Nat) (s : Slot), (forget er L)[i]? = some s → s = .unset ∨ L[i]? = some s
  | [], L, i, s, h => Or.inr h
  | _ :: _, [], i, s, h => by simp [forget] at h
  | true :: r, t :: L, 0, s, h => by simp [forget] at h; exact Or.inl h.symm
  | false :: r, t :: L, 0, s, h => by simp [forget] at h; exact Or.inr (by simp [h])
  | true :: r, t :: L, i + 1, s, h => by simp [forget] at h; simpa using forget_get r L i s h
  | false :: r, t :: L, i + 1, s, h => by simp [forget] at h; simpa using forget_get r L i s h
theorem forget_len : ∀ (er : List Bool) (L : List Slot), (forget er L).length = L.length
  | [], _ => rfl
  | _ :: _, [] => rfl
  | true :: r, _ :: L => by simp [forget, forget_len r L]
  | false :: r, _ :: L => by simp [forget, forget_len r L]
theorem LR.forget {ρ : List Addr} {A : Array Slot} (er : List Bool) {L : List Slot} (h : LR ρ L A) : LR ρ (forget er L) A :=
  ⟨by rw [forget_len]; exact h.1, h.2.1, fun i s q => by
    rcases forget_get er L i s q with rfl | z
    · trivial
    · exact h.2.2 i s z⟩
/-! Stores -/
theorem setAt_ok {A : Array Slot} {i : Nat} (h : i < A.size) (x : Slot) : setAt A i x = some (A.setIfInBounds i x) := by simp [setAt, h]
theorem get_set (A : Array Slot) (i j : Nat) (x : Slot) : (A.setIfInBounds i x)[j]? = if i = j then (if i < A.size then some x else none) else A[j]? := by
  rw [Array.getElem?_setIfInBounds]
theorem sl_unset {A : Array Slot} {k : Nat} {w : Value} (h : A[k]? = some .unset) : storeLocals A k w = storeSelf A k w := by
  unfold storeLocals; rw [h]; rfl
theorem sl_second {A : Array Slot} {k : Nat} {w : Value} (h : A[k]? = some .second) (hk : k - 1 < A.size) : storeLocals A k w = storeSelf (A.setIfInBounds (k - 1) .unset) k w := by
  unfold storeLocals; rw [h]
  show (setAt A (k - 1) .unset).bind _ = _
  rw [setAt_ok hk]; rfl
theorem sl_val2 {A : Array Slot} {k : Nat} {w u : Value} (h : A[k]? = some (.val u)) (hu : u.category = 2) (hk : k + 1 < A.size) : storeLocals A k w = storeSelf (A.setIfInBounds (k + 1) .unset) k w := by
  unfold storeLocals; rw [h]
  show (if u.category = 2 then (setAt A (k + 1) .unset).bind _ else _) = _
  rw [if_pos hu, setAt_ok hk]; rfl
theorem sl_val1 {A : Array Slot} {k : Nat} {w u : Value} (h : A[k]? = some (.val u)) (hu : ¬ u.category = 2) : storeLocals A k w = storeSelf A k w := by
  unfold storeLocals; rw [h]
  show (if u.category = 2 then (setAt A (k + 1) .unset).bind _ else _) = _
  rw [if_neg hu]
theorem ss_1 {A : Array Slot} {k : Nat} {w : Value} (hk : k < A.size) (hw : ¬ w.category = 2) : storeSelf A k w = some (A.setIfInBounds k (.val w)) := by
  unfold storeSelf; rw [setAt_ok hk]
  show (if w.category = 2 then _ else _) = _
  rw [if_neg hw]
theorem ss_2c {A : Array Slot} {k : Nat} {w u : Value} (hk : k < A.size) (hk1 : k + 1 < A.size) (hk2 : k + 2 < A.size) (hw : w.category = 2) (h : (A.setIfInBounds k (.val w))[k + 1]? = some (.val u)) (hu : u.category = 2) : storeSelf A k w = some (((A.setIfInBounds k (.val w)).setIfInBounds (k + 2) .unset).setIfInBounds (k + 1) .second) := by
  unfold storeSelf; rw [setAt_ok hk]
  show (if w.category = 2 then _ else _) = _
  rw [if_pos hw, h]
  show (if u.category = 2 then (setAt _ (k + 2) .unset).bind _ else _) = _
  rw [if_pos hu, setAt_ok (by simpa using hk2)]
  exact setAt_ok (by simpa using hk1) _
theorem ss_2 {A : Array Slot} {k : Nat} {w : Value} {o : Slot} (hk : k < A.size) (hk1 : k + 1 < A.size) (hw : w.category = 2) (h : (A.setIfInBounds k (.val w))[k + 1]? = some o) (ho : ¬ ∃ u, o = .val u ∧ u.category = 2) : storeSelf A k w = some ((A.setIfInBounds k (.val w)).setIfInBounds (k + 1) .second) := by
  unfold storeSelf; rw [setAt_ok hk]
  show (if w.category = 2 then _ else _) = _
  rw [if_pos hw, h]
  cases o with
  | unset => exact setAt_ok (by simpa using hk1) _
  | second => exact setAt_ok (by simpa using hk1) _
  | val u =>
    show (if u.category = 2 then _ else _) = _
    rw [if_neg fun z => ho ⟨u, rfl, z⟩]
    exact setAt_ok (by simpa using hk1) _
theorem store1_sim {ρ : List Addr} {L : List Slot} {A : Array Slot} (h : LR ρ L A) {k : Nat} {v w : Value} {L' : List Slot} (hs : st1 L k v = some L') (hv : VR ρ v w) (hc : w.category = 1) : ∃ A', storeLocals A k w = some A' ∧ LR ρ L' A' := by
  unfold st1 at hs
  split at hs
  · rename_i q
    cases hs
    simp only [Bool.and_eq_true] at q
    obtain ⟨⟨q1, q2⟩, q3⟩ := q
    obtain ⟨hA, ⟨w1, w2⟩, hl⟩ := h
    have hk : k < L.length := by
      rcases Nat.lt_or_ge k L.length with z | z
      · exact z
      · rw [List.getElem?_eq_none z] at q1; cases q1
    have hkA : k < A.size := hA ▸ hk
    obtain ⟨sl, hsl⟩ : ∃ sl, A[k]? = some sl := ⟨A[k], Array.getElem?_eq_getElem hkA⟩
    have hc2 : ¬ w.category = 2 := by rw [hc]; decide
    classical
    have key : ∃ A', storeLocals A k w = some A' ∧ A'.size = A.size ∧ (∀ j, A'[j]? = if j = k then some (.val w) else if (sl = .second ∧ j + 1 = k) ∨ ((∃ u, sl = .val u ∧ u.category = 2) ∧ j = k + 1) then some .unset else A[j]?) := by
      cases sl with
      | unset =>
        refine ⟨A.setIfInBounds k (.val w), by rw [sl_unset hsl]; exact ss_1 hkA hc2, by simp, fun j => ?_⟩
        rw [get_set]
        by_cases e : k = j
        · subst e; simp [hkA]
        · have e' : ¬ j = k := fun z => e z.symm
          simp [e, e']
      | second =>
        obtain ⟨j0, u, rfl, g1, g2⟩ := w2 k hsl
        refine ⟨(A.setIfInBounds j0 .unset).setIfInBounds (j0 + 1) (.val w), by rw [sl_second hsl (show j0 + 1 - 1 < A.size by omega)]; exact ss_1 (by simpa using hkA) hc2, by simp, fun j => ?_⟩
        rw [get_set, get_set]
        by_cases e : j0 + 1 = j
        · subst e; simp [hkA]
        · by_cases e2 : j0 = j
          · subst e2; simp; omega
          · have e' : ¬ j = j0 + 1 := fun z => e z.symm
            have e2' : ¬ j = j0 := fun z => e2 z.symm
            simp [e, e', e2, e2']
      | val u =>
        by_cases hu : u.category = 2
        · have g := w1 k u hsl hu
          have hk1 : k + 1 < A.size := (Array.getElem?_eq_some_iff.mp g).1
          refine ⟨(A.setIfInBounds (k + 1) .unset).setIfInBounds k (.val w), by rw [sl_val2 hsl hu hk1]; exact ss_1 (by simpa using hkA) hc2, by simp, fun j => ?_⟩
          rw [get_set, get_set]
          by_cases e : k = j
          · subst e; simp [hkA]
          · have e' : ¬ j = k := fun z => e z.symm
            by_cases e2 : k + 1 = j
            · subst e2; simp [hk1, hu]
            · have e2' : ¬ j = k + 1 := fun z => e2 z.symm
              simp [e, e', e2, e2']
        · refine ⟨A.setIfInBounds k (.val w), by rw [sl_val1 hsl hu]; exact ss_1 hkA hc2, by simp, fun j => ?_⟩
          rw [get_set]
          by_cases e : k = j
          · subst e; simp [hkA]
          · have e' : ¬ j = k := fun z => e z.symm
            simp [e, e', hu]
    obtain ⟨A', k1, k2, k3⟩ := key
    refine ⟨A', k1, by rw [k2, hA]; simp, ⟨fun i u g1 g2 => ?_, fun i g1 => ?_⟩, fun i s g => ?_⟩
    · rw [k3] at g1
      split at g1
      · cases g1; exact absurd g2 hc2
      · rename_i e1
        split at g1
        · cases g1
        · rename_i e2
          have g3 := w1 i u g1 g2
          rw [k3]
          split
          · rename_i e3
            have : sl = .second := by rw [← e3] at hsl; exact Option.some.inj (hsl.symm.trans g3)
            exact absurd (Or.inl ⟨this, e3⟩) e2
          · rename_i e3
            split
            · rename_i e4
              rcases e4 with ⟨z1, z2⟩ | ⟨⟨u', z1, z2⟩, z3⟩
              · exfalso
                have : k = i + 1 + 1 := z2.symm
                subst this
                rw [z1] at hsl
                obtain ⟨j0, u0, y1, y2, y3⟩ := w2 _ hsl
                have : j0 = i + 1 := by omega
                subst this
                rw [g3] at y2; cases y2
              · exact absurd (by omega) e1
            · exact g3
    · rw [k3] at g1
      split at g1
      · cases g1
      · rename_i e1
        split at g1
        · cases g1
        · rename_i e2
          obtain ⟨j, u, z1, z2, z3⟩ := w2 i g1
          refine ⟨j, u, z1, ?_, z3⟩
          rw [k3]
          split
          · rename_i e3
            subst e3
            have : sl = .val u := Option.some.inj (hsl.symm.trans z2)
            exact absurd (Or.inr ⟨⟨u, this, z3⟩, z1⟩) e2
          · split
            · rename_i e3 e4
              rcases e4 with ⟨y1, y2⟩ | ⟨⟨u', y1, y2⟩, y3⟩
              · exact absurd (z1.trans y2) e1
              · subst y3
                have g5 := w1 k u' (y1 ▸ hsl) y2
                rw [z2] at g5; cases g5
            · exact z2
    · rw [List.getElem?_set] at g
      split at g
      · rename_i e
        subst e
        cases g
        exact ⟨w, hv, by rw [k3]; simp⟩
      · rename_i e
        have e' : ¬ i = k := fun z => e z.symm
        have g2 := hl i s g
        rw [k3, if_neg e']
        split
        · rename_i e4
          cases s with
          | unset => trivial
          | second =>
            exfalso
            have g2' : A[i]? = some .second := g2
            rcases e4 with ⟨y1, y2⟩ | ⟨⟨u', y1, y2⟩, y3⟩
            · obtain ⟨j0, u0, x1, x2, x3⟩ := w2 k (y1 ▸ hsl)
              have : i = j0 := by omega
              subst this
              rw [x2] at g2'; cases g2'
            · subst y3
              rw [g] at q3
              simp [isSec] at q3
          | val v0 =>
            exfalso
            obtain ⟨w0, x1, x2⟩ := g2
            rcases e4 with ⟨y1, y2⟩ | ⟨⟨u', y1, y2⟩, y3⟩
            · obtain ⟨j0, u0, z1, z2, z3⟩ := w2 k (y1 ▸ hsl)
              have : i = j0 := by omega
              subst this
              have hw0 : w0 = u0 := by rw [x2] at z2; cases z2; rfl
              have hcat : v0.category = 2 := by rw [← x1.cat, hw0]; exact z3
              subst y2
              have : L[i + 1 - 1]? = some (.val v0) := g
              rw [this] at q2
              simp [isC2, hcat] at q2
            · subst y3
              have g5 := w1 k u' (y1 ▸ hsl) y2
              rw [x2] at g5; cases g5
        · exact g2
  · cases hs
end Jvm.Own
namespace Jvm.Own
open Jvm Jvm.ClassFile Sem Op Lib Jvm.Free Jvm.Stand Jvm.LawKit Jvm.RoadKit Bundle
theorem store2_sim {ρ : List Addr} {L : List Slot} {A : Array Slot} (h : LR ρ L A) {k : Nat} {v w : Value} {L' : List Slot} (hs : st2 L k v = some L') (hv : VR ρ v w) (hc : w.category = 2) : ∃ A', storeLocals A k w = some A' ∧ LR ρ L' A' := by
  unfold st2 at hs
  split at hs
  · rename_i q
    cases hs
    simp only [Bool.and_eq_true] at q
    obtain ⟨⟨q1, q2⟩, q3⟩ := q
    obtain ⟨hA, ⟨w1, w2⟩, hl⟩ := h
    have hk1 : k + 1 < L.length := by
      rcases Nat.lt_or_ge (k + 1) L.length with z | z
      · exact z
      · rw [List.getElem?_eq_none z] at q1
        cases h0 : L[k]? with
        | none => rw [h0] at q1; cases q1
        | some s0 => rw [h0] at q1; cases s0 <;> cases q1
    have hk : k < L.length := by omega
    have hkA : k < A.size := hA ▸ hk
    have hkA1 : k + 1 < A.size := hA ▸ hk1
    obtain ⟨sl, hsl⟩ : ∃ sl, A[k]? = some sl := ⟨A[k], Array.getElem?_eq_getElem hkA⟩
    obtain ⟨sm, hsm⟩ : ∃ sm, A[k + 1]? = some sm := ⟨A[k + 1], Array.getElem?_eq_getElem hkA1⟩
    have n1 : ¬ k = k + 1 := by omega
    have n2 : ¬ k + 2 = k + 1 := by omega
    have n3 : ¬ k + 2 = k := by omega
    classical
    have key : ∃ A', storeLocals A k w = some A' ∧ A'.size = A.size ∧ (∀ j, A'[j]? = if j = k then some (.val w) else if j = k + 1 then some .second else if (sl = .second ∧ j + 1 = k) ∨ ((∃ u, sm = .val u ∧ u.category = 2) ∧ j = k + 2) then some .unset else A[j]?) := by
      by_cases hm : ∃ u, sm = .val u ∧ u.category = 2
      · obtain ⟨u, rfl, hu⟩ := hm
        have g := w1 (k + 1) u hsm hu
        have hk2 : k + 2 < A.size := (Array.getElem?_eq_some_iff.mp g).1
        cases sl with
        | unset =>
          refine ⟨((A.setIfInBounds k (.val w)).setIfInBounds (k + 2) .unset).setIfInBounds (k + 1) .second, ?_, by simp, fun j => ?_⟩
          · rw [sl_unset hsl]; exact ss_2c hkA hkA1 hk2 hc (by rw [get_set, if_neg n1]; exact hsm) hu
          · rw [get_set, get_set, get_set]
            by_cases e0 : j = k
            · subst e0; simp [hkA]
            · by_cases e1 : j = k + 1
              · subst e1; simp [hkA1]
              · by_cases e2 : j = k + 2
                · subst e2; simp [hk2, hu]
                · have e0' : ¬ k = j := fun z => e0 z.symm
                  have e1' : ¬ k + 1 = j := fun z => e1 z.symm
                  have e2' : ¬ k + 2 = j := fun z => e2 z.symm
                  simp [e0, e1, e2, e0', e1', e2']
        | second =>
          obtain ⟨j0, u0, rfl, g1, g2⟩ := w2 k hsl
          have hj0 : j0 < A.size := by omega
          refine ⟨(((A.setIfInBounds j0 .unset).setIfInBounds (j0 + 1) (.val w)).setIfInBounds (j0 + 1 + 2) .unset).setIfInBounds (j0 + 1 + 1) .second, ?_, by simp, fun j => ?_⟩
          · have m1 : ¬ j0 + 1 = j0 + 1 + 1 := by omega
            have m2 : ¬ j0 = j0 + 1 + 1 := by omega
            rw [sl_second hsl (show j0 + 1 - 1 < A.size by omega)]
            exact ss_2c (by simpa using hkA) (by simpa using hkA1) (by simpa using hk2) hc (by rw [get_set, if_neg m1, get_set, if_neg (by omega)]; exact hsm) hu
          · rw [get_set, get_set, get_set, get_set]
            by_cases e0 : j = j0 + 1
            · subst e0; simp [hkA]
            · by_cases e1 : j = j0 + 1 + 1
              · subst e1; simp [hkA1]
              · by_cases e2 : j = j0 + 1 + 2
                · subst e2; simp [hk2, hu]
                · by_cases e3 : j = j0
                  · subst e3
                    rw [if_neg (by omega), if_neg (by omega), if_neg (by omega), if_pos rfl, if_pos hj0, if_neg (by omega), if_neg (by omega), if_pos (Or.inl ⟨rfl, rfl⟩)]
                  · have e0' : ¬ j0 + 1 = j := fun z => e0 z.symm
                    have e1' : ¬ j0 + 1 + 1 = j := fun z => e1 z.symm
                    have e2' : ¬ j0 + 1 + 2 = j := fun z => e2 z.symm
                    have e3' : ¬ j0 = j := fun z => e3 z.symm
                    simp [e0, e1, e2, e3, e0', e1', e2', e3']
        | val u1 =>
          have hu1 : ¬ u1.category = 2 := fun z => by have := w1 k u1 hsl z; rw [hsm] at this; cases this
          refine ⟨((A.setIfInBounds k (.val w)).setIfInBounds (k + 2) .unset).setIfInBounds (k + 1) .second, ?_, by simp, fun j => ?_⟩
          · rw [sl_val1 hsl hu1]; exact ss_2c hkA hkA1 hk2 hc (by rw [get_set, if_neg n1]; exact hsm) hu
          · rw [get_set, get_set, get_set]
            by_cases e0 : j = k
            · subst e0; simp [hkA]
            · by_cases e1 : j = k + 1
              · subst e1; simp [hkA1]
              · by_cases e2 : j = k + 2
                · subst e2; simp [hk2, hu]
                · have e0' : ¬ k = j := fun z => e0 z.symm
                  have e1' : ¬ k + 1 = j := fun z => e1 z.symm
                  have e2' : ¬ k + 2 = j := fun z => e2 z.symm
                  simp [e0, e1, e2, e0', e1', e2']
      · cases sl with
        | unset =>
          refine ⟨(A.setIfInBounds k (.val w)).setIfInBounds (k + 1) .second, ?_, by simp, fun j => ?_⟩
          · rw [sl_unset hsl]; exact ss_2 hkA hkA1 hc (by rw [get_set, if_neg n1]; exact hsm) hm
          · rw [get_set, get_set]
            by_cases e0 : j = k
            · subst e0; simp [hkA]
            · by_cases e1 : j = k + 1
              · subst e1; simp [hkA1]
              · have e0' : ¬ k = j := fun z => e0 z.symm
                have e1' : ¬ k + 1 = j := fun z => e1 z.symm
                simp [e0, e1, e0', e1', hm]
        | second =>
          obtain ⟨j0, u0, rfl, g1, g2⟩ := w2 k hsl
          have hj0 : j0 < A.size := by omega
          have m1 : ¬ j0 + 1 = j0 + 1 + 1 := by omega
          have m2 : ¬ j0 = j0 + 1 + 1 := by omega
          refine ⟨((A.setIfInBounds j0 .unset).setIfInBounds (j0 + 1) (.val w)).setIfInBounds (j0 + 1 + 1) .second, ?_, by simp, fun j => ?_⟩
          · rw [sl_second hsl (show j0 + 1 - 1 < A.size by omega)]
            exact ss_2 (by simpa using hkA) (by simpa using hkA1) hc (by rw [get_set, if_neg m1, get_set, if_neg (by omega)]; exact hsm) hm
          · rw [get_set, get_set, get_set]
            by_cases e0 : j = j0 + 1
            · subst e0; simp [hkA]
            · by_cases e1 : j = j0 + 1 + 1
              · subst e1; simp [hkA1]
              · by_cases e3 : j = j0
                · subst e3
                  rw [if_neg (by omega), if_neg (by omega), if_pos rfl, if_pos hj0, if_neg (by omega), if_neg (by omega), if_pos (Or.inl ⟨rfl, rfl⟩)]
                · have e0' : ¬ j0 + 1 = j := fun z => e0 z.symm
                  have e1' : ¬ j0 + 1 + 1 = j := fun z => e1 z.symm
                  have e3' : ¬ j0 = j := fun z => e3 z.symm
                  simp [e0, e1, e3, e0', e1', e3', hm]
        | val u1 =>
          by_cases hu1 : u1.category = 2
          · refine ⟨((A.setIfInBounds (k + 1) .unset).setIfInBounds k (.val w)).setIfInBounds (k + 1) .second, ?_, by simp, fun j => ?_⟩
            · rw [sl_val2 hsl hu1 hkA1]
              exact ss_2 (o := .unset) (by simpa using hkA) (by simpa using hkA1) hc (by rw [get_set, if_neg n1, get_set, if_pos rfl, if_pos hkA1]) (by rintro ⟨u, z, -⟩; cases z)
            · rw [get_set, get_set, get_set]
              by_cases e0 : j = k
              · subst e0; simp [hkA]
              · by_cases e1 : j = k + 1
                · subst e1; simp [hkA1]
                · have e0' : ¬ k = j := fun z => e0 z.symm
                  have e1' : ¬ k + 1 = j := fun z => e1 z.symm
                  simp [e0, e1, e0', e1', hm]
          · refine ⟨(A.setIfInBounds k (.val w)).setIfInBounds (k + 1) .second, ?_, by simp, fun j => ?_⟩
            · rw [sl_val1 hsl hu1]; exact ss_2 hkA hkA1 hc (by rw [get_set, if_neg n1]; exact hsm) hm
            · rw [get_set, get_set]
              by_cases e0 : j = k
              · subst e0; simp [hkA]
              · by_cases e1 : j = k + 1
                · subst e1; simp [hkA1]
                · have e0' : ¬ k = j := fun z => e0 z.symm
                  have e1' : ¬ k + 1 = j := fun z => e1 z.symm
                  simp [e0, e1, e0', e1', hm]
    obtain ⟨A', k1, k2, k3⟩ := key
    refine ⟨A', k1, by rw [k2, hA]; simp, ⟨fun i u g1 g2 => ?_, fun i g1 => ?_⟩, fun i s g => ?_⟩
    · by_cases e1 : i = k
      · subst e1; rw [k3]; simp
      · have g1' := g1
        rw [k3, if_neg e1] at g1'
        split at g1'
        · cases g1'
        · rename_i e2
          split at g1'
          · cases g1'
          · rename_i e4
            have g3 := w1 i u g1' g2
            rw [k3]
            have c1 : ¬ i + 1 = k := fun e3 => by
              have : sl = .second := by rw [← e3] at hsl; exact Option.some.inj (hsl.symm.trans g3)
              exact e4 (Or.inl ⟨this, e3⟩)
            have c2 : ¬ i + 1 = k + 1 := by omega
            have c3 : ¬ ((sl = .second ∧ i + 1 + 1 = k) ∨ ((∃ u, sm = .val u ∧ u.category = 2) ∧ i + 1 = k + 2)) := fun z => by
              rcases z with ⟨z1, z2⟩ | ⟨z1, z2⟩
              · subst z2
                rw [z1] at hsl
                obtain ⟨j0, u0, y1, y2, y3⟩ := w2 _ hsl
                have : j0 = i + 1 := by omega
                subst this
                rw [g3] at y2; cases y2
              · omega
            rw [if_neg c1, if_neg c2, if_neg c3]
            exact g3
    · rw [k3] at g1
      split at g1
      · cases g1
      · rename_i e1
        split at g1
        · rename_i e2
          exact ⟨k, w, e2, by rw [k3]; simp, hc⟩
        · rename_i e2
          split at g1
          · cases g1
          · rename_i e4
            obtain ⟨j, u, z1, z2, z3⟩ := w2 i g1
            refine ⟨j, u, z1, ?_, z3⟩
            rw [k3]
            have c1 : ¬ j = k := by omega
            have c2 : ¬ j = k + 1 := fun e => by
              subst e
              exact e4 (Or.inr ⟨⟨u, Option.some.inj (hsm.symm.trans z2), z3⟩, by omega⟩)
            have c3 : ¬ ((sl = .second ∧ j + 1 = k) ∨ ((∃ u, sm = .val u ∧ u.category = 2) ∧ j = k + 2)) := fun z => by
              rcases z with ⟨y1, y2⟩ | ⟨⟨u', y1, y2⟩, y3⟩
              · exact e1 (z1.trans y2)
              · subst y3
                have g5 := w1 (k + 1) u' (y1 ▸ hsm) y2
                rw [z2] at g5; cases g5
            rw [if_neg c1, if_neg c2, if_neg c3]
            exact z2
    · rw [List.getElem?_set] at g
      split at g
      · rename_i e
        subst e
        have : k + 1 < (L.set k (.val v)).length := by simp [hk1]
        rw [if_pos this] at g
        cases g
        show A'[k + 1]? = some .second
        rw [k3]; simp
      · rename_i e
        have e' : ¬ i = k + 1 := fun z => e z.symm
        rw [List.getElem?_set] at g
        split at g
        · rename_i e0
          subst e0
          cases g
          exact ⟨w, hv, by rw [k3]; simp⟩
        · rename_i e0
          have e0' : ¬ i = k := fun z => e0 z.symm
          have g2 := hl i s g
          rw [k3, if_neg e0', if_neg e']
          split
          · rename_i e4
            cases s with
            | unset => trivial
            | second =>
              exfalso
              have g2' : A[i]? = some .second := g2
              rcases e4 with ⟨y1, y2⟩ | ⟨⟨u', y1, y2⟩, y3⟩
              · obtain ⟨j0, u0, x1, x2, x3⟩ := w2 k (y1 ▸ hsl)
                have : i = j0 := by omega
                subst this
                rw [x2] at g2'; cases g2'
              · subst y3
                rw [g] at q3
                simp [isSec] at q3
            | val v0 =>
              exfalso
              obtain ⟨w0, x1, x2⟩ := g2
              rcases e4 with ⟨y1, y2⟩ | ⟨⟨u', y1, y2⟩, y3⟩
              · obtain ⟨j0, u0, z1, z2, z3⟩ := w2 k (y1 ▸ hsl)
                have : i = j0 := by omega
                subst this
                have hw0 : w0 = u0 := by rw [x2] at z2; cases z2; rfl
                have hcat : v0.category = 2 := by rw [← x1.cat, hw0]; exact z3
                subst y2
                have : L[i + 1 - 1]? = some (.val v0) := g
                rw [this] at q2
                simp [isC2, hcat] at q2
              · subst y3
                have g5 := w1 (k + 1) u' (y1 ▸ hsm) y2
                rw [x2] at g5; cases g5
          · exact g2
  · cases hs
/-! The frame with which a method is entered -/
theorem entA_app (ws : List Value) : ∀ acc : Array Slot, ws.foldl (fun acc v => if v.category = 2 then (acc.push (.val v)).push .second else acc.push (.val v)) acc = acc ++ (entA ws).toArray := by
  induction ws with
  | nil => intro acc; simp [entA]
  | cons v r ih =>
    intro acc
    rw [List.foldl_cons, ih]
    show _ = acc ++ (if v.category = 2 then .val v :: .second :: entA r else .val v :: entA r).toArray
    by_cases h : v.category = 2
    · rw [if_pos h, if_pos h]; simp
    · rw [if_neg h, if_neg h]; simp
theorem argsToLocals_eq (ws : List Value) (n : Nat) : argsToLocals ws.toArray n = (entL ws n).toArray := by
  unfold argsToLocals entL
  have h := entA_app ws #[]
  simp only [List.foldl_toArray', List.size_toArray] at *
  simp [h]
theorem entA_len {ρ : List Addr} : ∀ {v w : List Value}, SR ρ v w → (entA w).length = (entA v).length
  | [], _, h => by cases h; rfl
  | _ :: _, _, ⟨w, ws, h1, h2, h3⟩ => by
    subst h1
    unfold entA
    rw [h2.cat]
    split <;> simp [entA_len h3]
theorem entA_rel {ρ : List Addr} : ∀ {v w : List Value}, SR ρ v w → ∀ (m i : Nat) (s : Slot), (entA v ++ List.replicate m .unset)[i]? = some s → SlR ρ s (entA w ++ List.replicate m .unset)[i]?
  | [], _, h, m, i, s, q => by
    cases h
    simp only [entA, List.nil_append] at q ⊢
    rw [List.getElem?_replicate] at q
    split at q
    · cases q; trivial
    · cases q
  | v :: vs, _, ⟨w, ws, h1, h2, h3⟩, m, i, s, q => by
    subst h1
    unfold entA at q ⊢
    rw [h2.cat]
    split
    · rename_i c
      rw [if_pos c] at q
      match i, q with
      | 0, q => simp at q; subst q; exact ⟨w, h2, by simp⟩
      | 1, q => simp at q; subst q; simp [SlR]
      | i + 2, q => simp at q ⊢; exact entA_rel h3 m i s q
    · rename_i c
      rw [if_neg c] at q
      match i, q with
      | 0, q => simp at q; subst q; exact ⟨w, h2, by simp⟩
      | i + 1, q => simp at q ⊢; exact entA_rel h3 m i s q
theorem entA_wf : ∀ (ws : List Value) (m : Nat), (∀ (i : Nat) w, (entA ws ++ List.replicate m .unset)[i]? = some (.val w) → w.category = 2 → (entA ws ++ List.replicate m .unset)[i + 1]? = some .second) ∧
    ∀ (i : Nat), (entA ws ++ List.replicate m .unset)[i]? = some .second → ∃ j w, i = j + 1 ∧ (entA ws ++ List.replicate m .unset)[j]? = some (.val w) ∧ w.category = 2
  | [], m => by
    constructor
    · intro i w q
      simp only [entA, List.nil_append, List.getElem?_replicate] at q
      split at q <;> cases q
    · intro i q
      simp only [entA, List.nil_append, List.getElem?_replicate] at q
      split at q <;> cases q
  | v :: vs, m => by
    obtain ⟨h1, h2⟩ := entA_wf vs m
    unfold entA
    split
    · rename_i c
      constructor
      · intro i w q
        match i, q with
        | 0, q => intro _; simp
        | 1, q => simp at q
        | i + 2, q => simp at q ⊢; exact h1 i w q
      · intro i q
        match i, q with
        | 0, q => simp at q
        | 1, q => exact ⟨0, v, rfl, by simp, c⟩
        | i + 2, q =>
          simp at q
          obtain ⟨j, w, e, g1, g2⟩ := h2 i q
          exact ⟨j + 2, w, by omega, by simpa using g1, g2⟩
    · rename_i c
      constructor
      · intro i w q
        match i, q with
        | 0, q => intro z; simp at q; subst q; exact absurd z c
        | i + 1, q => simp at q ⊢; exact h1 i w q
      · intro i q
        match i, q with
        | 0, q => simp at q
        | i + 1, q =>
          simp at q
          obtain ⟨j, w, e, g1, g2⟩ := h2 i q
          exact ⟨j + 1, w, by omega, by simpa using g1, g2⟩
theorem LR.enter {ρ : List Addr} {v w : List Value} (h : SR ρ v w) {n : Nat} (hn : (entA v).length ≤ n) : LR ρ (entL v n) (argsToLocals w.toArray n) ∧ (argsToLocals w.toArray n).size = n := by
  rw [argsToLocals_eq]
  have hl := entA_len h
  refine ⟨⟨by simp [entL, hl], ?_, fun i s q => ?_⟩, by simp [entL, hl]; omega⟩
  · obtain ⟨h1, h2⟩ := entA_wf w (n - (entA w).length)
    exact ⟨fun i u q c => by simpa [entL] using h1 i u (by simpa [entL] using q) c, fun i q => by
      obtain ⟨j, u, e, g1, g2⟩ := h2 i (by simpa [entL] using q)
      exact ⟨j, u, e, by simpa [entL] using g1, g2⟩⟩
  · unfold entL at q ⊢
    rw [hl]
    simpa using entA_rel h _ i s q
end Jvm.Own
namespace Jvm.RoadKit
open Sem ClassFile Op Lib Jvm.Stand Jvm.Free Jvm.LawKit
section New
variable {p : Program} {l : Launch} {e : Env} {R : Room} {s : State} {m : MethodId} {args : Array Value} {below : List Frame} {meth : Method} {c : Code} {T : State} {locs : List Loc} {cells slots : Nat}
theorem retI (X : Stand p l e R s m args below meth c T locs cells slots) (hx : p.tables.exec = Jvm.exec) {pc : Nat} {Ls : Array Slot} {z : Int32} {rest : List Value} (hret : meth.sig.returnType = some .int) (hd : decode c.code pc = .ok (.ireturn, 1)) {fs : List Frame}
    (hl : ∀ (f : JFrame) (acts : List Action), f.method = m → f.locked = none → f.entered = [] → (doReturn e (T.setTop f) acts (some (.int z))).1 = T.setFrames fs) : Steps p.tables e below (T.setTop (mkF m pc Ls (.int z :: rest))) (T.setFrames fs) := by
  have hm' : T.vm.method? m = some meth := X.method'
  have hn : narrow .int (.int z) = .int z := rfl
  show Steps p.tables e below (T.setTop { method := m, pc := pc, locals := Ls, stack := _ :: rest, locked := none }) _
  jvm_step X.here [X.here.top, hx, hd, hm', hret, hn]
  first | (intro acts; rw [hl _ acts rfl rfl rfl]) | rw [hl _ _ rfl rfl rfl]
  exact Steps.refl _
end New
end Jvm.RoadKit
namespace Jvm.Own
open Jvm Jvm.ClassFile Sem Op Lib Jvm.Free Jvm.Stand Jvm.LawKit Jvm.RoadKit Bundle
/-! The plain heap and the real one -/
def tyA (b : Bool) : FieldType := if b then .boolean else .int
def CR (P : PD) (Z : State) (h : Heap) (ρ : List Addr) (a : Addr) : ACell → Prop
  | .inl (c, fs) => ∃ cd, P.cls[c]? = some cd ∧ Exa Z h a cd.1 ∧ fs.length = cd.2.2.length ∧ ∀ (i : Nat) v fd, fs[i]? = some v → cd.2.2[i]? = some fd → ∃ w, VR ρ v w ∧ Fld Z h a cd.1 fd.1 fd.2.1 w
  | .inr (.inl (b, L)) => ∃ cl, Arr Z h a cl (tyA b) ∧ cl.slots.size = L.length ∧ L.length < 2 ^ 31 ∧ ∀ (i : Nat) x, L[i]? = some x → cl.slots[i]? = some (.int x)
  | .inr (.inr L) => ∃ cl, Arr Z h a cl .long ∧ cl.slots.size = L.length ∧ L.length < 2 ^ 31 ∧ ∀ (i : Nat) x, L[i]? = some x → cl.slots[i]? = some (.long x)
def HR (P : PD) (Z : State) (n0 : Nat) (h : Heap) (ρ : List Addr) (H : AHeap) : Prop :=
  n0 ≤ h.size ∧ ρ.length = H.length ∧ (∀ (i j : Nat) a, ρ[i]? = some a → ρ[j]? = some a → i = j) ∧ (∀ (k : Nat) a, ρ[k]? = some a → P.nr ≤ k → n0 ≤ a) ∧ ∀ (k : Nat) a c, ρ[k]? = some a → H[k]? = some c → CR P Z h ρ a c
section Heaps
variable {P : PD} {Z : State} {n0 : Nat} {h h' : Heap} {ρ : List Addr} {H : AHeap} {a : Addr} {k : Nat} {a0 : Array Value}
theorem CR.lt {c : ACell} (q : CR P Z h ρ a c) : a < h.size := by
  match c, q with
  | .inl (_, _), q => obtain ⟨cd, -, E, -⟩ := q; exact E.lt
  | .inr (.inl (_, _)), q => obtain ⟨cl, A, -⟩ := q; exact A.lt
  | .inr (.inr _), q => obtain ⟨cl, A, -⟩ := q; exact A.lt
theorem HR.at (q : HR P Z n0 h ρ H) {c : ACell} (hc : H[k]? = some c) : ∃ a, ρ[k]? = some a ∧ CR P Z h ρ a c := by
  obtain ⟨-, q1, -, -, q4⟩ := q
  have hk : k < ρ.length := by rw [q1]; exact (List.getElem?_eq_some_iff.mp hc).1
  exact ⟨ρ[k], List.getElem?_eq_getElem hk, q4 k _ c (List.getElem?_eq_getElem hk) hc⟩
theorem HR.lt (q : HR P Z n0 h ρ H) (hk : ρ[k]? = some a) : a < h.size := by
  obtain ⟨-, q1, -, -, q4⟩ := q
  have hk' : k < H.length := by rw [← q1]; exact (List.getElem?_eq_some_iff.mp hk).1
  exact (q4 k a _ hk (List.getElem?_eq_getElem hk')).lt
theorem CR.grow {t : List Addr} {c : ACell} (E : Ext h h') (q : CR P Z h ρ a c) : CR P Z h' (ρ ++ t) a c := by
  match c, q with
  | .inl (_, _), ⟨cd, q1, q2, q3, q4⟩ => exact ⟨cd, q1, q2.ext E, q3, fun i v fd g1 g2 => by obtain ⟨w, z1, z2⟩ := q4 i v fd g1 g2; exact ⟨w, z1.mono, z2.ext E⟩⟩
  | .inr (.inl (_, _)), ⟨cl, q1, q2⟩ => exact ⟨cl, q1.ext E, q2⟩
  | .inr (.inr _), ⟨cl, q1, q2⟩ => exact ⟨cl, q1.ext E, q2⟩
theorem HR.push {c : ACell} (q : HR P Z n0 h ρ H) (E : Ext h h') (hc : CR P Z h' (ρ ++ [h.size]) h.size c) : HR P Z n0 h' (ρ ++ [h.size]) (H ++ [c]) := by
  have q0 := q
  obtain ⟨q1, q2, q3, q4, q5⟩ := q
  have old : ∀ (i : Nat) b, (ρ ++ [h.size])[i]? = some b → (ρ[i]? = some b ∧ b < h.size) ∨ (i = ρ.length ∧ b = h.size) := fun i b g => by
    rw [List.getElem?_append] at g
    split at g
    · exact Or.inl ⟨g, q0.lt g⟩
    · rename_i z
      right
      have : i - ρ.length = 0 := by
        rcases Nat.eq_zero_or_pos (i - ρ.length) with y | y
        · exact y
        · rw [List.getElem?_eq_none (by simp; omega)] at g; cases g
      rw [this] at g
      simp at g
      exact ⟨by omega, g.symm⟩
  refine ⟨Nat.le_trans q1 E.1, by simp [q2], fun i j b g1 g2 => ?_, fun i b g1 g2 => ?_, fun i b c' g1 g2 => ?_⟩
  · rcases old i b g1 with ⟨y1, y2⟩ | ⟨y1, y2⟩ <;> rcases old j b g2 with ⟨z1, z2⟩ | ⟨z1, z2⟩
    · exact q3 i j b y1 z1
    · exact absurd (z2 ▸ y2) (Nat.lt_irrefl _)
    · exact absurd (y2 ▸ z2) (Nat.lt_irrefl _)
    · rw [y1, z1]
  · rcases old i b g1 with ⟨y1, y2⟩ | ⟨y1, y2⟩
    · exact q4 i b y1 g2
    · rw [y2]; exact q1
  · rcases old i b g1 with ⟨y1, y2⟩ | ⟨y1, y2⟩
    · have hi : i < H.length := by rw [← q2]; exact (List.getElem?_eq_some_iff.mp y1).1
      rw [List.getElem?_append_left hi] at g2
      exact (q5 i b c' y1 g2).grow E
    · subst y1 y2
      rw [q2] at g2
      simp at g2
      subst g2
      exact hc
theorem CR.other {v : Value} {sl : Nat} {b : Addr} {c : ACell} (W : Wr h h' a sl v) (ne : b ≠ a) (q : CR P Z h ρ b c) : CR P Z h' ρ b c := by
  match c, q with
  | .inl (_, _), ⟨cd, q1, q2, q3, q4⟩ => exact ⟨cd, q1, q2.wr W, q3, fun i v fd g1 g2 => by obtain ⟨w, z1, z2⟩ := q4 i v fd g1 g2; exact ⟨w, z1, z2.other W (Or.inl ne)⟩⟩
  | .inr (.inl (_, _)), ⟨cl, q1, q2⟩ => exact ⟨cl, q1.other W ne, q2⟩
  | .inr (.inr _), ⟨cl, q1, q2⟩ => exact ⟨cl, q1.other W ne, q2⟩
theorem HR.set {v : Value} {sl : Nat} {c : ACell} (q : HR P Z n0 h ρ H) (hk : ρ[k]? = some a) (W : Wr h h' a sl v) (hc : CR P Z h' ρ a c) : HR P Z n0 h' ρ (H.set k c) := by
  obtain ⟨q1, q2, q3, q4, q5⟩ := q
  refine ⟨by rw [W.size]; exact q1, by simp [q2], q3, q4, fun i b c' g1 g2 => ?_⟩
  rw [List.getElem?_set] at g2
  split at g2
  · rename_i e
    subst e
    split at g2
    · cases g2
      rw [hk] at g1; cases g1
      exact hc
    · cases g2
  · rename_i e
    exact (q5 i b c' g1 g2).other W fun z => e (q3 k i a hk (z ▸ g1))
theorem nodup_ne : ∀ {l : List String}, nodup l = true → ∀ {i j : Nat} {x y : String}, l[i]? = some x → l[j]? = some y → i ≠ j → x ≠ y
  | [], _, i, j, x, y, h1, _, _ => by simp at h1
  | z :: r, hn, i, j, x, y, h1, h2, ne => by
    simp only [nodup, Bool.and_eq_true, Bool.not_eq_true', List.contains_eq_mem, decide_eq_false_iff_not] at hn
    match i, j, h1, h2, ne with
    | 0, 0, _, _, ne => exact absurd rfl ne
    | 0, j + 1, h1, h2, _ => simp at h1 h2; subst h1; exact fun e => hn.1 (e ▸ List.mem_of_getElem? h2)
    | i + 1, 0, h1, h2, _ => simp at h1 h2; subst h2; exact fun e => hn.1 (e ▸ List.mem_of_getElem? h1)
    | i + 1, j + 1, h1, h2, ne => simp at h1 h2; exact nodup_ne hn.2 h1 h2 (fun e => ne (by rw [e]))
theorem laid_of {C : String} {f : FD} (w : (fWord C f).before a0 Z = true) : Laid Z a0 C C f.1 f.2.1 := by
  unfold fWord at w
  split at w
  · exact Or.inr w
  · exact Or.inl w
theorem HR.putF {c j : Nat} {fs : List Value} {cd : CD} {fd : FD} {v w : Value} (q : HR P Z n0 h ρ H) (hk : ρ[k]? = some a) (hc : H[k]? = some (.inl (c, fs))) (hcd : P.cls[c]? = some cd) (hfd : cd.2.2[j]? = some fd)
    (hck : cChk cd = true) (hl : ∀ f ∈ cd.2.2, (fWord cd.1 f).before a0 Z = true) (W : Wr h h' a (RoadKit.slotOf Z cd.1 fd.1 fd.2.1) w) (hv : VR ρ v w) : HR P Z n0 h' ρ (H.set k (.inl (c, fs.set j v))) := by
  obtain ⟨a', ha, cr⟩ := q.at hc
  rw [hk] at ha; cases ha
  obtain ⟨cd', q1, q2, q3, q4⟩ := cr
  rw [hcd] at q1; cases q1
  refine q.set hk W ⟨cd, hcd, q2.wr W, by simp [q3], fun i v0 fd' g1 g2 => ?_⟩
  simp only [cChk, Bool.and_eq_true, List.all_eq_true] at hck
  obtain ⟨n1, n2⟩ := hck
  by_cases e : j = i
  · subst e
    rw [hfd] at g2; cases g2
    rw [List.getElem?_set] at g1
    split at g1
    · split at g1
      · cases g1
        rename_i z
        obtain ⟨w0, -, F⟩ := q4 j _ fd (List.getElem?_eq_getElem z) hfd
        exact ⟨w, hv, F.same W⟩
      · cases g1
    · rename_i z; exact absurd rfl z
  · rw [List.getElem?_set_ne e] at g1
    obtain ⟨w0, z1, F⟩ := q4 i v0 fd' g1 g2
    refine ⟨w0, z1, F.other W (Or.inr ?_)⟩
    have m1 := List.mem_of_getElem? hfd
    have m2 := List.mem_of_getElem? g2
    have f1 := n2 fd m1
    have f2 := n2 fd' m2
    simp only [fChk, Bool.and_eq_true, decide_eq_true_eq] at f1 f2
    refine slot_ne (laid_of (hl fd' m2)) (laid_of (hl fd m1)) ?_ f2.1 f1.1
    exact nodup_ne n1 (i := i) (j := j) (by simp [g2]) (by simp [hfd]) (fun z => e z.symm)
theorem HR.wrI {b : Bool} {L : List Int32} {i : Nat} {x : Int32} (q : HR P Z n0 h ρ H) (hk : ρ[k]? = some a) (hc : H[k]? = some (.inr (.inl (b, L)))) (W : Wr h h' a i (.int x)) : HR P Z n0 h' ρ (H.set k (.inr (.inl (b, L.set i x)))) := by
  obtain ⟨a', ha, cr⟩ := q.at hc
  rw [hk] at ha; cases ha
  obtain ⟨cl, A, q2, q3, q4⟩ := cr
  have lt : i < cl.slots.size := by
    obtain ⟨cl', z1, -, z3, -⟩ := W
    rw [A.1] at z1; cases z1
    exact z3
  refine q.set hk W ⟨_, A.same W, by simp [sz_set, q2], by simpa using q3, fun j y g => ?_⟩
  rw [List.getElem?_set] at g
  split at g
  · rename_i e
    subst e
    split at g
    · cases g; simp [Cell.setSlot, lt]
    · cases g
  · rename_i e
    have := q4 j y g
    simp [Cell.setSlot, Array.getElem?_setIfInBounds, e, this]
theorem HR.wrJ {L : List Int64} {i : Nat} {x : Int64} (q : HR P Z n0 h ρ H) (hk : ρ[k]? = some a) (hc : H[k]? = some (.inr (.inr L))) (W : Wr h h' a i (.long x)) : HR P Z n0 h' ρ (H.set k (.inr (.inr (L.set i x)))) := by
  obtain ⟨a', ha, cr⟩ := q.at hc
  rw [hk] at ha; cases ha
  obtain ⟨cl, A, q2, q3, q4⟩ := cr
  have lt : i < cl.slots.size := by
    obtain ⟨cl', z1, -, z3, -⟩ := W
    rw [A.1] at z1; cases z1
    exact z3
  refine q.set hk W ⟨_, A.same W, by simp [sz_set, q2], by simpa using q3, fun j y g => ?_⟩
  rw [List.getElem?_set] at g
  split at g
  · rename_i e
    subst e
    split at g
    · cases g; simp [Cell.setSlot, lt]
    · cases g
  · rename_i e
    have := q4 j y g
    simp [Cell.setSlot, Array.getElem?_setIfInBounds, e, this]
end Heaps
theorem SR.int {ρ : List Addr} {x : Int32} {S Sc : List Value} (h : SR ρ (.int x :: S) Sc) : ∃ Sc', Sc = .int x :: Sc' ∧ SR ρ S Sc' := by
  obtain ⟨w, ws, h1, h2, h3⟩ := h
  exact ⟨ws, by rw [h1, show w = .int x from h2], h3⟩
theorem SR.long {ρ : List Addr} {x : Int64} {S Sc : List Value} (h : SR ρ (.long x :: S) Sc) : ∃ Sc', Sc = .long x :: Sc' ∧ SR ρ S Sc' := by
  obtain ⟨w, ws, h1, h2, h3⟩ := h
  exact ⟨ws, by rw [h1, show w = .long x from h2], h3⟩
theorem SR.ref {ρ : List Addr} {x : Nat} {S Sc : List Value} (h : SR ρ (.ref x :: S) Sc) : ∃ a Sc', ρ[x]? = some a ∧ Sc = .ref a :: Sc' ∧ SR ρ S Sc' := by
  obtain ⟨w, ws, h1, ⟨a, h2, h4⟩, h3⟩ := h
  exact ⟨a, ws, h2, by rw [h1, h4], h3⟩
theorem rdA_spec {α : Type} {L : List α} {j : Int32} {x : α} (h : rdA L j = some x) : ¬ j < 0 ∧ L[j.toNatClampNeg]? = some x := by
  unfold rdA at h
  split at h
  · cases h
  · rename_i q; exact ⟨q, h⟩
theorem wrA_spec {α : Type} {L L' : List α} {j : Int32} {x : α} (h : wrA L j x = some L') : ¬ j < 0 ∧ j.toNatClampNeg < L.length ∧ L' = L.set j.toNatClampNeg x := by
  unfold wrA at h
  split at h
  · cases h
  · rename_i q
    split at h
    · rename_i z; cases h; exact ⟨q, z, rfl⟩
    · cases h
end Jvm.Own
namespace Jvm.Own
open Jvm Jvm.ClassFile Sem Op Lib Jvm.Free Jvm.Stand Jvm.LawKit Jvm.RoadKit Bundle
theorem st1_len {L L' : List Slot} {k : Nat} {v : Value} (h : st1 L k v = some L') : L'.length = L.length := by
  unfold st1 at h
  split at h
  · cases h; simp
  · cases h
theorem st2_len {L L' : List Slot} {k : Nat} {v : Value} (h : st2 L k v = some L') : L'.length = L.length := by
  unfold st2 at h
  split at h
  · cases h; simp
  · cases h
theorem lrem_mod (x y : Int64) : x - (x / y) * y = x % y := by
  apply Int64.toInt_inj.mp
  have h1 := Int64.le_toInt (x % y)
  have h2 := Int64.toInt_lt (x % y)
  rw [Int64.toInt_sub, Int64.toInt_mul, Int64.toInt_div, Int.bmod_mul_bmod, Int.sub_bmod_bmod, Int.mul_comm (x.toInt.tdiv y.toInt), ← Int.tmod_def, ← Int64.toInt_mod]
  exact Int.bmod_eq_of_le_mul_two (by omega) (by omega)
theorem putOk_sim {ρ : List Addr} {ty : FieldType} {v w : Value} (h : putOk ty v = true) (hv : VR ρ v w) : narrow ty w = w ∧ fits ty w = true := by
  cases ty <;> cases v <;> first | (simp [putOk] at h; done) | skip
  · cases hv; exact ⟨rfl, rfl⟩
  · cases hv; exact ⟨rfl, rfl⟩
  · rename_i x
    cases hv
    simp only [putOk, Bool.or_eq_true, beq_iff_eq] at h
    rcases h with rfl | rfl
    · exact ⟨rfl, rfl⟩
    · exact ⟨rfl, rfl⟩
  · obtain ⟨a, -, rfl⟩ := hv; exact ⟨rfl, rfl⟩
theorem dflt_sim {ρ : List Addr} {ty : FieldType} (h : dfOk ty = true) : VR ρ (dflt ty) (defaultValue ty) := by
  cases ty <;> first | (simp [dfOk] at h; done) | exact rfl
theorem fieldOf_spec {P : PD} {c a : Nat} {cd : CD} {f : FD} (h1 : P.cls[c]? = some cd) (h2 : cd.2.2[a]? = some f) : fieldOf P c a = some f := by simp [fieldOf, h1, h2]
theorem in_wordsOf {P : PD} {d : MD} {x : Nat × It} {w : Jvm.Cond} (hd : d ∈ P.mth) (hx : x ∈ d.code) (hw : w ∈ iWords P d x) : w ∈ wordsOf P :=
  List.mem_append_right _ (List.mem_flatMap.mpr ⟨d, hd, List.mem_flatMap.mpr ⟨x, hx, hw⟩⟩)
theorem in_wordsC {P : PD} {cd : CD} {w : Jvm.Cond} (hd : cd ∈ P.cls) (hw : w ∈ cWords cd) : w ∈ wordsOf P :=
  List.mem_append_left _ (List.mem_append_left _ (List.mem_flatMap.mpr ⟨cd, hd, hw⟩))
theorem in_wordsM {P : PD} {y : MD} {j : Nat} {w : Jvm.Cond} (hd : P.mth[j]? = some y) (hj : 0 < j) (hw : w ∈ mWords y) : w ∈ wordsOf P := by
  refine List.mem_append_left _ (List.mem_append_right _ (List.mem_flatMap.mpr ⟨y, ?_, hw⟩))
  have : (P.mth.drop 1)[j - 1]? = some y := by rw [List.getElem?_drop]; rw [show 1 + (j - 1) = j by omega]; exact hd
  exact List.mem_of_getElem? this
theorem fWord_in {cd : CD} {f : FD} (h : f ∈ cd.2.2) : fWord cd.1 f ∈ cWords cd := List.mem_cons_of_mem _ (List.mem_cons_of_mem _ (List.mem_map.mpr ⟨f, h, rfl⟩))
theorem cChk_of {P : PD} (hP : chk P = true) {cd : CD} (h : cd ∈ P.cls) : cChk cd = true := by
  simp only [chk, Bool.and_eq_true, List.all_eq_true] at hP
  exact hP.1 cd h
theorem mChk_of {P : PD} (hP : chk P = true) {d : MD} (h : d ∈ P.mth) : mChk P d = true := by
  simp only [chk, Bool.and_eq_true, List.all_eq_true] at hP
  exact hP.2 d h
theorem cid_of {P : PD} (hP : chk P = true) {d : MD} (h : d ∈ P.mth) {cd : CD} (hc : P.cls[d.cid]? = some cd) : cd.1 = d.name.cls := by
  have := mChk_of hP h
  simp only [mChk, Bool.and_eq_true] at this
  have h4 := this.1.1.1.2
  unfold clsChk at h4
  rw [hc] at h4
  simpa using h4
section Step
variable {P : PD} {Z : State} {n0 : Nat} {a0 : Array Value} {l : Launch} {p : Program} {e : Env} {R : Room} {s : State} {m : MethodId} {args : Array Value} {below : List Frame} {meth : Method} {c : Code} {T : State} {locs : List Loc} {cells slots : Nat} {d : MD}
def Nxt (P : PD) (Z : State) (n0 : Nat) (l : Launch) (p : Program) (e : Env) (R : Room) (s : State) (m : MethodId) (args : Array Value) (below : List Frame) (meth : Method) (c : Code) (T : State) (cells slots : Nat) (ρ : List Addr) (g : JFrame) (pc' : Nat) (L L' : List Slot) (S' : List Value) (H1 : AHeap) : Prop :=
  ∃ T' locs' A' Sc', Stand p l e R s m args below meth c T' locs' cells slots ∧ L'.length = L.length ∧ LR ρ L' A' ∧ SR ρ S' Sc' ∧ HR P Z n0 T'.heap ρ H1 ∧ Fr n0 locs' ∧
    ∀ target, Steps p.tables e below (T'.setTop (mkF m pc' A' Sc')) target → Steps p.tables e below (T.setTop g) target
theorem Nxt.pure {ρ : List Addr} {H : AHeap} {g : JFrame} {pc' : Nat} {L L' : List Slot} {S' Sc' : List Value} {A' : Array Slot} (X : Stand p l e R s m args below meth c T locs cells slots) (hl : L'.length = L.length) (hL : LR ρ L' A') (hS : SR ρ S' Sc') (hH : HR P Z n0 T.heap ρ H) (hF : Fr n0 locs)
    (k : ∀ target, Steps p.tables e below (T.setTop (mkF m pc' A' Sc')) target → Steps p.tables e below (T.setTop g) target) : Nxt P Z n0 l p e R s m args below meth c T cells slots ρ g pc' L L' S' H :=
  ⟨T, locs, A', Sc', X, hl, hL, hS, hH, hF, k⟩
theorem Nxt.mem {ρ : List Addr} {H1 : AHeap} {g : JFrame} {pc' : Nat} {L L' : List Slot} {S' Sc' : List Value} {A' : Array Slot} {T' : State} {locs' : List Loc} (X : Stand p l e R s m args below meth c T' locs' cells slots) (hl : L'.length = L.length) (hL : LR ρ L' A') (hS : SR ρ S' Sc') (hH : HR P Z n0 T'.heap ρ H1) (hF : Fr n0 locs')
    (k : ∀ target, Steps p.tables e below (T'.setTop (mkF m pc' A' Sc')) target → Steps p.tables e below (T.setTop g) target) : Nxt P Z n0 l p e R s m args below meth c T cells slots ρ g pc' L L' S' H1 :=
  ⟨T', locs', A', Sc', X, hl, hL, hS, hH, hF, k⟩
set_option maxHeartbeats 4000000 in
theorem stepX (X : Stand p l e R s m args below meth c T locs cells slots) (hx : p.tables.exec = Jvm.exec) (hZ : Z.Warmed39 s.vm) (hown : s.vm.findClass d.name.cls = some m.cls) (hnm : meth.name = d.name.name) (hP : chk P = true) (hW : ∀ w ∈ wordsOf P, w.before a0 Z = true) (hdm : d ∈ P.mth)
    {pc len a : Nat} {er : List Bool} {b : Int} {i : Instr} (hit : (pc, i, len, er, a, b) ∈ d.code) (hd : decode c.code pc = .ok (i, len)) (hlen : lenOk i len = true) {ρ : List Addr} {L L' : List Slot} {S S' Sc : List Value} {H H1 : AHeap} {A : Array Slot}
    (hL : LR ρ L A) (hS : SR ρ S Sc) (hH : HR P Z n0 T.heap ρ H) (hF : Fr n0 locs) (h : xI P (d.name.name == "<init>") d.cid i a b L S H = some (L', S', H1)) :
    Nxt P Z n0 l p e R s m args below meth c T cells slots ρ (mkF m pc A Sc) (pc + len) L L' S' H1 := by
  have hWi : ∀ w ∈ iWords P d (pc, i, len, er, a, b), w.before a0 Z = true := fun w q => hW w (in_wordsOf hdm hit q)
  cases i with
  | aload_n k =>
    obtain rfl : len = 1 := by simpa [lenOk] using hlen
    simp only [xI] at h
    split at h
    · rename_i x q
      cases h
      obtain ⟨w, hv, hg⟩ := hL.get q
      obtain ⟨ad, h1, rfl⟩ := hv
      exact Nxt.pure X rfl hL ⟨_, _, rfl, ⟨ad, h1, rfl⟩, hS⟩ hH hF (fun t z => XS.aloadN (g := mkF m pc A Sc) X.here hx rfl hd hg rfl z)
    · cases h
  | aload k =>
    obtain rfl : len = 2 := by simpa [lenOk] using hlen
    simp only [xI] at h
    split at h
    · rename_i x q
      cases h
      obtain ⟨w, hv, hg⟩ := hL.get q
      obtain ⟨ad, h1, rfl⟩ := hv
      exact Nxt.pure X rfl hL ⟨_, _, rfl, ⟨ad, h1, rfl⟩, hS⟩ hH hF (fun t z => XS.aload (g := mkF m pc A Sc) X.here hx rfl hd hg rfl z)
    · cases h
  | iload_n k =>
    obtain rfl : len = 1 := by simpa [lenOk] using hlen
    simp only [xI] at h
    split at h
    · rename_i x q
      cases h
      obtain ⟨w, hv, hg⟩ := hL.get q
      obtain rfl : w = .int _ := hv
      exact Nxt.pure X rfl hL ⟨_, _, rfl, rfl, hS⟩ hH hF (fun t z => XS.iloadN (g := mkF m pc A Sc) X.here hx rfl hd hg z)
    · cases h
  | iload k =>
    obtain rfl : len = 2 := by simpa [lenOk] using hlen
    simp only [xI] at h
    split at h
    · rename_i x q
      cases h
      obtain ⟨w, hv, hg⟩ := hL.get q
      obtain rfl : w = .int _ := hv
      exact Nxt.pure X rfl hL ⟨_, _, rfl, rfl, hS⟩ hH hF (fun t z => XS.iload (g := mkF m pc A Sc) X.here hx rfl hd hg z)
    · cases h
  | lload_n k =>
    obtain rfl : len = 1 := by simpa [lenOk] using hlen
    simp only [xI] at h
    split at h
    · rename_i x q
      cases h
      obtain ⟨w, hv, hg⟩ := hL.get q
      obtain rfl : w = .long _ := hv
      exact Nxt.pure X rfl hL ⟨_, _, rfl, rfl, hS⟩ hH hF (fun t z => XT.lloadN (g := mkF m pc A Sc) X.here hx rfl hd hg z)
    · cases h
  | lload k =>
    obtain rfl : len = 2 := by simpa [lenOk] using hlen
    simp only [xI] at h
    split at h
    · rename_i x q
      cases h
      obtain ⟨w, hv, hg⟩ := hL.get q
      obtain rfl : w = .long _ := hv
      exact Nxt.pure X rfl hL ⟨_, _, rfl, rfl, hS⟩ hH hF (fun t z => XT.lload (g := mkF m pc A Sc) X.here hx rfl hd hg z)
    · cases h
  | istore_n k =>
    obtain rfl : len = 1 := by simpa [lenOk] using hlen
    simp only [xI] at h
    split at h
    · rename_i x S0
      obtain ⟨L1, q, e1⟩ := Option.map_eq_some_iff.mp h
      cases e1
      obtain ⟨S2, rfl, h2⟩ := hS.int
      obtain ⟨A', z1, z2⟩ := store1_sim hL q (show VR ρ (.int x) (.int x) from rfl) rfl
      exact Nxt.pure X (st1_len q) z2 h2 hH hF (fun t z => XS.istoreN (g := mkF m pc A _) X.here hx rfl hd rfl z1 z)
    · cases h
  | istore k =>
    obtain rfl : len = 2 := by simpa [lenOk] using hlen
    simp only [xI] at h
    split at h
    · rename_i x S0
      obtain ⟨L1, q, e1⟩ := Option.map_eq_some_iff.mp h
      cases e1
      obtain ⟨S2, rfl, h2⟩ := hS.int
      obtain ⟨A', z1, z2⟩ := store1_sim hL q (show VR ρ (.int x) (.int x) from rfl) rfl
      exact Nxt.pure X (st1_len q) z2 h2 hH hF (fun t z => XS.istore (g := mkF m pc A _) X.here hx rfl hd rfl z1 z)
    · cases h
  | astore_n k =>
    obtain rfl : len = 1 := by simpa [lenOk] using hlen
    simp only [xI] at h
    split at h
    · rename_i x S0
      obtain ⟨L1, q, e1⟩ := Option.map_eq_some_iff.mp h
      cases e1
      obtain ⟨ad, S2, h1, rfl, h2⟩ := hS.ref
      obtain ⟨A', z1, z2⟩ := store1_sim hL q (show VR ρ (.ref x) (.ref ad) from ⟨ad, h1, rfl⟩) rfl
      exact Nxt.pure X (st1_len q) z2 h2 hH hF (fun t z => XS.astoreN (g := mkF m pc A _) X.here hx rfl hd rfl rfl z1 z)
    · cases h
  | astore k =>
    obtain rfl : len = 2 := by simpa [lenOk] using hlen
    simp only [xI] at h
    split at h
    · rename_i x S0
      obtain ⟨L1, q, e1⟩ := Option.map_eq_some_iff.mp h
      cases e1
      obtain ⟨ad, S2, h1, rfl, h2⟩ := hS.ref
      obtain ⟨A', z1, z2⟩ := store1_sim hL q (show VR ρ (.ref x) (.ref ad) from ⟨ad, h1, rfl⟩) rfl
      exact Nxt.pure X (st1_len q) z2 h2 hH hF (fun t z => XS.astore (g := mkF m pc A _) X.here hx rfl hd rfl rfl z1 z)
    · cases h
  | lstore_n k =>
    obtain rfl : len = 1 := by simpa [lenOk] using hlen
    simp only [xI] at h
    split at h
    · rename_i x S0
      obtain ⟨L1, q, e1⟩ := Option.map_eq_some_iff.mp h
      cases e1
      obtain ⟨S2, rfl, h2⟩ := hS.long
      obtain ⟨A', z1, z2⟩ := store2_sim hL q (show VR ρ (.long x) (.long x) from rfl) rfl
      exact Nxt.pure X (st2_len q) z2 h2 hH hF (fun t z => XT.lstoreN (g := mkF m pc A _) X.here hx rfl hd rfl z1 z)
    · cases h
  | lstore k =>
    obtain rfl : len = 2 := by simpa [lenOk] using hlen
    simp only [xI] at h
    split at h
    · rename_i x S0
      obtain ⟨L1, q, e1⟩ := Option.map_eq_some_iff.mp h
      cases e1
      obtain ⟨S2, rfl, h2⟩ := hS.long
      obtain ⟨A', z1, z2⟩ := store2_sim hL q (show VR ρ (.long x) (.long x) from rfl) rfl
      exact Nxt.pure X (st2_len q) z2 h2 hH hF (fun t z => XT.lstore (g := mkF m pc A _) X.here hx rfl hd rfl z1 z)
    · cases h
  | iinc k dd =>
    obtain rfl : len = 3 := by simpa [lenOk] using hlen
    simp only [xI] at h
    split at h
    · rename_i x q0
      obtain ⟨L1, q, e1⟩ := Option.map_eq_some_iff.mp h
      cases e1
      obtain ⟨w, hv, hg⟩ := hL.get q0
      obtain rfl : w = .int _ := hv
      obtain ⟨A', z1, z2⟩ := store1_sim hL q (show VR ρ (.int (x + Int32.ofInt dd)) (.int (x + Int32.ofInt dd)) from rfl) rfl
      exact Nxt.pure X (st1_len q) z2 hS hH hF (fun t z => XS.iinc (g := mkF m pc A Sc) X.here hx rfl hd hg z1 z)
    · cases h
  | iconst v =>
    obtain rfl : len = 1 := by simpa [lenOk] using hlen
    simp only [xI] at h
    cases h
    exact Nxt.pure X rfl hL ⟨_, _, rfl, rfl, hS⟩ hH hF (fun t z => XS.iconst (g := mkF m pc A Sc) X.here hx rfl hd z)
  | bipush v =>
    obtain rfl : len = 2 := by simpa [lenOk] using hlen
    simp only [xI] at h
    cases h
    exact Nxt.pure X rfl hL ⟨_, _, rfl, rfl, hS⟩ hH hF (fun t z => XS.bipush (g := mkF m pc A Sc) X.here hx rfl hd z)
  | sipush v =>
    obtain rfl : len = 3 := by simpa [lenOk] using hlen
    simp only [xI] at h
    cases h
    exact Nxt.pure X rfl hL ⟨_, _, rfl, rfl, hS⟩ hH hF (fun t z => XS.sipush (g := mkF m pc A Sc) X.here hx rfl hd z)
  | lconst v =>
    obtain rfl : len = 1 := by simpa [lenOk] using hlen
    simp only [xI] at h
    cases h
    exact Nxt.pure X rfl hL ⟨_, _, rfl, rfl, hS⟩ hH hF (fun t z => XT.lconst (g := mkF m pc A Sc) X.here hx rfl hd z)
  | ldc k =>
    obtain rfl : len = 2 := by simpa [lenOk] using hlen
    simp only [xI] at h
    cases h
    have w1 := hWi (.constant d.name.cls k (Int32.ofInt b)) (List.mem_singleton.mpr rfl)
    exact Nxt.pure X rfl hL ⟨_, _, rfl, rfl, hS⟩ hH hF (fun t z => X.ldcInt hx hown (mvT hZ w1) (g := mkF m pc A Sc) rfl hd t z)
  | ldc2_w k =>
    obtain rfl : len = 3 := by simpa [lenOk] using hlen
    simp only [xI] at h
    cases h
    have w1 := hWi (.constantLong d.name.cls k (Int64.ofInt b)) (List.mem_singleton.mpr rfl)
    exact Nxt.pure X rfl hL ⟨_, _, rfl, rfl, hS⟩ hH hF (fun t z => X.ldc2Long hx hown (mvT hZ w1) (g := mkF m pc A Sc) rfl hd t z)
  | iadd =>
    obtain rfl : len = 1 := by simpa [lenOk] using hlen
    simp only [xI] at h
    split at h
    · rename_i y x S0
      cases h
      obtain ⟨S1, rfl, h1⟩ := hS.int
      obtain ⟨S2, rfl, h2⟩ := h1.int
      exact Nxt.pure X rfl hL ⟨_, _, rfl, rfl, h2⟩ hH hF (fun t z => XS.iadd (g := mkF m pc A _) X.here hx rfl hd rfl z)
    · cases h
  | isub =>
    obtain rfl : len = 1 := by simpa [lenOk] using hlen
    simp only [xI] at h
    split at h
    · rename_i y x S0
      cases h
      obtain ⟨S1, rfl, h1⟩ := hS.int
      obtain ⟨S2, rfl, h2⟩ := h1.int
      exact Nxt.pure X rfl hL ⟨_, _, rfl, rfl, h2⟩ hH hF (fun t z => XS.isub (g := mkF m pc A _) X.here hx rfl hd rfl z)
    · cases h
  | imul =>
    obtain rfl : len = 1 := by simpa [lenOk] using hlen
    simp only [xI] at h
    split at h
    · rename_i y x S0
      cases h
      obtain ⟨S1, rfl, h1⟩ := hS.int
      obtain ⟨S2, rfl, h2⟩ := h1.int
      exact Nxt.pure X rfl hL ⟨_, _, rfl, rfl, h2⟩ hH hF (fun t z => XS.imul (g := mkF m pc A _) X.here hx rfl hd rfl z)
    · cases h
  | iand =>
    obtain rfl : len = 1 := by simpa [lenOk] using hlen
    simp only [xI] at h
    split at h
    · rename_i y x S0
      cases h
      obtain ⟨S1, rfl, h1⟩ := hS.int
      obtain ⟨S2, rfl, h2⟩ := h1.int
      exact Nxt.pure X rfl hL ⟨_, _, rfl, rfl, h2⟩ hH hF (fun t z => XS.iand (g := mkF m pc A _) X.here hx rfl hd rfl z)
    · cases h
  | ior =>
    obtain rfl : len = 1 := by simpa [lenOk] using hlen
    simp only [xI] at h
    split at h
    · rename_i y x S0
      cases h
      obtain ⟨S1, rfl, h1⟩ := hS.int
      obtain ⟨S2, rfl, h2⟩ := h1.int
      exact Nxt.pure X rfl hL ⟨_, _, rfl, rfl, h2⟩ hH hF (fun t z => XT.ior (g := mkF m pc A _) X.here hx rfl hd rfl z)
    · cases h
  | ixor =>
    obtain rfl : len = 1 := by simpa [lenOk] using hlen
    simp only [xI] at h
    split at h
    · rename_i y x S0
      cases h
      obtain ⟨S1, rfl, h1⟩ := hS.int
      obtain ⟨S2, rfl, h2⟩ := h1.int
      exact Nxt.pure X rfl hL ⟨_, _, rfl, rfl, h2⟩ hH hF (fun t z => XT.ixor (g := mkF m pc A _) X.here hx rfl hd rfl z)
    · cases h
  | ishl =>
    obtain rfl : len = 1 := by simpa [lenOk] using hlen
    simp only [xI] at h
    split at h
    · rename_i y x S0
      cases h
      obtain ⟨S1, rfl, h1⟩ := hS.int
      obtain ⟨S2, rfl, h2⟩ := h1.int
      exact Nxt.pure X rfl hL ⟨_, _, rfl, rfl, h2⟩ hH hF (fun t z => XT.ishl (g := mkF m pc A _) X.here hx rfl hd rfl z)
    · cases h
  | ishr =>
    obtain rfl : len = 1 := by simpa [lenOk] using hlen
    simp only [xI] at h
    split at h
    · rename_i y x S0
      cases h
      obtain ⟨S1, rfl, h1⟩ := hS.int
      obtain ⟨S2, rfl, h2⟩ := h1.int
      exact Nxt.pure X rfl hL ⟨_, _, rfl, rfl, h2⟩ hH hF (fun t z => XT.ishr (g := mkF m pc A _) X.here hx rfl hd rfl z)
    · cases h
  | iushr =>
    obtain rfl : len = 1 := by simpa [lenOk] using hlen
    simp only [xI] at h
    split at h
    · rename_i y x S0
      cases h
      obtain ⟨S1, rfl, h1⟩ := hS.int
      obtain ⟨S2, rfl, h2⟩ := h1.int
      exact Nxt.pure X rfl hL ⟨_, _, rfl, rfl, h2⟩ hH hF (fun t z => XT.iushr (g := mkF m pc A _) X.here hx rfl hd rfl z)
    · cases h
  | ladd =>
    obtain rfl : len = 1 := by simpa [lenOk] using hlen
    simp only [xI] at h
    split at h
    · rename_i y x S0
      cases h
      obtain ⟨S1, rfl, h1⟩ := hS.long
      obtain ⟨S2, rfl, h2⟩ := h1.long
      exact Nxt.pure X rfl hL ⟨_, _, rfl, rfl, h2⟩ hH hF (fun t z => XT.ladd (g := mkF m pc A _) X.here hx rfl hd rfl z)
    · cases h
  | lsub =>
    obtain rfl : len = 1 := by simpa [lenOk] using hlen
    simp only [xI] at h
    split at h
    · rename_i y x S0
      cases h
      obtain ⟨S1, rfl, h1⟩ := hS.long
      obtain ⟨S2, rfl, h2⟩ := h1.long
      exact Nxt.pure X rfl hL ⟨_, _, rfl, rfl, h2⟩ hH hF (fun t z => XT.lsub (g := mkF m pc A _) X.here hx rfl hd rfl z)
    · cases h
  | lmul =>
    obtain rfl : len = 1 := by simpa [lenOk] using hlen
    simp only [xI] at h
    split at h
    · rename_i y x S0
      cases h
      obtain ⟨S1, rfl, h1⟩ := hS.long
      obtain ⟨S2, rfl, h2⟩ := h1.long
      exact Nxt.pure X rfl hL ⟨_, _, rfl, rfl, h2⟩ hH hF (fun t z => XT.lmul (g := mkF m pc A _) X.here hx rfl hd rfl z)
    · cases h
  | land =>
    obtain rfl : len = 1 := by simpa [lenOk] using hlen
    simp only [xI] at h
    split at h
    · rename_i y x S0
      cases h
      obtain ⟨S1, rfl, h1⟩ := hS.long
      obtain ⟨S2, rfl, h2⟩ := h1.long
      exact Nxt.pure X rfl hL ⟨_, _, rfl, rfl, h2⟩ hH hF (fun t z => XT.land (g := mkF m pc A _) X.here hx rfl hd rfl z)
    · cases h
  | lor =>
    obtain rfl : len = 1 := by simpa [lenOk] using hlen
    simp only [xI] at h
    split at h
    · rename_i y x S0
      cases h
      obtain ⟨S1, rfl, h1⟩ := hS.long
      obtain ⟨S2, rfl, h2⟩ := h1.long
      exact Nxt.pure X rfl hL ⟨_, _, rfl, rfl, h2⟩ hH hF (fun t z => XT.lor (g := mkF m pc A _) X.here hx rfl hd rfl z)
    · cases h
  | lxor =>
    obtain rfl : len = 1 := by simpa [lenOk] using hlen
    simp only [xI] at h
    split at h
    · rename_i y x S0
      cases h
      obtain ⟨S1, rfl, h1⟩ := hS.long
      obtain ⟨S2, rfl, h2⟩ := h1.long
      exact Nxt.pure X rfl hL ⟨_, _, rfl, rfl, h2⟩ hH hF (fun t z => XT.lxor (g := mkF m pc A _) X.here hx rfl hd rfl z)
    · cases h
  | lcmp =>
    obtain rfl : len = 1 := by simpa [lenOk] using hlen
    simp only [xI] at h
    split at h
    · rename_i y x S0
      cases h
      obtain ⟨S1, rfl, h1⟩ := hS.long
      obtain ⟨S2, rfl, h2⟩ := h1.long
      exact Nxt.pure X rfl hL ⟨_, _, rfl, rfl, h2⟩ hH hF (fun t z => XT.lcmp (g := mkF m pc A _) X.here hx rfl hd rfl z)
    · cases h
  | lshl =>
    obtain rfl : len = 1 := by simpa [lenOk] using hlen
    simp only [xI] at h
    split at h
    · rename_i y x S0
      cases h
      obtain ⟨S1, rfl, h1⟩ := hS.int
      obtain ⟨S2, rfl, h2⟩ := h1.long
      exact Nxt.pure X rfl hL ⟨_, _, rfl, rfl, h2⟩ hH hF (fun t z => XT.lshl (g := mkF m pc A _) X.here hx rfl hd rfl z)
    · cases h
  | lshr =>
    obtain rfl : len = 1 := by simpa [lenOk] using hlen
    simp only [xI] at h
    split at h
    · rename_i y x S0
      cases h
      obtain ⟨S1, rfl, h1⟩ := hS.int
      obtain ⟨S2, rfl, h2⟩ := h1.long
      exact Nxt.pure X rfl hL ⟨_, _, rfl, rfl, h2⟩ hH hF (fun t z => XT.lshr (g := mkF m pc A _) X.here hx rfl hd rfl z)
    · cases h
  | lushr =>
    obtain rfl : len = 1 := by simpa [lenOk] using hlen
    simp only [xI] at h
    split at h
    · rename_i y x S0
      cases h
      obtain ⟨S1, rfl, h1⟩ := hS.int
      obtain ⟨S2, rfl, h2⟩ := h1.long
      exact Nxt.pure X rfl hL ⟨_, _, rfl, rfl, h2⟩ hH hF (fun t z => XT.lushr (g := mkF m pc A _) X.here hx rfl hd rfl z)
    · cases h
  | idiv =>
    obtain rfl : len = 1 := by simpa [lenOk] using hlen
    simp only [xI] at h
    split at h
    · rename_i y x S0
      split at h
      · cases h
      · rename_i hy
        cases h
        obtain ⟨S1, rfl, h1⟩ := hS.int
        obtain ⟨S2, rfl, h2⟩ := h1.int
        exact Nxt.pure X rfl hL ⟨_, _, rfl, rfl, h2⟩ hH hF (fun t z => XS.idiv (g := mkF m pc A _) X.here hx rfl hd rfl hy z)
    · cases h
  | irem =>
    obtain rfl : len = 1 := by simpa [lenOk] using hlen
    simp only [xI] at h
    split at h
    · rename_i y x S0
      split at h
      · cases h
      · rename_i hy
        cases h
        obtain ⟨S1, rfl, h1⟩ := hS.int
        obtain ⟨S2, rfl, h2⟩ := h1.int
        exact Nxt.pure X rfl hL ⟨_, _, rfl, rfl, h2⟩ hH hF (fun t z => iremM (g := mkF m pc A _) X hx rfl hd rfl hy z)
    · cases h
  | ldiv =>
    obtain rfl : len = 1 := by simpa [lenOk] using hlen
    simp only [xI] at h
    split at h
    · rename_i y x S0
      split at h
      · cases h
      · rename_i hy
        cases h
        obtain ⟨S1, rfl, h1⟩ := hS.long
        obtain ⟨S2, rfl, h2⟩ := h1.long
        exact Nxt.pure X rfl hL ⟨_, _, rfl, rfl, h2⟩ hH hF (fun t z => XT.ldiv (g := mkF m pc A _) X.here hx rfl hd rfl hy z)
    · cases h
  | lrem =>
    obtain rfl : len = 1 := by simpa [lenOk] using hlen
    simp only [xI] at h
    split at h
    · rename_i y x S0
      split at h
      · cases h
      · rename_i hy
        cases h
        obtain ⟨S1, rfl, h1⟩ := hS.long
        obtain ⟨S2, rfl, h2⟩ := h1.long
        exact Nxt.pure X rfl hL ⟨_, _, rfl, rfl, h2⟩ hH hF (fun t z => XT.lrem (g := mkF m pc A _) X.here hx rfl hd rfl hy (by rw [lrem_mod]; exact z))
    · cases h
  | i2l =>
    obtain rfl : len = 1 := by simpa [lenOk] using hlen
    simp only [xI] at h
    split at h
    · rename_i x S0
      cases h
      obtain ⟨S1, rfl, h1⟩ := hS.int
      exact Nxt.pure X rfl hL ⟨_, _, rfl, rfl, h1⟩ hH hF (fun t z => XT.i2l (g := mkF m pc A _) X.here hx rfl hd rfl z)
    · cases h
  | l2i =>
    obtain rfl : len = 1 := by simpa [lenOk] using hlen
    simp only [xI] at h
    split at h
    · rename_i x S0
      cases h
      obtain ⟨S1, rfl, h1⟩ := hS.long
      exact Nxt.pure X rfl hL ⟨_, _, rfl, rfl, h1⟩ hH hF (fun t z => XT.l2i (g := mkF m pc A _) X.here hx rfl hd rfl z)
    · cases h
  | dup =>
    obtain rfl : len = 1 := by simpa [lenOk] using hlen
    simp only [xI] at h
    split at h
    · rename_i x S0
      cases h
      obtain ⟨S1, rfl, h1⟩ := hS.int
      exact Nxt.pure X rfl hL ⟨_, _, rfl, rfl, _, _, rfl, rfl, h1⟩ hH hF (fun t z => XS.dup (g := mkF m pc A _) X.here hx rfl hd rfl rfl z)
    · rename_i x S0
      cases h
      obtain ⟨ad, S1, g1, rfl, h1⟩ := hS.ref
      exact Nxt.pure X rfl hL ⟨_, _, rfl, ⟨ad, g1, rfl⟩, _, _, rfl, ⟨ad, g1, rfl⟩, h1⟩ hH hF (fun t z => XS.dup (g := mkF m pc A _) X.here hx rfl hd rfl rfl z)
    · cases h
  | dup2 =>
    obtain rfl : len = 1 := by simpa [lenOk] using hlen
    simp only [xI] at h
    split at h
    · rename_i x y S0
      cases h
      obtain ⟨S1, rfl, h1⟩ := hS.int
      obtain ⟨ad, S2, g1, rfl, h2⟩ := h1.ref
      exact Nxt.pure X rfl hL ⟨_, _, rfl, rfl, _, _, rfl, ⟨ad, g1, rfl⟩, _, _, rfl, rfl, _, _, rfl, ⟨ad, g1, rfl⟩, h2⟩ hH hF (fun t z => XT.dup2 (g := mkF m pc A _) X.here hx rfl hd rfl rfl rfl z)
    · rename_i x S0
      cases h
      obtain ⟨S1, rfl, h1⟩ := hS.long
      exact Nxt.pure X rfl hL ⟨_, _, rfl, rfl, _, _, rfl, rfl, h1⟩ hH hF (fun t z => XT.dup2L (g := mkF m pc A _) X.here hx rfl hd rfl z)
    · cases h
  | pop =>
    obtain rfl : len = 1 := by simpa [lenOk] using hlen
    simp only [xI] at h
    split at h
    · rename_i x S0
      cases h
      obtain ⟨S1, rfl, h1⟩ := hS.int
      exact Nxt.pure X rfl hL h1 hH hF (fun t z => XT.pop (g := mkF m pc A _) X.here hx rfl hd rfl rfl z)
    · cases h
  | getfield k =>
    obtain rfl : len = 3 := by simpa [lenOk] using hlen
    simp only [xI] at h
    split at h
    · rename_i o S0
      obtain ⟨ad, S1, g1, rfl, h1⟩ := hS.ref
      split at h
      · rename_i c0 fs hc0
        split at h
        · rename_i ec
          subst ec
          obtain ⟨ad', g2, cd, q1, q2, q3, q4⟩ := hH.at hc0
          rw [g1] at g2; cases g2
          have hcd := cid_of hP hdm q1
          have core : ∀ v, fs[a]? = some v → ∃ w T2, VR ρ v w ∧ Stand p l e R s m args below meth c T2 locs cells slots ∧ T2.heap = T.heap ∧ ∀ target, Steps p.tables e below (T2.setTop (mkF m (pc + 3) A (w :: S1))) target → Steps p.tables e below (T.setTop (mkF m pc A (.ref ad :: S1))) target := fun v hv => by
            have ha : a < cd.2.2.length := by rw [← q3]; exact (List.getElem?_eq_some_iff.mp hv).1
            obtain ⟨w, hvw, F⟩ := q4 a v _ hv (List.getElem?_eq_getElem ha)
            have w1 := hWi (.fieldLink d.name.cls k d.name.cls cd.2.2[a].1 cd.2.2[a].2.1) (by
              show _ ∈ fLink P d k a
              unfold fLink
              rw [fieldOf_spec q1 (List.getElem?_eq_getElem ha)]
              exact List.mem_singleton.mpr rfl)
            rw [hcd] at F
            obtain ⟨T2, X2, e2, st2⟩ := getF X hx hZ hown (host := "") (Or.inl w1) Via.refl rfl F (g := mkF m pc A (.ref ad :: S1)) rfl rfl hd
            exact ⟨w, T2, hvw, X2, e2, st2⟩
          split at h
          · rename_i x hv
            cases h
            obtain ⟨w, T2, hvw, X2, e2, st2⟩ := core _ hv
            exact Nxt.mem X2 rfl hL ⟨_, _, rfl, hvw, h1⟩ (by rw [e2]; exact hH) hF st2
          · rename_i x hv
            cases h
            obtain ⟨w, T2, hvw, X2, e2, st2⟩ := core _ hv
            exact Nxt.mem X2 rfl hL ⟨_, _, rfl, hvw, h1⟩ (by rw [e2]; exact hH) hF st2
          · rename_i x hv
            cases h
            obtain ⟨w, T2, hvw, X2, e2, st2⟩ := core _ hv
            exact Nxt.mem X2 rfl hL ⟨_, _, rfl, hvw, h1⟩ (by rw [e2]; exact hH) hF st2
          · cases h
        · cases h
      · cases h
    · cases h
  | putfield k =>
    obtain rfl : len = 3 := by simpa [lenOk] using hlen
    simp only [xI] at h
    split at h
    · rename_i v o S0
      obtain ⟨w, Sx, rfl, hvw, hS1⟩ := hS
      obtain ⟨ad, S1, g1, rfl, h1⟩ := hS1.ref
      split at h
      · rename_i c0 fs hc0
        split at h
        · rename_i ec
          obtain ⟨ec, enr⟩ := ec
          subst ec
          split at h
          · rename_i nm ds ty fin hf
            split at h
            · rename_i hok
              cases h
              simp only [Bool.and_eq_true] at hok
              obtain ⟨hok, hfin⟩ := hok
              obtain ⟨ad', g2, cd, q1, q2, q3, q4⟩ := hH.at hc0
              rw [g1] at g2; cases g2
              have hcd := cid_of hP hdm q1
              rw [q1] at hf
              have hf' : cd.2.2[a]? = some (nm, ds, ty, fin) := hf
              have ha : a < fs.length := by rw [q3]; exact (List.getElem?_eq_some_iff.mp hf').1
              obtain ⟨w0, -, F⟩ := q4 a _ _ (List.getElem?_eq_getElem ha) hf'
              have w1 := hWi (.fieldLink d.name.cls k d.name.cls nm ds) (by
                show _ ∈ fLink P d k a
                unfold fLink
                rw [fieldOf_spec q1 hf']
                exact List.mem_singleton.mpr rfl)
              have hcm : cd ∈ P.cls := List.mem_of_getElem? q1
              have w2 := hW _ (in_wordsC hcm (fWord_in (List.mem_of_getElem? hf')))
              have w3 := hW (.instantiable cd.1 cd.2.1) (in_wordsC hcm (List.mem_cons_self ..))
              have hck := cChk_of hP hcm
              have hck' := hck
              simp only [cChk, Bool.and_eq_true, List.all_eq_true] at hck'
              have f1 := hck'.2 _ (List.mem_of_getElem? hf')
              simp only [fChk, Bool.and_eq_true, decide_eq_true_eq] at f1
              obtain ⟨p1, p2⟩ := putOk_sim hok hvw
              have Ly : (Jvm.Cond.lays cd.1 cd.1 nm ds).before a0 Z = true ∨ ((Jvm.Cond.laysFinal cd.1 cd.1 nm ds).before a0 Z = true ∧ d.name.cls = cd.1 ∧ meth.name = "<init>") := by
                unfold fWord at w2
                cases fin with
                | false => exact Or.inl w2
                | true => exact Or.inr ⟨w2, hcd.symm, by rw [hnm]; simpa using hfin⟩
              obtain ⟨T2, h2, X2, e2, W2, st2⟩ := putF X hx hZ hown (host := "") (R0 := d.name.cls) (O := cd.1) (Or.inl w1) (by rw [hcd]; exact Via.refl) rfl F q2 Ly w3 f1.1 p1 p2 (g := mkF m pc A (w :: .ref ad :: S1)) rfl rfl hd
              have hH2 := hH.putF (a0 := a0) g1 hc0 q1 hf' hck (fun f hfm => hW _ (in_wordsC hcm (fWord_in hfm))) W2 hvw
              exact Nxt.mem X2 rfl hL h1 (by rw [e2]; exact hH2) (Fr.snoc X2 hF (hH.2.2.2.1 _ _ g1 enr)) st2
            · cases h
          · cases h
        · cases h
      · cases h
    · cases h
  | iaload =>
    obtain rfl : len = 1 := by simpa [lenOk] using hlen
    simp only [xI] at h
    split at h
    · rename_i j o S0
      obtain ⟨S1, rfl, h1⟩ := hS.int
      obtain ⟨ad, S2, g1, rfl, h2⟩ := h1.ref
      split at h
      · rename_i B hc0
        obtain ⟨x, q, e1⟩ := Option.map_eq_some_iff.mp h
        cases e1
        obtain ⟨hj, hat⟩ := rdA_spec q
        obtain ⟨ad', g2, cl, Ar, z1, z2, z3⟩ := hH.at hc0
        rw [g1] at g2; cases g2
        have hin : ¬ (j < 0 ∨ cl.slots.size ≤ j.toNatClampNeg) := by
          have := (List.getElem?_eq_some_iff.mp hat).1
          rintro (y | y)
          · exact hj y
          · omega
        exact Nxt.pure X rfl hL ⟨_, _, rfl, rfl, h2⟩ hH hF (fun t z => X.iaload hx (j := j) (v := .int x) Ar.1 (State.isArrayOf_alike hZ.alike Ar.2.1) Ar.2.2 hin (z3 _ _ hat) (g := mkF m pc A _) rfl rfl hd t z)
      · cases h
    · cases h
  | baload =>
    obtain rfl : len = 1 := by simpa [lenOk] using hlen
    simp only [xI] at h
    split at h
    · rename_i j o S0
      obtain ⟨S1, rfl, h1⟩ := hS.int
      obtain ⟨ad, S2, g1, rfl, h2⟩ := h1.ref
      split at h
      · rename_i B hc0
        obtain ⟨x, q, e1⟩ := Option.map_eq_some_iff.mp h
        cases e1
        obtain ⟨hj, hat⟩ := rdA_spec q
        obtain ⟨ad', g2, cl, Ar, z1, z2, z3⟩ := hH.at hc0
        rw [g1] at g2; cases g2
        have hin : ¬ (j < 0 ∨ cl.slots.size ≤ j.toNatClampNeg) := by
          have := (List.getElem?_eq_some_iff.mp hat).1
          rintro (y | y)
          · exact hj y
          · omega
        exact Nxt.pure X rfl hL ⟨_, _, rfl, rfl, h2⟩ hH hF (fun t z => X.baloadBooleans hx (j := j) (v := .int x) Ar.1 (State.isArrayOf_alike hZ.alike Ar.2.1) Ar.2.2 hin (z3 _ _ hat) (g := mkF m pc A _) rfl rfl hd t z)
      · cases h
    · cases h
  | laload =>
    obtain rfl : len = 1 := by simpa [lenOk] using hlen
    simp only [xI] at h
    split at h
    · rename_i j o S0
      obtain ⟨S1, rfl, h1⟩ := hS.int
      obtain ⟨ad, S2, g1, rfl, h2⟩ := h1.ref
      split at h
      · rename_i B hc0
        obtain ⟨x, q, e1⟩ := Option.map_eq_some_iff.mp h
        cases e1
        obtain ⟨hj, hat⟩ := rdA_spec q
        obtain ⟨ad', g2, cl, Ar, z1, z2, z3⟩ := hH.at hc0
        rw [g1] at g2; cases g2
        have hin : ¬ (j < 0 ∨ cl.slots.size ≤ j.toNatClampNeg) := by
          have := (List.getElem?_eq_some_iff.mp hat).1
          rintro (y | y)
          · exact hj y
          · omega
        exact Nxt.pure X rfl hL ⟨_, _, rfl, rfl, h2⟩ hH hF (fun t z => X.laload hx (j := j) (v := .long x) Ar.1 (State.isArrayOf_alike hZ.alike Ar.2.1) Ar.2.2 hin (z3 _ _ hat) (g := mkF m pc A _) rfl rfl hd t z)
      · cases h
    · cases h
  | iastore =>
    obtain rfl : len = 1 := by simpa [lenOk] using hlen
    simp only [xI] at h
    split at h
    · rename_i x j o S0
      obtain ⟨S1, rfl, h1⟩ := hS.int
      obtain ⟨S2, rfl, h2⟩ := h1.int
      obtain ⟨ad, S3, g1, rfl, h3⟩ := h2.ref
      split at h
      · rename_i B hc0
        split at h
        · rename_i enr
          obtain ⟨B', q, e1⟩ := Option.map_eq_some_iff.mp h
          cases e1
          obtain ⟨hj, hlt, rfl⟩ := wrA_spec q
          obtain ⟨ad', g2, cl, Ar, z1, z2, z3⟩ := hH.at hc0
          rw [g1] at g2; cases g2
          have hin : ¬ (j < 0 ∨ cl.slots.size ≤ j.toNatClampNeg) := by
            rintro (y | y)
            · exact hj y
            · omega
          obtain ⟨T2, h2', X2, e2, W2, st2⟩ := stI X hx hZ rfl Ar (j := j) (x := x) hin (g := mkF m pc A _) rfl rfl hd
          exact Nxt.mem X2 rfl hL h3 (by rw [e2]; exact hH.wrI g1 hc0 W2) (Fr.snoc X2 hF (hH.2.2.2.1 _ _ g1 enr)) st2
        · cases h
      · cases h
    · cases h
  | bastore =>
    obtain rfl : len = 1 := by simpa [lenOk] using hlen
    simp only [xI] at h
    split at h
    · rename_i x j o S0
      obtain ⟨S1, rfl, h1⟩ := hS.int
      obtain ⟨S2, rfl, h2⟩ := h1.int
      obtain ⟨ad, S3, g1, rfl, h3⟩ := h2.ref
      split at h
      · rename_i B hc0
        split at h
        · rename_i enr
          obtain ⟨B', q, e1⟩ := Option.map_eq_some_iff.mp h
          cases e1
          obtain ⟨hj, hlt, rfl⟩ := wrA_spec q
          obtain ⟨ad', g2, cl, Ar, z1, z2, z3⟩ := hH.at hc0
          rw [g1] at g2; cases g2
          have hin : ¬ (j < 0 ∨ cl.slots.size ≤ j.toNatClampNeg) := by
            rintro (y | y)
            · exact hj y
            · omega
          obtain ⟨T2, h2', X2, e2, W2, st2⟩ := stZ X hx hZ rfl Ar (j := j) (x := x) hin (g := mkF m pc A _) rfl rfl hd
          exact Nxt.mem X2 rfl hL h3 (by rw [e2]; exact hH.wrI g1 hc0 W2) (Fr.snoc X2 hF (hH.2.2.2.1 _ _ g1 enr)) st2
        · cases h
      · cases h
    · cases h
  | lastore =>
    obtain rfl : len = 1 := by simpa [lenOk] using hlen
    simp only [xI] at h
    split at h
    · rename_i x j o S0
      obtain ⟨S1, rfl, h1⟩ := hS.long
      obtain ⟨S2, rfl, h2⟩ := h1.int
      obtain ⟨ad, S3, g1, rfl, h3⟩ := h2.ref
      split at h
      · rename_i B hc0
        split at h
        · rename_i enr
          obtain ⟨B', q, e1⟩ := Option.map_eq_some_iff.mp h
          cases e1
          obtain ⟨hj, hlt, rfl⟩ := wrA_spec q
          obtain ⟨ad', g2, cl, Ar, z1, z2, z3⟩ := hH.at hc0
          rw [g1] at g2; cases g2
          have hin : ¬ (j < 0 ∨ cl.slots.size ≤ j.toNatClampNeg) := by
            rintro (y | y)
            · exact hj y
            · omega
          obtain ⟨T2, h2', X2, e2, W2, st2⟩ := stJ X hx hZ rfl Ar (j := j) (x := x) hin (g := mkF m pc A _) rfl rfl hd
          exact Nxt.mem X2 rfl hL h3 (by rw [e2]; exact hH.wrJ g1 hc0 W2) (Fr.snoc X2 hF (hH.2.2.2.1 _ _ g1 enr)) st2
        · cases h
      · cases h
    · cases h
  | arraylength =>
    obtain rfl : len = 1 := by simpa [lenOk] using hlen
    simp only [xI] at h
    split at h
    · rename_i o S0
      obtain ⟨ad, S1, g1, rfl, h1⟩ := hS.ref
      split at h
      · rename_i bb B hc0
        cases h
        obtain ⟨ad', g2, cl, Ar, z1, z2, z3⟩ := hH.at hc0
        rw [g1] at g2; cases g2
        exact Nxt.pure X rfl hL ⟨_, _, rfl, rfl, h1⟩ hH hF (fun t z => X.arraylength hx (cell := cl) Ar.1 (State.isArrayOf_alike hZ.alike Ar.2.1) (g := mkF m pc A _) rfl rfl hd t (by rw [z1]; exact z))
      · cases h
    · cases h
  | _ => simp [xI] at h
set_option maxHeartbeats 4000000 in
theorem stepN (X : Stand p l e R s m args below meth c T locs cells slots) (hx : p.tables.exec = Jvm.exec) (hZ : Z.Warmed39 s.vm) (hown : s.vm.findClass d.name.cls = some m.cls) (hP : chk P = true) (hW : ∀ w ∈ wordsOf P, w.before a0 Z = true) (hdm : d ∈ P.mth)
    {pc len a ks : Nat} {er : List Bool} {b : Int} {i : Instr} (hit : (pc, i, len, er, a, b) ∈ d.code) (hd : decode c.code pc = .ok (i, len)) (hlen : lenOk i len = true) {ρ : List Addr} {S S' Sc : List Value} {H H1 : AHeap} {A : Array Slot}
    (hS : SR ρ S Sc) (hH : HR P Z n0 T.heap ρ H) (h : xN P i a S H = some (S', H1, ks)) (hc : cells + 1 ≤ R.cells) (hl : slots + ks ≤ R.slots) :
    ∃ T' ad Sc', Stand p l e R s m args below meth c T' locs (cells + 1) (slots + ks) ∧ SR (ρ ++ [ad]) S' Sc' ∧ HR P Z n0 T'.heap (ρ ++ [ad]) H1 ∧
      ∀ target, Steps p.tables e below (T'.setTop (mkF m (pc + len) A Sc')) target → Steps p.tables e below (T.setTop (mkF m pc A Sc)) target := by
  have hWi : ∀ w ∈ iWords P d (pc, i, len, er, a, b), w.before a0 Z = true := fun w q => hW w (in_wordsOf hdm hit q)
  cases i with
  | new k =>
    obtain rfl : len = 3 := by simpa [lenOk] using hlen
    simp only [xN] at h
    split at h
    · rename_i cd q1
      cases h
      have hcm : cd ∈ P.cls := List.mem_of_getElem? q1
      have w1 := hWi (.classLink d.name.cls k cd.1) (by simp only [iWords, q1]; exact List.mem_singleton.mpr rfl)
      have w2 := hW (.instantiable cd.1 cd.2.1) (in_wordsC hcm (List.mem_cons_self ..))
      have w3 := hW (.initialized cd.1) (in_wordsC hcm (List.mem_cons_of_mem _ (List.mem_cons_self ..)))
      obtain ⟨T2, h2, X2, e2, E2, A2, D2, -, st2⟩ := newO X hx hZ hown w1 w2 w3 rfl (g := mkF m pc A Sc) rfl hd hc hl
      have hck := cChk_of hP hcm
      simp only [cChk, Bool.and_eq_true, List.all_eq_true] at hck
      have hcr : CR P Z h2 (ρ ++ [T.heap.size]) T.heap.size (.inl (a, cd.2.2.map fun f => dflt f.2.2.1)) := by
        refine ⟨cd, q1, A2, by simp, fun j v fd y1 y2 => ?_⟩
        rw [List.getElem?_map, y2] at y1
        cases y1
        have f1 := hck.2 _ (List.mem_of_getElem? y2)
        simp only [fChk, Bool.and_eq_true, decide_eq_true_eq] at f1
        exact ⟨_, dflt_sim f1.2, D2 (laid_of (hW _ (in_wordsC hcm (fWord_in (List.mem_of_getElem? y2))))) f1.1⟩
      refine ⟨T2, T.heap.size, _, X2, ⟨_, _, rfl, ⟨T.heap.size, ?_, rfl⟩, hS.mono⟩, (by rw [e2]; exact hH.push E2 hcr), st2⟩
      rw [← hH.2.1]; simp
    · cases h
  | newarray t =>
    obtain rfl : len = 2 := by simpa [lenOk] using hlen
    simp only [xN] at h
    split at h
    · rename_i n S0
      obtain ⟨S1, rfl, h1⟩ := hS.int
      split at h
      · cases h
      · rename_i hn
        have hn1 : ¬ n < 0 := fun z => hn (Or.inl z)
        have hn2 : n.toNatClampNeg ≤ 100000 := Nat.le_of_not_lt fun z => hn (Or.inr z)
        have w1 := hWi (.arrayClass (newarray.typeOf t)) (List.mem_singleton.mpr rfl)
        have top : (ρ ++ [T.heap.size])[H.length]? = some T.heap.size := by rw [← hH.2.1]; simp
        split at h
        · cases h
          obtain ⟨T2, h2, cA, X2, e2, E2, A2, st2⟩ := newP X hx hZ w1 rfl (g := mkF m pc A _) rfl hd rfl hn1 (cap := n.toNatClampNeg) (Nat.le_refl _) (by omega) hc hl
          have hcr : CR P Z h2 (ρ ++ [T.heap.size]) T.heap.size ((.inr (.inl (false, List.replicate n.toNatClampNeg 0)) : ACell)) := by
            refine ⟨_, A2, by simp [sz_new], by simp; omega, fun j x y => ?_⟩
            rw [List.getElem?_replicate] at y
            split at y
            · rename_i lt
              cases y
              simp [newA, lt, newarray.typeOf, defaultValue]
            · cases y
          exact ⟨T2, T.heap.size, _, X2, ⟨_, _, rfl, ⟨T.heap.size, top, rfl⟩, h1.mono⟩, (by rw [e2]; exact hH.push E2 hcr), st2⟩
        · cases h
          obtain ⟨T2, h2, cA, X2, e2, E2, A2, st2⟩ := newP X hx hZ w1 rfl (g := mkF m pc A _) rfl hd rfl hn1 (cap := n.toNatClampNeg) (Nat.le_refl _) (by omega) hc hl
          have hcr : CR P Z h2 (ρ ++ [T.heap.size]) T.heap.size ((.inr (.inl (true, List.replicate n.toNatClampNeg 0)) : ACell)) := by
            refine ⟨_, A2, by simp [sz_new], by simp; omega, fun j x y => ?_⟩
            rw [List.getElem?_replicate] at y
            split at y
            · rename_i lt
              cases y
              simp [newA, lt, newarray.typeOf, defaultValue]
            · cases y
          exact ⟨T2, T.heap.size, _, X2, ⟨_, _, rfl, ⟨T.heap.size, top, rfl⟩, h1.mono⟩, (by rw [e2]; exact hH.push E2 hcr), st2⟩
        · cases h
          obtain ⟨T2, h2, cA, X2, e2, E2, A2, st2⟩ := newP X hx hZ w1 rfl (g := mkF m pc A _) rfl hd rfl hn1 (cap := n.toNatClampNeg) (Nat.le_refl _) (by omega) hc hl
          have hcr : CR P Z h2 (ρ ++ [T.heap.size]) T.heap.size ((.inr (.inr (List.replicate n.toNatClampNeg 0)) : ACell)) := by
            refine ⟨_, A2, by simp [sz_new], by simp; omega, fun j x y => ?_⟩
            rw [List.getElem?_replicate] at y
            split at y
            · rename_i lt
              cases y
              simp [newA, lt, newarray.typeOf, defaultValue]
            · cases y
          exact ⟨T2, T.heap.size, _, X2, ⟨_, _, rfl, ⟨T.heap.size, top, rfl⟩, h1.mono⟩, (by rw [e2]; exact hH.push E2 hcr), st2⟩
        · cases h
    · cases h
  | _ => simp [xN] at h
end Step
end Jvm.Own
namespace Jvm.Own
open Jvm Jvm.ClassFile Sem Op Lib Jvm.Free Jvm.Stand Jvm.LawKit Jvm.RoadKit Bundle
theorem fetch_mem : ∀ {l : List (Nat × It)} {pc : Nat} {i : It}, fetch l pc = some i → (pc, i) ∈ l
  | [], _, _, h => by simp [fetch] at h
  | (q, j) :: r, pc, i, h => by
    unfold fetch at h
    split at h
    · rename_i e; cases h; subst e; exact List.mem_cons_self ..
    · exact List.mem_cons_of_mem _ (fetch_mem h)
theorem tgt_spec {pc q : Nat} {o : Int} (h : tgt pc o = some q) : 0 ≤ (pc : Int) + o ∧ ((pc : Int) + o).toNat = q := by
  unfold tgt at h
  split at h
  · rename_i z; cases h; exact ⟨z, rfl⟩
  · cases h
/-- the end of a method's run -/
def Done (P : PD) (Z : State) (n0 : Nat) (p : Program) (e : Env) (below : List Frame) (s : State) (ρ : List Addr) (v : Option Value) (H' : AHeap) (kc ks : Nat) (t0 : State) : Prop :=
  ∃ s₂ v' L' t, Steps p.tables e below t0 s₂ ∧ s₂.status = .running ∧ Ended s₂ below (.returned v') ∧ OV (ρ ++ t) v v' ∧ HR P Z n0 s₂.heap (ρ ++ t) H' ∧ Fr n0 L' ∧ FrameEnd s (.returned v') s₂ L' kc ks
def Cx (P : PD) (Z : State) (p : Program) (R : Room) (s : State) (m : MethodId) (meth : Method) (c : Code) (d : MD) : Prop :=
  p.tables.exec = Jvm.exec ∧ Z.Warmed39 s.vm ∧ c.code = d.bytes ∧ c.maxLocals = d.maxL ∧ s.vm.findClass d.name.cls = some m.cls ∧ meth.name = d.name.name ∧ meth.sig.returnType = d.ret ∧ meth.locks = false ∧ d.rf ≤ R.frames ∧ d.rw ≤ R.locals
/-- what the machine says of a run that has come to pc is what the model does -/
def Says (P : PD) (Z : State) (n0 : Nat) (l : Launch) (n : Nat) : Prop :=
  ∀ (mi pc : Nat) (L : List Slot) (S : List Value) (H : AHeap) (v : Option Value) (H' : AHeap) (kc ks : Nat), exe P n mi pc L S H = some (v, H', kc, ks) → ∀ d, P.mth[mi]? = some d →
    ∀ (p : Program) (e : Env) (R : Room) (s : State) (m : MethodId) (args : Array Value) (below : List Frame) (meth : Method) (c : Code) (T : State) (locs : List Loc) (cells slots : Nat),
      Stand p l e R s m args below meth c T locs cells slots → Cx P Z p R s m meth c d → cells + kc ≤ R.cells → slots + ks ≤ R.slots →
      ∀ (ρ : List Addr) (A : Array Slot) (Sc : List Value), LR ρ L A → L.length = d.maxL → SR ρ S Sc → HR P Z n0 T.heap ρ H → Fr n0 locs →
        Done P Z n0 p e below s ρ v H' (cells + kc) (slots + ks) (T.setTop (mkF m pc A Sc))
def QQ (P : PD) (Z : State) (n0 : Nat) (ρ : List Addr) (v : Option Value) (H1 : AHeap) (v' : Option Value) (h' : Heap) (L : List Loc) : Prop := Fr n0 L ∧ ∃ t, OV (ρ ++ t) v v' ∧ HR P Z n0 h' (ρ ++ t) H1
theorem met_of {P : PD} {Z : State} {n0 : Nat} {l : Launch} {n : Nat} (ih : Says P Z n0 l n) {j : Nat} {y : MD} (hy : P.mth[j]? = some y) (hpn : plainName y.name.cls = true) {as ws : List Value} {H H1 : AHeap} {v : Option Value} {kc ks : Nat} (he : exe P n j 0 (entL as y.maxL) [] H = some (v, H1, kc, ks)) {ρ : List Addr} (hS : SR ρ as ws) (hlen : (entA as).length ≤ y.maxL) {h : Heap} (hH : HR P Z n0 h ρ H) (w0 : List Jvm.Cond) (rm : Room) (r1 : y.rf ≤ rm.frames) (r2 : y.rw ≤ rm.locals) (r3 : kc ≤ rm.cells) (r4 : ks ≤ rm.slots) :
    MetFree l y.name (head1 (Jvm.Cond.code y.name y.bytes y.maxL y.ret :: w0) rm) (fun a U => a = ws.toArray ∧ Z.Warmed39 U.vm ∧ U.heap = h) (fun _ _ _ _ _ => True)
      (fun _ U o U' => ∃ v' L, o = .returned v' ∧ QQ P Z n0 ρ v H1 v' U'.heap L ∧ FrameEnd U o U' L kc ks) := by
  refine MetFree.of_bodySF (plainFor_of_name hpn) hisR ?_
  intro p e s m args below meth c s₁ Bd hml0 hP hK
  obtain ⟨rfl, hZ, hh⟩ := hP
  have X0 : Stand p l e rm s m ws.toArray below meth c s₁ [] 0 0 := Stand.of_body Bd
  have e0 : s₁.heap = h := by rw [← hh, Bd.state]; rfl
  obtain ⟨hL, hsz⟩ := LR.enter hS hlen
  have hLl : (entL as y.maxL).length = y.maxL := by rw [← hL.1]; exact hsz
  obtain ⟨s₂, v', L', t, h1, h2, h3, h4, h5, h6, h7⟩ := ih j 0 _ [] H v H1 kc ks he y hy p e _ s m ws.toArray below meth c s₁ [] 0 0 X0
    ⟨Bd.exec, hZ, Bd.bytes, hml0, findClass_of_methodNamed Bd.named, (name_of_methodNamed Bd.named Bd.method).1, Bd.returns, BodyLoose.notSynchronized Bd, r1, r2⟩
    (by rw [Nat.zero_add]; exact r3) (by rw [Nat.zero_add]; exact r4) ρ _ [] hL hLl rfl (by rw [e0]; exact hH) (Fr.nil n0)
  refine ⟨s₂, _, h1, h2, h3, v', L', rfl, ⟨h6, t, h4, h5⟩, ?_⟩
  rw [Nat.zero_add, Nat.zero_add] at h7
  exact h7
section Sound
variable {P : PD} {Z : State} {n0 : Nat} {a0 : Array Value} {l : Launch}
theorem Done.step {p : Program} {e : Env} {below : List Frame} {s : State} {ρ t : List Addr} {v : Option Value} {H' : AHeap} {kc ks : Nat} {t0 t1 : State} (h : Done P Z n0 p e below s (ρ ++ t) v H' kc ks t1) (k : ∀ target, Steps p.tables e below t1 target → Steps p.tables e below t0 target) : Done P Z n0 p e below s ρ v H' kc ks t0 := by
  obtain ⟨s₂, v', L', t', h1, h2, h3, h4, h5, h6, h7⟩ := h
  exact ⟨s₂, v', L', t ++ t', k _ h1, h2, h3, by rw [← List.append_assoc]; exact h4, by rw [← List.append_assoc]; exact h5, h6, h7⟩
theorem argsOf_spec {n : Nat} {S as rest : List Value} (h : argsOf n S = some (as, rest)) : n ≤ S.length ∧ as = (S.take n).reverse ∧ rest = S.drop n := by
  unfold argsOf at h
  split at h
  · rename_i z; cases h; exact ⟨z, rfl, rfl⟩
  · cases h
theorem res_ext {α : Type} {o : Option Res} {v : Option Value} {H' : AHeap} {kc ks c1 s1 : Nat} (h : (o.map fun r => addR r c1 s1) = some (v, H', kc, ks)) : ∃ kc' ks', o = some (v, H', kc', ks') ∧ kc = kc' + c1 ∧ ks = ks' + s1 := by
  obtain ⟨⟨v0, H0, c0, s0⟩, h1, h2⟩ := Option.map_eq_some_iff.mp h
  simp only [addR] at h2
  cases h2
  exact ⟨c0, s0, h1, rfl, rfl⟩
set_option maxHeartbeats 4000000 in
theorem sound (hP : chk P = true) (hW : ∀ w ∈ wordsOf P, w.before a0 Z = true) : ∀ n, Says P Z n0 l n
  | 0 => fun mi pc L S H v H' kc ks h => by simp [exe] at h
  | n + 1 => by
    have ih := sound hP hW n
    intro mi pc L S H v H' kc ks h d hmi
    unfold exe at h
    rw [hmi] at h
    simp only at h
    have hdm : d ∈ P.mth := List.mem_of_getElem? hmi
    split at h
    · cases h
    rename_i it i len er a b hft
    have hit := fetch_mem hft
    have hmc := mChk_of hP hdm
    simp only [mChk, Bool.and_eq_true] at hmc
    obtain ⟨⟨⟨⟨⟨⟨mc1, mc2⟩, mc3⟩, mc4⟩, mc5⟩, mc6⟩, mc7⟩ := hmc
    unfold codeChk at mc3
    rw [List.all_eq_true] at mc3
    have hci := mc3 _ hit
    simp only [Bool.and_eq_true, decide_eq_true_eq] at hci
    obtain ⟨hdec, hlenOk⟩ := hci
    -- a jump, or a fall through
    have jump : ∀ (q : Nat) (S1 : List Value) (h1 : exe P n mi q (forget er L) S1 H = some (v, H', kc, ks)),
        (∀ (p : Program) (e : Env) (R : Room) (s : State) (m : MethodId) (args : Array Value) (below : List Frame) (meth : Method) (c : Code) (T : State) (locs : List Loc) (cells slots : Nat),
          Stand p l e R s m args below meth c T locs cells slots → Cx P Z p R s m meth c d → ∀ (ρ : List Addr) (A : Array Slot) (Sc : List Value), LR ρ L A → SR ρ S Sc → ∃ Sc1, SR ρ S1 Sc1 ∧ ∀ target, Steps p.tables e below (T.setTop (mkF m q A Sc1)) target → Steps p.tables e below (T.setTop (mkF m pc A Sc)) target) →
        ∀ (p : Program) (e : Env) (R : Room) (s : State) (m : MethodId) (args : Array Value) (below : List Frame) (meth : Method) (c : Code) (T : State) (locs : List Loc) (cells slots : Nat),
          Stand p l e R s m args below meth c T locs cells slots → Cx P Z p R s m meth c d → cells + kc ≤ R.cells → slots + ks ≤ R.slots →
          ∀ (ρ : List Addr) (A : Array Slot) (Sc : List Value), LR ρ L A → L.length = d.maxL → SR ρ S Sc → HR P Z n0 T.heap ρ H → Fr n0 locs →
            Done P Z n0 p e below s ρ v H' (cells + kc) (slots + ks) (T.setTop (mkF m pc A Sc)) := by
      intro q S1 h1 st p e R s m args below meth c T locs cells slots X cx k1 k2 ρ A Sc hL hLl hS hH hF
      obtain ⟨Sc1, hS1, st1⟩ := st p e R s m args below meth c T locs cells slots X cx ρ A Sc hL hS
      have := ih mi q _ S1 H v H' kc ks h1 d hmi p e R s m args below meth c T locs cells slots X cx k1 k2 ρ A Sc1 (hL.forget er) (by rw [forget_len]; exact hLl) hS1 hH hF
      exact Done.step (t := []) (by rw [List.append_nil]; exact this) st1
    have dec : ∀ {c : Code}, c.code = d.bytes → decode c.code pc = .ok (i, len) := fun hc => by rw [hc]; exact hdec
    split at h
    · -- goto
      rename_i o
      split at h
      · rename_i q hq
        obtain ⟨t1, t2⟩ := tgt_spec hq
        have m3 := jump q S h
        obtain rfl : len = 3 := by simpa [lenOk] using hlenOk
        exact m3 fun p e R s m args below meth c T locs cells slots X cx ρ A Sc hL hS => ⟨Sc, hS, fun t z => XS.goto (g := mkF m pc A Sc) X.here cx.1 rfl (pc0 := pc) (pc' := q) rfl (dec cx.2.2.1) t1 t2 z⟩
      · cases h
    · -- if_icmp
      rename_i cd o
      split at h
      · rename_i y x S1
        obtain rfl : len = 3 := by simpa [lenOk] using hlenOk
        split at h
        · rename_i hc
          split at h
          · rename_i q hq
            obtain ⟨t1, t2⟩ := tgt_spec hq
            have m3 := jump q S1 h
            exact m3 fun p e R s m args below meth c T locs cells slots X cx ρ A Sc hL hS => by
              obtain ⟨Sa, rfl, ha⟩ := hS.int
              obtain ⟨Sb, rfl, hb⟩ := ha.int
              exact ⟨Sb, hb, fun t z => XS.icmpYes (g := mkF m pc A _) X.here cx.1 rfl (pc0 := pc) (pc' := q) rfl (dec cx.2.2.1) rfl hc t1 t2 z⟩
          · cases h
        · rename_i hc
          have m3 := jump (pc + 3) S1 h
          exact m3 fun p e R s m args below meth c T locs cells slots X cx ρ A Sc hL hS => by
            obtain ⟨Sa, rfl, ha⟩ := hS.int
            obtain ⟨Sb, rfl, hb⟩ := ha.int
            exact ⟨Sb, hb, fun t z => XS.icmpNo (g := mkF m pc A _) X.here cx.1 rfl (dec cx.2.2.1) rfl (by simpa using hc) z⟩
      · cases h
    · -- ifCond
      rename_i cd o
      split at h
      · rename_i x S1
        obtain rfl : len = 3 := by simpa [lenOk] using hlenOk
        split at h
        · rename_i hc
          split at h
          · rename_i q hq
            obtain ⟨t1, t2⟩ := tgt_spec hq
            have m3 := jump q S1 h
            exact m3 fun p e R s m args below meth c T locs cells slots X cx ρ A Sc hL hS => by
              obtain ⟨Sa, rfl, ha⟩ := hS.int
              exact ⟨Sa, ha, fun t z => XS.ifYes (g := mkF m pc A _) X.here cx.1 rfl (pc0 := pc) (pc' := q) rfl (dec cx.2.2.1) rfl hc t1 t2 z⟩
          · cases h
        · rename_i hc
          have m3 := jump (pc + 3) S1 h
          exact m3 fun p e R s m args below meth c T locs cells slots X cx ρ A Sc hL hS => by
            obtain ⟨Sa, rfl, ha⟩ := hS.int
            exact ⟨Sa, ha, fun t z => XS.ifNo (g := mkF m pc A _) X.here cx.1 rfl (dec cx.2.2.1) rfl (by simpa using hc) z⟩
      · cases h
    · -- ifnonnull
      rename_i o
      split at h
      · rename_i x S1
        split at h
        · rename_i q hq
          obtain ⟨t1, t2⟩ := tgt_spec hq
          have m3 := jump q S1 h
          obtain rfl : len = 3 := by simpa [lenOk] using hlenOk
          exact m3 fun p e R s m args below meth c T locs cells slots X cx ρ A Sc hL hS => by
            obtain ⟨ad, Sa, -, rfl, ha⟩ := hS.ref
            exact ⟨Sa, ha, fun t z => XT.ifnonnullYes (g := mkF m pc A _) X.here cx.1 rfl (pc0 := pc) (pc' := q) rfl (dec cx.2.2.1) rfl t1 t2 z⟩
        · cases h
      · cases h
    · -- ireturn
      split at h
      · rename_i x
        split at h
        · rename_i v0 hv0
          cases h
          obtain rfl : len = 1 := by simpa [lenOk] using hlenOk
          intro p e R s m args below meth c T locs cells slots X cx k1 k2 ρ A Sc hL hLl hS hH hF
          obtain ⟨hx, hZ, hby, hml, hown, hnm, hret, hlk, -, -⟩ := cx
          obtain ⟨Sa, rfl, ha⟩ := hS.int
          unfold retV at hv0
          split at hv0
          · rename_i hr0
            cases hv0
            obtain ⟨fs, hr, hrun, hended, hWm, hsame⟩ := X.leave (v := some (.int x)) (fun q => by rw [hret, hr0] at q; cases q) hlk
            exact ⟨_, _, locs, [], retI X hx (by rw [hret, hr0]) (dec hby) hr, hrun, hended, ⟨_, rfl, rfl⟩, by rw [List.append_nil]; exact hH, hF, ⟨_, rfl⟩, hWm, hsame⟩
          · rename_i hr0
            cases hv0
            obtain ⟨fs, hr, hrun, hended, hWm, hsame⟩ := X.leave (v := some (.int (x &&& 1))) (fun q => by rw [hret, hr0] at q; cases q) hlk
            exact ⟨_, _, locs, [], retN X hx (t := .boolean) (by rw [hret, hr0]) (by simp) (dec hby) hr, hrun, hended, ⟨_, rfl, rfl⟩, by rw [List.append_nil]; exact hH, hF, ⟨_, rfl⟩, hWm, hsame⟩
          · cases hv0
        · cases h
      · cases h
    · -- lreturn
      split at h
      · rename_i x
        split at h
        · rename_i hr0
          cases h
          obtain rfl : len = 1 := by simpa [lenOk] using hlenOk
          intro p e R s m args below meth c T locs cells slots X cx k1 k2 ρ A Sc hL hLl hS hH hF
          obtain ⟨hx, hZ, hby, hml, hown, hnm, hret, hlk, -, -⟩ := cx
          obtain ⟨Sa, rfl, ha⟩ := hS.long
          obtain rfl : Sa = [] := ha
          obtain ⟨fs, hr, hrun, hended, hWm, hsame⟩ := X.leave (v := some (.long x)) (fun q => by rw [hret, hr0] at q; cases q) hlk
          exact ⟨_, _, locs, [], X.lreturnOut hx (by rw [hret, hr0]) (dec hby) hr, hrun, hended, ⟨_, rfl, rfl⟩, by rw [List.append_nil]; exact hH, hF, ⟨_, rfl⟩, hWm, hsame⟩
        · cases h
      · cases h
    · -- return
      split at h
      · split at h
        · rename_i hr0
          cases h
          obtain rfl : len = 1 := by simpa [lenOk] using hlenOk
          intro p e R s m args below meth c T locs cells slots X cx k1 k2 ρ A Sc hL hLl hS hH hF
          obtain ⟨hx, hZ, hby, hml, hown, hnm, hret, hlk, -, -⟩ := cx
          obtain rfl : Sc = [] := hS
          obtain ⟨fs, hr, hrun, hended, hWm, hsame⟩ := X.leave (v := none) (fun _ => rfl) hlk
          exact ⟨_, _, locs, [], X.returnOut hx (by rw [hret, hr0]) (dec hby) hr, hrun, hended, rfl, by rw [List.append_nil]; exact hH, hF, ⟨_, rfl⟩, hWm, hsame⟩
        · cases h
      · cases h
    · -- a call, or a plain step
      split at h
      · rename_i hinv
        split at h
        · -- Object.<init>
          rename_i hb1
          subst hb1
          have hk : ∃ k x S1, i = .invokespecial k ∧ S = .ref x :: S1 ∧ (if 1 ≤ d.rf ∧ catSum S1 + 12 ≤ d.rw then exe P n mi (pc + 3) (forget er L) S1 H else none) = some (v, H', kc, ks) := by
            split at h
            · exact ⟨_, _, _, rfl, rfl, h⟩
            · cases h
          clear h
          obtain ⟨k, x, S1, rfl, rfl, h⟩ := hk
          · split at h
            · rename_i hroom
              have m3 := ih mi (pc + 3) _ S1 H v H' kc ks h d hmi
              obtain rfl : len = 3 := by simpa [lenOk] using hlenOk
              have hWi : ∀ w ∈ iWords P d (pc, .invokespecial k, 3, er, a, -1), w.before a0 Z = true := fun w q => hW w (in_wordsOf hdm hit q)
              have hWi' : ∀ w ∈ [Jvm.Cond.methodLink d.name.cls k Lib.objectInit, .instanceMethod Lib.objectInit, .code Lib.objectInit ⟨#[0xb1]⟩ 1 none], w.before a0 Z = true := hWi
              intro p e R s m args below meth c T locs cells slots X cx k1 k2 ρ A Sc hL hLl hS hH hF
              have cx0 := cx
              obtain ⟨hx, hZ, hby, hml, hown, hnm, hret, hlk, hrf, hrw⟩ := cx
              obtain ⟨ad, Sa, -, rfl, ha⟩ := hS.ref
              obtain ⟨T2, X2, e2, st2⟩ := initO X hx hZ hown (hWi' _ (by simp)) (hWi' _ (by simp)) (hWi' _ (by simp)) rfl (g := mkF m pc A (.ref ad :: Sa)) rfl (by rw [hml]; exact hL.1.trans hLl) rfl (dec hby) (by omega) (W := catSum S1) (by show 2 * 0 + _ ≤ _; rw [ha.cat]; omega) (by omega)
              have := m3 p e R s m args below meth c T2 locs cells slots X2 cx0 k1 k2 ρ A Sa (hL.forget er) (by rw [forget_len]; exact hLl) ha (by rw [e2]; exact hH) hF
              exact Done.step (t := []) (by rw [List.append_nil]; exact this) st2
            · cases h
        · rename_i hb1
          split at h
          · cases h
          rename_i y hy
          split at h
          · cases h
          rename_i as rest hao
          split at h
          · rename_i hcond
            simp only [Bool.and_eq_true, decide_eq_true_eq] at hcond
            obtain ⟨⟨⟨⟨hj, hik⟩, hrecv⟩, hroom⟩, hent⟩ := hcond
            split at h
            · rename_i v1 H1 c1 s1 hcal
              obtain ⟨c0, s0, hcon, rfl, rfl⟩ := res_ext (α := Unit) h
              have m3 := ih mi (pc + 3) _ _ H1 v H' c0 s0 hcon d hmi
              intro p e R s m args below meth c T locs cells slots X cx k1 k2 ρ A Sc hL hLl hS hH hF
              have cx0 := cx
              obtain ⟨hx, hZ, hby, hml, hown, hnm, hret, hlk, hrf, hrw⟩ := cx
              have hym : y ∈ P.mth := List.mem_of_getElem? hy
              have hyc := mChk_of hP hym
              simp only [mChk, Bool.and_eq_true, decide_eq_true_eq] at hyc
              obtain ⟨⟨⟨⟨⟨⟨yc1, yc2⟩, yc3⟩, yc4⟩, yc5⟩, yc6⟩, yc7⟩ := hyc
              simp only [fitsRoom, Bool.and_eq_true, decide_eq_true_eq] at hroom
              obtain ⟨hn, has, hrest⟩ := argsOf_spec hao
              have hnc : nargs y ≤ Sc.length := by rw [hS.len]; exact hn
              have hSa : SR ρ as (Sc.take (nargs y)).reverse := by rw [has]; exact (hS.take _).rev
              have hSr : SR ρ rest (Sc.drop (nargs y)) := by rw [hrest]; exact hS.drop _
              have hsplit : Sc = (Sc.take (nargs y)).reverse.reverse ++ Sc.drop (nargs y) := by rw [List.reverse_reverse, List.take_append_drop]
              obtain ⟨ws, hws⟩ : ∃ ws, ws = (Sc.take (nargs y)).reverse := ⟨_, rfl⟩
              obtain ⟨rc, hrc⟩ : ∃ rc, rc = Sc.drop (nargs y) := ⟨_, rfl⟩
              have hwl : ws.length = nargs y := by rw [hws]; simp; omega
              rw [← hws] at hSa hsplit
              rw [← hrc] at hSr hsplit
              have wcode := hW (.code y.name y.bytes y.maxL y.ret) (in_wordsM hy hj (List.mem_cons_self ..))
              have winit := hW (.initialized y.name.cls) (in_wordsM hy hj (List.mem_cons_of_mem _ (List.mem_cons_self ..)))
              have wmore : ∀ w ∈ (if y.kind = 0 then [Jvm.Cond.static y.name] else if y.kind = 1 then [.instanceMethod y.name] else if y.kind = 2 then [.instanceMethod y.name, .privateMethod y.name] else [.declares y.name, .selects y.name.cls y.name y.name, .instanceMethod y.name]), w.before a0 Z = true := fun w q => hW w (in_wordsM hy hj (List.mem_cons_of_mem _ (List.mem_cons_of_mem _ q)))
              have hMH : y.name.cls ≠ "java/lang/invoke/MethodHandle" ∧ y.name.cls ≠ "java/lang/invoke/VarHandle" := ⟨yc5, yc6⟩
              have back := backOf (W := catSum rest) (len := 3) (R := R) (p := p) (e := e) (below := below) (s := s) (args := args) (met_of ih hy yc1 hcal hSa hent hH [] ({ frames := y.rf, cells := c1, slots := s1, locals := y.rw } : Room) (Nat.le_refl _) (Nat.le_refl _) (Nat.le_refl _) (Nat.le_refl _)) hZ wcode winit (by show y.rf + 1 ≤ _; omega) (by show _ + y.rw ≤ _; omega)
              have hWW : 2 * (mkF m pc A Sc).monitorRoom + (rc.map fun v => v.category).sum ≤ catSum rest := by show 2 * 0 + _ ≤ _; rw [hSr.cat]; omega
              have hpar : ∀ sig, parseMethodDescriptor y.name.desc = some sig → sig.parameters.length = y.npar := fun sig q => by
                unfold sigChk at yc2
                rw [q] at yc2
                simpa using yc2
              have fin : ∀ (v1' : Option Value) (T2 : State) (Lc : List Loc), Stand p l e R s m args below meth c T2 (locs ++ Lc) (cells + c1) (slots + s1) → QQ P Z n0 ρ v1 H1 v1' T2.heap Lc →
                  (∀ target, Steps p.tables e below (T2.setTop (mkF m (pc + 3) A (v1'.toList ++ rc))) target → Steps p.tables e below (T.setTop (mkF m pc A Sc)) target) →
                  Done P Z n0 p e below s ρ v H' (cells + (c0 + c1)) (slots + (s0 + s1)) (T.setTop (mkF m pc A Sc)) := by
                intro v1' T2 Lc X2 hq st2
                obtain ⟨hF2, t, hov, hH2⟩ := hq
                have := m3 p e R s m args below meth c T2 (locs ++ Lc) _ _ X2 cx0 (by omega) (by omega) (ρ ++ t) A (v1'.toList ++ rc) (hL.forget er).mono (by rw [forget_len]; exact hLl) (hov.list.app hSr.mono) hH2 (hF.app hF2)
                have q1 : cells + c1 + c0 = cells + (c0 + c1) := by omega
                have q2 : slots + s1 + s0 = slots + (s0 + s1) := by omega
                rw [q1, q2] at this
                exact this.step st2
              have hcR : cells + c1 ≤ R.cells := by omega
              have hsR : slots + s1 ≤ R.slots := by omega
              cases i with
              | invokestatic k =>
                obtain rfl : len = 3 := by simpa [lenOk] using hlenOk
                have hk0 : y.kind = 0 := by simpa [invKind] using hik
                have wl := hW (.methodLink d.name.cls k y.name) (in_wordsOf hdm hit (by show _ ∈ mLink P d k a b; unfold mLink; rw [if_neg hb1, hy]; exact List.mem_singleton.mpr rfl))
                have wst := wmore (.static y.name) (by rw [if_pos hk0]; exact List.mem_singleton.mpr rfl)
                have hna : nargs y = y.npar := by simp [nargs, hk0]
                obtain ⟨v1', _, ⟨T2, L2, k2', n2⟩, -, X2, ⟨Lc, hQ, l2, y2, z2⟩, st2⟩ := Jvm.LawKit.callS X hx (y := y.name) hown (mvT hZ wl) (mvT hZ wst) (mvT hZ winit) (mvT hZ wcode) hMH back (g := mkF m pc A Sc) rfl (by rw [hml]; exact hL.1.trans hLl) (argsL := ws) (rest := rc) (fun sig q => by rw [hpar sig q, hwl, hna]) hsplit hWW (dec hby) (fun _ _ => ⟨rfl, rfl, hcR, hsR⟩)
                dsimp only [Pt.U, Pt.locs, Pt.cells, Pt.slots] at X2 l2 y2 z2 st2 hQ
                subst l2 y2 z2
                exact fin v1' T2 Lc X2 hQ st2
              | invokespecial k =>
                obtain rfl : len = 3 := by simpa [lenOk] using hlenOk
                have hk1 : y.kind = 1 := by simpa [invKind] using hik
                have wl := hW (.methodLink d.name.cls k y.name) (in_wordsOf hdm hit (by show _ ∈ mLink P d k a b; unfold mLink; rw [if_neg hb1, hy]; exact List.mem_singleton.mpr rfl))
                have wst := wmore (.instanceMethod y.name) (by rw [if_neg (by omega), if_pos hk1]; exact List.mem_singleton.mpr rfl)
                have hna : nargs y = y.npar + 1 := by simp [nargs, hk1]
                simp [hk1] at yc7
                have wcode' : (Jvm.Cond.code y.name y.bytes y.maxL none).before a0 Z = true := by rw [← yc7.2]; exact wcode
                unfold recvOk at hrecv
                rw [if_neg (by omega)] at hrecv
                split at hrecv
                · rename_i o as'
                  obtain ⟨ad, ws', g1, rfl, ha'⟩ := hSa.ref
                  have hst : Sc = ws'.reverse ++ .ref ad :: rc := by rw [hsplit]; simp
                  obtain ⟨v1', _, ⟨T2, L2, k2', n2⟩, -, X2, ⟨Lc, hQ, l2, y2, z2⟩, st2⟩ := X.specialBack hx (y := y.name) yc7.1 hown (mvT hZ wl) (mvT hZ wst) (mvT hZ wcode') hMH back (g := mkF m pc A Sc) rfl (by rw [hml]; exact hL.1.trans hLl) (Steps.refl _) (a := ad) (argsL := ws') (rest := rc) (fun sig q => by rw [hpar sig q]; simp [hna] at hwl; omega) hst hWW (dec hby) (fun _ _ => ⟨rfl, rfl, hcR, hsR⟩)
                  dsimp only [Pt.U, Pt.locs, Pt.cells, Pt.slots] at X2 l2 y2 z2 st2 hQ
                  subst l2 y2 z2
                  exact fin v1' T2 Lc X2 hQ fun t z => st2.trans z
                · cases hrecv
              | invokevirtual k =>
                obtain rfl : len = 3 := by simpa [lenOk] using hlenOk
                have wl := hW (.methodLink d.name.cls k y.name) (in_wordsOf hdm hit (by show _ ∈ mLink P d k a b; unfold mLink; rw [if_neg hb1, hy]; exact List.mem_singleton.mpr rfl))
                have hk23 : y.kind = 2 ∨ y.kind = 3 := by simpa [invKind] using hik
                have hk0 : ¬ y.kind = 0 := by omega
                have hk1 : ¬ y.kind = 1 := by omega
                have hna : nargs y = y.npar + 1 := by simp [nargs, hk0]
                unfold recvOk at hrecv
                rw [if_neg hk0] at hrecv
                split at hrecv
                · rename_i o as'
                  obtain ⟨ad, ws', g1, rfl, ha'⟩ := hSa.ref
                  have hst : Sc = ws'.reverse ++ .ref ad :: rc := by rw [hsplit]; simp
                  split at hrecv
                  · rename_i c0 fs hc0
                    obtain rfl : c0 = y.cid := by simpa using hrecv
                    obtain ⟨ad', g2, cd, q1, q2, q3, q4⟩ := hH.at hc0
                    rw [g1] at g2; cases g2
                    have hcd := cid_of hP hym q1
                    have hcm : cd ∈ P.cls := List.mem_of_getElem? q1
                    rw [hcd] at q2
                    by_cases hk2 : y.kind = 2
                    · have w1 := wmore (.instanceMethod y.name) (by rw [if_neg hk0, if_neg hk1, if_pos hk2]; simp)
                      have w2 := wmore (.privateMethod y.name) (by rw [if_neg hk0, if_neg hk1, if_pos hk2]; simp)
                      have w3 := hW (.instantiable cd.1 cd.2.1) (in_wordsC hcm (List.mem_cons_self ..))
                      rw [hcd] at w3
                      obtain ⟨cI, kI, i1, i2, i3, i4, -⟩ := Cond.instantiable_spec (mvT hZ w3 (args := args) : (Jvm.Cond.instantiable y.name.cls cd.2.1).before args s = true)
                      have hsel := selects_self_of_private (args := args) i1 i2 (by simp at i4; exact i4.1) (Cond.privateMethod_at (mvP hZ w2 (args := #[]))) (mvT hZ w1) hMH
                      obtain ⟨cq, hq1, hq2⟩ := q2.cell
                      obtain ⟨v1', _, ⟨T2, L2, k2', n2⟩, -, X2, ⟨Lc, hQ, l2, y2, z2⟩, st2⟩ := X.privateBack hx (y := y.name) hown (mvT hZ wl) (mvT hZ w1) hsel (Cond.privateMethod_at (mvP hZ w2 (args := #[]))) (mvT hZ wcode) hMH back (g := mkF m pc A Sc) rfl (by rw [hml]; exact hL.1.trans hLl) (Steps.refl _) (a := ad) hq1 hq2 (argsL := ws') (rest := rc) (fun sig q => by rw [hpar sig q]; simp [hna] at hwl; omega) hst hWW (dec hby) (fun _ _ => ⟨rfl, rfl, hcR, hsR⟩)
                      dsimp only [Pt.U, Pt.locs, Pt.cells, Pt.slots] at X2 l2 y2 z2 st2 hQ
                      subst l2 y2 z2
                      exact fin v1' T2 Lc X2 hQ fun t z => st2.trans z
                    · have w1 := wmore (.declares y.name) (by rw [if_neg hk0, if_neg hk1, if_neg hk2]; simp)
                      have w2 := wmore (.selects y.name.cls y.name y.name) (by rw [if_neg hk0, if_neg hk1, if_neg hk2]; simp)
                      have w3 := wmore (.instanceMethod y.name) (by rw [if_neg hk0, if_neg hk1, if_neg hk2]; simp)
                      obtain ⟨cq, kq, qa, qb, qc⟩ := isOf hZ rfl q2
                      obtain ⟨v1', _, ⟨T2, L2, k2', n2⟩, -, X2, ⟨Lc, hQ, l2, y2, z2⟩, st2⟩ := X.virtualBack hx (y := y.name) (z := y.name) hown (mvT hZ wl) (mvT hZ w1) (notFace_of_selects (args := #[]) (mvT hZ w2)) (mvT hZ w2) (mvT hZ w3) hMH back qa qc (g := mkF m pc A Sc) rfl (by rw [hml]; exact hL.1.trans hLl) (Steps.refl _) (argsL := ws') (rest := rc) (fun sig q => by rw [hpar sig q]; simp [hna] at hwl; omega) hst hWW (dec hby) (fun _ _ => ⟨rfl, rfl, hcR, hsR⟩)
                      dsimp only [Pt.U, Pt.locs, Pt.cells, Pt.slots] at X2 l2 y2 z2 st2 hQ
                      subst l2 y2 z2
                      exact fin v1' T2 Lc X2 hQ fun t z => st2.trans z
                  · cases hrecv
                · cases hrecv
              | _ => simp [isInv] at hinv
            · cases h
          · cases h
      · split at h
        · split at h
          · rename_i S1 H1 k1' hxN
            obtain ⟨c0, s0, hcon, rfl, rfl⟩ := res_ext (α := Unit) h
            have m3 := ih mi (pc + len) _ S1 H1 v H' c0 s0 hcon d hmi
            intro p e R s m args below meth c T locs cells slots X cx k1 k2 ρ A Sc hL hLl hS hH hF
            have cx0 := cx
            obtain ⟨hx, hZ, hby, hml, hown, hnm, hret, hlk, hrf, hrw⟩ := cx
            obtain ⟨T2, ad, Sc2, X2, hS2, hH2, st2⟩ := stepN (A := A) X hx hZ hown hP hW hdm hit (dec hby) hlenOk hS hH hxN (by omega) (by omega)
            have := m3 p e R s m args below meth c T2 locs _ _ X2 cx0 (by omega) (by omega) (ρ ++ [ad]) A Sc2 (hL.forget er).mono (by rw [forget_len]; exact hLl) hS2 hH2 hF
            have q1 : cells + 1 + c0 = cells + (c0 + 1) := by omega
            have q2 : slots + k1' + s0 = slots + (s0 + k1') := by omega
            rw [q1, q2] at this
            exact this.step st2
          · cases h
        · split at h
          · rename_i L1 S1 H1 hxI
            have m3 := ih mi (pc + len) L1 S1 H1 v H' kc ks h d hmi
            intro p e R s m args below meth c T locs cells slots X cx k1 k2 ρ A Sc hL hLl hS hH hF
            have cx0 := cx
            obtain ⟨hx, hZ, hby, hml, hown, hnm, hret, hlk, hrf, hrw⟩ := cx
            obtain ⟨T2, locs2, A2, Sc2, X2, x3, hL2, hS2, hH2, hF2, st2⟩ := stepX X hx hZ hown hnm hP hW hdm hit (dec hby) hlenOk (hL.forget er) hS hH hF hxI
            have := m3 p e R s m args below meth c T2 locs2 cells slots X2 cx0 k1 k2 ρ A2 Sc2 hL2 (by rw [x3, forget_len]; exact hLl) hS2 hH2 hF2
            exact Done.step (t := []) (by rw [List.append_nil]; exact this) st2
          · cases h
end Sound
end Jvm.Own
namespace Jvm.Own
open Jvm Jvm.ClassFile Sem Op Lib Jvm.Free Jvm.Stand Jvm.LawKit Jvm.RoadKit Bundle
/-! Runs of the plain machine, rule by rule -/
def OEnds (P : PD) (mi pc : Nat) (L : List Slot) (S : List Value) (H : AHeap) (r : Res) : Prop := ∃ n0, ∀ n, n0 ≤ n → exe P n mi pc L S H = some r
def plainI : Instr → Bool
  | .goto _ => false
  | .if_icmp _ _ => false
  | .ifCond _ _ => false
  | .ifnonnull _ => false
  | .ireturn => false
  | .lreturn => false
  | .return_ => false
  | .invokestatic _ => false
  | .invokespecial _ => false
  | .invokevirtual _ => false
  | .new _ => false
  | .newarray _ => false
  | _ => true
section Rules
variable {P : PD} {mi pc len a q : Nat} {er : List Bool} {b : Int} {i : Instr} {d y : MD} {L L' : List Slot} {S S' as rest : List Value} {H H' H1 : AHeap} {r : Res} {kc ks : Nat} {v : Option Value}
theorem OEnds.up (h : ∀ n, exe P n mi q L' S' H' = some r → exe P (n + 1) mi pc L S H = some r) (E : OEnds P mi q L' S' H' r) : OEnds P mi pc L S H r := by
  obtain ⟨n0, E⟩ := E
  refine ⟨n0 + 1, fun n hn => ?_⟩
  obtain ⟨k, rfl⟩ : ∃ k, n = k + 1 := ⟨n - 1, by omega⟩
  exact h k (E k (by omega))
theorem OEnds.plain (hm : P.mth[mi]? = some d) (hf : fetch d.code pc = some (i, len, er, a, b)) (hp : plainI i = true) (hx : xI P (d.name.name == "<init>") d.cid i a b (forget er L) S H = some (L', S', H')) (E : OEnds P mi (pc + len) L' S' H' r) : OEnds P mi pc L S H r := by
  refine E.up fun n h => ?_
  unfold exe
  rw [hm]
  simp only
  rw [hf]
  simp only
  split
  all_goals first | (simp [plainI] at hp; done) | skip
  have h1 : ¬ isInv i = true := by
    cases i <;> first | (simp [plainI] at hp; done) | simp [isInv]
  have h2 : ¬ isNew i = true := by
    cases i <;> first | (simp [plainI] at hp; done) | simp [isNew]
  rw [if_neg h1, if_neg h2, hx]
  exact h
theorem OEnds.goto {o : Int} (hm : P.mth[mi]? = some d) (hf : fetch d.code pc = some (.goto o, len, er, a, b)) (ht : tgt pc o = some q) (E : OEnds P mi q (forget er L) S H r) : OEnds P mi pc L S H r := by
  refine E.up fun n h => ?_
  unfold exe
  rw [hm]
  simp only
  rw [hf]
  simp only
  rw [ht]
  exact h
theorem OEnds.icmpT {o : Int} {cd : ClassFile.Cond} {x z : Int32} (hm : P.mth[mi]? = some d) (hf : fetch d.code pc = some (.if_icmp cd o, len, er, a, b)) (ht : tgt pc o = some q) (hc : if_icmp.holds cd x z = true) (E : OEnds P mi q (forget er L) S H r) : OEnds P mi pc L (.int z :: .int x :: S) H r := by
  refine E.up fun n h => ?_
  unfold exe
  rw [hm]
  simp only
  rw [hf]
  simp only
  rw [if_pos hc, ht]
  exact h
theorem OEnds.icmpF {o : Int} {cd : ClassFile.Cond} {x z : Int32} (hm : P.mth[mi]? = some d) (hf : fetch d.code pc = some (.if_icmp cd o, len, er, a, b)) (hc : if_icmp.holds cd x z = false) (E : OEnds P mi (pc + 3) (forget er L) S H r) : OEnds P mi pc L (.int z :: .int x :: S) H r := by
  refine E.up fun n h => ?_
  unfold exe
  rw [hm]
  simp only
  rw [hf]
  simp only
  rw [if_neg (by rw [hc]; exact Bool.false_ne_true)]
  exact h
theorem OEnds.ifT {o : Int} {cd : ClassFile.Cond} {x : Int32} (hm : P.mth[mi]? = some d) (hf : fetch d.code pc = some (.ifCond cd o, len, er, a, b)) (ht : tgt pc o = some q) (hc : if_icmp.holds cd x 0 = true) (E : OEnds P mi q (forget er L) S H r) : OEnds P mi pc L (.int x :: S) H r := by
  refine E.up fun n h => ?_
  unfold exe
  rw [hm]
  simp only
  rw [hf]
  simp only
  rw [if_pos ((if0 cd x).trans hc), ht]
  exact h
theorem OEnds.ifF {o : Int} {cd : ClassFile.Cond} {x : Int32} (hm : P.mth[mi]? = some d) (hf : fetch d.code pc = some (.ifCond cd o, len, er, a, b)) (hc : if_icmp.holds cd x 0 = false) (E : OEnds P mi (pc + 3) (forget er L) S H r) : OEnds P mi pc L (.int x :: S) H r := by
  refine E.up fun n h => ?_
  unfold exe
  rw [hm]
  simp only
  rw [hf]
  simp only
  rw [if_neg (by rw [if0 cd x, hc]; exact Bool.false_ne_true)]
  exact h
theorem OEnds.nonnull {o : Int} {x : Nat} (hm : P.mth[mi]? = some d) (hf : fetch d.code pc = some (.ifnonnull o, len, er, a, b)) (ht : tgt pc o = some q) (E : OEnds P mi q (forget er L) S H r) : OEnds P mi pc L (.ref x :: S) H r := by
  refine E.up fun n h => ?_
  unfold exe
  rw [hm]
  simp only
  rw [hf]
  simp only
  rw [ht]
  exact h
theorem OEnds.iret {x : Int32} {u : Value} (hm : P.mth[mi]? = some d) (hf : fetch d.code pc = some (.ireturn, len, er, a, b)) (hv : retV d.ret x = some u) : OEnds P mi pc L [.int x] H (some u, H, 0, 0) := by
  refine ⟨1, fun n hn => ?_⟩
  obtain ⟨k, rfl⟩ : ∃ k, n = k + 1 := ⟨n - 1, by omega⟩
  unfold exe
  rw [hm]
  simp only
  rw [hf]
  simp only
  rw [hv]
theorem OEnds.lret {x : Int64} (hm : P.mth[mi]? = some d) (hf : fetch d.code pc = some (.lreturn, len, er, a, b)) (hv : d.ret = some .long) : OEnds P mi pc L [.long x] H (some (.long x), H, 0, 0) := by
  refine ⟨1, fun n hn => ?_⟩
  obtain ⟨k, rfl⟩ : ∃ k, n = k + 1 := ⟨n - 1, by omega⟩
  unfold exe
  rw [hm]
  simp only
  rw [hf]
  simp only
  rw [if_pos hv]
theorem OEnds.vret (hm : P.mth[mi]? = some d) (hf : fetch d.code pc = some (.return_, len, er, a, b)) (hv : d.ret = none) : OEnds P mi pc L [] H (none, H, 0, 0) := by
  refine ⟨1, fun n hn => ?_⟩
  obtain ⟨k, rfl⟩ : ∃ k, n = k + 1 := ⟨n - 1, by omega⟩
  unfold exe
  rw [hm]
  simp only
  rw [hf]
  simp only
  rw [if_pos hv]
theorem OEnds.oinit {k x : Nat} (hm : P.mth[mi]? = some d) (hf : fetch d.code pc = some (.invokespecial k, len, er, a, -1)) (hr : 1 ≤ d.rf ∧ catSum S + 12 ≤ d.rw) (E : OEnds P mi (pc + 3) (forget er L) S H r) : OEnds P mi pc L (.ref x :: S) H r := by
  refine E.up fun n h => ?_
  unfold exe
  rw [hm]
  simp only
  rw [hf]
  simp only [isInv, if_true]
  rw [if_pos hr]
  exact h
theorem OEnds.call (hm : P.mth[mi]? = some d) (hf : fetch d.code pc = some (i, len, er, a, b)) (hi : isInv i = true) (hb : ¬ b = -1) (hy : P.mth[a]? = some y) (hao : argsOf (nargs y) S = some (as, rest))
    (hc : (decide (0 < a) && invKind i y.kind && recvOk P H y as && fitsRoom d y rest && decide ((entA as).length ≤ y.maxL)) = true) (E1 : OEnds P a 0 (entL as y.maxL) [] H (v, H1, kc, ks)) (E2 : OEnds P mi (pc + 3) (forget er L) (v.toList ++ rest) H1 r) : OEnds P mi pc L S H (addR r kc ks) := by
  obtain ⟨n1, E1⟩ := E1
  obtain ⟨n2, E2⟩ := E2
  refine ⟨n1 + n2 + 1, fun n hn => ?_⟩
  obtain ⟨k, rfl⟩ : ∃ k, n = k + 1 := ⟨n - 1, by omega⟩
  have e1 := E1 k (by omega)
  have e2 := E2 k (by omega)
  unfold exe
  rw [hm]
  simp only
  rw [hf]
  simp only
  split
  all_goals first | (simp [isInv] at hi; done) | skip
  rw [if_pos hi, if_neg hb, hy]
  simp only
  rw [hao]
  simp only
  rw [if_pos hc, e1]
  simp only
  rw [e2]
  rfl
theorem OEnds.call0 (hm : P.mth[mi]? = some d) (hf : fetch d.code pc = some (i, len, er, a, b)) (hi : isInv i = true) (hb : ¬ b = -1) (hy : P.mth[a]? = some y) (hao : argsOf (nargs y) S = some (as, rest))
    (hc : (decide (0 < a) && invKind i y.kind && recvOk P H y as && fitsRoom d y rest && decide ((entA as).length ≤ y.maxL)) = true) (E1 : OEnds P a 0 (entL as y.maxL) [] H (v, H1, 0, 0)) (E2 : OEnds P mi (pc + 3) (forget er L) (v.toList ++ rest) H1 r) : OEnds P mi pc L S H r :=
  OEnds.call (r := r) hm hf hi hb hy hao hc E1 E2
theorem OEnds.made (hm : P.mth[mi]? = some d) (hf : fetch d.code pc = some (i, len, er, a, b)) (hi : isNew i = true) (hx : xN P i a S H = some (S', H', ks)) (E : OEnds P mi (pc + len) (forget er L) S' H' r) : OEnds P mi pc L S H (addR r 1 ks) := by
  obtain ⟨n0, E⟩ := E
  refine ⟨n0 + 1, fun n hn => ?_⟩
  obtain ⟨k, rfl⟩ : ∃ k, n = k + 1 := ⟨n - 1, by omega⟩
  have e1 := E k (by omega)
  unfold exe
  rw [hm]
  simp only
  rw [hf]
  simp only
  split
  all_goals first | (simp [isNew] at hi; done) | skip
  have h1 : ¬ isInv i = true := by
    cases i <;> first | (simp [isNew] at hi; done) | simp [isInv]
  rw [if_neg h1, if_pos hi, hx]
  simp only
  rw [e1]
  rfl
end Rules
/-- k plain instructions and jumps in one go -/
def adv (P : PD) (d : MD) : Nat → Nat → List Slot → List Value → AHeap → Option (Nat × List Slot × List Value × AHeap)
  | 0, pc, L, S, H => some (pc, L, S, H)
  | k + 1, pc, L, S, H => match fetch d.code pc with
    | some (i, len, er, a, b) => match i with
      | .goto o => match tgt pc o with
        | some q => adv P d k q (forget er L) S H
        | none => none
      | i => if plainI i = true then match xI P (d.name.name == "<init>") d.cid i a b (forget er L) S H with
          | some (L', S', H') => adv P d k (pc + len) L' S' H'
          | none => none
        else none
    | none => none
theorem OEnds.adv {P : PD} {mi : Nat} {d : MD} (hm : P.mth[mi]? = some d) {r : Res} : ∀ (k : Nat) {pc pc' : Nat} {L L' : List Slot} {S S' : List Value} {H H' : AHeap}, adv P d k pc L S H = some (pc', L', S', H') → OEnds P mi pc' L' S' H' r → OEnds P mi pc L S H r
  | 0, _, _, _, _, _, _, _, _, h, E => by
    unfold Own.adv at h
    cases h
    exact E
  | k + 1, pc, pc', L, L', S, S', H, H', h, E => by
    unfold Own.adv at h
    split at h
    · rename_i it i len er a b hf
      split at h
      · rename_i o
        split at h
        · rename_i q hq
          exact OEnds.goto hm hf hq (OEnds.adv hm k h E)
        · cases h
      · split at h
        · rename_i hp
          split at h
          · rename_i L1 S1 H1 hx
            exact OEnds.plain hm hf hp hx (OEnds.adv hm k h E)
          · cases h
        · cases h
    · cases h
theorem x_iaload {P : PD} {ini : Bool} {cid a o : Nat} {b : Int} {L : List Slot} {S : List Value} {H : AHeap} {A : List Int32} {j x : Int32} (h : H[o]? = some (.inr (.inl (false, A)))) (hx : rdA A j = some x) : xI P ini cid .iaload a b L (.int j :: .ref o :: S) H = some (L, .int x :: S, H) := by simp [xI, h, hx]
theorem x_baload {P : PD} {ini : Bool} {cid a o : Nat} {b : Int} {L : List Slot} {S : List Value} {H : AHeap} {A : List Int32} {j x : Int32} (h : H[o]? = some (.inr (.inl (true, A)))) (hx : rdA A j = some x) : xI P ini cid .baload a b L (.int j :: .ref o :: S) H = some (L, .int x :: S, H) := by simp [xI, h, hx]
theorem x_laload {P : PD} {ini : Bool} {cid a o : Nat} {b : Int} {L : List Slot} {S : List Value} {H : AHeap} {A : List Int64} {j : Int32} {x : Int64} (h : H[o]? = some (.inr (.inr A))) (hx : rdA A j = some x) : xI P ini cid .laload a b L (.int j :: .ref o :: S) H = some (L, .long x :: S, H) := by simp [xI, h, hx]
theorem x_iastore {P : PD} {ini : Bool} {cid a o : Nat} {b : Int} {L : List Slot} {S : List Value} {H : AHeap} {A A' : List Int32} {j x : Int32} (h : H[o]? = some (.inr (.inl (false, A)))) (hn : P.nr ≤ o) (hx : wrA A j x = some A') : xI P ini cid .iastore a b L (.int x :: .int j :: .ref o :: S) H = some (L, S, H.set o (.inr (.inl (false, A')))) := by simp [xI, h, hx, hn]
theorem x_bastore {P : PD} {ini : Bool} {cid a o : Nat} {b : Int} {L : List Slot} {S : List Value} {H : AHeap} {A A' : List Int32} {j x : Int32} (h : H[o]? = some (.inr (.inl (true, A)))) (hn : P.nr ≤ o) (hx : wrA A j (x &&& 1) = some A') : xI P ini cid .bastore a b L (.int x :: .int j :: .ref o :: S) H = some (L, S, H.set o (.inr (.inl (true, A')))) := by simp [xI, h, hx, hn]
theorem x_lastore {P : PD} {ini : Bool} {cid a o : Nat} {b : Int} {L : List Slot} {S : List Value} {H : AHeap} {A A' : List Int64} {j : Int32} {x : Int64} (h : H[o]? = some (.inr (.inr A))) (hn : P.nr ≤ o) (hx : wrA A j x = some A') : xI P ini cid .lastore a b L (.long x :: .int j :: .ref o :: S) H = some (L, S, H.set o (.inr (.inr A'))) := by simp [xI, h, hx, hn]
theorem x_irem {P : PD} {ini : Bool} {cid a : Nat} {b : Int} {L : List Slot} {S : List Value} {H : AHeap} {x y : Int32} (h : ¬ y = 0) : xI P ini cid .irem a b L (.int y :: .int x :: S) H = some (L, .int (x % y) :: S, H) := by simp [xI, h]
theorem x_idiv {P : PD} {ini : Bool} {cid a : Nat} {b : Int} {L : List Slot} {S : List Value} {H : AHeap} {x y : Int32} (h : ¬ y = 0) : xI P ini cid .idiv a b L (.int y :: .int x :: S) H = some (L, .int (x / y) :: S, H) := by simp [xI, h]
theorem x_lrem {P : PD} {ini : Bool} {cid a : Nat} {b : Int} {L : List Slot} {S : List Value} {H : AHeap} {x y : Int64} (h : ¬ y = 0) : xI P ini cid .lrem a b L (.long y :: .long x :: S) H = some (L, .long (x % y) :: S, H) := by simp [xI, h]
theorem x_ldiv {P : PD} {ini : Bool} {cid a : Nat} {b : Int} {L : List Slot} {S : List Value} {H : AHeap} {x y : Int64} (h : ¬ y = 0) : xI P ini cid .ldiv a b L (.long y :: .long x :: S) H = some (L, .long (x / y) :: S, H) := by simp [xI, h]
theorem c_lt {x y : Int64} : XT.cmpL x y < 0 ↔ x < y := by
  unfold XT.cmpL; split <;> (try split) <;> simp_all [Int64.lt_iff_toInt_lt, ← Int64.toInt_inj] <;> omega
theorem c_gt {x y : Int64} : 0 < XT.cmpL x y ↔ y < x := by
  unfold XT.cmpL; split <;> (try split) <;> simp_all [Int64.lt_iff_toInt_lt, ← Int64.toInt_inj] <;> omega
theorem c_eq {x y : Int64} : XT.cmpL x y = 0 ↔ x = y := by
  unfold XT.cmpL; split <;> (try split) <;> simp_all [Int64.lt_iff_toInt_lt, ← Int64.toInt_inj] <;> omega
end Jvm.Own
namespace Jvm.Own
open Jvm Jvm.ClassFile Sem Op Lib Jvm.Free Jvm.Stand Jvm.LawKit Jvm.RoadKit Bundle
theorem bnd {α β : Type} {o : Option α} {f : α → Option β} {b : β} (h : o.bind f = some b) : ∃ a, o = some a ∧ f a = some b := Option.bind_eq_some_iff.mp h
theorem x_putZ {P : PD} {ini : Bool} {k cid a o : Nat} {b : Int} {L : List Slot} {S : List Value} {H : AHeap} {fs : List Value} {nm ds : String} {x : Int32} (h : H[o]? = some (.inl (cid, fs))) (hn : P.nr ≤ o) (hf : ((P.cls[cid]?).bind fun cd => cd.2.2[a]?) = some (nm, ds, .boolean, false)) (hx : x = 0 ∨ x = 1) :
    xI P ini cid (.putfield k) a b L (.int x :: .ref o :: S) H = some (L, S, H.set o (.inl (cid, fs.set a (.int x)))) := by
  rcases hx with rfl | rfl <;> simp [xI, h, hn, hf, putOk]
section Rules
variable {P : PD} {mi pc len a q : Nat} {er : List Bool} {b : Int} {i : Instr} {d y : MD} {L L' : List Slot} {S S' as rest : List Value} {H H' H1 : AHeap} {r : Res} {kc ks : Nat} {v : Option Value}
theorem OEnds.made1 {w : Option Value} {Hf : AHeap} (hm : P.mth[mi]? = some d) (hf : fetch d.code pc = some (i, len, er, a, b)) (hi : isNew i = true) (hx : xN P i a S H = some (S', H', ks)) {c0 s0 c1 s1 : Nat} (hr : (c1, s1) = (c0 + 1, s0 + ks)) (E : OEnds P mi (pc + len) (forget er L) S' H' (w, Hf, c0, s0)) : OEnds P mi pc L S H (w, Hf, c1, s1) := by
  cases hr
  exact OEnds.made (r := (w, Hf, c0, s0)) hm hf hi hx E
/-! The same, of a run whose end is told by a property -/
def OEndsQ (P : PD) (mi pc : Nat) (L : List Slot) (S : List Value) (H : AHeap) (Q : Res → Prop) : Prop := ∃ r, OEnds P mi pc L S H r ∧ Q r
variable {Q : Res → Prop}
theorem OEndsQ.plain (hm : P.mth[mi]? = some d) (hf : fetch d.code pc = some (i, len, er, a, b)) (hp : plainI i = true) (hx : xI P (d.name.name == "<init>") d.cid i a b (forget er L) S H = some (L', S', H')) (E : OEndsQ P mi (pc + len) L' S' H' Q) : OEndsQ P mi pc L S H Q := by
  obtain ⟨r, E, hq⟩ := E; exact ⟨r, OEnds.plain hm hf hp hx E, hq⟩
theorem OEndsQ.icmpT {o : Int} {cd : ClassFile.Cond} {x z : Int32} (hm : P.mth[mi]? = some d) (hf : fetch d.code pc = some (.if_icmp cd o, len, er, a, b)) (ht : tgt pc o = some q) (hc : if_icmp.holds cd x z = true) (E : OEndsQ P mi q (forget er L) S H Q) : OEndsQ P mi pc L (.int z :: .int x :: S) H Q := by
  obtain ⟨r, E, hq⟩ := E; exact ⟨r, OEnds.icmpT hm hf ht hc E, hq⟩
theorem OEndsQ.icmpF {o : Int} {cd : ClassFile.Cond} {x z : Int32} (hm : P.mth[mi]? = some d) (hf : fetch d.code pc = some (.if_icmp cd o, len, er, a, b)) (hc : if_icmp.holds cd x z = false) (E : OEndsQ P mi (pc + 3) (forget er L) S H Q) : OEndsQ P mi pc L (.int z :: .int x :: S) H Q := by
  obtain ⟨r, E, hq⟩ := E; exact ⟨r, OEnds.icmpF hm hf hc E, hq⟩
theorem OEndsQ.ifT {o : Int} {cd : ClassFile.Cond} {x : Int32} (hm : P.mth[mi]? = some d) (hf : fetch d.code pc = some (.ifCond cd o, len, er, a, b)) (ht : tgt pc o = some q) (hc : if_icmp.holds cd x 0 = true) (E : OEndsQ P mi q (forget er L) S H Q) : OEndsQ P mi pc L (.int x :: S) H Q := by
  obtain ⟨r, E, hq⟩ := E; exact ⟨r, OEnds.ifT hm hf ht hc E, hq⟩
theorem OEndsQ.ifF {o : Int} {cd : ClassFile.Cond} {x : Int32} (hm : P.mth[mi]? = some d) (hf : fetch d.code pc = some (.ifCond cd o, len, er, a, b)) (hc : if_icmp.holds cd x 0 = false) (E : OEndsQ P mi (pc + 3) (forget er L) S H Q) : OEndsQ P mi pc L (.int x :: S) H Q := by
  obtain ⟨r, E, hq⟩ := E; exact ⟨r, OEnds.ifF hm hf hc E, hq⟩
theorem OEndsQ.nonnull {o : Int} {x : Nat} (hm : P.mth[mi]? = some d) (hf : fetch d.code pc = some (.ifnonnull o, len, er, a, b)) (ht : tgt pc o = some q) (E : OEndsQ P mi q (forget er L) S H Q) : OEndsQ P mi pc L (.ref x :: S) H Q := by
  obtain ⟨r, E, hq⟩ := E; exact ⟨r, OEnds.nonnull hm hf ht E, hq⟩
theorem OEndsQ.call0 (hm : P.mth[mi]? = some d) (hf : fetch d.code pc = some (i, len, er, a, b)) (hi : isInv i = true) (hb : ¬ b = -1) (hy : P.mth[a]? = some y) (hao : argsOf (nargs y) S = some (as, rest))
    (hc : (decide (0 < a) && invKind i y.kind && recvOk P H y as && fitsRoom d y rest && decide ((entA as).length ≤ y.maxL)) = true) (E1 : OEnds P a 0 (entL as y.maxL) [] H (v, H1, 0, 0)) (E2 : OEndsQ P mi (pc + 3) (forget er L) (v.toList ++ rest) H1 Q) : OEndsQ P mi pc L S H Q := by
  obtain ⟨r, E, hq⟩ := E2; exact ⟨r, OEnds.call0 hm hf hi hb hy hao hc E1 E, hq⟩
theorem OEndsQ.adv (hm : P.mth[mi]? = some d) (k : Nat) {pc' : Nat} (h : adv P d k pc L S H = some (pc', L', S', H')) (E : OEndsQ P mi pc' L' S' H' Q) : OEndsQ P mi pc L S H Q := by
  obtain ⟨r, E, hq⟩ := E; exact ⟨r, OEnds.adv hm k h E, hq⟩
/-- what a law's run ends with: its answer, and at the most so many cells and slots made -/
def LawQ (x : Int32) (kc ks : Nat) (r : Res) : Prop := r.1 = some (.int x) ∧ r.2.2.1 ≤ kc ∧ r.2.2.2 ≤ ks
theorem OEndsQ.iret {x u : Int32} (hm : P.mth[mi]? = some d) (hf : fetch d.code pc = some (.ireturn, len, er, a, b)) (hv : retV d.ret x = some (.int u)) : OEndsQ P mi pc L [.int x] H (LawQ u kc ks) :=
  ⟨_, OEnds.iret hm hf hv, rfl, Nat.zero_le _, Nat.zero_le _⟩
theorem OEndsQ.weak {x : Int32} {c0 s0 : Nat} (h1 : c0 ≤ kc) (h2 : s0 ≤ ks) (E : OEndsQ P mi pc L S H (LawQ x c0 s0)) : OEndsQ P mi pc L S H (LawQ x kc ks) := by
  obtain ⟨r, E, q1, q2, q3⟩ := E; exact ⟨r, E, q1, Nat.le_trans q2 h1, Nat.le_trans q3 h2⟩
theorem OEndsQ.made {x : Int32} {c0 s0 c1 s1 : Nat} (hm : P.mth[mi]? = some d) (hf : fetch d.code pc = some (i, len, er, a, b)) (hi : isNew i = true) (hx : xN P i a S H = some (S', H', ks)) (h1 : c0 + 1 ≤ c1) (h2 : s0 + ks ≤ s1) (E : OEndsQ P mi (pc + len) (forget er L) S' H' (LawQ x c0 s0)) : OEndsQ P mi pc L S H (LawQ x c1 s1) := by
  obtain ⟨⟨v, Hf, k, n⟩, E, q1, q2, q3⟩ := E
  dsimp only at q1 q2 q3
  exact ⟨_, OEnds.made hm hf hi hx E, q1, by show k + 1 ≤ c1; omega, by show n + ks ≤ s1; omega⟩
theorem OEndsQ.callN {x : Int32} {c0 s0 c1 s1 : Nat} (hm : P.mth[mi]? = some d) (hf : fetch d.code pc = some (i, len, er, a, b)) (hi : isInv i = true) (hb : ¬ b = -1) (hy : P.mth[a]? = some y) (hao : argsOf (nargs y) S = some (as, rest))
    (hc : (decide (0 < a) && invKind i y.kind && recvOk P H y as && fitsRoom d y rest && decide ((entA as).length ≤ y.maxL)) = true) (E1 : OEnds P a 0 (entL as y.maxL) [] H (v, H1, kc, ks)) (h1 : c0 + kc ≤ c1) (h2 : s0 + ks ≤ s1) (E2 : OEndsQ P mi (pc + 3) (forget er L) (v.toList ++ rest) H1 (LawQ x c0 s0)) : OEndsQ P mi pc L S H (LawQ x c1 s1) := by
  obtain ⟨⟨v, Hf, k, n⟩, E, q1, q2, q3⟩ := E2
  dsimp only at q1 q2 q3
  exact ⟨_, OEnds.call hm hf hi hb hy hao hc E1 E, q1, by show k + kc ≤ c1; omega, by show n + ks ≤ s1; omega⟩
end Rules
/-! From the machine to the claim -/
theorem law_met {P : PD} {Z : State} {a0 : Array Value} {l : Launch} {y : MD} {as ws : List Value} {H : AHeap} {ρ : List Addr} {n0 kc ks : Nat} {h : Heap} (hP : chk P = true) (hW : ∀ w ∈ wordsOf P, w.before a0 Z = true) (hy : P.mth[0]? = some y)
    (E : OEndsQ P 0 0 (entL as y.maxL) [] H (LawQ 1 kc ks)) (hS : SR ρ as ws) (hlen : (entA as).length ≤ y.maxL) (hH : HR P Z n0 h ρ H) (w0 : List Jvm.Cond) (rm : Room) (r1 : y.rf ≤ rm.frames) (r2 : y.rw ≤ rm.locals) (r3 : kc ≤ rm.cells) (r4 : ks ≤ rm.slots) :
    MetFree l y.name (head1 (Jvm.Cond.code y.name y.bytes y.maxL y.ret :: w0) rm) (fun a U => a = ws.toArray ∧ Z.Warmed39 U.vm ∧ U.heap = h) (fun _ _ _ _ _ => True)
      (fun _ U o U' => ∃ L, o = .returned (some (.int 1)) ∧ Fr n0 L ∧ FrameEnd U o U' L kc ks) := by
  obtain ⟨⟨v, H1, c1, s1⟩, ⟨n, E⟩, q1, q2, q3⟩ := E
  dsimp only at q1 q2 q3
  subst q1
  have hpn : plainName y.name.cls = true := by
    have := mChk_of hP (List.mem_of_getElem? hy)
    simp only [mChk, Bool.and_eq_true] at this
    exact this.1.1.1.1.1.1
  have M := met_of (l := l) (n := n) (sound hP hW n) hy hpn (E n (Nat.le_refl _)) hS hlen hH w0 rm r1 r2 (Nat.le_trans q2 r3) (Nat.le_trans q3 r4)
  intro p e ha hc hk s m args below hf happ hp hK
  obtain ⟨n', o, h1, h2, h3, v', L, rfl, ⟨hF, t, ⟨u, rfl, hu⟩, -⟩, hq⟩ := M p e ha hc hk s m args below hf happ hp hK
  obtain rfl : u = .int 1 := hu
  exact ⟨n', _, h1, h2, h3, L, rfl, hF, hq.1, hq.2.1, hq.2.2.mono q2 q3⟩
end Jvm.Own
namespace Jvm.Own
open Jvm Jvm.ClassFile Sem Op Lib Jvm.Free Jvm.Stand Jvm.LawKit Jvm.RoadKit Bundle
/-- the law's script: an int array of at most 260 -/
theorem script_of {s : State} {ad : Addr} {cl : Cell} (hf : Fit s) (A : Arr s s.heap ad cl .int) (e0 : (Term.arg 0).eval #[.ref ad] s none [] s = some (.ref ad)) (hn : (Jvm.Cond.le (.length (.arg 0)) (.int 260)).value #[.ref ad] s none s [] = some true) :
    ∃ scr : List Int32, cl.slots.size = scr.length ∧ scr.length ≤ 260 ∧ ∀ (i : Nat) x, scr[i]? = some x → cl.slots[i]? = some (.int x) := by
  obtain ⟨u, v, g1, g2, -, -⟩ := cmp_v (Or.inr (Or.inr hn))
  obtain ⟨a', cl', z1, z2, z3⟩ := Term.length_spec g1
  have hat := A.fin (Vm.Alike.refl _)
  rw [e0] at z1
  cases z1
  rw [hat] at z2
  cases z2
  have hsz : cl.slots.size < 2 ^ 31 := by
    rcases Nat.lt_or_ge cl.slots.size (2 ^ 31) with q | q
    · exact q
    · exfalso
      simp [Term.eval, hat] at g1
      omega
  subst z3
  have hv : v = .int 260 := by simpa [Term.eval] using g2.symm
  subst hv
  have hle : cl.slots.size.toInt32 ≤ 260 := by
    simpa [Cond.value, g1, g2] using hn
  have hle' : cl.slots.size ≤ 260 := by
    rw [Int32.le_iff_toInt_le, len_toInt hsz] at hle
    have : (260 : Int32).toInt = 260 := rfl
    rw [this] at hle
    omega
  have key : ∀ i, i < cl.slots.size → ∃ x, cl.slots[i]? = some (.int x) := fun i hi => by
    have hj := idx_in hi hsz
    obtain ⟨v, e1, e2⟩ := elem_fit hf A hj
    have : i.toInt32.toNatClampNeg = i := by
      have h1 : i.toInt32.toInt = i := len_toInt (by omega)
      simp [Int32.toNatClampNeg, h1]
    rw [this] at e1
    obtain ⟨x, rfl⟩ := fit_I e2 (Or.inl rfl)
    exact ⟨x, e1⟩
  refine ⟨cl.slots.toList.map fun v => match v with | .int x => x | _ => 0, by simp, by simpa using hle', fun i x hx => ?_⟩
  rw [List.getElem?_map] at hx
  obtain ⟨v, h1, h2⟩ := Option.map_eq_some_iff.mp hx
  have h1' : cl.slots[i]? = some v := by simpa using h1
  obtain ⟨y, hy⟩ := key i (Array.getElem?_eq_some_iff.mp h1').1
  rw [h1'] at hy
  cases hy
  rw [h1']
  simp at h2
  rw [h2]
theorem hr_script {P : PD} {s : State} {ad : Addr} {cl : Cell} {scr : List Int32} (hnr : P.nr = 1) (A : Arr s s.heap ad cl .int) (h1 : cl.slots.size = scr.length) (h2 : scr.length ≤ 260) (h3 : ∀ (i : Nat) x, scr[i]? = some x → cl.slots[i]? = some (.int x)) : HR P s s.heap.size s.heap [ad] [.inr (.inl (false, scr))] := by
  refine ⟨Nat.le_refl _, rfl, fun i j a g1 g2 => ?_, fun k a g1 g2 => ?_, fun k a c g1 g2 => ?_⟩
  · match i, j, g1, g2 with
    | 0, 0, _, _ => rfl
    | i + 1, _, g1, _ => simp at g1
    | 0, j + 1, _, g2 => simp at g2
  · match k, g1, g2 with
    | 0, _, g2 => rw [hnr] at g2; omega
    | k + 1, g1, _ => simp at g1
  · match k, g1, g2 with
    | 0, g1, g2 =>
      simp at g1 g2
      subst g1 g2
      exact ⟨cl, A, h1, by omega, h3⟩
    | k + 1, g1, _ => simp at g1
end Jvm.Own
namespace Jvm.Own
open Jvm
/-! Ints in range, arrays -/
theorem ilt {a b : Int32} : a < b ↔ a.toInt < b.toInt := Int32.lt_iff_toInt_lt
theorem ile {a b : Int32} : a ≤ b ↔ a.toInt ≤ b.toInt := Int32.le_iff_toInt_le
theorem ieq {a b : Int32} : a = b ↔ a.toInt = b.toInt := Int32.toInt_inj.symm
theorem irng (a : Int32) : -2147483648 ≤ a.toInt ∧ a.toInt < 2147483648 := ⟨Int32.le_toInt a, Int32.toInt_lt a⟩
theorem iadd_i {a b : Int32} (h1 : -2147483648 ≤ a.toInt + b.toInt) (h2 : a.toInt + b.toInt < 2147483648) : (a + b).toInt = a.toInt + b.toInt := by
  rw [Int32.toInt_add]; exact Int.bmod_eq_of_le (by omega) (by omega)
theorem isub_i {a b : Int32} (h1 : -2147483648 ≤ a.toInt - b.toInt) (h2 : a.toInt - b.toInt < 2147483648) : (a - b).toInt = a.toInt - b.toInt := by
  rw [Int32.toInt_sub]; exact Int.bmod_eq_of_le (by omega) (by omega)
theorem imul_i {a b : Int32} (h1 : -2147483648 ≤ a.toInt * b.toInt) (h2 : a.toInt * b.toInt < 2147483648) : (a * b).toInt = a.toInt * b.toInt := by
  rw [Int32.toInt_mul]; exact Int.bmod_eq_of_le (by omega) (by omega)
theorem rdA_nn {α : Type} {L : List α} {j : Int32} (h0 : 0 ≤ j.toInt) : rdA L j = L[j.toInt.toNat]? := by
  unfold rdA
  rw [if_neg (by rw [ilt]; exact Int.not_lt.mpr h0)]
  rfl
theorem rdA_in {α : Type} {L : List α} {j : Int32} (h0 : 0 ≤ j.toInt) (h1 : j.toInt.toNat < L.length) : rdA L j = some L[j.toInt.toNat] := by
  rw [rdA_nn h0, List.getElem?_eq_getElem h1]
theorem wrA_in {α : Type} {L : List α} {j : Int32} {x : α} (h0 : 0 ≤ j.toInt) (h1 : j.toInt.toNat < L.length) : wrA L j x = some (L.set j.toInt.toNat x) := by
  unfold wrA
  rw [if_neg (by rw [ilt]; exact Int.not_lt.mpr h0)]
  exact if_pos h1
theorem rdA_rep {α : Type} {n : Nat} {x : α} {j : Int32} (h0 : 0 ≤ j.toInt) (h1 : j.toInt < n) : rdA (List.replicate n x) j = some x := by
  rw [rdA_nn h0, List.getElem?_replicate, if_pos (by omega)]
end Jvm.Own
namespace Jvm.Own
open Jvm
/-! Sums of ints with their wrap, for omega; runs that answer, and what they answer -/
theorem bmod32 (x : Int) : x.bmod (2 ^ 32) = (x + 2147483648) % 4294967296 - 2147483648 := by
  rw [Int.bmod_def]
  split <;> omega
theorem iadd_e (a b : Int32) : (a + b).toInt = (a.toInt + b.toInt + 2147483648) % 4294967296 - 2147483648 := by
  rw [Int32.toInt_add, bmod32]
theorem isub_e (a b : Int32) : (a - b).toInt = (a.toInt - b.toInt + 2147483648) % 4294967296 - 2147483648 := by
  rw [Int32.toInt_sub, bmod32]
theorem imul_e (a b : Int32) : (a * b).toInt = (a.toInt * b.toInt + 2147483648) % 4294967296 - 2147483648 := by
  rw [Int32.toInt_mul, bmod32]
theorem iscr {n : Nat} (h : n ≤ 260) : (n.toInt32).toInt = n := Int32.toInt_ofNat_of_lt (by omega)
def Tot {α : Type} (x : Option α) (P : α → Prop) : Prop := ∃ r, x = some r ∧ P r
theorem Tot.mk {α : Type} {P : α → Prop} {a : α} (h : P a) : Tot (some a) P := ⟨a, rfl, h⟩
theorem Tot.bind {α β : Type} {x : Option α} {f : α → Option β} {P : α → Prop} {Q : β → Prop} (h : Tot x P) (g : ∀ a, P a → Tot (f a) Q) : Tot (x.bind f) Q := by
  obtain ⟨r, e, p⟩ := h
  rw [e]
  exact g r p
theorem Tot.mono {α : Type} {x : Option α} {P Q : α → Prop} (h : Tot x P) (g : ∀ a, P a → Q a) : Tot x Q := by
  obtain ⟨r, e, p⟩ := h
  exact ⟨r, e, g r p⟩
theorem Tot.ite {α : Type} {c : Prop} [Decidable c] {a b : Option α} {Q : α → Prop} (h1 : c → Tot a Q) (h2 : ¬ c → Tot b Q) : Tot (if c then a else b) Q := by
  by_cases h : c
  · rw [if_pos h]; exact h1 h
  · rw [if_neg h]; exact h2 h
theorem Tot.rd {α β : Type} {L : List α} {j : Int32} {f : α → Option β} {Q : β → Prop} (h0 : 0 ≤ j.toInt) (h1 : j.toInt < L.length) (g : ∀ a, L[j.toInt.toNat]? = some a → Tot (f a) Q) : Tot ((rdA L j).bind f) Q := by
  have h2 : j.toInt.toNat < L.length := by omega
  rw [rdA_in h0 h2]
  exact g _ (List.getElem?_eq_getElem h2)
theorem Tot.wr {α β : Type} {L : List α} {j : Int32} {x : α} {f : List α → Option β} {Q : β → Prop} (h0 : 0 ≤ j.toInt) (h1 : j.toInt < L.length) (g : ∀ L' : List α, L' = L.set j.toInt.toNat x → L'.length = L.length → Tot (f L') Q) : Tot ((wrA L j x).bind f) Q := by
  rw [wrA_in h0 (by omega)]
  exact g _ rfl (by simp)
theorem Tot.eq {α : Type} {x : Option α} {a : α} (h : Tot x (fun r => r = a)) : x = some a := by
  obtain ⟨r, e, p⟩ := h
  rw [e, p]
theorem Tot.of {α : Type} {x : Option α} {a : α} {P : α → Prop} (e : x = some a) (p : P a) : Tot x P := ⟨a, e, p⟩
/-- a bit mask at 15, 31 .. -/
theorem iand_rng (x : Int32) (m : Int32) (h : 0 ≤ m.toInt) : 0 ≤ (x &&& m).toInt ∧ (x &&& m).toInt ≤ m.toInt := by
  have hm : m.toBitVec.msb = false := by
    rw [BitVec.msb_eq_toInt]; simpa using h
  have hx : (x &&& m).toBitVec.msb = false := by
    rw [Int32.toBitVec_and, BitVec.msb_and, hm, Bool.and_false]
  have e1 : m.toInt = (m.toBitVec.toNat : Int) := BitVec.toInt_eq_toNat_of_msb hm
  have e2 : (x &&& m).toInt = (((x &&& m).toBitVec).toNat : Int) := BitVec.toInt_eq_toNat_of_msb hx
  have e3 : ((x &&& m).toBitVec).toNat ≤ m.toBitVec.toNat := by
    rw [Int32.toBitVec_and, BitVec.toNat_and]; exact Nat.and_le_right
  omega
def gI (L : List Int32) (j : Int32) : Int32 := (rdA L j).getD 0
theorem rdg {L : List Int32} {j : Int32} (h0 : 0 ≤ j.toInt) (h1 : j.toInt < L.length) : rdA L j = some (gI L j) := by
  have h2 : j.toInt.toNat < L.length := by omega
  unfold gI
  rw [rdA_in h0 h2]
  (first | done | rfl | simp)
theorem gset {L : List Int32} {i j : Int32} {x : Int32} (hi : 0 ≤ i.toInt) (hl : i.toInt < L.length) (hj : 0 ≤ j.toInt) : gI (L.set i.toInt.toNat x) j = if i = j then x else gI L j := by
  unfold gI
  rw [rdA_nn hj, rdA_nn hj]
  by_cases h : i = j
  · subst h
    rw [if_pos rfl, List.getElem?_set_self (by omega)]
    (first | done | rfl | simp)
  · rw [if_neg h, List.getElem?_set_ne (by rw [ieq] at h; omega)]
theorem gext {A B : List Int32} (hl : A.length < 100000) (ha : A.length = B.length) (h : ∀ i : Int32, 0 ≤ i.toInt → i.toInt < A.length → gI A i = gI B i) : A = B := by
  apply List.ext_getElem ha
  intro k h1 h2
  have e : (Int32.ofNat k).toInt = k := Int32.toInt_ofNat_of_lt (by omega)
  have q := h (Int32.ofNat k) (by omega) (by omega)
  unfold gI at q
  rw [rdA_nn (by omega), rdA_nn (by omega), e] at q
  simpa [h1, h2] using q
theorem Tot.rdI {β : Type} {L : List Int32} {j : Int32} {f : Int32 → Option β} {Q : β → Prop} (h0 : 0 ≤ j.toInt) (h1 : j.toInt < L.length) (g : Tot (f (gI L j)) Q) : Tot ((rdA L j).bind f) Q := by
  rw [rdg h0 h1]
  exact g
theorem gI_rep {n : Nat} {x : Int32} {j : Int32} (h0 : 0 ≤ j.toInt) (h1 : j.toInt < n) : gI (List.replicate n x) j = x := by
  unfold gI
  rw [rdA_rep h0 h1]
  (first | done | rfl | simp)
/-! Longs -/
theorem lltI {a b : Int64} : a < b ↔ a.toInt < b.toInt := Int64.lt_iff_toInt_lt
theorem leqI {a b : Int64} : a = b ↔ a.toInt = b.toInt := Int64.toInt_inj.symm
theorem lrng (a : Int64) : -9223372036854775808 ≤ a.toInt ∧ a.toInt < 9223372036854775808 := ⟨Int64.le_toInt a, Int64.toInt_lt a⟩
theorem ladd_i {a b : Int64} (h1 : -9223372036854775808 ≤ a.toInt + b.toInt) (h2 : a.toInt + b.toInt < 9223372036854775808) : (a + b).toInt = a.toInt + b.toInt := by
  rw [Int64.toInt_add]; exact Int.bmod_eq_of_le (by omega) (by omega)
theorem lsub_i {a b : Int64} (h1 : -9223372036854775808 ≤ a.toInt - b.toInt) (h2 : a.toInt - b.toInt < 9223372036854775808) : (a - b).toInt = a.toInt - b.toInt := by
  rw [Int64.toInt_sub]; exact Int.bmod_eq_of_le (by omega) (by omega)
theorem lmul_i {a b : Int64} (h1 : -9223372036854775808 ≤ a.toInt * b.toInt) (h2 : a.toInt * b.toInt < 9223372036854775808) : (a * b).toInt = a.toInt * b.toInt := by
  rw [Int64.toInt_mul]; exact Int.bmod_eq_of_le (by omega) (by omega)
theorem lmod_i {a b : Int64} (h : 0 ≤ a.toInt) : (a % b).toInt = a.toInt % b.toInt := by
  rw [Int64.toInt_mod, Int.tmod_eq_emod_of_nonneg h]
theorem lback {a : Int64} (h1 : -2147483648 ≤ a.toInt) (h2 : a.toInt < 2147483648) : a.toInt32.toInt64 = a := by
  rw [leqI, Int32.toInt_toInt64, Int64.toInt_toInt32, bmod32]
  omega
theorem mulb {a b M : Int} (h0 : 0 ≤ a) (h1 : a ≤ M) (h2 : 0 ≤ b) (h3 : b ≤ M) : 0 ≤ a * b ∧ a * b ≤ M * M :=
  ⟨Int.mul_nonneg h0 h2, Int.mul_le_mul h1 h3 h2 (by omega)⟩
end Jvm.Own
namespace Jvm.Pilot.@@N@@
open Jvm Jvm.ClassFile Sem Op Lib Jvm.Free Jvm.Stand Jvm.LawKit Jvm.RoadKit Bundle Jvm.Own Jvm.Pilot.@@N@@.Jvm.D
def d_0 : MD := (x, code, maxLocals, ret, 0, 6, 999, 4, 75, [(0, .new 7, 3, [], 0, 0), (3, .dup, 1, [], 0, 0), (4, .iload_n 0, 1, [], 0, 0), (5, .iconst 0, 1, [], 0, 0), (6, .iload_n 1, 1, [], 0, 0), (7, .iload_n 2, 1, [], 0, 0), (8, .invokespecial 9, 3, [], 1, 0), (11, .astore 6, 2, [], 0, 0), (13, .aload 6, 2, [], 0, 0), (15, .iconst 0, 1, [], 0, 0), (16, .invokevirtual 12, 3, [], 10, 0), (19, .i2l, 1, [], 0, 0), (20, .lstore 7, 2, [], 0, 0), (22, .aload 6, 2, [], 0, 0), (24, .iconst 1, 1, [], 0, 0), (25, .invokevirtual 12, 3, [], 10, 0), (28, .i2l, 1, [], 0, 0), (29, .lstore 9, 2, [], 0, 0), (31, .aload 6, 2, [], 0, 0), (33, .iconst 2, 1, [], 0, 0), (34, .invokevirtual 12, 3, [], 10, 0), (37, .i2l, 1, [], 0, 0), (38, .lstore 11, 2, [], 0, 0), (40, .aload 6, 2, [], 0, 0), (42, .iconst 3, 1, [], 0, 0), (43, .invokevirtual 12, 3, [], 10, 0), (46, .i2l, 1, [], 0, 0), (47, .lstore 13, 2, [], 0, 0), (49, .aload 6, 2, [], 0, 0), (51, .iconst 4, 1, [], 0, 0), (52, .invokevirtual 12, 3, [], 10, 0), (55, .i2l, 1, [], 0, 0), (56, .lstore 15, 2, [], 0, 0), (58, .iload_n 3, 1, [], 0, 0), (59, .ifCond .lt 45, 3, [], 0, 0), (62, .iload_n 3, 1, [], 0, 0), (63, .bipush 7, 2, [], 0, 0), (65, .if_icmp .gt 39, 3, [], 0, 0), (68, .iload 4, 2, [], 0, 0), (70, .ifCond .lt 34, 3, [], 0, 0), (73, .iload 4, 2, [], 0, 0), (75, .i2l, 1, [], 0, 0), (76, .lload 7, 2, [], 0, 0), (78, .lconst 1, 1, [], 0, 0), (79, .lsub, 1, [], 0, 0), (80, .lcmp, 1, [], 0, 0), (81, .ifCond .gt 23, 3, [], 0, 0), (84, .iload 5, 2, [], 0, 0), (86, .ifCond .lt 18, 3, [], 0, 0), (89, .iload 5, 2, [], 0, 0), (91, .i2l, 1, [], 0, 0), (92, .lload 7, 2, [], 0, 0), (94, .lconst 1, 1, [], 0, 0), (95, .lsub, 1, [], 0, 0), (96, .lcmp, 1, [], 0, 0), (97, .ifCond .gt 7, 3, [], 0, 0), (100, .iconst 1, 1, [], 0, 0), (101, .goto 4, 3, [], 0, 0), (104, .iconst 0, 1, [], 0, 0), (105, .istore 17, 2, [true, true, true, false, false, false, false, false, false, false, false, false, false, false, false, false, false, true, true, true, true, true, true, true, true, true], 0, 0), (107, .iload 17, 2, [], 0, 0), (109, .ifCond .eq 80, 3, [], 0, 0), (112, .iload 4, 2, [], 0, 0), (114, .i2l, 1, [], 0, 0), (115, .lstore 18, 2, [], 0, 0), (117, .iload 5, 2, [], 0, 0), (119, .i2l, 1, [], 0, 0), (120, .lstore 20, 2, [], 0, 0), (122, .lload 20, 2, [], 0, 0), (124, .lload 20, 2, [], 0, 0), (126, .lmul, 1, [], 0, 0), (127, .lload 7, 2, [], 0, 0), (129, .lrem, 1, [], 0, 0), (130, .lstore 22, 2, [], 0, 0), (132, .lload 18, 2, [], 0, 0), (134, .lload 18, 2, [], 0, 0), (136, .lmul, 1, [], 0, 0), (137, .lload 7, 2, [], 0, 0), (139, .lrem, 1, [], 0, 0), (140, .lload 18, 2, [], 0, 0), (142, .lmul, 1, [], 0, 0), (143, .lload 7, 2, [], 0, 0), (145, .lrem, 1, [], 0, 0), (146, .lstore 24, 2, [], 0, 0), (148, .lload 24, 2, [], 0, 0), (150, .lload 9, 2, [], 0, 0), (152, .lload 18, 2, [], 0, 0), (154, .lmul, 1, [], 0, 0), (155, .lload 7, 2, [], 0, 0), (157, .lrem, 1, [], 0, 0), (158, .ladd, 1, [], 0, 0), (159, .lload 7, 2, [], 0, 0), (161, .lrem, 1, [], 0, 0), (162, .lstore 24, 2, [], 0, 0), (164, .lload 24, 2, [], 0, 0), (166, .lload 11, 2, [], 0, 0), (168, .ladd, 1, [], 0, 0), (169, .lload 7, 2, [], 0, 0), (171, .lrem, 1, [], 0, 0), (172, .lstore 24, 2, [], 0, 0), (174, .lload 22, 2, [], 0, 0), (176, .lload 24, 2, [], 0, 0), (178, .lcmp, 1, [], 0, 0), (179, .ifCond .ne 7, 3, [], 0, 0), (182, .iconst 1, 1, [], 0, 0), (183, .goto 4, 3, [], 0, 0), (186, .iconst 0, 1, [], 0, 0), (187, .istore 17, 2, [], 0, 0), (189, .aload 6, 2, [true, true, true, false, false, false, false, true, true, true, true, true, true, false, false, false, false, false, true, true, true, true, true, true, true, true], 0, 0), (191, .iload_n 3, 1, [], 0, 0), (192, .iload 4, 2, [], 0, 0), (194, .iload 5, 2, [], 0, 0), (196, .invokevirtual 16, 3, [], 11, 0), (199, .istore 18, 2, [], 0, 0), (201, .iload 18, 2, [], 0, 0), (203, .iload 17, 2, [], 0, 0), (205, .if_icmp .eq 5, 3, [], 0, 0), (208, .iconst 0, 1, [], 0, 0), (209, .ireturn, 1, [], 0, 0), (210, .ldc2_w 20, 3, [], 0, -1), (213, .lstore 19, 2, [], 0, 0), (215, .ldc2_w 20, 3, [], 0, -1), (218, .lstore 21, 2, [], 0, 0), (220, .ldc2_w 20, 3, [], 0, -1), (223, .lstore 23, 2, [], 0, 0), (225, .iload 17, 2, [], 0, 0), (227, .ifCond .eq 19, 3, [], 0, 0), (230, .iload 4, 2, [], 0, 0), (232, .i2l, 1, [], 0, 0), (233, .lstore 19, 2, [], 0, 0), (235, .iload 5, 2, [], 0, 0), (237, .i2l, 1, [], 0, 0), (238, .lstore 21, 2, [], 0, 0), (240, .lconst 0, 1, [], 0, 0), (241, .lstore 23, 2, [], 0, 0), (243, .goto 41, 3, [], 0, 0), (246, .iload_n 3, 1, [], 0, 0), (247, .ifCond .ne 17, 3, [], 0, 0), (250, .lload 13, 2, [], 0, 0), (252, .lstore 19, 2, [], 0, 0), (254, .lload 15, 2, [], 0, 0), (256, .lstore 21, 2, [], 0, 0), (258, .lconst 0, 1, [], 0, 0), (259, .lstore 23, 2, [], 0, 0), (261, .goto 23, 3, [], 0, 0), (264, .iload_n 3, 1, [], 0, 0), (265, .iconst 1, 1, [], 0, 0), (266, .if_icmp .lt 18, 3, [], 0, 0), (269, .iload_n 3, 1, [], 0, 0), (270, .bipush 7, 2, [], 0, 0), (272, .if_icmp .gt 12, 3, [], 0, 0), (275, .lconst 0, 1, [], 0, 0), (276, .lstore 19, 2, [], 0, 0), (278, .lconst 0, 1, [], 0, 0), (279, .lstore 21, 2, [], 0, 0), (281, .lconst 1, 1, [], 0, 0), (282, .lstore 23, 2, [], 0, 0), (284, .aload 6, 2, [true, true, true, false, true, true, false, true, true, true, true, true, true, true, true, true, true, true, true, false, false, false, false, false, false, true], 0, 0), (286, .iload_n 3, 1, [], 0, 0), (287, .iconst 0, 1, [], 0, 0), (288, .invokevirtual 22, 3, [], 16, 0), (291, .i2l, 1, [], 0, 0), (292, .lload 19, 2, [], 0, 0), (294, .lcmp, 1, [], 0, 0), (295, .ifCond .eq 5, 3, [], 0, 0), (298, .iconst 0, 1, [], 0, 0), (299, .ireturn, 1, [], 0, 0), (300, .aload 6, 2, [], 0, 0), (302, .iload_n 3, 1, [], 0, 0), (303, .iconst 1, 1, [], 0, 0), (304, .invokevirtual 22, 3, [], 16, 0), (307, .i2l, 1, [], 0, 0), (308, .lload 21, 2, [], 0, 0), (310, .lcmp, 1, [], 0, 0), (311, .ifCond .eq 5, 3, [], 0, 0), (314, .iconst 0, 1, [], 0, 0), (315, .ireturn, 1, [], 0, 0), (316, .aload 6, 2, [], 0, 0), (318, .iload_n 3, 1, [], 0, 0), (319, .iconst 2, 1, [], 0, 0), (320, .invokevirtual 22, 3, [], 16, 0), (323, .i2l, 1, [], 0, 0), (324, .lload 23, 2, [], 0, 0), (326, .lcmp, 1, [], 0, 0), (327, .ifCond .ne 7, 3, [], 0, 0), (330, .iconst 1, 1, [], 0, 0), (331, .goto 4, 3, [], 0, 0), (334, .iconst 0, 1, [], 0, 0), (335, .ireturn, 1, [], 0, 0)])
def d_1 : MD := (⟨"CurveLadder", "<init>", "(IIII)V"⟩, prog_1_method_1_code, 7, none, 1, 4, 0, 2, 41, [(0, .aload_n 0, 1, [], 0, 0), (1, .invokespecial 1, 3, [], 0, -1), (4, .aload_n 0, 1, [], 0, 0), (5, .bipush 8, 2, [], 0, 0), (7, .newarray .long, 2, [], 0, 0), (9, .putfield 7, 3, [], 0, 0), (12, .aload_n 0, 1, [], 0, 0), (13, .bipush 8, 2, [], 0, 0), (15, .newarray .long, 2, [], 0, 0), (17, .putfield 13, 3, [], 1, 0), (20, .aload_n 0, 1, [], 0, 0), (21, .bipush 8, 2, [], 0, 0), (23, .newarray .boolean, 2, [], 0, 0), (25, .putfield 16, 3, [], 2, 0), (28, .aload_n 0, 1, [], 0, 0), (29, .iconst 4, 1, [], 0, 0), (30, .newarray .long, 2, [], 0, 0), (32, .putfield 20, 3, [], 3, 0), (35, .aload_n 0, 1, [], 0, 0), (36, .iconst 4, 1, [], 0, 0), (37, .newarray .boolean, 2, [], 0, 0), (39, .putfield 23, 3, [], 4, 0), (42, .aload_n 0, 1, [], 0, 0), (43, .iconst 4, 1, [], 0, 0), (44, .newarray .long, 2, [], 0, 0), (46, .putfield 26, 3, [], 5, 0), (49, .aload_n 0, 1, [], 0, 0), (50, .iconst 4, 1, [], 0, 0), (51, .newarray .long, 2, [], 0, 0), (53, .putfield 29, 3, [], 6, 0), (56, .aload_n 0, 1, [], 0, 0), (57, .iconst 4, 1, [], 0, 0), (58, .newarray .boolean, 2, [], 0, 0), (60, .putfield 32, 3, [], 7, 0), (63, .aload_n 0, 1, [], 0, 0), (64, .bipush 64, 2, [], 0, 0), (66, .newarray .int, 2, [], 0, 0), (68, .putfield 35, 3, [], 8, 0), (71, .iload_n 1, 1, [], 0, 0), (72, .istore 5, 2, [], 0, 0), (74, .iload 5, 2, [], 0, 0), (76, .ifCond .ge 6, 3, [], 0, 0), (79, .iconst 0, 1, [], 0, 0), (80, .istore 5, 2, [], 0, 0), (82, .iload 5, 2, [false, true, false, false, false, false, true], 0, 0), (84, .bipush 7, 2, [], 0, 0), (86, .if_icmp .le 7, 3, [], 0, 0), (89, .bipush 7, 2, [], 0, 0), (91, .istore 5, 2, [], 0, 0), (93, .aload_n 0, 1, [false, true, false, false, false, false, true], 0, 0), (94, .aload_n 0, 1, [], 0, 0), (95, .iload 5, 2, [], 0, 0), (97, .invokevirtual 39, 3, [], 2, 0), (100, .putfield 43, 3, [], 9, 0), (103, .aload_n 0, 1, [], 0, 0), (104, .aload_n 0, 1, [], 0, 0), (105, .iload_n 2, 1, [], 0, 0), (106, .invokevirtual 47, 3, [], 3, 0), (109, .putfield 50, 3, [], 10, 0), (112, .aload_n 0, 1, [], 0, 0), (113, .aload_n 0, 1, [], 0, 0), (114, .iload_n 3, 1, [], 0, 0), (115, .invokevirtual 47, 3, [], 3, 0), (118, .putfield 53, 3, [], 11, 0), (121, .aload_n 0, 1, [], 0, 0), (122, .aload_n 0, 1, [], 0, 0), (123, .iload 4, 2, [], 0, 0), (125, .invokevirtual 47, 3, [], 3, 0), (128, .putfield 56, 3, [], 12, 0), (131, .aload_n 0, 1, [], 0, 0), (132, .aload_n 0, 1, [], 0, 0), (133, .invokevirtual 59, 3, [], 4, 0), (136, .putfield 63, 3, [], 13, 0), (139, .iconst 0, 1, [], 0, 0), (140, .istore 6, 2, [], 0, 0), (142, .iload 6, 2, [false, true, true, true, true, true], 0, 0), (144, .bipush 8, 2, [], 0, 0), (146, .if_icmp .ge 44, 3, [], 0, 0), (149, .aload_n 0, 1, [], 0, 0), (150, .invokevirtual 66, 3, [], 7, 0), (153, .lconst 0, 1, [], 0, 0), (154, .lcmp, 1, [], 0, 0), (155, .ifCond .eq 6, 3, [], 0, 0), (158, .goto 32, 3, [], 0, 0), (161, .aload_n 0, 1, [], 0, 0), (162, .aload_n 0, 1, [], 0, 0), (163, .getfield 50, 3, [], 10, 0), (166, .lconst 1, 1, [], 0, 0), (167, .ladd, 1, [], 0, 0), (168, .aload_n 0, 1, [], 0, 0), (169, .getfield 43, 3, [], 9, 0), (172, .lrem, 1, [], 0, 0), (173, .putfield 50, 3, [], 10, 0), (176, .aload_n 0, 1, [], 0, 0), (177, .aload_n 0, 1, [], 0, 0), (178, .invokevirtual 59, 3, [], 4, 0), (181, .putfield 63, 3, [], 13, 0), (184, .iinc 6 1, 3, [], 0, 0), (187, .goto (-45), 3, [], 0, 0), (190, .iconst 0, 1, [], 0, 0), (191, .istore 6, 2, [], 0, 0), (193, .iload 6, 2, [false, true, true, true, true, true], 0, 0), (195, .bipush 8, 2, [], 0, 0), (197, .if_icmp .ge 18, 3, [], 0, 0), (200, .aload_n 0, 1, [], 0, 0), (201, .iload 6, 2, [], 0, 0), (203, .lconst 0, 1, [], 0, 0), (204, .lconst 0, 1, [], 0, 0), (205, .iconst 1, 1, [], 0, 0), (206, .invokevirtual 69, 3, [], 9, 0), (209, .iinc 6 1, 3, [], 0, 0), (212, .goto (-19), 3, [], 0, 0), (215, .aload_n 0, 1, [false, true, true, true, true, true, true], 0, 0), (216, .iconst 0, 1, [], 0, 0), (217, .aload_n 0, 1, [], 0, 0), (218, .getfield 53, 3, [], 11, 0), (221, .aload_n 0, 1, [], 0, 0), (222, .getfield 56, 3, [], 12, 0), (225, .iconst 0, 1, [], 0, 0), (226, .invokevirtual 69, 3, [], 9, 0), (229, .aload_n 0, 1, [], 0, 0), (230, .iconst 0, 1, [], 0, 0), (231, .putfield 73, 3, [], 14, 0), (234, .aload_n 0, 1, [], 0, 0), (235, .lconst 0, 1, [], 0, 0), (236, .putfield 77, 3, [], 15, 0), (239, .aload_n 0, 1, [], 0, 0), (240, .lconst 0, 1, [], 0, 0), (241, .putfield 80, 3, [], 16, 0), (244, .aload_n 0, 1, [], 0, 0), (245, .iconst 1, 1, [], 0, 0), (246, .putfield 83, 3, [], 17, 0), (249, .aload_n 0, 1, [], 0, 0), (250, .lconst 0, 1, [], 0, 0), (251, .putfield 87, 3, [], 18, 0), (254, .aload_n 0, 1, [], 0, 0), (255, .iconst 0, 1, [], 0, 0), (256, .putfield 90, 3, [], 19, 0), (259, .return_, 1, [], 0, 0)])
def d_2 : MD := (⟨"CurveLadder", "primeAt", "(I)J"⟩, prog_1_method_17_code, 2, some .long, 2, 1, 0, 0, 0, [(0, .iload_n 1, 1, [], 0, 0), (1, .ifCond .ne 7, 3, [], 0, 0), (4, .ldc2_w 136, 3, [], 0, 8191), (7, .lreturn, 1, [], 0, 0), (8, .iload_n 1, 1, [], 0, 0), (9, .iconst 1, 1, [], 0, 0), (10, .if_icmp .ne 7, 3, [], 0, 0), (13, .ldc2_w 138, 3, [], 0, 65521), (16, .lreturn, 1, [], 0, 0), (17, .iload_n 1, 1, [], 0, 0), (18, .iconst 2, 1, [], 0, 0), (19, .if_icmp .ne 7, 3, [], 0, 0), (22, .ldc2_w 140, 3, [], 0, 65537), (25, .lreturn, 1, [], 0, 0), (26, .iload_n 1, 1, [], 0, 0), (27, .iconst 3, 1, [], 0, 0), (28, .if_icmp .ne 7, 3, [], 0, 0), (31, .ldc2_w 142, 3, [], 0, 131071), (34, .lreturn, 1, [], 0, 0), (35, .iload_n 1, 1, [], 0, 0), (36, .iconst 4, 1, [], 0, 0), (37, .if_icmp .ne 7, 3, [], 0, 0), (40, .ldc2_w 144, 3, [], 0, 524287), (43, .lreturn, 1, [], 0, 0), (44, .iload_n 1, 1, [], 0, 0), (45, .iconst 5, 1, [], 0, 0), (46, .if_icmp .ne 7, 3, [], 0, 0), (49, .ldc2_w 146, 3, [], 0, 998244353), (52, .lreturn, 1, [], 0, 0), (53, .iload_n 1, 1, [], 0, 0), (54, .bipush 6, 2, [], 0, 0), (56, .if_icmp .ne 7, 3, [], 0, 0), (59, .ldc2_w 148, 3, [], 0, 1000000007), (62, .lreturn, 1, [], 0, 0), (63, .ldc2_w 150, 3, [], 0, 2147483647), (66, .lreturn, 1, [], 0, 0)])
def d_3 : MD := (⟨"CurveLadder", "clampField", "(I)J"⟩, prog_1_method_18_code, 4, some .long, 2, 1, 0, 0, 0, [(0, .iload_n 1, 1, [], 0, 0), (1, .i2l, 1, [], 0, 0), (2, .lstore_n 2, 1, [], 0, 0), (3, .lload_n 2, 1, [], 0, 0), (4, .lconst 0, 1, [], 0, 0), (5, .lcmp, 1, [], 0, 0), (6, .ifCond .ge 5, 3, [], 0, 0), (9, .lconst 0, 1, [], 0, 0), (10, .lreturn, 1, [], 0, 0), (11, .lload_n 2, 1, [], 0, 0), (12, .aload_n 0, 1, [], 0, 0), (13, .getfield 43, 3, [], 9, 0), (16, .lconst 1, 1, [], 0, 0), (17, .lsub, 1, [], 0, 0), (18, .lcmp, 1, [], 0, 0), (19, .ifCond .le 10, 3, [], 0, 0), (22, .aload_n 0, 1, [], 0, 0), (23, .getfield 43, 3, [], 9, 0), (26, .lconst 1, 1, [], 0, 0), (27, .lsub, 1, [], 0, 0), (28, .lreturn, 1, [], 0, 0), (29, .lload_n 2, 1, [], 0, 0), (30, .lreturn, 1, [], 0, 0)])
def d_4 : MD := (⟨"CurveLadder", "computeB", "()J"⟩, prog_1_method_19_code, 11, some .long, 2, 0, 0, 1, 18, [(0, .aload_n 0, 1, [], 0, 0), (1, .aload_n 0, 1, [], 0, 0), (2, .getfield 56, 3, [], 12, 0), (5, .aload_n 0, 1, [], 0, 0), (6, .getfield 56, 3, [], 12, 0), (9, .invokevirtual 152, 3, [], 5, 0), (12, .lstore_n 1, 1, [], 0, 0), (13, .aload_n 0, 1, [], 0, 0), (14, .aload_n 0, 1, [], 0, 0), (15, .getfield 53, 3, [], 11, 0), (18, .aload_n 0, 1, [], 0, 0), (19, .getfield 53, 3, [], 11, 0), (22, .invokevirtual 152, 3, [], 5, 0), (25, .lstore_n 3, 1, [], 0, 0), (26, .aload_n 0, 1, [], 0, 0), (27, .lload_n 3, 1, [], 0, 0), (28, .aload_n 0, 1, [], 0, 0), (29, .getfield 53, 3, [], 11, 0), (32, .invokevirtual 152, 3, [], 5, 0), (35, .lstore 5, 2, [], 0, 0), (37, .aload_n 0, 1, [], 0, 0), (38, .aload_n 0, 1, [], 0, 0), (39, .getfield 50, 3, [], 10, 0), (42, .aload_n 0, 1, [], 0, 0), (43, .getfield 53, 3, [], 11, 0), (46, .invokevirtual 152, 3, [], 5, 0), (49, .lstore 7, 2, [], 0, 0), (51, .aload_n 0, 1, [], 0, 0), (52, .lload_n 1, 1, [], 0, 0), (53, .lload 5, 2, [], 0, 0), (55, .invokevirtual 156, 3, [], 6, 0), (58, .lstore 9, 2, [], 0, 0), (60, .aload_n 0, 1, [], 0, 0), (61, .lload 9, 2, [], 0, 0), (63, .lload 7, 2, [], 0, 0), (65, .invokevirtual 156, 3, [], 6, 0), (68, .lreturn, 1, [], 0, 0)])
def d_5 : MD := (⟨"CurveLadder", "mulMod", "(JJ)J"⟩, prog_1_method_26_code, 5, some .long, 2, 2, 0, 0, 0, [(0, .lload_n 1, 1, [], 0, 0), (1, .lload_n 3, 1, [], 0, 0), (2, .lmul, 1, [], 0, 0), (3, .aload_n 0, 1, [], 0, 0), (4, .getfield 43, 3, [], 9, 0), (7, .lrem, 1, [], 0, 0), (8, .lreturn, 1, [], 0, 0)])
def d_6 : MD := (⟨"CurveLadder", "subMod", "(JJ)J"⟩, prog_1_method_28_code, 7, some .long, 2, 2, 0, 0, 0, [(0, .lload_n 1, 1, [], 0, 0), (1, .lload_n 3, 1, [], 0, 0), (2, .lsub, 1, [], 0, 0), (3, .lstore 5, 2, [], 0, 0), (5, .lload 5, 2, [], 0, 0), (7, .lconst 0, 1, [], 0, 0), (8, .lcmp, 1, [], 0, 0), (9, .ifCond .ge 12, 3, [], 0, 0), (12, .lload 5, 2, [], 0, 0), (14, .aload_n 0, 1, [], 0, 0), (15, .getfield 43, 3, [], 9, 0), (18, .ladd, 1, [], 0, 0), (19, .lstore 5, 2, [], 0, 0), (21, .lload 5, 2, [], 0, 0), (23, .lreturn, 1, [], 0, 0)])
def d_7 : MD := (⟨"CurveLadder", "discriminant", "()J"⟩, prog_1_method_20_code, 11, some .long, 2, 0, 0, 1, 18, [(0, .aload_n 0, 1, [], 0, 0), (1, .aload_n 0, 1, [], 0, 0), (2, .getfield 50, 3, [], 10, 0), (5, .aload_n 0, 1, [], 0, 0), (6, .getfield 50, 3, [], 10, 0), (9, .invokevirtual 152, 3, [], 5, 0), (12, .lstore_n 1, 1, [], 0, 0), (13, .aload_n 0, 1, [], 0, 0), (14, .lload_n 1, 1, [], 0, 0), (15, .aload_n 0, 1, [], 0, 0), (16, .getfield 50, 3, [], 10, 0), (19, .invokevirtual 152, 3, [], 5, 0), (22, .lstore_n 3, 1, [], 0, 0), (23, .aload_n 0, 1, [], 0, 0), (24, .ldc2_w 159, 3, [], 0, 4), (27, .lload_n 3, 1, [], 0, 0), (28, .invokevirtual 152, 3, [], 5, 0), (31, .lstore 5, 2, [], 0, 0), (33, .aload_n 0, 1, [], 0, 0), (34, .aload_n 0, 1, [], 0, 0), (35, .getfield 63, 3, [], 13, 0), (38, .aload_n 0, 1, [], 0, 0), (39, .getfield 63, 3, [], 13, 0), (42, .invokevirtual 152, 3, [], 5, 0), (45, .lstore 7, 2, [], 0, 0), (47, .aload_n 0, 1, [], 0, 0), (48, .ldc2_w 161, 3, [], 0, 27), (51, .lload 7, 2, [], 0, 0), (53, .invokevirtual 152, 3, [], 5, 0), (56, .lstore 9, 2, [], 0, 0), (58, .aload_n 0, 1, [], 0, 0), (59, .lload 5, 2, [], 0, 0), (61, .lload 9, 2, [], 0, 0), (63, .invokevirtual 163, 3, [], 8, 0), (66, .lreturn, 1, [], 0, 0)])
def d_8 : MD := (⟨"CurveLadder", "addMod", "(JJ)J"⟩, prog_1_method_27_code, 7, some .long, 2, 2, 0, 0, 0, [(0, .lload_n 1, 1, [], 0, 0), (1, .lload_n 3, 1, [], 0, 0), (2, .ladd, 1, [], 0, 0), (3, .lstore 5, 2, [], 0, 0), (5, .lload 5, 2, [], 0, 0), (7, .aload_n 0, 1, [], 0, 0), (8, .getfield 43, 3, [], 9, 0), (11, .lcmp, 1, [], 0, 0), (12, .ifCond .lt 12, 3, [], 0, 0), (15, .lload 5, 2, [], 0, 0), (17, .aload_n 0, 1, [], 0, 0), (18, .getfield 43, 3, [], 9, 0), (21, .lsub, 1, [], 0, 0), (22, .lstore 5, 2, [], 0, 0), (24, .lload 5, 2, [], 0, 0), (26, .lreturn, 1, [], 0, 0)])
def d_9 : MD := (⟨"CurveLadder", "setRegister", "(IJJZ)V"⟩, prog_1_method_24_code, 7, none, 2, 4, 0, 0, 0, [(0, .aload_n 0, 1, [], 0, 0), (1, .getfield 16, 3, [], 2, 0), (4, .iload_n 1, 1, [], 0, 0), (5, .iload 6, 2, [], 0, 0), (7, .bastore, 1, [], 0, 0), (8, .aload_n 0, 1, [], 0, 0), (9, .getfield 7, 3, [], 0, 0), (12, .iload_n 1, 1, [], 0, 0), (13, .iload 6, 2, [], 0, 0), (15, .ifCond .eq 7, 3, [], 0, 0), (18, .lconst 0, 1, [], 0, 0), (19, .goto 4, 3, [], 0, 0), (22, .lload_n 2, 1, [], 0, 0), (23, .lastore, 1, [false, false, true, true], 0, 0), (24, .aload_n 0, 1, [], 0, 0), (25, .getfield 13, 3, [], 1, 0), (28, .iload_n 1, 1, [], 0, 0), (29, .iload 6, 2, [], 0, 0), (31, .ifCond .eq 7, 3, [], 0, 0), (34, .lconst 0, 1, [], 0, 0), (35, .goto 5, 3, [], 0, 0), (38, .lload 4, 2, [], 0, 0), (40, .lastore, 1, [true, true, true, true, true, true, true], 0, 0), (41, .return_, 1, [], 0, 0)])
def d_10 : MD := (⟨"CurveLadder", "param", "(I)I"⟩, prog_1_method_2_code, 2, some .int, 3, 1, 0, 0, 0, [(0, .iload_n 1, 1, [], 0, 0), (1, .ifCond .ne 9, 3, [], 0, 0), (4, .aload_n 0, 1, [], 0, 0), (5, .getfield 43, 3, [], 9, 0), (8, .l2i, 1, [], 0, 0), (9, .ireturn, 1, [], 0, 0), (10, .iload_n 1, 1, [], 0, 0), (11, .iconst 1, 1, [], 0, 0), (12, .if_icmp .ne 9, 3, [], 0, 0), (15, .aload_n 0, 1, [], 0, 0), (16, .getfield 50, 3, [], 10, 0), (19, .l2i, 1, [], 0, 0), (20, .ireturn, 1, [], 0, 0), (21, .iload_n 1, 1, [], 0, 0), (22, .iconst 2, 1, [], 0, 0), (23, .if_icmp .ne 9, 3, [], 0, 0), (26, .aload_n 0, 1, [], 0, 0), (27, .getfield 63, 3, [], 13, 0), (30, .l2i, 1, [], 0, 0), (31, .ireturn, 1, [], 0, 0), (32, .iload_n 1, 1, [], 0, 0), (33, .iconst 3, 1, [], 0, 0), (34, .if_icmp .ne 9, 3, [], 0, 0), (37, .aload_n 0, 1, [], 0, 0), (38, .getfield 53, 3, [], 11, 0), (41, .l2i, 1, [], 0, 0), (42, .ireturn, 1, [], 0, 0), (43, .iload_n 1, 1, [], 0, 0), (44, .iconst 4, 1, [], 0, 0), (45, .if_icmp .ne 9, 3, [], 0, 0), (48, .aload_n 0, 1, [], 0, 0), (49, .getfield 56, 3, [], 12, 0), (52, .l2i, 1, [], 0, 0), (53, .ireturn, 1, [], 0, 0), (54, .iconst (-1), 1, [], 0, 0), (55, .ireturn, 1, [], 0, 0)])
def d_11 : MD := (⟨"CurveLadder", "load", "(III)Z"⟩, prog_1_method_3_code, 4, some .boolean, 3, 3, 0, 3, 60, [(0, .aload_n 0, 1, [], 0, 0), (1, .iload_n 1, 1, [], 0, 0), (2, .invokevirtual 93, 3, [], 12, 0), (5, .ifCond .ne 5, 3, [], 0, 0), (8, .iconst 0, 1, [], 0, 0), (9, .ireturn, 1, [], 0, 0), (10, .aload_n 0, 1, [], 0, 0), (11, .iload_n 2, 1, [], 0, 0), (12, .i2l, 1, [], 0, 0), (13, .invokevirtual 97, 3, [], 13, 0), (16, .ifCond .eq 12, 3, [], 0, 0), (19, .aload_n 0, 1, [], 0, 0), (20, .iload_n 3, 1, [], 0, 0), (21, .i2l, 1, [], 0, 0), (22, .invokevirtual 97, 3, [], 13, 0), (25, .ifCond .ne 5, 3, [], 0, 0), (28, .iconst 0, 1, [], 0, 0), (29, .ireturn, 1, [], 0, 0), (30, .aload_n 0, 1, [], 0, 0), (31, .iload_n 2, 1, [], 0, 0), (32, .i2l, 1, [], 0, 0), (33, .iload_n 3, 1, [], 0, 0), (34, .i2l, 1, [], 0, 0), (35, .invokevirtual 101, 3, [], 14, 0), (38, .ifCond .ne 5, 3, [], 0, 0), (41, .iconst 0, 1, [], 0, 0), (42, .ireturn, 1, [], 0, 0), (43, .aload_n 0, 1, [], 0, 0), (44, .iload_n 1, 1, [], 0, 0), (45, .iload_n 2, 1, [], 0, 0), (46, .i2l, 1, [], 0, 0), (47, .iload_n 3, 1, [], 0, 0), (48, .i2l, 1, [], 0, 0), (49, .iconst 0, 1, [], 0, 0), (50, .invokevirtual 69, 3, [], 9, 0), (53, .iconst 1, 1, [], 0, 0), (54, .ireturn, 1, [], 0, 0)])
def d_12 : MD := (⟨"CurveLadder", "validRegister", "(I)Z"⟩, prog_1_method_21_code, 2, some .boolean, 2, 1, 0, 0, 0, [(0, .iload_n 1, 1, [], 0, 0), (1, .ifCond .lt 13, 3, [], 0, 0), (4, .iload_n 1, 1, [], 0, 0), (5, .bipush 8, 2, [], 0, 0), (7, .if_icmp .ge 7, 3, [], 0, 0), (10, .iconst 1, 1, [], 0, 0), (11, .goto 4, 3, [], 0, 0), (14, .iconst 0, 1, [], 0, 0), (15, .ireturn, 1, [], 0, 0)])
def d_13 : MD := (⟨"CurveLadder", "inField", "(J)Z"⟩, prog_1_method_23_code, 3, some .boolean, 2, 1, 0, 0, 0, [(0, .lload_n 1, 1, [], 0, 0), (1, .lconst 0, 1, [], 0, 0), (2, .lcmp, 1, [], 0, 0), (3, .ifCond .lt 18, 3, [], 0, 0), (6, .lload_n 1, 1, [], 0, 0), (7, .aload_n 0, 1, [], 0, 0), (8, .getfield 43, 3, [], 9, 0), (11, .lconst 1, 1, [], 0, 0), (12, .lsub, 1, [], 0, 0), (13, .lcmp, 1, [], 0, 0), (14, .ifCond .gt 7, 3, [], 0, 0), (17, .iconst 1, 1, [], 0, 0), (18, .goto 4, 3, [], 0, 0), (21, .iconst 0, 1, [], 0, 0), (22, .ireturn, 1, [], 0, 0)])
def d_14 : MD := (⟨"CurveLadder", "onCurve", "(JJ)Z"⟩, prog_1_method_32_code, 7, some .boolean, 2, 2, 0, 2, 42, [(0, .aload_n 0, 1, [], 0, 0), (1, .lload_n 3, 1, [], 0, 0), (2, .lload_n 3, 1, [], 0, 0), (3, .invokevirtual 152, 3, [], 5, 0), (6, .lstore 5, 2, [], 0, 0), (8, .lload 5, 2, [], 0, 0), (10, .aload_n 0, 1, [], 0, 0), (11, .lload_n 1, 1, [], 0, 0), (12, .invokevirtual 171, 3, [], 15, 0), (15, .lcmp, 1, [], 0, 0), (16, .ifCond .ne 7, 3, [], 0, 0), (19, .iconst 1, 1, [], 0, 0), (20, .goto 4, 3, [], 0, 0), (23, .iconst 0, 1, [], 0, 0), (24, .ireturn, 1, [], 0, 0)])
def d_15 : MD := (⟨"CurveLadder", "curveRhs", "(J)J"⟩, prog_1_method_31_code, 11, some .long, 2, 1, 0, 1, 18, [(0, .aload_n 0, 1, [], 0, 0), (1, .lload_n 1, 1, [], 0, 0), (2, .lload_n 1, 1, [], 0, 0), (3, .invokevirtual 152, 3, [], 5, 0), (6, .lstore_n 3, 1, [], 0, 0), (7, .aload_n 0, 1, [], 0, 0), (8, .lload_n 3, 1, [], 0, 0), (9, .lload_n 1, 1, [], 0, 0), (10, .invokevirtual 152, 3, [], 5, 0), (13, .lstore 5, 2, [], 0, 0), (15, .aload_n 0, 1, [], 0, 0), (16, .aload_n 0, 1, [], 0, 0), (17, .getfield 50, 3, [], 10, 0), (20, .lload_n 1, 1, [], 0, 0), (21, .invokevirtual 152, 3, [], 5, 0), (24, .lstore 7, 2, [], 0, 0), (26, .aload_n 0, 1, [], 0, 0), (27, .lload 5, 2, [], 0, 0), (29, .lload 7, 2, [], 0, 0), (31, .invokevirtual 163, 3, [], 8, 0), (34, .lstore 9, 2, [], 0, 0), (36, .aload_n 0, 1, [], 0, 0), (37, .lload 9, 2, [], 0, 0), (39, .aload_n 0, 1, [], 0, 0), (40, .getfield 63, 3, [], 13, 0), (43, .invokevirtual 163, 3, [], 8, 0), (46, .lreturn, 1, [], 0, 0)])
def d_16 : MD := (⟨"CurveLadder", "coord", "(II)I"⟩, prog_1_method_7_code, 3, some .int, 3, 2, 0, 1, 13, [(0, .aload_n 0, 1, [], 0, 0), (1, .iload_n 1, 1, [], 0, 0), (2, .invokevirtual 93, 3, [], 12, 0), (5, .ifCond .ne 5, 3, [], 0, 0), (8, .iconst (-1), 1, [], 0, 0), (9, .ireturn, 1, [], 0, 0), (10, .iload_n 2, 1, [], 0, 0), (11, .ifCond .ne 24, 3, [], 0, 0), (14, .aload_n 0, 1, [], 0, 0), (15, .getfield 16, 3, [], 2, 0), (18, .iload_n 1, 1, [], 0, 0), (19, .baload, 1, [], 0, 0), (20, .ifCond .eq 7, 3, [], 0, 0), (23, .iconst 0, 1, [], 0, 0), (24, .goto 10, 3, [], 0, 0), (27, .aload_n 0, 1, [], 0, 0), (28, .getfield 7, 3, [], 0, 0), (31, .iload_n 1, 1, [], 0, 0), (32, .laload, 1, [], 0, 0), (33, .l2i, 1, [], 0, 0), (34, .ireturn, 1, [], 0, 0), (35, .iload_n 2, 1, [], 0, 0), (36, .iconst 1, 1, [], 0, 0), (37, .if_icmp .ne 24, 3, [], 0, 0), (40, .aload_n 0, 1, [], 0, 0), (41, .getfield 16, 3, [], 2, 0), (44, .iload_n 1, 1, [], 0, 0), (45, .baload, 1, [], 0, 0), (46, .ifCond .eq 7, 3, [], 0, 0), (49, .iconst 0, 1, [], 0, 0), (50, .goto 10, 3, [], 0, 0), (53, .aload_n 0, 1, [], 0, 0), (54, .getfield 13, 3, [], 1, 0), (57, .iload_n 1, 1, [], 0, 0), (58, .laload, 1, [], 0, 0), (59, .l2i, 1, [], 0, 0), (60, .ireturn, 1, [], 0, 0), (61, .iload_n 2, 1, [], 0, 0), (62, .iconst 2, 1, [], 0, 0), (63, .if_icmp .ne 18, 3, [], 0, 0), (66, .aload_n 0, 1, [], 0, 0), (67, .getfield 16, 3, [], 2, 0), (70, .iload_n 1, 1, [], 0, 0), (71, .baload, 1, [], 0, 0), (72, .ifCond .eq 7, 3, [], 0, 0), (75, .iconst 1, 1, [], 0, 0), (76, .goto 4, 3, [], 0, 0), (79, .iconst 0, 1, [], 0, 0), (80, .ireturn, 1, [], 0, 0), (81, .iconst (-1), 1, [], 0, 0), (82, .ireturn, 1, [], 0, 0)])
def own_P : PD := ([("CurveLadder", 23, [("regX", "[J", (.array .long), false), ("regY", "[J", (.array .long), false), ("regInf", "[Z", (.array .boolean), false), ("privKey", "[J", (.array .long), false), ("hasKey", "[Z", (.array .boolean), false), ("pubX", "[J", (.array .long), false), ("pubY", "[J", (.array .long), false), ("pubInf", "[Z", (.array .boolean), false), ("msg", "[I", (.array .int), false), ("p", "J", .long, false), ("a", "J", .long, false), ("gx", "J", .long, false), ("gy", "J", .long, false), ("b", "J", .long, false), ("msgLen", "I", .int, false), ("sigX", "J", .long, false), ("sigY", "J", .long, false), ("sigInf", "Z", .boolean, false), ("sigS", "J", .long, false), ("sigE", "I", .int, false)])], [d_0, d_1, d_2, d_3, d_4, d_5, d_6, d_7, d_8, d_9, d_10, d_11, d_12, d_13, d_14, d_15, d_16], 0)
theorem hm_0 : own_P.mth[0]? = some d_0 := rfl
theorem hm_1 : own_P.mth[1]? = some d_1 := rfl
theorem hm_2 : own_P.mth[2]? = some d_2 := rfl
theorem hm_3 : own_P.mth[3]? = some d_3 := rfl
theorem hm_4 : own_P.mth[4]? = some d_4 := rfl
theorem hm_5 : own_P.mth[5]? = some d_5 := rfl
theorem hm_6 : own_P.mth[6]? = some d_6 := rfl
theorem hm_7 : own_P.mth[7]? = some d_7 := rfl
theorem hm_8 : own_P.mth[8]? = some d_8 := rfl
theorem hm_9 : own_P.mth[9]? = some d_9 := rfl
theorem hm_10 : own_P.mth[10]? = some d_10 := rfl
theorem hm_11 : own_P.mth[11]? = some d_11 := rfl
theorem hm_12 : own_P.mth[12]? = some d_12 := rfl
theorem hm_13 : own_P.mth[13]? = some d_13 := rfl
theorem hm_14 : own_P.mth[14]? = some d_14 := rfl
theorem hm_15 : own_P.mth[15]? = some d_15 := rfl
theorem hm_16 : own_P.mth[16]? = some d_16 := rfl
set_option maxRecDepth 100000 in
theorem own_chk : chk own_P = true := by decide +kernel
def own_ix : List Nat := [1, 2, 11, 13, 16, 18, 20, 22, 24, 26, 29, 36, 42, 44, 46, 60, 76, 78, 80, 82, 84, 86, 5, 2, 4, 33, 2, 31, 32, 40, 2, 38, 39, 50, 2, 48, 49, 54, 2, 52, 53, 58, 2, 56, 57, 64, 2, 62, 63, 70, 2, 68, 69, 74, 2, 72, 73, 91, 2, 88, 90, 89, 96, 2, 93, 95, 94, 100, 2, 98, 99, 104, 2, 102, 103, 108, 2, 106, 107, 112, 2, 110, 111, 118, 2, 115, 117, 116, 0, 3, 87, 87, 87, 87, 87, 92, 113, 113, 113, 114, 114, 114, 6, 7, 8, 9, 10, 9, 12, 14, 15, 9, 17, 14, 19, 9, 21, 9, 23, 14, 25, 27, 28, 30, 35, 37, 41, 37, 43, 37, 45, 47, 59, 61, 41, 35, 41, 47, 59, 71, 43, 45, 71, 75, 77, 79, 81, 83, 85, 34, 123, 122, 121, 119, 124, 125, 120, 35, 35, 45, 45, 51, 43, 43, 51, 43, 51, 41, 43, 51, 55, 55, 35, 35, 41, 41, 51, 41, 51, 65, 51, 59, 59, 51, 66, 51, 67, 35, 35, 15, 10, 12, 35, 41, 59, 43, 45, 97, 101, 101, 105, 71, 35, 51, 109, 51, 51, 41, 51, 67, 59, 67, 97, 15, 10, 15, 12, 15]
set_option maxRecDepth 100000 in
theorem own_words : (wordsOf own_P).map some = own_ix.map fun k => tables_1[k]? := rfl
theorem own_in : ∀ d ∈ wordsOf own_P, d ∈ tables_1 := fun d hd => by
  have h1 : some d ∈ (wordsOf own_P).map some := List.mem_map.mpr ⟨d, hd, rfl⟩
  rw [own_words] at h1
  obtain ⟨k, -, hk⟩ := List.mem_map.mp h1
  exact List.mem_of_getElem? hk
abbrev bk0 (s_regX : List Int64) (s_regY : List Int64) (s_regInf : List Int32) (s_privKey : List Int64) (s_hasKey : List Int32) (s_pubX : List Int64) (s_pubY : List Int64) (s_pubInf : List Int32) (s_msg : List Int32) (s_p : Int64) (s_a : Int64) (s_gx : Int64) (s_gy : Int64) (s_b : Int64) (s_msgLen : Int32) (s_sigX : Int64) (s_sigY : Int64) (s_sigInf : Int32) (s_sigS : Int64) (s_sigE : Int32) (po : List ACell) : List ACell := .inl (0, [.ref 1, .ref 2, .ref 3, .ref 4, .ref 5, .ref 6, .ref 7, .ref 8, .ref 9, .long s_p, .long s_a, .long s_gx, .long s_gy, .long s_b, .int s_msgLen, .long s_sigX, .long s_sigY, .int s_sigInf, .long s_sigS, .int s_sigE]) :: .inr (.inr s_regX) :: .inr (.inr s_regY) :: .inr (.inl (true, s_regInf)) :: .inr (.inr s_privKey) :: .inr (.inl (true, s_hasKey)) :: .inr (.inr s_pubX) :: .inr (.inr s_pubY) :: .inr (.inl (true, s_pubInf)) :: .inr (.inl (false, s_msg)) :: po
def f_primeAt (v1 : Int32) : Option (Int64) :=
  some (if v1 = (0 : Int32) then (8191 : Int64) else (if v1 = (1 : Int32) then (65521 : Int64) else (if v1 = (2 : Int32) then (65537 : Int64) else (if v1 = (3 : Int32) then (131071 : Int64) else (if v1 = (4 : Int32) then (524287 : Int64) else (if v1 = (5 : Int32) then (998244353 : Int64) else (if v1 = (6 : Int32) then (1000000007 : Int64) else (2147483647 : Int64))))))))
def f_clampField (o_p : Int64) (v1 : Int32) : Option (Int64) :=
  some (if v1.toInt64 < (0 : Int64) then (0 : Int64) else (if (o_p - (1 : Int64)) < v1.toInt64 then (o_p - (1 : Int64)) else v1.toInt64))
def f_mulMod (o_p : Int64) (v1 : Int64) (v3 : Int64) : Option (Int64) :=
  if o_p = 0 then none else
  some ((v1 * v3) % o_p)
def f_subMod (o_p : Int64) (v1 : Int64) (v3 : Int64) : Option (Int64) :=
  some (if (v1 - v3) < (0 : Int64) then ((v1 - v3) + o_p) else (v1 - v3))
def f_computeB (o_p : Int64) (o_a : Int64) (o_gx : Int64) (o_gy : Int64) : Option (Int64) :=
  (f_mulMod o_p o_gy o_gy).bind fun r1 =>
  (f_mulMod o_p o_gx o_gx).bind fun r2 =>
  (f_mulMod o_p r2 o_gx).bind fun r3 =>
  (f_mulMod o_p o_a o_gx).bind fun r4 =>
  (f_subMod o_p r1 r3).bind fun r5 =>
  (f_subMod o_p r5 r4).bind fun r6 =>
  some r6
def f_addMod (o_p : Int64) (v1 : Int64) (v3 : Int64) : Option (Int64) :=
  some (if (v1 + v3) < o_p then (v1 + v3) else ((v1 + v3) - o_p))
def f_discriminant (o_p : Int64) (o_a : Int64) (o_b : Int64) : Option (Int64) :=
  (f_mulMod o_p o_a o_a).bind fun r7 =>
  (f_mulMod o_p r7 o_a).bind fun r8 =>
  (f_mulMod o_p (4 : Int64) r8).bind fun r9 =>
  (f_mulMod o_p o_b o_b).bind fun r10 =>
  (f_mulMod o_p (27 : Int64) r10).bind fun r11 =>
  (f_addMod o_p r9 r11).bind fun r12 =>
  some r12
def f_setRegister_40 (o_regX : List Int64) (o_regY : List Int64) (o_regInf : List Int32) (t0 : Int64) (t1 : Int32) : Option (List Int64 × List Int64 × List Int32) :=
  (wrA o_regY t1 t0).bind fun A15 =>
  some (o_regX, A15, o_regInf)
def f_setRegister_23 (o_regX : List Int64) (o_regY : List Int64) (o_regInf : List Int32) (v1 : Int32) (v4 : Int64) (v6 : Int32) (t0 : Int64) (t1 : Int32) : Option (List Int64 × List Int64 × List Int32) :=
  (wrA o_regX t1 t0).bind fun A14 =>
  f_setRegister_40 A14 o_regY o_regInf (if v6 = (0 : Int32) then v4 else (0 : Int64)) v1
def f_setRegister (o_regX : List Int64) (o_regY : List Int64) (o_regInf : List Int32) (v1 : Int32) (v2 : Int64) (v4 : Int64) (v6 : Int32) : Option (List Int64 × List Int64 × List Int32) :=
  (wrA o_regInf v1 (v6 &&& 1)).bind fun A13 =>
  f_setRegister_23 o_regX o_regY A13 v1 v4 v6 (if v6 = (0 : Int32) then v2 else (0 : Int64)) v1
def f_init_215 (o_regX : List Int64) (o_regY : List Int64) (o_regInf : List Int32) (o_privKey : List Int64) (o_hasKey : List Int32) (o_pubX : List Int64) (o_pubY : List Int64) (o_pubInf : List Int32) (o_msg : List Int32) (o_p : Int64) (o_a : Int64) (o_gx : Int64) (o_gy : Int64) (o_b : Int64) (o_msgLen : Int32) (o_sigX : Int64) (o_sigY : Int64) (o_sigInf : Int32) (o_sigS : Int64) (o_sigE : Int32) : Option (List Int64 × List Int64 × List Int32 × List Int64 × List Int32 × List Int64 × List Int64 × List Int32 × List Int32 × Int64 × Int64 × Int64 × Int64 × Int64 × Int32 × Int64 × Int64 × Int32 × Int64 × Int32) :=
  (f_setRegister o_regX o_regY o_regInf (0 : Int32) o_gx o_gy (0 : Int32)).bind fun (s26, s27, s28) =>
  some (s26, s27, s28, o_privKey, o_hasKey, o_pubX, o_pubY, o_pubInf, o_msg, o_p, o_a, o_gx, o_gy, o_b, (0 : Int32), (0 : Int64), (0 : Int64), (1 : Int32), (0 : Int64), (0 : Int32))
def f_init_193 (k215 : List Int64 → List Int64 → List Int32 → List Int64 → List Int32 → List Int64 → List Int64 → List Int32 → List Int32 → Int64 → Int64 → Int64 → Int64 → Int64 → Int32 → Int64 → Int64 → Int32 → Int64 → Int32 → Option (List Int64 × List Int64 × List Int32 × List Int64 × List Int32 × List Int64 × List Int64 × List Int32 × List Int32 × Int64 × Int64 × Int64 × Int64 × Int64 × Int32 × Int64 × Int64 × Int32 × Int64 × Int32)) : Nat → List Int64 → List Int64 → List Int32 → List Int64 → List Int32 → List Int64 → List Int64 → List Int32 → List Int32 → Int64 → Int64 → Int64 → Int64 → Int64 → Int32 → Int64 → Int64 → Int32 → Int64 → Int32 → Int32 → Option (List Int64 × List Int64 × List Int32 × List Int64 × List Int32 × List Int64 × List Int64 × List Int32 × List Int32 × Int64 × Int64 × Int64 × Int64 × Int64 × Int32 × Int64 × Int64 × Int32 × Int64 × Int32)
  | 0, _, _, _, _, _, _, _, _, _, _, _, _, _, _, _, _, _, _, _, _, _ => none
  | n + 1, o_regX, o_regY, o_regInf, o_privKey, o_hasKey, o_pubX, o_pubY, o_pubInf, o_msg, o_p, o_a, o_gx, o_gy, o_b, o_msgLen, o_sigX, o_sigY, o_sigInf, o_sigS, o_sigE, v6 =>
    if v6 < (8 : Int32) then
      (f_setRegister o_regX o_regY o_regInf v6 (0 : Int64) (0 : Int64) (1 : Int32)).bind fun (s23, s24, s25) =>
      f_init_193 k215 n s23 s24 s25 o_privKey o_hasKey o_pubX o_pubY o_pubInf o_msg o_p o_a o_gx o_gy o_b o_msgLen o_sigX o_sigY o_sigInf o_sigS o_sigE (v6 + (1 : Int32))
    else
      k215 o_regX o_regY o_regInf o_privKey o_hasKey o_pubX o_pubY o_pubInf o_msg o_p o_a o_gx o_gy o_b o_msgLen o_sigX o_sigY o_sigInf o_sigS o_sigE
def f_init_142 (k193 : List Int64 → List Int64 → List Int32 → List Int64 → List Int32 → List Int64 → List Int64 → List Int32 → List Int32 → Int64 → Int64 → Int64 → Int64 → Int64 → Int32 → Int64 → Int64 → Int32 → Int64 → Int32 → Int32 → Option (List Int64 × List Int64 × List Int32 × List Int64 × List Int32 × List Int64 × List Int64 × List Int32 × List Int32 × Int64 × Int64 × Int64 × Int64 × Int64 × Int32 × Int64 × Int64 × Int32 × Int64 × Int32)) : Nat → List Int64 → List Int64 → List Int32 → List Int64 → List Int32 → List Int64 → List Int64 → List Int32 → List Int32 → Int64 → Int64 → Int64 → Int64 → Int64 → Int32 → Int64 → Int64 → Int32 → Int64 → Int32 → Int32 → Option (List Int64 × List Int64 × List Int32 × List Int64 × List Int32 × List Int64 × List Int64 × List Int32 × List Int32 × Int64 × Int64 × Int64 × Int64 × Int64 × Int32 × Int64 × Int64 × Int32 × Int64 × Int32)
  | 0, _, _, _, _, _, _, _, _, _, _, _, _, _, _, _, _, _, _, _, _, _ => none
  | n + 1, o_regX, o_regY, o_regInf, o_privKey, o_hasKey, o_pubX, o_pubY, o_pubInf, o_msg, o_p, o_a, o_gx, o_gy, o_b, o_msgLen, o_sigX, o_sigY, o_sigInf, o_sigS, o_sigE, v6 =>
    if v6 < (8 : Int32) then
      (f_discriminant o_p o_a o_b).bind fun r21 =>
      if r21 = (0 : Int64) then
        if o_p = 0 then none else
        (f_computeB o_p ((o_a + (1 : Int64)) % o_p) o_gx o_gy).bind fun r22 =>
        f_init_142 k193 n o_regX o_regY o_regInf o_privKey o_hasKey o_pubX o_pubY o_pubInf o_msg o_p ((o_a + (1 : Int64)) % o_p) o_gx o_gy r22 o_msgLen o_sigX o_sigY o_sigInf o_sigS o_sigE (v6 + (1 : Int32))
      else
        k193 o_regX o_regY o_regInf o_privKey o_hasKey o_pubX o_pubY o_pubInf o_msg o_p o_a o_gx o_gy o_b o_msgLen o_sigX o_sigY o_sigInf o_sigS o_sigE (0 : Int32)
    else
      k193 o_regX o_regY o_regInf o_privKey o_hasKey o_pubX o_pubY o_pubInf o_msg o_p o_a o_gx o_gy o_b o_msgLen o_sigX o_sigY o_sigInf o_sigS o_sigE (0 : Int32)
def f_init_93 (o_regX : List Int64) (o_regY : List Int64) (o_regInf : List Int32) (o_privKey : List Int64) (o_hasKey : List Int32) (o_pubX : List Int64) (o_pubY : List Int64) (o_pubInf : List Int32) (o_msg : List Int32) (o_p : Int64) (o_a : Int64) (o_gx : Int64) (o_gy : Int64) (o_b : Int64) (o_msgLen : Int32) (o_sigX : Int64) (o_sigY : Int64) (o_sigInf : Int32) (o_sigS : Int64) (o_sigE : Int32) (v2 : Int32) (v3 : Int32) (v4 : Int32) (v5 : Int32) : Option (List Int64 × List Int64 × List Int32 × List Int64 × List Int32 × List Int64 × List Int64 × List Int32 × List Int32 × Int64 × Int64 × Int64 × Int64 × Int64 × Int32 × Int64 × Int64 × Int32 × Int64 × Int32) :=
  (f_primeAt v5).bind fun r16 =>
  (f_clampField r16 v2).bind fun r17 =>
  (f_clampField r16 v3).bind fun r18 =>
  (f_clampField r16 v4).bind fun r19 =>
  (f_computeB r16 r17 r18 r19).bind fun r20 =>
  f_init_142 (f_init_193 f_init_215 100000) 100000 o_regX o_regY o_regInf o_privKey o_hasKey o_pubX o_pubY o_pubInf o_msg r16 r17 r18 r19 r20 o_msgLen o_sigX o_sigY o_sigInf o_sigS o_sigE (0 : Int32)
def f_init_82 (o_regX : List Int64) (o_regY : List Int64) (o_regInf : List Int32) (o_privKey : List Int64) (o_hasKey : List Int32) (o_pubX : List Int64) (o_pubY : List Int64) (o_pubInf : List Int32) (o_msg : List Int32) (o_p : Int64) (o_a : Int64) (o_gx : Int64) (o_gy : Int64) (o_b : Int64) (o_msgLen : Int32) (o_sigX : Int64) (o_sigY : Int64) (o_sigInf : Int32) (o_sigS : Int64) (o_sigE : Int32) (v2 : Int32) (v3 : Int32) (v4 : Int32) (v5 : Int32) : Option (List Int64 × List Int64 × List Int32 × List Int64 × List Int32 × List Int64 × List Int64 × List Int32 × List Int32 × Int64 × Int64 × Int64 × Int64 × Int64 × Int32 × Int64 × Int64 × Int32 × Int64 × Int32) :=
  f_init_93 o_regX o_regY o_regInf o_privKey o_hasKey o_pubX o_pubY o_pubInf o_msg o_p o_a o_gx o_gy o_b o_msgLen o_sigX o_sigY o_sigInf o_sigS o_sigE v2 v3 v4 (if (7 : Int32) < v5 then (7 : Int32) else v5)
def f_init (v1 : Int32) (v2 : Int32) (v3 : Int32) (v4 : Int32) : Option (List Int64 × List Int64 × List Int32 × List Int64 × List Int32 × List Int64 × List Int64 × List Int32 × List Int32 × Int64 × Int64 × Int64 × Int64 × Int64 × Int32 × Int64 × Int64 × Int32 × Int64 × Int32) :=
  f_init_82 (List.replicate 8 0) (List.replicate 8 0) (List.replicate 8 0) (List.replicate 4 0) (List.replicate 4 0) (List.replicate 4 0) (List.replicate 4 0) (List.replicate 4 0) (List.replicate 64 0) (0 : Int64) (0 : Int64) (0 : Int64) (0 : Int64) (0 : Int64) (0 : Int32) (0 : Int64) (0 : Int64) (0 : Int32) (0 : Int64) (0 : Int32) v2 v3 v4 (if v1 < (0 : Int32) then (0 : Int32) else v1)
def f_param (o_p : Int64) (o_a : Int64) (o_gx : Int64) (o_gy : Int64) (o_b : Int64) (v1 : Int32) : Option (Int32) :=
  some (if v1 = (0 : Int32) then o_p.toInt32 else (if v1 = (1 : Int32) then o_a.toInt32 else (if v1 = (2 : Int32) then o_b.toInt32 else (if v1 = (3 : Int32) then o_gx.toInt32 else (if v1 = (4 : Int32) then o_gy.toInt32 else (-1 : Int32))))))
def f_validRegister (v1 : Int32) : Option (Int32) :=
  some (if v1 < (0 : Int32) then (0 : Int32) else (if v1 < (8 : Int32) then (1 : Int32) else (0 : Int32)))
def f_inField (o_p : Int64) (v1 : Int64) : Option (Int32) :=
  some (if v1 < (0 : Int64) then (0 : Int32) else (if (o_p - (1 : Int64)) < v1 then (0 : Int32) else (1 : Int32)))
def f_curveRhs (o_p : Int64) (o_a : Int64) (o_b : Int64) (v1 : Int64) : Option (Int64) :=
  (f_mulMod o_p v1 v1).bind fun r29 =>
  (f_mulMod o_p r29 v1).bind fun r30 =>
  (f_mulMod o_p o_a v1).bind fun r31 =>
  (f_addMod o_p r30 r31).bind fun r32 =>
  (f_addMod o_p r32 o_b).bind fun r33 =>
  some r33
def f_onCurve (o_p : Int64) (o_a : Int64) (o_b : Int64) (v1 : Int64) (v3 : Int64) : Option (Int32) :=
  (f_mulMod o_p v3 v3).bind fun r34 =>
  (f_curveRhs o_p o_a o_b v1).bind fun r35 =>
  some (if r34 = r35 then (1 : Int32) else (0 : Int32))
def f_load (o_p : Int64) (o_a : Int64) (o_b : Int64) (o_regX : List Int64) (o_regY : List Int64) (o_regInf : List Int32) (v1 : Int32) (v2 : Int32) (v3 : Int32) : Option (Int32 × List Int64 × List Int64 × List Int32) :=
  (f_validRegister v1).bind fun r36 =>
  if r36 = (0 : Int32) then
    some ((0 : Int32), o_regX, o_regY, o_regInf)
  else
    (f_inField o_p v2.toInt64).bind fun r37 =>
    if r37 = (0 : Int32) then
      some ((0 : Int32), o_regX, o_regY, o_regInf)
    else
      (f_inField o_p v3.toInt64).bind fun r38 =>
      if r38 = (0 : Int32) then
        some ((0 : Int32), o_regX, o_regY, o_regInf)
      else
        (f_onCurve o_p o_a o_b v2.toInt64 v3.toInt64).bind fun r39 =>
        if r39 = (0 : Int32) then
          some ((0 : Int32), o_regX, o_regY, o_regInf)
        else
          (f_setRegister o_regX o_regY o_regInf v1 v2.toInt64 v3.toInt64 (0 : Int32)).bind fun (s40, s41, s42) =>
          some ((1 : Int32), s40, s41, s42)
def f_coord (o_regX : List Int64) (o_regY : List Int64) (o_regInf : List Int32) (v1 : Int32) (v2 : Int32) : Option (Int32) :=
  (f_validRegister v1).bind fun r43 =>
  if r43 = (0 : Int32) then
    some (-1 : Int32)
  else
    if v2 = (0 : Int32) then
      (rdA o_regInf v1).bind fun x47 =>
      if x47 = (0 : Int32) then
        (rdA o_regX v1).bind fun x48 =>
        some x48.toInt32
      else
        some (0 : Int32)
    else
      if v2 = (1 : Int32) then
        (rdA o_regInf v1).bind fun x45 =>
        if x45 = (0 : Int32) then
          (rdA o_regY v1).bind fun x46 =>
          some x46.toInt32
        else
          some (0 : Int32)
      else
        if v2 = (2 : Int32) then
          (rdA o_regInf v1).bind fun x44 =>
          some (if x44 = (0 : Int32) then (0 : Int32) else (1 : Int32))
        else
          some (-1 : Int32)
def f_L_law_284 (n0_regX : List Int64) (n0_regY : List Int64) (n0_regInf : List Int32) (v3 : Int32) (v19 : Int64) (v21 : Int64) (v23 : Int64) : Option (Int32) :=
  (f_coord n0_regX n0_regY n0_regInf v3 (0 : Int32)).bind fun r78 =>
  if r78.toInt64 = v19 then
    (f_coord n0_regX n0_regY n0_regInf v3 (1 : Int32)).bind fun r79 =>
    if r79.toInt64 = v21 then
      (f_coord n0_regX n0_regY n0_regInf v3 (2 : Int32)).bind fun r80 =>
      some (if r80.toInt64 = v23 then (1 : Int32) else (0 : Int32))
    else
      some (0 : Int32)
  else
    some (0 : Int32)
def f_L_law_189 (n0_regX : List Int64) (n0_regY : List Int64) (n0_regInf : List Int32) (n0_p : Int64) (n0_a : Int64) (n0_b : Int64) (v3 : Int32) (v4 : Int32) (v5 : Int32) (v13 : Int64) (v15 : Int64) (v17 : Int32) : Option (Int32) :=
  (f_load n0_p n0_a n0_b n0_regX n0_regY n0_regInf v3 v4 v5).bind fun (r74, s75, s76, s77) =>
  if r74 = v17 then
    f_L_law_284 s75 s76 s77 v3 (if v17 = (0 : Int32) then (if v3 = (0 : Int32) then v13 else (if v3 < (1 : Int32) then (-1 : Int64) else (if (7 : Int32) < v3 then (-1 : Int64) else (0 : Int64)))) else v4.toInt64) (if v17 = (0 : Int32) then (if v3 = (0 : Int32) then v15 else (if v3 < (1 : Int32) then (-1 : Int64) else (if (7 : Int32) < v3 then (-1 : Int64) else (0 : Int64)))) else v5.toInt64) (if v17 = (0 : Int32) then (if v3 = (0 : Int32) then (0 : Int64) else (if v3 < (1 : Int32) then (-1 : Int64) else (if (7 : Int32) < v3 then (-1 : Int64) else (1 : Int64)))) else (0 : Int64))
  else
    some (0 : Int32)
def f_L_law_105 (n0_regX : List Int64) (n0_regY : List Int64) (n0_regInf : List Int32) (n0_p : Int64) (n0_a : Int64) (n0_b : Int64) (v3 : Int32) (v4 : Int32) (v5 : Int32) (v7 : Int64) (v9 : Int64) (v11 : Int64) (v13 : Int64) (v15 : Int64) (t0 : Int32) : Option (Int32) :=
  if t0 = (0 : Int32) then
    f_L_law_189 n0_regX n0_regY n0_regInf n0_p n0_a n0_b v3 v4 v5 v13 v15 t0
  else
    if v7 = 0 then none else
    if v7 = 0 then none else
    if v7 = 0 then none else
    if v7 = 0 then none else
    if v7 = 0 then none else
    if v7 = 0 then none else
    f_L_law_189 n0_regX n0_regY n0_regInf n0_p n0_a n0_b v3 v4 v5 v13 v15 (if ((v5.toInt64 * v5.toInt64) % v7) = ((((((((v4.toInt64 * v4.toInt64) % v7) * v4.toInt64) % v7) + ((v9 * v4.toInt64) % v7)) % v7) + v11) % v7) then (1 : Int32) else (0 : Int32))
def f_L_law (v0 : Int32) (v1 : Int32) (v2 : Int32) (v3 : Int32) (v4 : Int32) (v5 : Int32) : Option (Int32) :=
  (f_init v0 (0 : Int32) v1 v2).bind fun (s49, s50, s51, s52, s53, s54, s55, s56, s57, s58, s59, s60, s61, s62, s63, s64, s65, s66, s67, s68) =>
  (f_param s58 s59 s60 s61 s62 (0 : Int32)).bind fun r69 =>
  (f_param s58 s59 s60 s61 s62 (1 : Int32)).bind fun r70 =>
  (f_param s58 s59 s60 s61 s62 (2 : Int32)).bind fun r71 =>
  (f_param s58 s59 s60 s61 s62 (3 : Int32)).bind fun r72 =>
  (f_param s58 s59 s60 s61 s62 (4 : Int32)).bind fun r73 =>
  f_L_law_105 s49 s50 s51 s58 s59 s62 v3 v4 v5 r69.toInt64 r70.toInt64 r71.toInt64 r72.toInt64 r73.toInt64 (if v3 < (0 : Int32) then (0 : Int32) else (if (7 : Int32) < v3 then (0 : Int32) else (if v4 < (0 : Int32) then (0 : Int32) else (if (r69.toInt64 - (1 : Int64)) < v4.toInt64 then (0 : Int32) else (if v5 < (0 : Int32) then (0 : Int32) else (if (r69.toInt64 - (1 : Int64)) < v5.toInt64 then (0 : Int32) else (1 : Int32)))))))
set_option maxHeartbeats 4000000
set_option maxRecDepth 10000
theorem ok_primeAt {o_regX : List Int64} {o_regY : List Int64} {o_regInf : List Int32} {o_privKey : List Int64} {o_hasKey : List Int32} {o_pubX : List Int64} {o_pubY : List Int64} {o_pubInf : List Int32} {o_msg : List Int32} {o_p : Int64} {o_a : Int64} {o_gx : Int64} {o_gy : Int64} {o_b : Int64} {o_msgLen : Int32} {o_sigX : Int64} {o_sigY : Int64} {o_sigInf : Int32} {o_sigS : Int64} {o_sigE : Int32} {po : List ACell} {v1 : Int32} {res : Int64} (h : f_primeAt v1 = some res) : OEnds own_P 2 0 [.val (.ref 0), .val (.int v1)] [] (bk0 o_regX o_regY o_regInf o_privKey o_hasKey o_pubX o_pubY o_pubInf o_msg o_p o_a o_gx o_gy o_b o_msgLen o_sigX o_sigY o_sigInf o_sigS o_sigE po) (some (.long res), (bk0 o_regX o_regY o_regInf o_privKey o_hasKey o_pubX o_pubY o_pubInf o_msg o_p o_a o_gx o_gy o_b o_msgLen o_sigX o_sigY o_sigInf o_sigS o_sigE po), 0, 0) := by
  unfold f_primeAt at h
  refine OEnds.adv hm_2 1 (pc' := 1) (L' := [.val (.ref 0), .val (.int v1)]) (S' := [.int v1]) (H' := (bk0 o_regX o_regY o_regInf o_privKey o_hasKey o_pubX o_pubY o_pubInf o_msg o_p o_a o_gx o_gy o_b o_msgLen o_sigX o_sigY o_sigInf o_sigS o_sigE po)) rfl ?_
  by_cases hc1 : v1 = (0 : Int32)
  · simp only [if_pos hc1] at h
    refine OEnds.ifF hm_2 rfl ((teq hc1).2) ?_
    refine OEnds.adv hm_2 1 (pc' := 7) (L' := [.val (.ref 0), .val (.int v1)]) (S' := [.long 8191]) (H' := (bk0 o_regX o_regY o_regInf o_privKey o_hasKey o_pubX o_pubY o_pubInf o_msg o_p o_a o_gx o_gy o_b o_msgLen o_sigX o_sigY o_sigInf o_sigS o_sigE po)) rfl ?_
    cases h
    exact OEnds.lret hm_2 rfl rfl
  · simp only [if_neg hc1] at h
    refine OEnds.ifT hm_2 rfl (q := 8) rfl ((feq hc1).2) ?_
    refine OEnds.adv hm_2 2 (pc' := 10) (L' := [.val (.ref 0), .val (.int v1)]) (S' := [.int 1, .int v1]) (H' := (bk0 o_regX o_regY o_regInf o_privKey o_hasKey o_pubX o_pubY o_pubInf o_msg o_p o_a o_gx o_gy o_b o_msgLen o_sigX o_sigY o_sigInf o_sigS o_sigE po)) rfl ?_
    by_cases hc2 : v1 = (1 : Int32)
    · simp only [if_pos hc2] at h
      refine OEnds.icmpF hm_2 rfl ((teq hc2).2) ?_
      refine OEnds.adv hm_2 1 (pc' := 16) (L' := [.val (.ref 0), .val (.int v1)]) (S' := [.long 65521]) (H' := (bk0 o_regX o_regY o_regInf o_privKey o_hasKey o_pubX o_pubY o_pubInf o_msg o_p o_a o_gx o_gy o_b o_msgLen o_sigX o_sigY o_sigInf o_sigS o_sigE po)) rfl ?_
      cases h
      exact OEnds.lret hm_2 rfl rfl
    · simp only [if_neg hc2] at h
      refine OEnds.icmpT hm_2 rfl (q := 17) rfl ((feq hc2).2) ?_
      refine OEnds.adv hm_2 2 (pc' := 19) (L' := [.val (.ref 0), .val (.int v1)]) (S' := [.int 2, .int v1]) (H' := (bk0 o_regX o_regY o_regInf o_privKey o_hasKey o_pubX o_pubY o_pubInf o_msg o_p o_a o_gx o_gy o_b o_msgLen o_sigX o_sigY o_sigInf o_sigS o_sigE po)) rfl ?_
      by_cases hc3 : v1 = (2 : Int32)
      · simp only [if_pos hc3] at h
        refine OEnds.icmpF hm_2 rfl ((teq hc3).2) ?_
        refine OEnds.adv hm_2 1 (pc' := 25) (L' := [.val (.ref 0), .val (.int v1)]) (S' := [.long 65537]) (H' := (bk0 o_regX o_regY o_regInf o_privKey o_hasKey o_pubX o_pubY o_pubInf o_msg o_p o_a o_gx o_gy o_b o_msgLen o_sigX o_sigY o_sigInf o_sigS o_sigE po)) rfl ?_
        cases h
        exact OEnds.lret hm_2 rfl rfl
      · simp only [if_neg hc3] at h
        refine OEnds.icmpT hm_2 rfl (q := 26) rfl ((feq hc3).2) ?_
        refine OEnds.adv hm_2 2 (pc' := 28) (L' := [.val (.ref 0), .val (.int v1)]) (S' := [.int 3, .int v1]) (H' := (bk0 o_regX o_regY o_regInf o_privKey o_hasKey o_pubX o_pubY o_pubInf o_msg o_p o_a o_gx o_gy o_b o_msgLen o_sigX o_sigY o_sigInf o_sigS o_sigE po)) rfl ?_
        by_cases hc4 : v1 = (3 : Int32)
        · simp only [if_pos hc4] at h
          refine OEnds.icmpF hm_2 rfl ((teq hc4).2) ?_
          refine OEnds.adv hm_2 1 (pc' := 34) (L' := [.val (.ref 0), .val (.int v1)]) (S' := [.long 131071]) (H' := (bk0 o_regX o_regY o_regInf o_privKey o_hasKey o_pubX o_pubY o_pubInf o_msg o_p o_a o_gx o_gy o_b o_msgLen o_sigX o_sigY o_sigInf o_sigS o_sigE po)) rfl ?_
          cases h
          exact OEnds.lret hm_2 rfl rfl
        · simp only [if_neg hc4] at h
          refine OEnds.icmpT hm_2 rfl (q := 35) rfl ((feq hc4).2) ?_
          refine OEnds.adv hm_2 2 (pc' := 37) (L' := [.val (.ref 0), .val (.int v1)]) (S' := [.int 4, .int v1]) (H' := (bk0 o_regX o_regY o_regInf o_privKey o_hasKey o_pubX o_pubY o_pubInf o_msg o_p o_a o_gx o_gy o_b o_msgLen o_sigX o_sigY o_sigInf o_sigS o_sigE po)) rfl ?_
          by_cases hc5 : v1 = (4 : Int32)
          · simp only [if_pos hc5] at h
            refine OEnds.icmpF hm_2 rfl ((teq hc5).2) ?_
            refine OEnds.adv hm_2 1 (pc' := 43) (L' := [.val (.ref 0), .val (.int v1)]) (S' := [.long 524287]) (H' := (bk0 o_regX o_regY o_regInf o_privKey o_hasKey o_pubX o_pubY o_pubInf o_msg o_p o_a o_gx o_gy o_b o_msgLen o_sigX o_sigY o_sigInf o_sigS o_sigE po)) rfl ?_
            cases h
            exact OEnds.lret hm_2 rfl rfl
          · simp only [if_neg hc5] at h
            refine OEnds.icmpT hm_2 rfl (q := 44) rfl ((feq hc5).2) ?_
            refine OEnds.adv hm_2 2 (pc' := 46) (L' := [.val (.ref 0), .val (.int v1)]) (S' := [.int 5, .int v1]) (H' := (bk0 o_regX o_regY o_regInf o_privKey o_hasKey o_pubX o_pubY o_pubInf o_msg o_p o_a o_gx o_gy o_b o_msgLen o_sigX o_sigY o_sigInf o_sigS o_sigE po)) rfl ?_
            by_cases hc6 : v1 = (5 : Int32)
            · simp only [if_pos hc6] at h
              refine OEnds.icmpF hm_2 rfl ((teq hc6).2) ?_
              refine OEnds.adv hm_2 1 (pc' := 52) (L' := [.val (.ref 0), .val (.int v1)]) (S' := [.long 998244353]) (H' := (bk0 o_regX o_regY o_regInf o_privKey o_hasKey o_pubX o_pubY o_pubInf o_msg o_p o_a o_gx o_gy o_b o_msgLen o_sigX o_sigY o_sigInf o_sigS o_sigE po)) rfl ?_
              cases h
              exact OEnds.lret hm_2 rfl rfl
            · simp only [if_neg hc6] at h
              refine OEnds.icmpT hm_2 rfl (q := 53) rfl ((feq hc6).2) ?_
              refine OEnds.adv hm_2 2 (pc' := 56) (L' := [.val (.ref 0), .val (.int v1)]) (S' := [.int 6, .int v1]) (H' := (bk0 o_regX o_regY o_regInf o_privKey o_hasKey o_pubX o_pubY o_pubInf o_msg o_p o_a o_gx o_gy o_b o_msgLen o_sigX o_sigY o_sigInf o_sigS o_sigE po)) rfl ?_
              by_cases hc7 : v1 = (6 : Int32)
              · simp only [if_pos hc7] at h
                refine OEnds.icmpF hm_2 rfl ((teq hc7).2) ?_
                refine OEnds.adv hm_2 1 (pc' := 62) (L' := [.val (.ref 0), .val (.int v1)]) (S' := [.long 1000000007]) (H' := (bk0 o_regX o_regY o_regInf o_privKey o_hasKey o_pubX o_pubY o_pubInf o_msg o_p o_a o_gx o_gy o_b o_msgLen o_sigX o_sigY o_sigInf o_sigS o_sigE po)) rfl ?_
                cases h
                exact OEnds.lret hm_2 rfl rfl
              · simp only [if_neg hc7] at h
                refine OEnds.icmpT hm_2 rfl (q := 63) rfl ((feq hc7).2) ?_
                refine OEnds.adv hm_2 1 (pc' := 66) (L' := [.val (.ref 0), .val (.int v1)]) (S' := [.long 2147483647]) (H' := (bk0 o_regX o_regY o_regInf o_privKey o_hasKey o_pubX o_pubY o_pubInf o_msg o_p o_a o_gx o_gy o_b o_msgLen o_sigX o_sigY o_sigInf o_sigS o_sigE po)) rfl ?_
                cases h
                exact OEnds.lret hm_2 rfl rfl
theorem ok_clampField {o_regX : List Int64} {o_regY : List Int64} {o_regInf : List Int32} {o_privKey : List Int64} {o_hasKey : List Int32} {o_pubX : List Int64} {o_pubY : List Int64} {o_pubInf : List Int32} {o_msg : List Int32} {o_p : Int64} {o_a : Int64} {o_gx : Int64} {o_gy : Int64} {o_b : Int64} {o_msgLen : Int32} {o_sigX : Int64} {o_sigY : Int64} {o_sigInf : Int32} {o_sigS : Int64} {o_sigE : Int32} {po : List ACell} {v1 : Int32} {res : Int64} (h : f_clampField o_p v1 = some res) : OEnds own_P 3 0 [.val (.ref 0), .val (.int v1), .unset, .unset] [] (bk0 o_regX o_regY o_regInf o_privKey o_hasKey o_pubX o_pubY o_pubInf o_msg o_p o_a o_gx o_gy o_b o_msgLen o_sigX o_sigY o_sigInf o_sigS o_sigE po) (some (.long res), (bk0 o_regX o_regY o_regInf o_privKey o_hasKey o_pubX o_pubY o_pubInf o_msg o_p o_a o_gx o_gy o_b o_msgLen o_sigX o_sigY o_sigInf o_sigS o_sigE po), 0, 0) := by
  unfold f_clampField at h
  refine OEnds.adv hm_3 6 (pc' := 6) (L' := [.val (.ref 0), .val (.int v1), .val (.long v1.toInt64), .second]) (S' := [.int (XT.cmpL v1.toInt64 (0 : Int64))]) (H' := (bk0 o_regX o_regY o_regInf o_privKey o_hasKey o_pubX o_pubY o_pubInf o_msg o_p o_a o_gx o_gy o_b o_msgLen o_sigX o_sigY o_sigInf o_sigS o_sigE po)) rfl ?_
  by_cases hc8 : v1.toInt64 < (0 : Int64)
  · simp only [if_pos hc8] at h
    refine OEnds.ifF hm_3 rfl ((tlt (c_lt.mpr hc8)).2.1) ?_
    refine OEnds.adv hm_3 1 (pc' := 10) (L' := [.val (.ref 0), .val (.int v1), .val (.long v1.toInt64), .second]) (S' := [.long 0]) (H' := (bk0 o_regX o_regY o_regInf o_privKey o_hasKey o_pubX o_pubY o_pubInf o_msg o_p o_a o_gx o_gy o_b o_msgLen o_sigX o_sigY o_sigInf o_sigS o_sigE po)) rfl ?_
    cases h
    exact OEnds.lret hm_3 rfl rfl
  · simp only [if_neg hc8] at h
    refine OEnds.ifT hm_3 rfl (q := 11) rfl ((flt (mt c_lt.mp hc8)).2.1) ?_
    refine OEnds.adv hm_3 6 (pc' := 19) (L' := [.val (.ref 0), .val (.int v1), .val (.long v1.toInt64), .second]) (S' := [.int (XT.cmpL v1.toInt64 (o_p - (1 : Int64)))]) (H' := (bk0 o_regX o_regY o_regInf o_privKey o_hasKey o_pubX o_pubY o_pubInf o_msg o_p o_a o_gx o_gy o_b o_msgLen o_sigX o_sigY o_sigInf o_sigS o_sigE po)) rfl ?_
    by_cases hc9 : (o_p - (1 : Int64)) < v1.toInt64
    · simp only [if_pos hc9] at h
      refine OEnds.ifF hm_3 rfl ((tlt (c_gt.mpr hc9)).2.2.2) ?_
      refine OEnds.adv hm_3 4 (pc' := 28) (L' := [.val (.ref 0), .val (.int v1), .val (.long v1.toInt64), .second]) (S' := [.long (o_p - (1 : Int64))]) (H' := (bk0 o_regX o_regY o_regInf o_privKey o_hasKey o_pubX o_pubY o_pubInf o_msg o_p o_a o_gx o_gy o_b o_msgLen o_sigX o_sigY o_sigInf o_sigS o_sigE po)) rfl ?_
      cases h
      exact OEnds.lret hm_3 rfl rfl
    · simp only [if_neg hc9] at h
      refine OEnds.ifT hm_3 rfl (q := 29) rfl ((flt (mt c_gt.mp hc9)).2.2.2) ?_
      refine OEnds.adv hm_3 1 (pc' := 30) (L' := [.val (.ref 0), .val (.int v1), .val (.long v1.toInt64), .second]) (S' := [.long v1.toInt64]) (H' := (bk0 o_regX o_regY o_regInf o_privKey o_hasKey o_pubX o_pubY o_pubInf o_msg o_p o_a o_gx o_gy o_b o_msgLen o_sigX o_sigY o_sigInf o_sigS o_sigE po)) rfl ?_
      cases h
      exact OEnds.lret hm_3 rfl rfl
theorem ok_mulMod {o_regX : List Int64} {o_regY : List Int64} {o_regInf : List Int32} {o_privKey : List Int64} {o_hasKey : List Int32} {o_pubX : List Int64} {o_pubY : List Int64} {o_pubInf : List Int32} {o_msg : List Int32} {o_p : Int64} {o_a : Int64} {o_gx : Int64} {o_gy : Int64} {o_b : Int64} {o_msgLen : Int32} {o_sigX : Int64} {o_sigY : Int64} {o_sigInf : Int32} {o_sigS : Int64} {o_sigE : Int32} {po : List ACell} {v1 : Int64} {v3 : Int64} {res : Int64} (h : f_mulMod o_p v1 v3 = some res) : OEnds own_P 5 0 [.val (.ref 0), .val (.long v1), .second, .val (.long v3), .second] [] (bk0 o_regX o_regY o_regInf o_privKey o_hasKey o_pubX o_pubY o_pubInf o_msg o_p o_a o_gx o_gy o_b o_msgLen o_sigX o_sigY o_sigInf o_sigS o_sigE po) (some (.long res), (bk0 o_regX o_regY o_regInf o_privKey o_hasKey o_pubX o_pubY o_pubInf o_msg o_p o_a o_gx o_gy o_b o_msgLen o_sigX o_sigY o_sigInf o_sigS o_sigE po), 0, 0) := by
  unfold f_mulMod at h
  refine OEnds.adv hm_5 5 (pc' := 7) (L' := [.val (.ref 0), .val (.long v1), .second, .val (.long v3), .second]) (S' := [.long o_p, .long (v1 * v3)]) (H' := (bk0 o_regX o_regY o_regInf o_privKey o_hasKey o_pubX o_pubY o_pubInf o_msg o_p o_a o_gx o_gy o_b o_msgLen o_sigX o_sigY o_sigInf o_sigS o_sigE po)) rfl ?_
  by_cases hz10 : o_p = 0
  · simp only [if_pos hz10] at h
    cases h
  simp only [if_neg hz10] at h
  refine OEnds.plain hm_5 rfl rfl (x_lrem hz10) ?_
  show OEnds own_P 5 8 [.val (.ref 0), .val (.long v1), .second, .val (.long v3), .second] [.long ((v1 * v3) % o_p)] (bk0 o_regX o_regY o_regInf o_privKey o_hasKey o_pubX o_pubY o_pubInf o_msg o_p o_a o_gx o_gy o_b o_msgLen o_sigX o_sigY o_sigInf o_sigS o_sigE po) _
  cases h
  exact OEnds.lret hm_5 rfl rfl
theorem ok_subMod {o_regX : List Int64} {o_regY : List Int64} {o_regInf : List Int32} {o_privKey : List Int64} {o_hasKey : List Int32} {o_pubX : List Int64} {o_pubY : List Int64} {o_pubInf : List Int32} {o_msg : List Int32} {o_p : Int64} {o_a : Int64} {o_gx : Int64} {o_gy : Int64} {o_b : Int64} {o_msgLen : Int32} {o_sigX : Int64} {o_sigY : Int64} {o_sigInf : Int32} {o_sigS : Int64} {o_sigE : Int32} {po : List ACell} {v1 : Int64} {v3 : Int64} {res : Int64} (h : f_subMod o_p v1 v3 = some res) : OEnds own_P 6 0 [.val (.ref 0), .val (.long v1), .second, .val (.long v3), .second, .unset, .unset] [] (bk0 o_regX o_regY o_regInf o_privKey o_hasKey o_pubX o_pubY o_pubInf o_msg o_p o_a o_gx o_gy o_b o_msgLen o_sigX o_sigY o_sigInf o_sigS o_sigE po) (some (.long res), (bk0 o_regX o_regY o_regInf o_privKey o_hasKey o_pubX o_pubY o_pubInf o_msg o_p o_a o_gx o_gy o_b o_msgLen o_sigX o_sigY o_sigInf o_sigS o_sigE po), 0, 0) := by
  unfold f_subMod at h
  refine OEnds.adv hm_6 7 (pc' := 9) (L' := [.val (.ref 0), .val (.long v1), .second, .val (.long v3), .second, .val (.long (v1 - v3)), .second]) (S' := [.int (XT.cmpL (v1 - v3) (0 : Int64))]) (H' := (bk0 o_regX o_regY o_regInf o_privKey o_hasKey o_pubX o_pubY o_pubInf o_msg o_p o_a o_gx o_gy o_b o_msgLen o_sigX o_sigY o_sigInf o_sigS o_sigE po)) rfl ?_
  by_cases hc11 : (v1 - v3) < (0 : Int64)
  · simp only [if_pos hc11] at h
    refine OEnds.ifF hm_6 rfl ((tlt (c_lt.mpr hc11)).2.1) ?_
    refine OEnds.adv hm_6 6 (pc' := 23) (L' := [.val (.ref 0), .val (.long v1), .second, .val (.long v3), .second, .val (.long ((v1 - v3) + o_p)), .second]) (S' := [.long ((v1 - v3) + o_p)]) (H' := (bk0 o_regX o_regY o_regInf o_privKey o_hasKey o_pubX o_pubY o_pubInf o_msg o_p o_a o_gx o_gy o_b o_msgLen o_sigX o_sigY o_sigInf o_sigS o_sigE po)) rfl ?_
    cases h
    exact OEnds.lret hm_6 rfl rfl
  · simp only [if_neg hc11] at h
    refine OEnds.ifT hm_6 rfl (q := 21) rfl ((flt (mt c_lt.mp hc11)).2.1) ?_
    refine OEnds.adv hm_6 1 (pc' := 23) (L' := [.val (.ref 0), .val (.long v1), .second, .val (.long v3), .second, .val (.long (v1 - v3)), .second]) (S' := [.long (v1 - v3)]) (H' := (bk0 o_regX o_regY o_regInf o_privKey o_hasKey o_pubX o_pubY o_pubInf o_msg o_p o_a o_gx o_gy o_b o_msgLen o_sigX o_sigY o_sigInf o_sigS o_sigE po)) rfl ?_
    cases h
    exact OEnds.lret hm_6 rfl rfl
theorem ok_computeB {o_regX : List Int64} {o_regY : List Int64} {o_regInf : List Int32} {o_privKey : List Int64} {o_hasKey : List Int32} {o_pubX : List Int64} {o_pubY : List Int64} {o_pubInf : List Int32} {o_msg : List Int32} {o_p : Int64} {o_a : Int64} {o_gx : Int64} {o_gy : Int64} {o_b : Int64} {o_msgLen : Int32} {o_sigX : Int64} {o_sigY : Int64} {o_sigInf : Int32} {o_sigS : Int64} {o_sigE : Int32} {po : List ACell} {res : Int64} (h : f_computeB o_p o_a o_gx o_gy = some res) : OEnds own_P 4 0 [.val (.ref 0), .unset, .unset, .unset, .unset, .unset, .unset, .unset, .unset, .unset, .unset] [] (bk0 o_regX o_regY o_regInf o_privKey o_hasKey o_pubX o_pubY o_pubInf o_msg o_p o_a o_gx o_gy o_b o_msgLen o_sigX o_sigY o_sigInf o_sigS o_sigE po) (some (.long res), (bk0 o_regX o_regY o_regInf o_privKey o_hasKey o_pubX o_pubY o_pubInf o_msg o_p o_a o_gx o_gy o_b o_msgLen o_sigX o_sigY o_sigInf o_sigS o_sigE po), 0, 0) := by
  unfold f_computeB at h
  refine OEnds.adv hm_4 5 (pc' := 9) (L' := [.val (.ref 0), .unset, .unset, .unset, .unset, .unset, .unset, .unset, .unset, .unset, .unset]) (S' := [.long o_gy, .long o_gy, .ref 0]) (H' := (bk0 o_regX o_regY o_regInf o_privKey o_hasKey o_pubX o_pubY o_pubInf o_msg o_p o_a o_gx o_gy o_b o_msgLen o_sigX o_sigY o_sigInf o_sigS o_sigE po)) rfl ?_
  obtain ⟨r1, hq12, h⟩ := bnd h
  refine OEnds.call0 hm_4 rfl rfl (by decide) rfl (as := [.ref 0, .long o_gy, .long o_gy]) (rest := []) rfl rfl (ok_mulMod hq12) ?_
  refine OEnds.adv hm_4 6 (pc' := 22) (L' := [.val (.ref 0), .val (.long r1), .second, .unset, .unset, .unset, .unset, .unset, .unset, .unset, .unset]) (S' := [.long o_gx, .long o_gx, .ref 0]) (H' := (bk0 o_regX o_regY o_regInf o_privKey o_hasKey o_pubX o_pubY o_pubInf o_msg o_p o_a o_gx o_gy o_b o_msgLen o_sigX o_sigY o_sigInf o_sigS o_sigE po)) rfl ?_
  obtain ⟨r2, hq13, h⟩ := bnd h
  refine OEnds.call0 hm_4 rfl rfl (by decide) rfl (as := [.ref 0, .long o_gx, .long o_gx]) (rest := []) rfl rfl (ok_mulMod hq13) ?_
  refine OEnds.adv hm_4 5 (pc' := 32) (L' := [.val (.ref 0), .val (.long r1), .second, .val (.long r2), .second, .unset, .unset, .unset, .unset, .unset, .unset]) (S' := [.long o_gx, .long r2, .ref 0]) (H' := (bk0 o_regX o_regY o_regInf o_privKey o_hasKey o_pubX o_pubY o_pubInf o_msg o_p o_a o_gx o_gy o_b o_msgLen o_sigX o_sigY o_sigInf o_sigS o_sigE po)) rfl ?_
  obtain ⟨r3, hq14, h⟩ := bnd h
  refine OEnds.call0 hm_4 rfl rfl (by decide) rfl (as := [.ref 0, .long r2, .long o_gx]) (rest := []) rfl rfl (ok_mulMod hq14) ?_
  refine OEnds.adv hm_4 6 (pc' := 46) (L' := [.val (.ref 0), .val (.long r1), .second, .val (.long r2), .second, .val (.long r3), .second, .unset, .unset, .unset, .unset]) (S' := [.long o_gx, .long o_a, .ref 0]) (H' := (bk0 o_regX o_regY o_regInf o_privKey o_hasKey o_pubX o_pubY o_pubInf o_msg o_p o_a o_gx o_gy o_b o_msgLen o_sigX o_sigY o_sigInf o_sigS o_sigE po)) rfl ?_
  obtain ⟨r4, hq15, h⟩ := bnd h
  refine OEnds.call0 hm_4 rfl rfl (by decide) rfl (as := [.ref 0, .long o_a, .long o_gx]) (rest := []) rfl rfl (ok_mulMod hq15) ?_
  refine OEnds.adv hm_4 4 (pc' := 55) (L' := [.val (.ref 0), .val (.long r1), .second, .val (.long r2), .second, .val (.long r3), .second, .val (.long r4), .second, .unset, .unset]) (S' := [.long r3, .long r1, .ref 0]) (H' := (bk0 o_regX o_regY o_regInf o_privKey o_hasKey o_pubX o_pubY o_pubInf o_msg o_p o_a o_gx o_gy o_b o_msgLen o_sigX o_sigY o_sigInf o_sigS o_sigE po)) rfl ?_
  obtain ⟨r5, hq16, h⟩ := bnd h
  refine OEnds.call0 hm_4 rfl rfl (by decide) rfl (as := [.ref 0, .long r1, .long r3]) (rest := []) rfl rfl (ok_subMod hq16) ?_
  refine OEnds.adv hm_4 4 (pc' := 65) (L' := [.val (.ref 0), .val (.long r1), .second, .val (.long r2), .second, .val (.long r3), .second, .val (.long r4), .second, .val (.long r5), .second]) (S' := [.long r4, .long r5, .ref 0]) (H' := (bk0 o_regX o_regY o_regInf o_privKey o_hasKey o_pubX o_pubY o_pubInf o_msg o_p o_a o_gx o_gy o_b o_msgLen o_sigX o_sigY o_sigInf o_sigS o_sigE po)) rfl ?_
  obtain ⟨r6, hq17, h⟩ := bnd h
  refine OEnds.call0 hm_4 rfl rfl (by decide) rfl (as := [.ref 0, .long r5, .long r4]) (rest := []) rfl rfl (ok_subMod hq17) ?_
  show OEnds own_P 4 68 [.val (.ref 0), .val (.long r1), .second, .val (.long r2), .second, .val (.long r3), .second, .val (.long r4), .second, .val (.long r5), .second] [.long r6] (bk0 o_regX o_regY o_regInf o_privKey o_hasKey o_pubX o_pubY o_pubInf o_msg o_p o_a o_gx o_gy o_b o_msgLen o_sigX o_sigY o_sigInf o_sigS o_sigE po) _
  cases h
  exact OEnds.lret hm_4 rfl rfl
theorem ok_addMod {o_regX : List Int64} {o_regY : List Int64} {o_regInf : List Int32} {o_privKey : List Int64} {o_hasKey : List Int32} {o_pubX : List Int64} {o_pubY : List Int64} {o_pubInf : List Int32} {o_msg : List Int32} {o_p : Int64} {o_a : Int64} {o_gx : Int64} {o_gy : Int64} {o_b : Int64} {o_msgLen : Int32} {o_sigX : Int64} {o_sigY : Int64} {o_sigInf : Int32} {o_sigS : Int64} {o_sigE : Int32} {po : List ACell} {v1 : Int64} {v3 : Int64} {res : Int64} (h : f_addMod o_p v1 v3 = some res) : OEnds own_P 8 0 [.val (.ref 0), .val (.long v1), .second, .val (.long v3), .second, .unset, .unset] [] (bk0 o_regX o_regY o_regInf o_privKey o_hasKey o_pubX o_pubY o_pubInf o_msg o_p o_a o_gx o_gy o_b o_msgLen o_sigX o_sigY o_sigInf o_sigS o_sigE po) (some (.long res), (bk0 o_regX o_regY o_regInf o_privKey o_hasKey o_pubX o_pubY o_pubInf o_msg o_p o_a o_gx o_gy o_b o_msgLen o_sigX o_sigY o_sigInf o_sigS o_sigE po), 0, 0) := by
  unfold f_addMod at h
  refine OEnds.adv hm_8 8 (pc' := 12) (L' := [.val (.ref 0), .val (.long v1), .second, .val (.long v3), .second, .val (.long (v1 + v3)), .second]) (S' := [.int (XT.cmpL (v1 + v3) o_p)]) (H' := (bk0 o_regX o_regY o_regInf o_privKey o_hasKey o_pubX o_pubY o_pubInf o_msg o_p o_a o_gx o_gy o_b o_msgLen o_sigX o_sigY o_sigInf o_sigS o_sigE po)) rfl ?_
  by_cases hc18 : (v1 + v3) < o_p
  · simp only [if_pos hc18] at h
    refine OEnds.ifT hm_8 rfl (q := 24) rfl ((tlt (c_lt.mpr hc18)).1) ?_
    refine OEnds.adv hm_8 1 (pc' := 26) (L' := [.val (.ref 0), .val (.long v1), .second, .val (.long v3), .second, .val (.long (v1 + v3)), .second]) (S' := [.long (v1 + v3)]) (H' := (bk0 o_regX o_regY o_regInf o_privKey o_hasKey o_pubX o_pubY o_pubInf o_msg o_p o_a o_gx o_gy o_b o_msgLen o_sigX o_sigY o_sigInf o_sigS o_sigE po)) rfl ?_
    cases h
    exact OEnds.lret hm_8 rfl rfl
  · simp only [if_neg hc18] at h
    refine OEnds.ifF hm_8 rfl ((flt (mt c_lt.mp hc18)).1) ?_
    refine OEnds.adv hm_8 6 (pc' := 26) (L' := [.val (.ref 0), .val (.long v1), .second, .val (.long v3), .second, .val (.long ((v1 + v3) - o_p)), .second]) (S' := [.long ((v1 + v3) - o_p)]) (H' := (bk0 o_regX o_regY o_regInf o_privKey o_hasKey o_pubX o_pubY o_pubInf o_msg o_p o_a o_gx o_gy o_b o_msgLen o_sigX o_sigY o_sigInf o_sigS o_sigE po)) rfl ?_
    cases h
    exact OEnds.lret hm_8 rfl rfl
theorem ok_discriminant {o_regX : List Int64} {o_regY : List Int64} {o_regInf : List Int32} {o_privKey : List Int64} {o_hasKey : List Int32} {o_pubX : List Int64} {o_pubY : List Int64} {o_pubInf : List Int32} {o_msg : List Int32} {o_p : Int64} {o_a : Int64} {o_gx : Int64} {o_gy : Int64} {o_b : Int64} {o_msgLen : Int32} {o_sigX : Int64} {o_sigY : Int64} {o_sigInf : Int32} {o_sigS : Int64} {o_sigE : Int32} {po : List ACell} {res : Int64} (h : f_discriminant o_p o_a o_b = some res) : OEnds own_P 7 0 [.val (.ref 0), .unset, .unset, .unset, .unset, .unset, .unset, .unset, .unset, .unset, .unset] [] (bk0 o_regX o_regY o_regInf o_privKey o_hasKey o_pubX o_pubY o_pubInf o_msg o_p o_a o_gx o_gy o_b o_msgLen o_sigX o_sigY o_sigInf o_sigS o_sigE po) (some (.long res), (bk0 o_regX o_regY o_regInf o_privKey o_hasKey o_pubX o_pubY o_pubInf o_msg o_p o_a o_gx o_gy o_b o_msgLen o_sigX o_sigY o_sigInf o_sigS o_sigE po), 0, 0) := by
  unfold f_discriminant at h
  refine OEnds.adv hm_7 5 (pc' := 9) (L' := [.val (.ref 0), .unset, .unset, .unset, .unset, .unset, .unset, .unset, .unset, .unset, .unset]) (S' := [.long o_a, .long o_a, .ref 0]) (H' := (bk0 o_regX o_regY o_regInf o_privKey o_hasKey o_pubX o_pubY o_pubInf o_msg o_p o_a o_gx o_gy o_b o_msgLen o_sigX o_sigY o_sigInf o_sigS o_sigE po)) rfl ?_
  obtain ⟨r7, hq19, h⟩ := bnd h
  refine OEnds.call0 hm_7 rfl rfl (by decide) rfl (as := [.ref 0, .long o_a, .long o_a]) (rest := []) rfl rfl (ok_mulMod hq19) ?_
  refine OEnds.adv hm_7 5 (pc' := 19) (L' := [.val (.ref 0), .val (.long r7), .second, .unset, .unset, .unset, .unset, .unset, .unset, .unset, .unset]) (S' := [.long o_a, .long r7, .ref 0]) (H' := (bk0 o_regX o_regY o_regInf o_privKey o_hasKey o_pubX o_pubY o_pubInf o_msg o_p o_a o_gx o_gy o_b o_msgLen o_sigX o_sigY o_sigInf o_sigS o_sigE po)) rfl ?_
  obtain ⟨r8, hq20, h⟩ := bnd h
  refine OEnds.call0 hm_7 rfl rfl (by decide) rfl (as := [.ref 0, .long r7, .long o_a]) (rest := []) rfl rfl (ok_mulMod hq20) ?_
  refine OEnds.adv hm_7 4 (pc' := 28) (L' := [.val (.ref 0), .val (.long r7), .second, .val (.long r8), .second, .unset, .unset, .unset, .unset, .unset, .unset]) (S' := [.long r8, .long 4, .ref 0]) (H' := (bk0 o_regX o_regY o_regInf o_privKey o_hasKey o_pubX o_pubY o_pubInf o_msg o_p o_a o_gx o_gy o_b o_msgLen o_sigX o_sigY o_sigInf o_sigS o_sigE po)) rfl ?_
  obtain ⟨r9, hq21, h⟩ := bnd h
  refine OEnds.call0 hm_7 rfl rfl (by decide) rfl (as := [.ref 0, .long 4, .long r8]) (rest := []) rfl rfl (ok_mulMod hq21) ?_
  refine OEnds.adv hm_7 6 (pc' := 42) (L' := [.val (.ref 0), .val (.long r7), .second, .val (.long r8), .second, .val (.long r9), .second, .unset, .unset, .unset, .unset]) (S' := [.long o_b, .long o_b, .ref 0]) (H' := (bk0 o_regX o_regY o_regInf o_privKey o_hasKey o_pubX o_pubY o_pubInf o_msg o_p o_a o_gx o_gy o_b o_msgLen o_sigX o_sigY o_sigInf o_sigS o_sigE po)) rfl ?_
  obtain ⟨r10, hq22, h⟩ := bnd h
  refine OEnds.call0 hm_7 rfl rfl (by decide) rfl (as := [.ref 0, .long o_b, .long o_b]) (rest := []) rfl rfl (ok_mulMod hq22) ?_
  refine OEnds.adv hm_7 4 (pc' := 53) (L' := [.val (.ref 0), .val (.long r7), .second, .val (.long r8), .second, .val (.long r9), .second, .val (.long r10), .second, .unset, .unset]) (S' := [.long r10, .long 27, .ref 0]) (H' := (bk0 o_regX o_regY o_regInf o_privKey o_hasKey o_pubX o_pubY o_pubInf o_msg o_p o_a o_gx o_gy o_b o_msgLen o_sigX o_sigY o_sigInf o_sigS o_sigE po)) rfl ?_
  obtain ⟨r11, hq23, h⟩ := bnd h
  refine OEnds.call0 hm_7 rfl rfl (by decide) rfl (as := [.ref 0, .long 27, .long r10]) (rest := []) rfl rfl (ok_mulMod hq23) ?_
  refine OEnds.adv hm_7 4 (pc' := 63) (L' := [.val (.ref 0), .val (.long r7), .second, .val (.long r8), .second, .val (.long r9), .second, .val (.long r10), .second, .val (.long r11), .second]) (S' := [.long r11, .long r9, .ref 0]) (H' := (bk0 o_regX o_regY o_regInf o_privKey o_hasKey o_pubX o_pubY o_pubInf o_msg o_p o_a o_gx o_gy o_b o_msgLen o_sigX o_sigY o_sigInf o_sigS o_sigE po)) rfl ?_
  obtain ⟨r12, hq24, h⟩ := bnd h
  refine OEnds.call0 hm_7 rfl rfl (by decide) rfl (as := [.ref 0, .long r9, .long r11]) (rest := []) rfl rfl (ok_addMod hq24) ?_
  show OEnds own_P 7 66 [.val (.ref 0), .val (.long r7), .second, .val (.long r8), .second, .val (.long r9), .second, .val (.long r10), .second, .val (.long r11), .second] [.long r12] (bk0 o_regX o_regY o_regInf o_privKey o_hasKey o_pubX o_pubY o_pubInf o_msg o_p o_a o_gx o_gy o_b o_msgLen o_sigX o_sigY o_sigInf o_sigS o_sigE po) _
  cases h
  exact OEnds.lret hm_7 rfl rfl
theorem ok_setRegister_40 {o_privKey : List Int64} {o_hasKey : List Int32} {o_pubX : List Int64} {o_pubY : List Int64} {o_pubInf : List Int32} {o_msg : List Int32} {o_p : Int64} {o_a : Int64} {o_gx : Int64} {o_gy : Int64} {o_b : Int64} {o_msgLen : Int32} {o_sigX : Int64} {o_sigY : Int64} {o_sigInf : Int32} {o_sigS : Int64} {o_sigE : Int32} {po : List ACell} : ∀ {o_regX : List Int64} {o_regY : List Int64} {o_regInf : List Int32} {t0 : Int64} {t1 : Int32} {d0 d1 d2 d3 d4 d5 d6 : Slot} {w_o_regX : List Int64} {w_o_regY : List Int64} {w_o_regInf : List Int32}, f_setRegister_40 o_regX o_regY o_regInf t0 t1 = some (w_o_regX, w_o_regY, w_o_regInf) → OEnds own_P 9 40 [d0, d1, d2, d3, d4, d5, d6] [.long t0, .int t1, .ref 2] (bk0 o_regX o_regY o_regInf o_privKey o_hasKey o_pubX o_pubY o_pubInf o_msg o_p o_a o_gx o_gy o_b o_msgLen o_sigX o_sigY o_sigInf o_sigS o_sigE po) (none, (bk0 w_o_regX w_o_regY w_o_regInf o_privKey o_hasKey o_pubX o_pubY o_pubInf o_msg o_p o_a o_gx o_gy o_b o_msgLen o_sigX o_sigY o_sigInf o_sigS o_sigE po), 0, 0) := by
  intro o_regX o_regY o_regInf t0 t1 d0 d1 d2 d3 d4 d5 d6 w_o_regX w_o_regY w_o_regInf h
  unfold f_setRegister_40 at h
  obtain ⟨A15, hA15, h⟩ := bnd h
  refine OEnds.plain hm_9 rfl rfl (x_lastore rfl (Nat.le_of_ble_eq_true rfl) hA15) ?_
  show OEnds own_P 9 41 [.unset, .unset, .unset, .unset, .unset, .unset, .unset] [] (bk0 o_regX A15 o_regInf o_privKey o_hasKey o_pubX o_pubY o_pubInf o_msg o_p o_a o_gx o_gy o_b o_msgLen o_sigX o_sigY o_sigInf o_sigS o_sigE po) _
  cases h
  exact OEnds.vret hm_9 rfl rfl
theorem ok_setRegister_23 {o_privKey : List Int64} {o_hasKey : List Int32} {o_pubX : List Int64} {o_pubY : List Int64} {o_pubInf : List Int32} {o_msg : List Int32} {o_p : Int64} {o_a : Int64} {o_gx : Int64} {o_gy : Int64} {o_b : Int64} {o_msgLen : Int32} {o_sigX : Int64} {o_sigY : Int64} {o_sigInf : Int32} {o_sigS : Int64} {o_sigE : Int32} {po : List ACell} : ∀ {o_regX : List Int64} {o_regY : List Int64} {o_regInf : List Int32} {v1 : Int32} {v4 : Int64} {v6 : Int32} {t0 : Int64} {t1 : Int32} {d2 d3 : Slot} {w_o_regX : List Int64} {w_o_regY : List Int64} {w_o_regInf : List Int32}, f_setRegister_23 o_regX o_regY o_regInf v1 v4 v6 t0 t1 = some (w_o_regX, w_o_regY, w_o_regInf) → OEnds own_P 9 23 [.val (.ref 0), .val (.int v1), d2, d3, .val (.long v4), .second, .val (.int v6)] [.long t0, .int t1, .ref 1] (bk0 o_regX o_regY o_regInf o_privKey o_hasKey o_pubX o_pubY o_pubInf o_msg o_p o_a o_gx o_gy o_b o_msgLen o_sigX o_sigY o_sigInf o_sigS o_sigE po) (none, (bk0 w_o_regX w_o_regY w_o_regInf o_privKey o_hasKey o_pubX o_pubY o_pubInf o_msg o_p o_a o_gx o_gy o_b o_msgLen o_sigX o_sigY o_sigInf o_sigS o_sigE po), 0, 0) := by
  intro o_regX o_regY o_regInf v1 v4 v6 t0 t1 d2 d3 w_o_regX w_o_regY w_o_regInf h
  unfold f_setRegister_23 at h
  obtain ⟨A14, hA14, h⟩ := bnd h
  refine OEnds.plain hm_9 rfl rfl (x_lastore rfl (Nat.le_of_ble_eq_true rfl) hA14) ?_
  refine OEnds.adv hm_9 4 (pc' := 31) (L' := [.val (.ref 0), .val (.int v1), .unset, .unset, .val (.long v4), .second, .val (.int v6)]) (S' := [.int v6, .int v1, .ref 2]) (H' := (bk0 A14 o_regY o_regInf o_privKey o_hasKey o_pubX o_pubY o_pubInf o_msg o_p o_a o_gx o_gy o_b o_msgLen o_sigX o_sigY o_sigInf o_sigS o_sigE po)) rfl ?_
  by_cases hc25 : v6 = (0 : Int32)
  · simp only [if_pos hc25] at h
    refine OEnds.ifT hm_9 rfl (q := 38) rfl ((teq hc25).1) ?_
    refine OEnds.adv hm_9 1 (pc' := 40) (L' := [.val (.ref 0), .val (.int v1), .unset, .unset, .val (.long v4), .second, .val (.int v6)]) (S' := [.long v4, .int v1, .ref 2]) (H' := (bk0 A14 o_regY o_regInf o_privKey o_hasKey o_pubX o_pubY o_pubInf o_msg o_p o_a o_gx o_gy o_b o_msgLen o_sigX o_sigY o_sigInf o_sigS o_sigE po)) rfl ?_
    exact ok_setRegister_40 h
  · simp only [if_neg hc25] at h
    refine OEnds.ifF hm_9 rfl ((feq hc25).1) ?_
    refine OEnds.adv hm_9 2 (pc' := 40) (L' := [.val (.ref 0), .val (.int v1), .unset, .unset, .val (.long v4), .second, .val (.int v6)]) (S' := [.long 0, .int v1, .ref 2]) (H' := (bk0 A14 o_regY o_regInf o_privKey o_hasKey o_pubX o_pubY o_pubInf o_msg o_p o_a o_gx o_gy o_b o_msgLen o_sigX o_sigY o_sigInf o_sigS o_sigE po)) rfl ?_
    exact ok_setRegister_40 h
theorem ok_setRegister {o_privKey : List Int64} {o_hasKey : List Int32} {o_pubX : List Int64} {o_pubY : List Int64} {o_pubInf : List Int32} {o_msg : List Int32} {o_p : Int64} {o_a : Int64} {o_gx : Int64} {o_gy : Int64} {o_b : Int64} {o_msgLen : Int32} {o_sigX : Int64} {o_sigY : Int64} {o_sigInf : Int32} {o_sigS : Int64} {o_sigE : Int32} {po : List ACell} {o_regX : List Int64} {o_regY : List Int64} {o_regInf : List Int32} {v1 : Int32} {v2 : Int64} {v4 : Int64} {v6 : Int32} {w_o_regX : List Int64} {w_o_regY : List Int64} {w_o_regInf : List Int32} (h : f_setRegister o_regX o_regY o_regInf v1 v2 v4 v6 = some (w_o_regX, w_o_regY, w_o_regInf)) : OEnds own_P 9 0 [.val (.ref 0), .val (.int v1), .val (.long v2), .second, .val (.long v4), .second, .val (.int v6)] [] (bk0 o_regX o_regY o_regInf o_privKey o_hasKey o_pubX o_pubY o_pubInf o_msg o_p o_a o_gx o_gy o_b o_msgLen o_sigX o_sigY o_sigInf o_sigS o_sigE po) (none, (bk0 w_o_regX w_o_regY w_o_regInf o_privKey o_hasKey o_pubX o_pubY o_pubInf o_msg o_p o_a o_gx o_gy o_b o_msgLen o_sigX o_sigY o_sigInf o_sigS o_sigE po), 0, 0) := by
  unfold f_setRegister at h
  refine OEnds.adv hm_9 4 (pc' := 7) (L' := [.val (.ref 0), .val (.int v1), .val (.long v2), .second, .val (.long v4), .second, .val (.int v6)]) (S' := [.int v6, .int v1, .ref 3]) (H' := (bk0 o_regX o_regY o_regInf o_privKey o_hasKey o_pubX o_pubY o_pubInf o_msg o_p o_a o_gx o_gy o_b o_msgLen o_sigX o_sigY o_sigInf o_sigS o_sigE po)) rfl ?_
  obtain ⟨A13, hA13, h⟩ := bnd h
  refine OEnds.plain hm_9 rfl rfl (x_bastore rfl (Nat.le_of_ble_eq_true rfl) hA13) ?_
  refine OEnds.adv hm_9 4 (pc' := 15) (L' := [.val (.ref 0), .val (.int v1), .val (.long v2), .second, .val (.long v4), .second, .val (.int v6)]) (S' := [.int v6, .int v1, .ref 1]) (H' := (bk0 o_regX o_regY A13 o_privKey o_hasKey o_pubX o_pubY o_pubInf o_msg o_p o_a o_gx o_gy o_b o_msgLen o_sigX o_sigY o_sigInf o_sigS o_sigE po)) rfl ?_
  by_cases hc26 : v6 = (0 : Int32)
  · simp only [if_pos hc26] at h
    refine OEnds.ifT hm_9 rfl (q := 22) rfl ((teq hc26).1) ?_
    refine OEnds.adv hm_9 1 (pc' := 23) (L' := [.val (.ref 0), .val (.int v1), .val (.long v2), .second, .val (.long v4), .second, .val (.int v6)]) (S' := [.long v2, .int v1, .ref 1]) (H' := (bk0 o_regX o_regY A13 o_privKey o_hasKey o_pubX o_pubY o_pubInf o_msg o_p o_a o_gx o_gy o_b o_msgLen o_sigX o_sigY o_sigInf o_sigS o_sigE po)) rfl ?_
    exact ok_setRegister_23 h
  · simp only [if_neg hc26] at h
    refine OEnds.ifF hm_9 rfl ((feq hc26).1) ?_
    refine OEnds.adv hm_9 2 (pc' := 23) (L' := [.val (.ref 0), .val (.int v1), .val (.long v2), .second, .val (.long v4), .second, .val (.int v6)]) (S' := [.long 0, .int v1, .ref 1]) (H' := (bk0 o_regX o_regY A13 o_privKey o_hasKey o_pubX o_pubY o_pubInf o_msg o_p o_a o_gx o_gy o_b o_msgLen o_sigX o_sigY o_sigInf o_sigS o_sigE po)) rfl ?_
    exact ok_setRegister_23 h
theorem ok_init_215 : ∀ {o_regX : List Int64} {o_regY : List Int64} {o_regInf : List Int32} {o_privKey : List Int64} {o_hasKey : List Int32} {o_pubX : List Int64} {o_pubY : List Int64} {o_pubInf : List Int32} {o_msg : List Int32} {o_p : Int64} {o_a : Int64} {o_gx : Int64} {o_gy : Int64} {o_b : Int64} {o_msgLen : Int32} {o_sigX : Int64} {o_sigY : Int64} {o_sigInf : Int32} {o_sigS : Int64} {o_sigE : Int32} {d1 d2 d3 d4 d5 d6 : Slot} {w_o_regX : List Int64} {w_o_regY : List Int64} {w_o_regInf : List Int32} {w_o_privKey : List Int64} {w_o_hasKey : List Int32} {w_o_pubX : List Int64} {w_o_pubY : List Int64} {w_o_pubInf : List Int32} {w_o_msg : List Int32} {w_o_p : Int64} {w_o_a : Int64} {w_o_gx : Int64} {w_o_gy : Int64} {w_o_b : Int64} {w_o_msgLen : Int32} {w_o_sigX : Int64} {w_o_sigY : Int64} {w_o_sigInf : Int32} {w_o_sigS : Int64} {w_o_sigE : Int32}, f_init_215 o_regX o_regY o_regInf o_privKey o_hasKey o_pubX o_pubY o_pubInf o_msg o_p o_a o_gx o_gy o_b o_msgLen o_sigX o_sigY o_sigInf o_sigS o_sigE = some (w_o_regX, w_o_regY, w_o_regInf, w_o_privKey, w_o_hasKey, w_o_pubX, w_o_pubY, w_o_pubInf, w_o_msg, w_o_p, w_o_a, w_o_gx, w_o_gy, w_o_b, w_o_msgLen, w_o_sigX, w_o_sigY, w_o_sigInf, w_o_sigS, w_o_sigE) → OEnds own_P 1 215 [.val (.ref 0), d1, d2, d3, d4, d5, d6] [] (bk0 o_regX o_regY o_regInf o_privKey o_hasKey o_pubX o_pubY o_pubInf o_msg o_p o_a o_gx o_gy o_b o_msgLen o_sigX o_sigY o_sigInf o_sigS o_sigE []) (none, (bk0 w_o_regX w_o_regY w_o_regInf w_o_privKey w_o_hasKey w_o_pubX w_o_pubY w_o_pubInf w_o_msg w_o_p w_o_a w_o_gx w_o_gy w_o_b w_o_msgLen w_o_sigX w_o_sigY w_o_sigInf w_o_sigS w_o_sigE []), 0, 0) := by
  intro o_regX o_regY o_regInf o_privKey o_hasKey o_pubX o_pubY o_pubInf o_msg o_p o_a o_gx o_gy o_b o_msgLen o_sigX o_sigY o_sigInf o_sigS o_sigE d1 d2 d3 d4 d5 d6 w_o_regX w_o_regY w_o_regInf w_o_privKey w_o_hasKey w_o_pubX w_o_pubY w_o_pubInf w_o_msg w_o_p w_o_a w_o_gx w_o_gy w_o_b w_o_msgLen w_o_sigX w_o_sigY w_o_sigInf w_o_sigS w_o_sigE h
  unfold f_init_215 at h
  refine OEnds.adv hm_1 7 (pc' := 226) (L' := [.val (.ref 0), .unset, .unset, .unset, .unset, .unset, .unset]) (S' := [.int 0, .long o_gy, .long o_gx, .int 0, .ref 0]) (H' := (bk0 o_regX o_regY o_regInf o_privKey o_hasKey o_pubX o_pubY o_pubInf o_msg o_p o_a o_gx o_gy o_b o_msgLen o_sigX o_sigY o_sigInf o_sigS o_sigE [])) rfl ?_
  obtain ⟨⟨s26, s27, s28⟩, hq27, h⟩ := bnd h
  refine OEnds.call0 hm_1 rfl rfl (by decide) rfl (as := [.ref 0, .int 0, .long o_gx, .long o_gy, .int 0]) (rest := []) rfl rfl (ok_setRegister hq27) ?_
  refine OEnds.adv hm_1 18 (pc' := 259) (L' := [.val (.ref 0), .unset, .unset, .unset, .unset, .unset, .unset]) (S' := []) (H' := (bk0 s26 s27 s28 o_privKey o_hasKey o_pubX o_pubY o_pubInf o_msg o_p o_a o_gx o_gy o_b 0 0 0 1 0 0 [])) rfl ?_
  cases h
  exact OEnds.vret hm_1 rfl rfl
theorem ok_init_193 {k215 : List Int64 → List Int64 → List Int32 → List Int64 → List Int32 → List Int64 → List Int64 → List Int32 → List Int32 → Int64 → Int64 → Int64 → Int64 → Int64 → Int32 → Int64 → Int64 → Int32 → Int64 → Int32 → Option (List Int64 × List Int64 × List Int32 × List Int64 × List Int32 × List Int64 × List Int64 × List Int32 × List Int32 × Int64 × Int64 × Int64 × Int64 × Int64 × Int32 × Int64 × Int64 × Int32 × Int64 × Int32)} (hk215 : ∀ {o_regX : List Int64} {o_regY : List Int64} {o_regInf : List Int32} {o_privKey : List Int64} {o_hasKey : List Int32} {o_pubX : List Int64} {o_pubY : List Int64} {o_pubInf : List Int32} {o_msg : List Int32} {o_p : Int64} {o_a : Int64} {o_gx : Int64} {o_gy : Int64} {o_b : Int64} {o_msgLen : Int32} {o_sigX : Int64} {o_sigY : Int64} {o_sigInf : Int32} {o_sigS : Int64} {o_sigE : Int32} {d1 d2 d3 d4 d5 d6 : Slot} {w_o_regX : List Int64} {w_o_regY : List Int64} {w_o_regInf : List Int32} {w_o_privKey : List Int64} {w_o_hasKey : List Int32} {w_o_pubX : List Int64} {w_o_pubY : List Int64} {w_o_pubInf : List Int32} {w_o_msg : List Int32} {w_o_p : Int64} {w_o_a : Int64} {w_o_gx : Int64} {w_o_gy : Int64} {w_o_b : Int64} {w_o_msgLen : Int32} {w_o_sigX : Int64} {w_o_sigY : Int64} {w_o_sigInf : Int32} {w_o_sigS : Int64} {w_o_sigE : Int32}, k215 o_regX o_regY o_regInf o_privKey o_hasKey o_pubX o_pubY o_pubInf o_msg o_p o_a o_gx o_gy o_b o_msgLen o_sigX o_sigY o_sigInf o_sigS o_sigE = some (w_o_regX, w_o_regY, w_o_regInf, w_o_privKey, w_o_hasKey, w_o_pubX, w_o_pubY, w_o_pubInf, w_o_msg, w_o_p, w_o_a, w_o_gx, w_o_gy, w_o_b, w_o_msgLen, w_o_sigX, w_o_sigY, w_o_sigInf, w_o_sigS, w_o_sigE) → OEnds own_P 1 215 [.val (.ref 0), d1, d2, d3, d4, d5, d6] [] (bk0 o_regX o_regY o_regInf o_privKey o_hasKey o_pubX o_pubY o_pubInf o_msg o_p o_a o_gx o_gy o_b o_msgLen o_sigX o_sigY o_sigInf o_sigS o_sigE []) (none, (bk0 w_o_regX w_o_regY w_o_regInf w_o_privKey w_o_hasKey w_o_pubX w_o_pubY w_o_pubInf w_o_msg w_o_p w_o_a w_o_gx w_o_gy w_o_b w_o_msgLen w_o_sigX w_o_sigY w_o_sigInf w_o_sigS w_o_sigE []), 0, 0)) : ∀ (n : Nat), ∀ {o_regX : List Int64} {o_regY : List Int64} {o_regInf : List Int32} {o_privKey : List Int64} {o_hasKey : List Int32} {o_pubX : List Int64} {o_pubY : List Int64} {o_pubInf : List Int32} {o_msg : List Int32} {o_p : Int64} {o_a : Int64} {o_gx : Int64} {o_gy : Int64} {o_b : Int64} {o_msgLen : Int32} {o_sigX : Int64} {o_sigY : Int64} {o_sigInf : Int32} {o_sigS : Int64} {o_sigE : Int32} {v6 : Int32} {d1 d2 d3 d4 d5 : Slot} {w_o_regX : List Int64} {w_o_regY : List Int64} {w_o_regInf : List Int32} {w_o_privKey : List Int64} {w_o_hasKey : List Int32} {w_o_pubX : List Int64} {w_o_pubY : List Int64} {w_o_pubInf : List Int32} {w_o_msg : List Int32} {w_o_p : Int64} {w_o_a : Int64} {w_o_gx : Int64} {w_o_gy : Int64} {w_o_b : Int64} {w_o_msgLen : Int32} {w_o_sigX : Int64} {w_o_sigY : Int64} {w_o_sigInf : Int32} {w_o_sigS : Int64} {w_o_sigE : Int32}, f_init_193 k215 n o_regX o_regY o_regInf o_privKey o_hasKey o_pubX o_pubY o_pubInf o_msg o_p o_a o_gx o_gy o_b o_msgLen o_sigX o_sigY o_sigInf o_sigS o_sigE v6 = some (w_o_regX, w_o_regY, w_o_regInf, w_o_privKey, w_o_hasKey, w_o_pubX, w_o_pubY, w_o_pubInf, w_o_msg, w_o_p, w_o_a, w_o_gx, w_o_gy, w_o_b, w_o_msgLen, w_o_sigX, w_o_sigY, w_o_sigInf, w_o_sigS, w_o_sigE) → OEnds own_P 1 193 [.val (.ref 0), d1, d2, d3, d4, d5, .val (.int v6)] [] (bk0 o_regX o_regY o_regInf o_privKey o_hasKey o_pubX o_pubY o_pubInf o_msg o_p o_a o_gx o_gy o_b o_msgLen o_sigX o_sigY o_sigInf o_sigS o_sigE []) (none, (bk0 w_o_regX w_o_regY w_o_regInf w_o_privKey w_o_hasKey w_o_pubX w_o_pubY w_o_pubInf w_o_msg w_o_p w_o_a w_o_gx w_o_gy w_o_b w_o_msgLen w_o_sigX w_o_sigY w_o_sigInf w_o_sigS w_o_sigE []), 0, 0) := by
  intro n
  induction n with
  | zero => intro o_regX o_regY o_regInf o_privKey o_hasKey o_pubX o_pubY o_pubInf o_msg o_p o_a o_gx o_gy o_b o_msgLen o_sigX o_sigY o_sigInf o_sigS o_sigE v6 d1 d2 d3 d4 d5 w_o_regX w_o_regY w_o_regInf w_o_privKey w_o_hasKey w_o_pubX w_o_pubY w_o_pubInf w_o_msg w_o_p w_o_a w_o_gx w_o_gy w_o_b w_o_msgLen w_o_sigX w_o_sigY w_o_sigInf w_o_sigS w_o_sigE h; cases h
  | succ n ih =>
    intro o_regX o_regY o_regInf o_privKey o_hasKey o_pubX o_pubY o_pubInf o_msg o_p o_a o_gx o_gy o_b o_msgLen o_sigX o_sigY o_sigInf o_sigS o_sigE v6 d1 d2 d3 d4 d5 w_o_regX w_o_regY w_o_regInf w_o_privKey w_o_hasKey w_o_pubX w_o_pubY w_o_pubInf w_o_msg w_o_p w_o_a w_o_gx w_o_gy w_o_b w_o_msgLen w_o_sigX w_o_sigY w_o_sigInf w_o_sigS w_o_sigE h
    unfold f_init_193 at h
    refine OEnds.adv hm_1 2 (pc' := 197) (L' := [.val (.ref 0), .unset, .unset, .unset, .unset, .unset, .val (.int v6)]) (S' := [.int 8, .int v6]) (H' := (bk0 o_regX o_regY o_regInf o_privKey o_hasKey o_pubX o_pubY o_pubInf o_msg o_p o_a o_gx o_gy o_b o_msgLen o_sigX o_sigY o_sigInf o_sigS o_sigE [])) rfl ?_
    by_cases hc28 : v6 < (8 : Int32)
    · simp only [if_pos hc28] at h
      refine OEnds.icmpF hm_1 rfl ((tlt hc28).2.1) ?_
      refine OEnds.adv hm_1 5 (pc' := 206) (L' := [.val (.ref 0), .unset, .unset, .unset, .unset, .unset, .val (.int v6)]) (S' := [.int 1, .long 0, .long 0, .int v6, .ref 0]) (H' := (bk0 o_regX o_regY o_regInf o_privKey o_hasKey o_pubX o_pubY o_pubInf o_msg o_p o_a o_gx o_gy o_b o_msgLen o_sigX o_sigY o_sigInf o_sigS o_sigE [])) rfl ?_
      obtain ⟨⟨s23, s24, s25⟩, hq29, h⟩ := bnd h
      refine OEnds.call0 hm_1 rfl rfl (by decide) rfl (as := [.ref 0, .int v6, .long 0, .long 0, .int 1]) (rest := []) rfl rfl (ok_setRegister hq29) ?_
      refine OEnds.adv hm_1 2 (pc' := 193) (L' := [.val (.ref 0), .unset, .unset, .unset, .unset, .unset, .val (.int (v6 + (1 : Int32)))]) (S' := []) (H' := (bk0 s23 s24 s25 o_privKey o_hasKey o_pubX o_pubY o_pubInf o_msg o_p o_a o_gx o_gy o_b o_msgLen o_sigX o_sigY o_sigInf o_sigS o_sigE [])) rfl ?_
      exact ih h
    · simp only [if_neg hc28] at h
      refine OEnds.icmpT hm_1 rfl (q := 215) rfl ((flt hc28).2.1) ?_
      show OEnds own_P 1 215 [.val (.ref 0), .unset, .unset, .unset, .unset, .unset, .val (.int v6)] [] (bk0 o_regX o_regY o_regInf o_privKey o_hasKey o_pubX o_pubY o_pubInf o_msg o_p o_a o_gx o_gy o_b o_msgLen o_sigX o_sigY o_sigInf o_sigS o_sigE []) _
      exact hk215 h
theorem ok_init_142 {k193 : List Int64 → List Int64 → List Int32 → List Int64 → List Int32 → List Int64 → List Int64 → List Int32 → List Int32 → Int64 → Int64 → Int64 → Int64 → Int64 → Int32 → Int64 → Int64 → Int32 → Int64 → Int32 → Int32 → Option (List Int64 × List Int64 × List Int32 × List Int64 × List Int32 × List Int64 × List Int64 × List Int32 × List Int32 × Int64 × Int64 × Int64 × Int64 × Int64 × Int32 × Int64 × Int64 × Int32 × Int64 × Int32)} (hk193 : ∀ {o_regX : List Int64} {o_regY : List Int64} {o_regInf : List Int32} {o_privKey : List Int64} {o_hasKey : List Int32} {o_pubX : List Int64} {o_pubY : List Int64} {o_pubInf : List Int32} {o_msg : List Int32} {o_p : Int64} {o_a : Int64} {o_gx : Int64} {o_gy : Int64} {o_b : Int64} {o_msgLen : Int32} {o_sigX : Int64} {o_sigY : Int64} {o_sigInf : Int32} {o_sigS : Int64} {o_sigE : Int32} {v6 : Int32} {d1 d2 d3 d4 d5 : Slot} {w_o_regX : List Int64} {w_o_regY : List Int64} {w_o_regInf : List Int32} {w_o_privKey : List Int64} {w_o_hasKey : List Int32} {w_o_pubX : List Int64} {w_o_pubY : List Int64} {w_o_pubInf : List Int32} {w_o_msg : List Int32} {w_o_p : Int64} {w_o_a : Int64} {w_o_gx : Int64} {w_o_gy : Int64} {w_o_b : Int64} {w_o_msgLen : Int32} {w_o_sigX : Int64} {w_o_sigY : Int64} {w_o_sigInf : Int32} {w_o_sigS : Int64} {w_o_sigE : Int32}, k193 o_regX o_regY o_regInf o_privKey o_hasKey o_pubX o_pubY o_pubInf o_msg o_p o_a o_gx o_gy o_b o_msgLen o_sigX o_sigY o_sigInf o_sigS o_sigE v6 = some (w_o_regX, w_o_regY, w_o_regInf, w_o_privKey, w_o_hasKey, w_o_pubX, w_o_pubY, w_o_pubInf, w_o_msg, w_o_p, w_o_a, w_o_gx, w_o_gy, w_o_b, w_o_msgLen, w_o_sigX, w_o_sigY, w_o_sigInf, w_o_sigS, w_o_sigE) → OEnds own_P 1 193 [.val (.ref 0), d1, d2, d3, d4, d5, .val (.int v6)] [] (bk0 o_regX o_regY o_regInf o_privKey o_hasKey o_pubX o_pubY o_pubInf o_msg o_p o_a o_gx o_gy o_b o_msgLen o_sigX o_sigY o_sigInf o_sigS o_sigE []) (none, (bk0 w_o_regX w_o_regY w_o_regInf w_o_privKey w_o_hasKey w_o_pubX w_o_pubY w_o_pubInf w_o_msg w_o_p w_o_a w_o_gx w_o_gy w_o_b w_o_msgLen w_o_sigX w_o_sigY w_o_sigInf w_o_sigS w_o_sigE []), 0, 0)) : ∀ (n : Nat), ∀ {o_regX : List Int64} {o_regY : List Int64} {o_regInf : List Int32} {o_privKey : List Int64} {o_hasKey : List Int32} {o_pubX : List Int64} {o_pubY : List Int64} {o_pubInf : List Int32} {o_msg : List Int32} {o_p : Int64} {o_a : Int64} {o_gx : Int64} {o_gy : Int64} {o_b : Int64} {o_msgLen : Int32} {o_sigX : Int64} {o_sigY : Int64} {o_sigInf : Int32} {o_sigS : Int64} {o_sigE : Int32} {v6 : Int32} {d1 d2 d3 d4 d5 : Slot} {w_o_regX : List Int64} {w_o_regY : List Int64} {w_o_regInf : List Int32} {w_o_privKey : List Int64} {w_o_hasKey : List Int32} {w_o_pubX : List Int64} {w_o_pubY : List Int64} {w_o_pubInf : List Int32} {w_o_msg : List Int32} {w_o_p : Int64} {w_o_a : Int64} {w_o_gx : Int64} {w_o_gy : Int64} {w_o_b : Int64} {w_o_msgLen : Int32} {w_o_sigX : Int64} {w_o_sigY : Int64} {w_o_sigInf : Int32} {w_o_sigS : Int64} {w_o_sigE : Int32}, f_init_142 k193 n o_regX o_regY o_regInf o_privKey o_hasKey o_pubX o_pubY o_pubInf o_msg o_p o_a o_gx o_gy o_b o_msgLen o_sigX o_sigY o_sigInf o_sigS o_sigE v6 = some (w_o_regX, w_o_regY, w_o_regInf, w_o_privKey, w_o_hasKey, w_o_pubX, w_o_pubY, w_o_pubInf, w_o_msg, w_o_p, w_o_a, w_o_gx, w_o_gy, w_o_b, w_o_msgLen, w_o_sigX, w_o_sigY, w_o_sigInf, w_o_sigS, w_o_sigE) → OEnds own_P 1 142 [.val (.ref 0), d1, d2, d3, d4, d5, .val (.int v6)] [] (bk0 o_regX o_regY o_regInf o_privKey o_hasKey o_pubX o_pubY o_pubInf o_msg o_p o_a o_gx o_gy o_b o_msgLen o_sigX o_sigY o_sigInf o_sigS o_sigE []) (none, (bk0 w_o_regX w_o_regY w_o_regInf w_o_privKey w_o_hasKey w_o_pubX w_o_pubY w_o_pubInf w_o_msg w_o_p w_o_a w_o_gx w_o_gy w_o_b w_o_msgLen w_o_sigX w_o_sigY w_o_sigInf w_o_sigS w_o_sigE []), 0, 0) := by
  intro n
  induction n with
  | zero => intro o_regX o_regY o_regInf o_privKey o_hasKey o_pubX o_pubY o_pubInf o_msg o_p o_a o_gx o_gy o_b o_msgLen o_sigX o_sigY o_sigInf o_sigS o_sigE v6 d1 d2 d3 d4 d5 w_o_regX w_o_regY w_o_regInf w_o_privKey w_o_hasKey w_o_pubX w_o_pubY w_o_pubInf w_o_msg w_o_p w_o_a w_o_gx w_o_gy w_o_b w_o_msgLen w_o_sigX w_o_sigY w_o_sigInf w_o_sigS w_o_sigE h; cases h
  | succ n ih =>
    intro o_regX o_regY o_regInf o_privKey o_hasKey o_pubX o_pubY o_pubInf o_msg o_p o_a o_gx o_gy o_b o_msgLen o_sigX o_sigY o_sigInf o_sigS o_sigE v6 d1 d2 d3 d4 d5 w_o_regX w_o_regY w_o_regInf w_o_privKey w_o_hasKey w_o_pubX w_o_pubY w_o_pubInf w_o_msg w_o_p w_o_a w_o_gx w_o_gy w_o_b w_o_msgLen w_o_sigX w_o_sigY w_o_sigInf w_o_sigS w_o_sigE h
    unfold f_init_142 at h
    refine OEnds.adv hm_1 2 (pc' := 146) (L' := [.val (.ref 0), .unset, .unset, .unset, .unset, .unset, .val (.int v6)]) (S' := [.int 8, .int v6]) (H' := (bk0 o_regX o_regY o_regInf o_privKey o_hasKey o_pubX o_pubY o_pubInf o_msg o_p o_a o_gx o_gy o_b o_msgLen o_sigX o_sigY o_sigInf o_sigS o_sigE [])) rfl ?_
    by_cases hc30 : v6 < (8 : Int32)
    · simp only [if_pos hc30] at h
      refine OEnds.icmpF hm_1 rfl ((tlt hc30).2.1) ?_
      refine OEnds.adv hm_1 1 (pc' := 150) (L' := [.val (.ref 0), .unset, .unset, .unset, .unset, .unset, .val (.int v6)]) (S' := [.ref 0]) (H' := (bk0 o_regX o_regY o_regInf o_privKey o_hasKey o_pubX o_pubY o_pubInf o_msg o_p o_a o_gx o_gy o_b o_msgLen o_sigX o_sigY o_sigInf o_sigS o_sigE [])) rfl ?_
      obtain ⟨r21, hq31, h⟩ := bnd h
      refine OEnds.call0 hm_1 rfl rfl (by decide) rfl (as := [.ref 0]) (rest := []) rfl rfl (ok_discriminant hq31) ?_
      refine OEnds.adv hm_1 2 (pc' := 155) (L' := [.val (.ref 0), .unset, .unset, .unset, .unset, .unset, .val (.int v6)]) (S' := [.int (XT.cmpL r21 (0 : Int64))]) (H' := (bk0 o_regX o_regY o_regInf o_privKey o_hasKey o_pubX o_pubY o_pubInf o_msg o_p o_a o_gx o_gy o_b o_msgLen o_sigX o_sigY o_sigInf o_sigS o_sigE [])) rfl ?_
      by_cases hc32 : r21 = (0 : Int64)
      · simp only [if_pos hc32] at h
        refine OEnds.ifT hm_1 rfl (q := 161) rfl ((teq (c_eq.mpr hc32)).1) ?_
        refine OEnds.adv hm_1 7 (pc' := 172) (L' := [.val (.ref 0), .unset, .unset, .unset, .unset, .unset, .val (.int v6)]) (S' := [.long o_p, .long (o_a + (1 : Int64)), .ref 0]) (H' := (bk0 o_regX o_regY o_regInf o_privKey o_hasKey o_pubX o_pubY o_pubInf o_msg o_p o_a o_gx o_gy o_b o_msgLen o_sigX o_sigY o_sigInf o_sigS o_sigE [])) rfl ?_
        by_cases hz33 : o_p = 0
        · simp only [if_pos hz33] at h
          cases h
        simp only [if_neg hz33] at h
        refine OEnds.plain hm_1 rfl rfl (x_lrem hz33) ?_
        refine OEnds.adv hm_1 3 (pc' := 178) (L' := [.val (.ref 0), .unset, .unset, .unset, .unset, .unset, .val (.int v6)]) (S' := [.ref 0, .ref 0]) (H' := (bk0 o_regX o_regY o_regInf o_privKey o_hasKey o_pubX o_pubY o_pubInf o_msg o_p ((o_a + (1 : Int64)) % o_p) o_gx o_gy o_b o_msgLen o_sigX o_sigY o_sigInf o_sigS o_sigE [])) rfl ?_
        obtain ⟨r22, hq34, h⟩ := bnd h
        refine OEnds.call0 hm_1 rfl rfl (by decide) rfl (as := [.ref 0]) (rest := [.ref 0]) rfl rfl (ok_computeB hq34) ?_
        refine OEnds.adv hm_1 3 (pc' := 142) (L' := [.val (.ref 0), .unset, .unset, .unset, .unset, .unset, .val (.int (v6 + (1 : Int32)))]) (S' := []) (H' := (bk0 o_regX o_regY o_regInf o_privKey o_hasKey o_pubX o_pubY o_pubInf o_msg o_p ((o_a + (1 : Int64)) % o_p) o_gx o_gy r22 o_msgLen o_sigX o_sigY o_sigInf o_sigS o_sigE [])) rfl ?_
        exact ih h
      · simp only [if_neg hc32] at h
        refine OEnds.ifF hm_1 rfl ((feq (mt c_eq.mp hc32)).1) ?_
        refine OEnds.adv hm_1 3 (pc' := 193) (L' := [.val (.ref 0), .unset, .unset, .unset, .unset, .unset, .val (.int 0)]) (S' := []) (H' := (bk0 o_regX o_regY o_regInf o_privKey o_hasKey o_pubX o_pubY o_pubInf o_msg o_p o_a o_gx o_gy o_b o_msgLen o_sigX o_sigY o_sigInf o_sigS o_sigE [])) rfl ?_
        exact hk193 h
    · simp only [if_neg hc30] at h
      refine OEnds.icmpT hm_1 rfl (q := 190) rfl ((flt hc30).2.1) ?_
      refine OEnds.adv hm_1 2 (pc' := 193) (L' := [.val (.ref 0), .unset, .unset, .unset, .unset, .unset, .val (.int 0)]) (S' := []) (H' := (bk0 o_regX o_regY o_regInf o_privKey o_hasKey o_pubX o_pubY o_pubInf o_msg o_p o_a o_gx o_gy o_b o_msgLen o_sigX o_sigY o_sigInf o_sigS o_sigE [])) rfl ?_
      exact hk193 h
theorem ok_init_93 : ∀ {o_regX : List Int64} {o_regY : List Int64} {o_regInf : List Int32} {o_privKey : List Int64} {o_hasKey : List Int32} {o_pubX : List Int64} {o_pubY : List Int64} {o_pubInf : List Int32} {o_msg : List Int32} {o_p : Int64} {o_a : Int64} {o_gx : Int64} {o_gy : Int64} {o_b : Int64} {o_msgLen : Int32} {o_sigX : Int64} {o_sigY : Int64} {o_sigInf : Int32} {o_sigS : Int64} {o_sigE : Int32} {v2 : Int32} {v3 : Int32} {v4 : Int32} {v5 : Int32} {d1 d6 : Slot} {w_o_regX : List Int64} {w_o_regY : List Int64} {w_o_regInf : List Int32} {w_o_privKey : List Int64} {w_o_hasKey : List Int32} {w_o_pubX : List Int64} {w_o_pubY : List Int64} {w_o_pubInf : List Int32} {w_o_msg : List Int32} {w_o_p : Int64} {w_o_a : Int64} {w_o_gx : Int64} {w_o_gy : Int64} {w_o_b : Int64} {w_o_msgLen : Int32} {w_o_sigX : Int64} {w_o_sigY : Int64} {w_o_sigInf : Int32} {w_o_sigS : Int64} {w_o_sigE : Int32}, f_init_93 o_regX o_regY o_regInf o_privKey o_hasKey o_pubX o_pubY o_pubInf o_msg o_p o_a o_gx o_gy o_b o_msgLen o_sigX o_sigY o_sigInf o_sigS o_sigE v2 v3 v4 v5 = some (w_o_regX, w_o_regY, w_o_regInf, w_o_privKey, w_o_hasKey, w_o_pubX, w_o_pubY, w_o_pubInf, w_o_msg, w_o_p, w_o_a, w_o_gx, w_o_gy, w_o_b, w_o_msgLen, w_o_sigX, w_o_sigY, w_o_sigInf, w_o_sigS, w_o_sigE) → OEnds own_P 1 93 [.val (.ref 0), d1, .val (.int v2), .val (.int v3), .val (.int v4), .val (.int v5), d6] [] (bk0 o_regX o_regY o_regInf o_privKey o_hasKey o_pubX o_pubY o_pubInf o_msg o_p o_a o_gx o_gy o_b o_msgLen o_sigX o_sigY o_sigInf o_sigS o_sigE []) (none, (bk0 w_o_regX w_o_regY w_o_regInf w_o_privKey w_o_hasKey w_o_pubX w_o_pubY w_o_pubInf w_o_msg w_o_p w_o_a w_o_gx w_o_gy w_o_b w_o_msgLen w_o_sigX w_o_sigY w_o_sigInf w_o_sigS w_o_sigE []), 0, 0) := by
  intro o_regX o_regY o_regInf o_privKey o_hasKey o_pubX o_pubY o_pubInf o_msg o_p o_a o_gx o_gy o_b o_msgLen o_sigX o_sigY o_sigInf o_sigS o_sigE v2 v3 v4 v5 d1 d6 w_o_regX w_o_regY w_o_regInf w_o_privKey w_o_hasKey w_o_pubX w_o_pubY w_o_pubInf w_o_msg w_o_p w_o_a w_o_gx w_o_gy w_o_b w_o_msgLen w_o_sigX w_o_sigY w_o_sigInf w_o_sigS w_o_sigE h
  unfold f_init_93 at h
  refine OEnds.adv hm_1 3 (pc' := 97) (L' := [.val (.ref 0), .unset, .val (.int v2), .val (.int v3), .val (.int v4), .val (.int v5), .unset]) (S' := [.int v5, .ref 0, .ref 0]) (H' := (bk0 o_regX o_regY o_regInf o_privKey o_hasKey o_pubX o_pubY o_pubInf o_msg o_p o_a o_gx o_gy o_b o_msgLen o_sigX o_sigY o_sigInf o_sigS o_sigE [])) rfl ?_
  obtain ⟨r16, hq35, h⟩ := bnd h
  refine OEnds.call0 hm_1 rfl rfl (by decide) rfl (as := [.ref 0, .int v5]) (rest := [.ref 0]) rfl rfl (ok_primeAt hq35) ?_
  refine OEnds.adv hm_1 4 (pc' := 106) (L' := [.val (.ref 0), .unset, .val (.int v2), .val (.int v3), .val (.int v4), .val (.int v5), .unset]) (S' := [.int v2, .ref 0, .ref 0]) (H' := (bk0 o_regX o_regY o_regInf o_privKey o_hasKey o_pubX o_pubY o_pubInf o_msg r16 o_a o_gx o_gy o_b o_msgLen o_sigX o_sigY o_sigInf o_sigS o_sigE [])) rfl ?_
  obtain ⟨r17, hq36, h⟩ := bnd h
  refine OEnds.call0 hm_1 rfl rfl (by decide) rfl (as := [.ref 0, .int v2]) (rest := [.ref 0]) rfl rfl (ok_clampField hq36) ?_
  refine OEnds.adv hm_1 4 (pc' := 115) (L' := [.val (.ref 0), .unset, .val (.int v2), .val (.int v3), .val (.int v4), .val (.int v5), .unset]) (S' := [.int v3, .ref 0, .ref 0]) (H' := (bk0 o_regX o_regY o_regInf o_privKey o_hasKey o_pubX o_pubY o_pubInf o_msg r16 r17 o_gx o_gy o_b o_msgLen o_sigX o_sigY o_sigInf o_sigS o_sigE [])) rfl ?_
  obtain ⟨r18, hq37, h⟩ := bnd h
  refine OEnds.call0 hm_1 rfl rfl (by decide) rfl (as := [.ref 0, .int v3]) (rest := [.ref 0]) rfl rfl (ok_clampField hq37) ?_
  refine OEnds.adv hm_1 4 (pc' := 125) (L' := [.val (.ref 0), .unset, .val (.int v2), .val (.int v3), .val (.int v4), .val (.int v5), .unset]) (S' := [.int v4, .ref 0, .ref 0]) (H' := (bk0 o_regX o_regY o_regInf o_privKey o_hasKey o_pubX o_pubY o_pubInf o_msg r16 r17 r18 o_gy o_b o_msgLen o_sigX o_sigY o_sigInf o_sigS o_sigE [])) rfl ?_
  obtain ⟨r19, hq38, h⟩ := bnd h
  refine OEnds.call0 hm_1 rfl rfl (by decide) rfl (as := [.ref 0, .int v4]) (rest := [.ref 0]) rfl rfl (ok_clampField hq38) ?_
  refine OEnds.adv hm_1 3 (pc' := 133) (L' := [.val (.ref 0), .unset, .val (.int v2), .val (.int v3), .val (.int v4), .val (.int v5), .unset]) (S' := [.ref 0, .ref 0]) (H' := (bk0 o_regX o_regY o_regInf o_privKey o_hasKey o_pubX o_pubY o_pubInf o_msg r16 r17 r18 r19 o_b o_msgLen o_sigX o_sigY o_sigInf o_sigS o_sigE [])) rfl ?_
  obtain ⟨r20, hq39, h⟩ := bnd h
  refine OEnds.call0 hm_1 rfl rfl (by decide) rfl (as := [.ref 0]) (rest := [.ref 0]) rfl rfl (ok_computeB hq39) ?_
  refine OEnds.adv hm_1 3 (pc' := 142) (L' := [.val (.ref 0), .unset, .val (.int v2), .val (.int v3), .val (.int v4), .val (.int v5), .val (.int 0)]) (S' := []) (H' := (bk0 o_regX o_regY o_regInf o_privKey o_hasKey o_pubX o_pubY o_pubInf o_msg r16 r17 r18 r19 r20 o_msgLen o_sigX o_sigY o_sigInf o_sigS o_sigE [])) rfl ?_
  exact ok_init_142 (k193 := f_init_193 f_init_215 100000) (ok_init_193 (k215 := f_init_215) ok_init_215 100000) 100000 h
theorem ok_init_82 : ∀ {o_regX : List Int64} {o_regY : List Int64} {o_regInf : List Int32} {o_privKey : List Int64} {o_hasKey : List Int32} {o_pubX : List Int64} {o_pubY : List Int64} {o_pubInf : List Int32} {o_msg : List Int32} {o_p : Int64} {o_a : Int64} {o_gx : Int64} {o_gy : Int64} {o_b : Int64} {o_msgLen : Int32} {o_sigX : Int64} {o_sigY : Int64} {o_sigInf : Int32} {o_sigS : Int64} {o_sigE : Int32} {v2 : Int32} {v3 : Int32} {v4 : Int32} {v5 : Int32} {d1 d6 : Slot} {w_o_regX : List Int64} {w_o_regY : List Int64} {w_o_regInf : List Int32} {w_o_privKey : List Int64} {w_o_hasKey : List Int32} {w_o_pubX : List Int64} {w_o_pubY : List Int64} {w_o_pubInf : List Int32} {w_o_msg : List Int32} {w_o_p : Int64} {w_o_a : Int64} {w_o_gx : Int64} {w_o_gy : Int64} {w_o_b : Int64} {w_o_msgLen : Int32} {w_o_sigX : Int64} {w_o_sigY : Int64} {w_o_sigInf : Int32} {w_o_sigS : Int64} {w_o_sigE : Int32}, f_init_82 o_regX o_regY o_regInf o_privKey o_hasKey o_pubX o_pubY o_pubInf o_msg o_p o_a o_gx o_gy o_b o_msgLen o_sigX o_sigY o_sigInf o_sigS o_sigE v2 v3 v4 v5 = some (w_o_regX, w_o_regY, w_o_regInf, w_o_privKey, w_o_hasKey, w_o_pubX, w_o_pubY, w_o_pubInf, w_o_msg, w_o_p, w_o_a, w_o_gx, w_o_gy, w_o_b, w_o_msgLen, w_o_sigX, w_o_sigY, w_o_sigInf, w_o_sigS, w_o_sigE) → OEnds own_P 1 82 [.val (.ref 0), d1, .val (.int v2), .val (.int v3), .val (.int v4), .val (.int v5), d6] [] (bk0 o_regX o_regY o_regInf o_privKey o_hasKey o_pubX o_pubY o_pubInf o_msg o_p o_a o_gx o_gy o_b o_msgLen o_sigX o_sigY o_sigInf o_sigS o_sigE []) (none, (bk0 w_o_regX w_o_regY w_o_regInf w_o_privKey w_o_hasKey w_o_pubX w_o_pubY w_o_pubInf w_o_msg w_o_p w_o_a w_o_gx w_o_gy w_o_b w_o_msgLen w_o_sigX w_o_sigY w_o_sigInf w_o_sigS w_o_sigE []), 0, 0) := by
  intro o_regX o_regY o_regInf o_privKey o_hasKey o_pubX o_pubY o_pubInf o_msg o_p o_a o_gx o_gy o_b o_msgLen o_sigX o_sigY o_sigInf o_sigS o_sigE v2 v3 v4 v5 d1 d6 w_o_regX w_o_regY w_o_regInf w_o_privKey w_o_hasKey w_o_pubX w_o_pubY w_o_pubInf w_o_msg w_o_p w_o_a w_o_gx w_o_gy w_o_b w_o_msgLen w_o_sigX w_o_sigY w_o_sigInf w_o_sigS w_o_sigE h
  unfold f_init_82 at h
  refine OEnds.adv hm_1 2 (pc' := 86) (L' := [.val (.ref 0), .unset, .val (.int v2), .val (.int v3), .val (.int v4), .val (.int v5), .unset]) (S' := [.int 7, .int v5]) (H' := (bk0 o_regX o_regY o_regInf o_privKey o_hasKey o_pubX o_pubY o_pubInf o_msg o_p o_a o_gx o_gy o_b o_msgLen o_sigX o_sigY o_sigInf o_sigS o_sigE [])) rfl ?_
  by_cases hc40 : (7 : Int32) < v5
  · simp only [if_pos hc40] at h
    refine OEnds.icmpF hm_1 rfl ((tlt hc40).2.2.2) ?_
    refine OEnds.adv hm_1 2 (pc' := 93) (L' := [.val (.ref 0), .unset, .val (.int v2), .val (.int v3), .val (.int v4), .val (.int 7), .unset]) (S' := []) (H' := (bk0 o_regX o_regY o_regInf o_privKey o_hasKey o_pubX o_pubY o_pubInf o_msg o_p o_a o_gx o_gy o_b o_msgLen o_sigX o_sigY o_sigInf o_sigS o_sigE [])) rfl ?_
    exact ok_init_93 h
  · simp only [if_neg hc40] at h
    refine OEnds.icmpT hm_1 rfl (q := 93) rfl ((flt hc40).2.2.2) ?_
    show OEnds own_P 1 93 [.val (.ref 0), .unset, .val (.int v2), .val (.int v3), .val (.int v4), .val (.int v5), .unset] [] (bk0 o_regX o_regY o_regInf o_privKey o_hasKey o_pubX o_pubY o_pubInf o_msg o_p o_a o_gx o_gy o_b o_msgLen o_sigX o_sigY o_sigInf o_sigS o_sigE []) _
    exact ok_init_93 h
theorem ok_init {v1 : Int32} {v2 : Int32} {v3 : Int32} {v4 : Int32} {w_o_regX : List Int64} {w_o_regY : List Int64} {w_o_regInf : List Int32} {w_o_privKey : List Int64} {w_o_hasKey : List Int32} {w_o_pubX : List Int64} {w_o_pubY : List Int64} {w_o_pubInf : List Int32} {w_o_msg : List Int32} {w_o_p : Int64} {w_o_a : Int64} {w_o_gx : Int64} {w_o_gy : Int64} {w_o_b : Int64} {w_o_msgLen : Int32} {w_o_sigX : Int64} {w_o_sigY : Int64} {w_o_sigInf : Int32} {w_o_sigS : Int64} {w_o_sigE : Int32} (h : f_init v1 v2 v3 v4 = some (w_o_regX, w_o_regY, w_o_regInf, w_o_privKey, w_o_hasKey, w_o_pubX, w_o_pubY, w_o_pubInf, w_o_msg, w_o_p, w_o_a, w_o_gx, w_o_gy, w_o_b, w_o_msgLen, w_o_sigX, w_o_sigY, w_o_sigInf, w_o_sigS, w_o_sigE)) : OEnds own_P 1 0 [.val (.ref 0), .val (.int v1), .val (.int v2), .val (.int v3), .val (.int v4), .unset, .unset] [] ((.inl (0, [.null, .null, .null, .null, .null, .null, .null, .null, .null, .long 0, .long 0, .long 0, .long 0, .long 0, .int 0, .long 0, .long 0, .int 0, .long 0, .int 0]) : ACell) :: []) (none, (bk0 w_o_regX w_o_regY w_o_regInf w_o_privKey w_o_hasKey w_o_pubX w_o_pubY w_o_pubInf w_o_msg w_o_p w_o_a w_o_gx w_o_gy w_o_b w_o_msgLen w_o_sigX w_o_sigY w_o_sigInf w_o_sigS w_o_sigE []), 9, 108) := by
  unfold f_init at h
  refine OEnds.adv hm_1 1 (pc' := 1) (L' := [.val (.ref 0), .val (.int v1), .val (.int v2), .val (.int v3), .val (.int v4), .unset, .unset]) (S' := [.ref 0]) (H' := ((.inl (0, [.null, .null, .null, .null, .null, .null, .null, .null, .null, .long 0, .long 0, .long 0, .long 0, .long 0, .int 0, .long 0, .long 0, .int 0, .long 0, .int 0]) : ACell) :: [])) rfl ?_
  refine OEnds.oinit hm_1 rfl ⟨Nat.le_of_ble_eq_true rfl, Nat.le_of_ble_eq_true rfl⟩ ?_
  refine OEnds.adv hm_1 2 (pc' := 7) (L' := [.val (.ref 0), .val (.int v1), .val (.int v2), .val (.int v3), .val (.int v4), .unset, .unset]) (S' := [.int 8, .ref 0]) (H' := ((.inl (0, [.null, .null, .null, .null, .null, .null, .null, .null, .null, .long 0, .long 0, .long 0, .long 0, .long 0, .int 0, .long 0, .long 0, .int 0, .long 0, .int 0]) : ACell) :: [])) rfl ?_
  refine OEnds.made1 hm_1 rfl rfl (ks := 8) rfl rfl ?_
  refine OEnds.adv hm_1 3 (pc' := 15) (L' := [.val (.ref 0), .val (.int v1), .val (.int v2), .val (.int v3), .val (.int v4), .unset, .unset]) (S' := [.int 8, .ref 0]) (H' := ((.inl (0, [.ref 1, .null, .null, .null, .null, .null, .null, .null, .null, .long 0, .long 0, .long 0, .long 0, .long 0, .int 0, .long 0, .long 0, .int 0, .long 0, .int 0]) : ACell) :: .inr (.inr (List.replicate 8 0)) :: [])) rfl ?_
  refine OEnds.made1 hm_1 rfl rfl (ks := 8) rfl rfl ?_
  refine OEnds.adv hm_1 3 (pc' := 23) (L' := [.val (.ref 0), .val (.int v1), .val (.int v2), .val (.int v3), .val (.int v4), .unset, .unset]) (S' := [.int 8, .ref 0]) (H' := ((.inl (0, [.ref 1, .ref 2, .null, .null, .null, .null, .null, .null, .null, .long 0, .long 0, .long 0, .long 0, .long 0, .int 0, .long 0, .long 0, .int 0, .long 0, .int 0]) : ACell) :: .inr (.inr (List.replicate 8 0)) :: .inr (.inr (List.replicate 8 0)) :: [])) rfl ?_
  refine OEnds.made1 hm_1 rfl rfl (ks := 8) rfl rfl ?_
  refine OEnds.adv hm_1 3 (pc' := 30) (L' := [.val (.ref 0), .val (.int v1), .val (.int v2), .val (.int v3), .val (.int v4), .unset, .unset]) (S' := [.int 4, .ref 0]) (H' := ((.inl (0, [.ref 1, .ref 2, .ref 3, .null, .null, .null, .null, .null, .null, .long 0, .long 0, .long 0, .long 0, .long 0, .int 0, .long 0, .long 0, .int 0, .long 0, .int 0]) : ACell) :: .inr (.inr (List.replicate 8 0)) :: .inr (.inr (List.replicate 8 0)) :: .inr (.inl (true, (List.replicate 8 0))) :: [])) rfl ?_
  refine OEnds.made1 hm_1 rfl rfl (ks := 4) rfl rfl ?_
  refine OEnds.adv hm_1 3 (pc' := 37) (L' := [.val (.ref 0), .val (.int v1), .val (.int v2), .val (.int v3), .val (.int v4), .unset, .unset]) (S' := [.int 4, .ref 0]) (H' := ((.inl (0, [.ref 1, .ref 2, .ref 3, .ref 4, .null, .null, .null, .null, .null, .long 0, .long 0, .long 0, .long 0, .long 0, .int 0, .long 0, .long 0, .int 0, .long 0, .int 0]) : ACell) :: .inr (.inr (List.replicate 8 0)) :: .inr (.inr (List.replicate 8 0)) :: .inr (.inl (true, (List.replicate 8 0))) :: .inr (.inr (List.replicate 4 0)) :: [])) rfl ?_
  refine OEnds.made1 hm_1 rfl rfl (ks := 4) rfl rfl ?_
  refine OEnds.adv hm_1 3 (pc' := 44) (L' := [.val (.ref 0), .val (.int v1), .val (.int v2), .val (.int v3), .val (.int v4), .unset, .unset]) (S' := [.int 4, .ref 0]) (H' := ((.inl (0, [.ref 1, .ref 2, .ref 3, .ref 4, .ref 5, .null, .null, .null, .null, .long 0, .long 0, .long 0, .long 0, .long 0, .int 0, .long 0, .long 0, .int 0, .long 0, .int 0]) : ACell) :: .inr (.inr (List.replicate 8 0)) :: .inr (.inr (List.replicate 8 0)) :: .inr (.inl (true, (List.replicate 8 0))) :: .inr (.inr (List.replicate 4 0)) :: .inr (.inl (true, (List.replicate 4 0))) :: [])) rfl ?_
  refine OEnds.made1 hm_1 rfl rfl (ks := 4) rfl rfl ?_
  refine OEnds.adv hm_1 3 (pc' := 51) (L' := [.val (.ref 0), .val (.int v1), .val (.int v2), .val (.int v3), .val (.int v4), .unset, .unset]) (S' := [.int 4, .ref 0]) (H' := ((.inl (0, [.ref 1, .ref 2, .ref 3, .ref 4, .ref 5, .ref 6, .null, .null, .null, .long 0, .long 0, .long 0, .long 0, .long 0, .int 0, .long 0, .long 0, .int 0, .long 0, .int 0]) : ACell) :: .inr (.inr (List.replicate 8 0)) :: .inr (.inr (List.replicate 8 0)) :: .inr (.inl (true, (List.replicate 8 0))) :: .inr (.inr (List.replicate 4 0)) :: .inr (.inl (true, (List.replicate 4 0))) :: .inr (.inr (List.replicate 4 0)) :: [])) rfl ?_
  refine OEnds.made1 hm_1 rfl rfl (ks := 4) rfl rfl ?_
  refine OEnds.adv hm_1 3 (pc' := 58) (L' := [.val (.ref 0), .val (.int v1), .val (.int v2), .val (.int v3), .val (.int v4), .unset, .unset]) (S' := [.int 4, .ref 0]) (H' := ((.inl (0, [.ref 1, .ref 2, .ref 3, .ref 4, .ref 5, .ref 6, .ref 7, .null, .null, .long 0, .long 0, .long 0, .long 0, .long 0, .int 0, .long 0, .long 0, .int 0, .long 0, .int 0]) : ACell) :: .inr (.inr (List.replicate 8 0)) :: .inr (.inr (List.replicate 8 0)) :: .inr (.inl (true, (List.replicate 8 0))) :: .inr (.inr (List.replicate 4 0)) :: .inr (.inl (true, (List.replicate 4 0))) :: .inr (.inr (List.replicate 4 0)) :: .inr (.inr (List.replicate 4 0)) :: [])) rfl ?_
  refine OEnds.made1 hm_1 rfl rfl (ks := 4) rfl rfl ?_
  refine OEnds.adv hm_1 3 (pc' := 66) (L' := [.val (.ref 0), .val (.int v1), .val (.int v2), .val (.int v3), .val (.int v4), .unset, .unset]) (S' := [.int 64, .ref 0]) (H' := ((.inl (0, [.ref 1, .ref 2, .ref 3, .ref 4, .ref 5, .ref 6, .ref 7, .ref 8, .null, .long 0, .long 0, .long 0, .long 0, .long 0, .int 0, .long 0, .long 0, .int 0, .long 0, .int 0]) : ACell) :: .inr (.inr (List.replicate 8 0)) :: .inr (.inr (List.replicate 8 0)) :: .inr (.inl (true, (List.replicate 8 0))) :: .inr (.inr (List.replicate 4 0)) :: .inr (.inl (true, (List.replicate 4 0))) :: .inr (.inr (List.replicate 4 0)) :: .inr (.inr (List.replicate 4 0)) :: .inr (.inl (true, (List.replicate 4 0))) :: [])) rfl ?_
  refine OEnds.made1 hm_1 rfl rfl (ks := 64) rfl rfl ?_
  refine OEnds.adv hm_1 4 (pc' := 76) (L' := [.val (.ref 0), .val (.int v1), .val (.int v2), .val (.int v3), .val (.int v4), .val (.int v1), .unset]) (S' := [.int v1]) (H' := (bk0 (List.replicate 8 0) (List.replicate 8 0) (List.replicate 8 0) (List.replicate 4 0) (List.replicate 4 0) (List.replicate 4 0) (List.replicate 4 0) (List.replicate 4 0) (List.replicate 64 0) 0 0 0 0 0 0 0 0 0 0 0 [])) rfl ?_
  by_cases hc41 : v1 < (0 : Int32)
  · simp only [if_pos hc41] at h
    refine OEnds.ifF hm_1 rfl ((tlt hc41).2.1) ?_
    refine OEnds.adv hm_1 2 (pc' := 82) (L' := [.val (.ref 0), .val (.int v1), .val (.int v2), .val (.int v3), .val (.int v4), .val (.int 0), .unset]) (S' := []) (H' := (bk0 (List.replicate 8 0) (List.replicate 8 0) (List.replicate 8 0) (List.replicate 4 0) (List.replicate 4 0) (List.replicate 4 0) (List.replicate 4 0) (List.replicate 4 0) (List.replicate 64 0) 0 0 0 0 0 0 0 0 0 0 0 [])) rfl ?_
    exact ok_init_82 h
  · simp only [if_neg hc41] at h
    refine OEnds.ifT hm_1 rfl (q := 82) rfl ((flt hc41).2.1) ?_
    show OEnds own_P 1 82 [.val (.ref 0), .val (.int v1), .val (.int v2), .val (.int v3), .val (.int v4), .val (.int v1), .unset] [] (bk0 (List.replicate 8 0) (List.replicate 8 0) (List.replicate 8 0) (List.replicate 4 0) (List.replicate 4 0) (List.replicate 4 0) (List.replicate 4 0) (List.replicate 4 0) (List.replicate 64 0) 0 0 0 0 0 0 0 0 0 0 0 []) _
    exact ok_init_82 h
theorem ok_param {o_regX : List Int64} {o_regY : List Int64} {o_regInf : List Int32} {o_privKey : List Int64} {o_hasKey : List Int32} {o_pubX : List Int64} {o_pubY : List Int64} {o_pubInf : List Int32} {o_msg : List Int32} {o_p : Int64} {o_a : Int64} {o_gx : Int64} {o_gy : Int64} {o_b : Int64} {o_msgLen : Int32} {o_sigX : Int64} {o_sigY : Int64} {o_sigInf : Int32} {o_sigS : Int64} {o_sigE : Int32} {po : List ACell} {v1 : Int32} {res : Int32} (h : f_param o_p o_a o_gx o_gy o_b v1 = some res) : OEnds own_P 10 0 [.val (.ref 0), .val (.int v1)] [] (bk0 o_regX o_regY o_regInf o_privKey o_hasKey o_pubX o_pubY o_pubInf o_msg o_p o_a o_gx o_gy o_b o_msgLen o_sigX o_sigY o_sigInf o_sigS o_sigE po) (some (.int res), (bk0 o_regX o_regY o_regInf o_privKey o_hasKey o_pubX o_pubY o_pubInf o_msg o_p o_a o_gx o_gy o_b o_msgLen o_sigX o_sigY o_sigInf o_sigS o_sigE po), 0, 0) := by
  unfold f_param at h
  refine OEnds.adv hm_10 1 (pc' := 1) (L' := [.val (.ref 0), .val (.int v1)]) (S' := [.int v1]) (H' := (bk0 o_regX o_regY o_regInf o_privKey o_hasKey o_pubX o_pubY o_pubInf o_msg o_p o_a o_gx o_gy o_b o_msgLen o_sigX o_sigY o_sigInf o_sigS o_sigE po)) rfl ?_
  by_cases hc42 : v1 = (0 : Int32)
  · simp only [if_pos hc42] at h
    refine OEnds.ifF hm_10 rfl ((teq hc42).2) ?_
    refine OEnds.adv hm_10 3 (pc' := 9) (L' := [.val (.ref 0), .val (.int v1)]) (S' := [.int o_p.toInt32]) (H' := (bk0 o_regX o_regY o_regInf o_privKey o_hasKey o_pubX o_pubY o_pubInf o_msg o_p o_a o_gx o_gy o_b o_msgLen o_sigX o_sigY o_sigInf o_sigS o_sigE po)) rfl ?_
    cases h
    exact OEnds.iret hm_10 rfl rfl
  · simp only [if_neg hc42] at h
    refine OEnds.ifT hm_10 rfl (q := 10) rfl ((feq hc42).2) ?_
    refine OEnds.adv hm_10 2 (pc' := 12) (L' := [.val (.ref 0), .val (.int v1)]) (S' := [.int 1, .int v1]) (H' := (bk0 o_regX o_regY o_regInf o_privKey o_hasKey o_pubX o_pubY o_pubInf o_msg o_p o_a o_gx o_gy o_b o_msgLen o_sigX o_sigY o_sigInf o_sigS o_sigE po)) rfl ?_
    by_cases hc43 : v1 = (1 : Int32)
    · simp only [if_pos hc43] at h
      refine OEnds.icmpF hm_10 rfl ((teq hc43).2) ?_
      refine OEnds.adv hm_10 3 (pc' := 20) (L' := [.val (.ref 0), .val (.int v1)]) (S' := [.int o_a.toInt32]) (H' := (bk0 o_regX o_regY o_regInf o_privKey o_hasKey o_pubX o_pubY o_pubInf o_msg o_p o_a o_gx o_gy o_b o_msgLen o_sigX o_sigY o_sigInf o_sigS o_sigE po)) rfl ?_
      cases h
      exact OEnds.iret hm_10 rfl rfl
    · simp only [if_neg hc43] at h
      refine OEnds.icmpT hm_10 rfl (q := 21) rfl ((feq hc43).2) ?_
      refine OEnds.adv hm_10 2 (pc' := 23) (L' := [.val (.ref 0), .val (.int v1)]) (S' := [.int 2, .int v1]) (H' := (bk0 o_regX o_regY o_regInf o_privKey o_hasKey o_pubX o_pubY o_pubInf o_msg o_p o_a o_gx o_gy o_b o_msgLen o_sigX o_sigY o_sigInf o_sigS o_sigE po)) rfl ?_
      by_cases hc44 : v1 = (2 : Int32)
      · simp only [if_pos hc44] at h
        refine OEnds.icmpF hm_10 rfl ((teq hc44).2) ?_
        refine OEnds.adv hm_10 3 (pc' := 31) (L' := [.val (.ref 0), .val (.int v1)]) (S' := [.int o_b.toInt32]) (H' := (bk0 o_regX o_regY o_regInf o_privKey o_hasKey o_pubX o_pubY o_pubInf o_msg o_p o_a o_gx o_gy o_b o_msgLen o_sigX o_sigY o_sigInf o_sigS o_sigE po)) rfl ?_
        cases h
        exact OEnds.iret hm_10 rfl rfl
      · simp only [if_neg hc44] at h
        refine OEnds.icmpT hm_10 rfl (q := 32) rfl ((feq hc44).2) ?_
        refine OEnds.adv hm_10 2 (pc' := 34) (L' := [.val (.ref 0), .val (.int v1)]) (S' := [.int 3, .int v1]) (H' := (bk0 o_regX o_regY o_regInf o_privKey o_hasKey o_pubX o_pubY o_pubInf o_msg o_p o_a o_gx o_gy o_b o_msgLen o_sigX o_sigY o_sigInf o_sigS o_sigE po)) rfl ?_
        by_cases hc45 : v1 = (3 : Int32)
        · simp only [if_pos hc45] at h
          refine OEnds.icmpF hm_10 rfl ((teq hc45).2) ?_
          refine OEnds.adv hm_10 3 (pc' := 42) (L' := [.val (.ref 0), .val (.int v1)]) (S' := [.int o_gx.toInt32]) (H' := (bk0 o_regX o_regY o_regInf o_privKey o_hasKey o_pubX o_pubY o_pubInf o_msg o_p o_a o_gx o_gy o_b o_msgLen o_sigX o_sigY o_sigInf o_sigS o_sigE po)) rfl ?_
          cases h
          exact OEnds.iret hm_10 rfl rfl
        · simp only [if_neg hc45] at h
          refine OEnds.icmpT hm_10 rfl (q := 43) rfl ((feq hc45).2) ?_
          refine OEnds.adv hm_10 2 (pc' := 45) (L' := [.val (.ref 0), .val (.int v1)]) (S' := [.int 4, .int v1]) (H' := (bk0 o_regX o_regY o_regInf o_privKey o_hasKey o_pubX o_pubY o_pubInf o_msg o_p o_a o_gx o_gy o_b o_msgLen o_sigX o_sigY o_sigInf o_sigS o_sigE po)) rfl ?_
          by_cases hc46 : v1 = (4 : Int32)
          · simp only [if_pos hc46] at h
            refine OEnds.icmpF hm_10 rfl ((teq hc46).2) ?_
            refine OEnds.adv hm_10 3 (pc' := 53) (L' := [.val (.ref 0), .val (.int v1)]) (S' := [.int o_gy.toInt32]) (H' := (bk0 o_regX o_regY o_regInf o_privKey o_hasKey o_pubX o_pubY o_pubInf o_msg o_p o_a o_gx o_gy o_b o_msgLen o_sigX o_sigY o_sigInf o_sigS o_sigE po)) rfl ?_
            cases h
            exact OEnds.iret hm_10 rfl rfl
          · simp only [if_neg hc46] at h
            refine OEnds.icmpT hm_10 rfl (q := 54) rfl ((feq hc46).2) ?_
            refine OEnds.adv hm_10 1 (pc' := 55) (L' := [.val (.ref 0), .val (.int v1)]) (S' := [.int (-1)]) (H' := (bk0 o_regX o_regY o_regInf o_privKey o_hasKey o_pubX o_pubY o_pubInf o_msg o_p o_a o_gx o_gy o_b o_msgLen o_sigX o_sigY o_sigInf o_sigS o_sigE po)) rfl ?_
            cases h
            exact OEnds.iret hm_10 rfl rfl
theorem ok_validRegister {o_regX : List Int64} {o_regY : List Int64} {o_regInf : List Int32} {o_privKey : List Int64} {o_hasKey : List Int32} {o_pubX : List Int64} {o_pubY : List Int64} {o_pubInf : List Int32} {o_msg : List Int32} {o_p : Int64} {o_a : Int64} {o_gx : Int64} {o_gy : Int64} {o_b : Int64} {o_msgLen : Int32} {o_sigX : Int64} {o_sigY : Int64} {o_sigInf : Int32} {o_sigS : Int64} {o_sigE : Int32} {po : List ACell} {v1 : Int32} {res : Int32} (h : f_validRegister v1 = some res) : OEnds own_P 12 0 [.val (.ref 0), .val (.int v1)] [] (bk0 o_regX o_regY o_regInf o_privKey o_hasKey o_pubX o_pubY o_pubInf o_msg o_p o_a o_gx o_gy o_b o_msgLen o_sigX o_sigY o_sigInf o_sigS o_sigE po) (some (.int res), (bk0 o_regX o_regY o_regInf o_privKey o_hasKey o_pubX o_pubY o_pubInf o_msg o_p o_a o_gx o_gy o_b o_msgLen o_sigX o_sigY o_sigInf o_sigS o_sigE po), 0, 0) := by
  unfold f_validRegister at h
  refine OEnds.adv hm_12 1 (pc' := 1) (L' := [.val (.ref 0), .val (.int v1)]) (S' := [.int v1]) (H' := (bk0 o_regX o_regY o_regInf o_privKey o_hasKey o_pubX o_pubY o_pubInf o_msg o_p o_a o_gx o_gy o_b o_msgLen o_sigX o_sigY o_sigInf o_sigS o_sigE po)) rfl ?_
  by_cases hc47 : v1 < (0 : Int32)
  · simp only [if_pos hc47] at h
    refine OEnds.ifT hm_12 rfl (q := 14) rfl ((tlt hc47).1) ?_
    refine OEnds.adv hm_12 1 (pc' := 15) (L' := [.val (.ref 0), .val (.int v1)]) (S' := [.int 0]) (H' := (bk0 o_regX o_regY o_regInf o_privKey o_hasKey o_pubX o_pubY o_pubInf o_msg o_p o_a o_gx o_gy o_b o_msgLen o_sigX o_sigY o_sigInf o_sigS o_sigE po)) rfl ?_
    cases h
    exact OEnds.iret hm_12 rfl rfl
  · simp only [if_neg hc47] at h
    refine OEnds.ifF hm_12 rfl ((flt hc47).1) ?_
    refine OEnds.adv hm_12 2 (pc' := 7) (L' := [.val (.ref 0), .val (.int v1)]) (S' := [.int 8, .int v1]) (H' := (bk0 o_regX o_regY o_regInf o_privKey o_hasKey o_pubX o_pubY o_pubInf o_msg o_p o_a o_gx o_gy o_b o_msgLen o_sigX o_sigY o_sigInf o_sigS o_sigE po)) rfl ?_
    by_cases hc48 : v1 < (8 : Int32)
    · simp only [if_pos hc48] at h
      refine OEnds.icmpF hm_12 rfl ((tlt hc48).2.1) ?_
      refine OEnds.adv hm_12 2 (pc' := 15) (L' := [.val (.ref 0), .val (.int v1)]) (S' := [.int 1]) (H' := (bk0 o_regX o_regY o_regInf o_privKey o_hasKey o_pubX o_pubY o_pubInf o_msg o_p o_a o_gx o_gy o_b o_msgLen o_sigX o_sigY o_sigInf o_sigS o_sigE po)) rfl ?_
      cases h
      exact OEnds.iret hm_12 rfl rfl
    · simp only [if_neg hc48] at h
      refine OEnds.icmpT hm_12 rfl (q := 14) rfl ((flt hc48).2.1) ?_
      refine OEnds.adv hm_12 1 (pc' := 15) (L' := [.val (.ref 0), .val (.int v1)]) (S' := [.int 0]) (H' := (bk0 o_regX o_regY o_regInf o_privKey o_hasKey o_pubX o_pubY o_pubInf o_msg o_p o_a o_gx o_gy o_b o_msgLen o_sigX o_sigY o_sigInf o_sigS o_sigE po)) rfl ?_
      cases h
      exact OEnds.iret hm_12 rfl rfl
theorem ok_inField {o_regX : List Int64} {o_regY : List Int64} {o_regInf : List Int32} {o_privKey : List Int64} {o_hasKey : List Int32} {o_pubX : List Int64} {o_pubY : List Int64} {o_pubInf : List Int32} {o_msg : List Int32} {o_p : Int64} {o_a : Int64} {o_gx : Int64} {o_gy : Int64} {o_b : Int64} {o_msgLen : Int32} {o_sigX : Int64} {o_sigY : Int64} {o_sigInf : Int32} {o_sigS : Int64} {o_sigE : Int32} {po : List ACell} {v1 : Int64} {res : Int32} (h : f_inField o_p v1 = some res) : OEnds own_P 13 0 [.val (.ref 0), .val (.long v1), .second] [] (bk0 o_regX o_regY o_regInf o_privKey o_hasKey o_pubX o_pubY o_pubInf o_msg o_p o_a o_gx o_gy o_b o_msgLen o_sigX o_sigY o_sigInf o_sigS o_sigE po) (some (.int res), (bk0 o_regX o_regY o_regInf o_privKey o_hasKey o_pubX o_pubY o_pubInf o_msg o_p o_a o_gx o_gy o_b o_msgLen o_sigX o_sigY o_sigInf o_sigS o_sigE po), 0, 0) := by
  unfold f_inField at h
  refine OEnds.adv hm_13 3 (pc' := 3) (L' := [.val (.ref 0), .val (.long v1), .second]) (S' := [.int (XT.cmpL v1 (0 : Int64))]) (H' := (bk0 o_regX o_regY o_regInf o_privKey o_hasKey o_pubX o_pubY o_pubInf o_msg o_p o_a o_gx o_gy o_b o_msgLen o_sigX o_sigY o_sigInf o_sigS o_sigE po)) rfl ?_
  by_cases hc49 : v1 < (0 : Int64)
  · simp only [if_pos hc49] at h
    refine OEnds.ifT hm_13 rfl (q := 21) rfl ((tlt (c_lt.mpr hc49)).1) ?_
    refine OEnds.adv hm_13 1 (pc' := 22) (L' := [.val (.ref 0), .val (.long v1), .second]) (S' := [.int 0]) (H' := (bk0 o_regX o_regY o_regInf o_privKey o_hasKey o_pubX o_pubY o_pubInf o_msg o_p o_a o_gx o_gy o_b o_msgLen o_sigX o_sigY o_sigInf o_sigS o_sigE po)) rfl ?_
    cases h
    exact OEnds.iret hm_13 rfl rfl
  · simp only [if_neg hc49] at h
    refine OEnds.ifF hm_13 rfl ((flt (mt c_lt.mp hc49)).1) ?_
    refine OEnds.adv hm_13 6 (pc' := 14) (L' := [.val (.ref 0), .val (.long v1), .second]) (S' := [.int (XT.cmpL v1 (o_p - (1 : Int64)))]) (H' := (bk0 o_regX o_regY o_regInf o_privKey o_hasKey o_pubX o_pubY o_pubInf o_msg o_p o_a o_gx o_gy o_b o_msgLen o_sigX o_sigY o_sigInf o_sigS o_sigE po)) rfl ?_
    by_cases hc50 : (o_p - (1 : Int64)) < v1
    · simp only [if_pos hc50] at h
      refine OEnds.ifT hm_13 rfl (q := 21) rfl ((tlt (c_gt.mpr hc50)).2.2.1) ?_
      refine OEnds.adv hm_13 1 (pc' := 22) (L' := [.val (.ref 0), .val (.long v1), .second]) (S' := [.int 0]) (H' := (bk0 o_regX o_regY o_regInf o_privKey o_hasKey o_pubX o_pubY o_pubInf o_msg o_p o_a o_gx o_gy o_b o_msgLen o_sigX o_sigY o_sigInf o_sigS o_sigE po)) rfl ?_
      cases h
      exact OEnds.iret hm_13 rfl rfl
    · simp only [if_neg hc50] at h
      refine OEnds.ifF hm_13 rfl ((flt (mt c_gt.mp hc50)).2.2.1) ?_
      refine OEnds.adv hm_13 2 (pc' := 22) (L' := [.val (.ref 0), .val (.long v1), .second]) (S' := [.int 1]) (H' := (bk0 o_regX o_regY o_regInf o_privKey o_hasKey o_pubX o_pubY o_pubInf o_msg o_p o_a o_gx o_gy o_b o_msgLen o_sigX o_sigY o_sigInf o_sigS o_sigE po)) rfl ?_
      cases h
      exact OEnds.iret hm_13 rfl rfl
theorem ok_curveRhs {o_regX : List Int64} {o_regY : List Int64} {o_regInf : List Int32} {o_privKey : List Int64} {o_hasKey : List Int32} {o_pubX : List Int64} {o_pubY : List Int64} {o_pubInf : List Int32} {o_msg : List Int32} {o_p : Int64} {o_a : Int64} {o_gx : Int64} {o_gy : Int64} {o_b : Int64} {o_msgLen : Int32} {o_sigX : Int64} {o_sigY : Int64} {o_sigInf : Int32} {o_sigS : Int64} {o_sigE : Int32} {po : List ACell} {v1 : Int64} {res : Int64} (h : f_curveRhs o_p o_a o_b v1 = some res) : OEnds own_P 15 0 [.val (.ref 0), .val (.long v1), .second, .unset, .unset, .unset, .unset, .unset, .unset, .unset, .unset] [] (bk0 o_regX o_regY o_regInf o_privKey o_hasKey o_pubX o_pubY o_pubInf o_msg o_p o_a o_gx o_gy o_b o_msgLen o_sigX o_sigY o_sigInf o_sigS o_sigE po) (some (.long res), (bk0 o_regX o_regY o_regInf o_privKey o_hasKey o_pubX o_pubY o_pubInf o_msg o_p o_a o_gx o_gy o_b o_msgLen o_sigX o_sigY o_sigInf o_sigS o_sigE po), 0, 0) := by
  unfold f_curveRhs at h
  refine OEnds.adv hm_15 3 (pc' := 3) (L' := [.val (.ref 0), .val (.long v1), .second, .unset, .unset, .unset, .unset, .unset, .unset, .unset, .unset]) (S' := [.long v1, .long v1, .ref 0]) (H' := (bk0 o_regX o_regY o_regInf o_privKey o_hasKey o_pubX o_pubY o_pubInf o_msg o_p o_a o_gx o_gy o_b o_msgLen o_sigX o_sigY o_sigInf o_sigS o_sigE po)) rfl ?_
  obtain ⟨r29, hq51, h⟩ := bnd h
  refine OEnds.call0 hm_15 rfl rfl (by decide) rfl (as := [.ref 0, .long v1, .long v1]) (rest := []) rfl rfl (ok_mulMod hq51) ?_
  refine OEnds.adv hm_15 4 (pc' := 10) (L' := [.val (.ref 0), .val (.long v1), .second, .val (.long r29), .second, .unset, .unset, .unset, .unset, .unset, .unset]) (S' := [.long v1, .long r29, .ref 0]) (H' := (bk0 o_regX o_regY o_regInf o_privKey o_hasKey o_pubX o_pubY o_pubInf o_msg o_p o_a o_gx o_gy o_b o_msgLen o_sigX o_sigY o_sigInf o_sigS o_sigE po)) rfl ?_
  obtain ⟨r30, hq52, h⟩ := bnd h
  refine OEnds.call0 hm_15 rfl rfl (by decide) rfl (as := [.ref 0, .long r29, .long v1]) (rest := []) rfl rfl (ok_mulMod hq52) ?_
  refine OEnds.adv hm_15 5 (pc' := 21) (L' := [.val (.ref 0), .val (.long v1), .second, .val (.long r29), .second, .val (.long r30), .second, .unset, .unset, .unset, .unset]) (S' := [.long v1, .long o_a, .ref 0]) (H' := (bk0 o_regX o_regY o_regInf o_privKey o_hasKey o_pubX o_pubY o_pubInf o_msg o_p o_a o_gx o_gy o_b o_msgLen o_sigX o_sigY o_sigInf o_sigS o_sigE po)) rfl ?_
  obtain ⟨r31, hq53, h⟩ := bnd h
  refine OEnds.call0 hm_15 rfl rfl (by decide) rfl (as := [.ref 0, .long o_a, .long v1]) (rest := []) rfl rfl (ok_mulMod hq53) ?_
  refine OEnds.adv hm_15 4 (pc' := 31) (L' := [.val (.ref 0), .val (.long v1), .second, .val (.long r29), .second, .val (.long r30), .second, .val (.long r31), .second, .unset, .unset]) (S' := [.long r31, .long r30, .ref 0]) (H' := (bk0 o_regX o_regY o_regInf o_privKey o_hasKey o_pubX o_pubY o_pubInf o_msg o_p o_a o_gx o_gy o_b o_msgLen o_sigX o_sigY o_sigInf o_sigS o_sigE po)) rfl ?_
  obtain ⟨r32, hq54, h⟩ := bnd h
  refine OEnds.call0 hm_15 rfl rfl (by decide) rfl (as := [.ref 0, .long r30, .long r31]) (rest := []) rfl rfl (ok_addMod hq54) ?_
  refine OEnds.adv hm_15 5 (pc' := 43) (L' := [.val (.ref 0), .val (.long v1), .second, .val (.long r29), .second, .val (.long r30), .second, .val (.long r31), .second, .val (.long r32), .second]) (S' := [.long o_b, .long r32, .ref 0]) (H' := (bk0 o_regX o_regY o_regInf o_privKey o_hasKey o_pubX o_pubY o_pubInf o_msg o_p o_a o_gx o_gy o_b o_msgLen o_sigX o_sigY o_sigInf o_sigS o_sigE po)) rfl ?_
  obtain ⟨r33, hq55, h⟩ := bnd h
  refine OEnds.call0 hm_15 rfl rfl (by decide) rfl (as := [.ref 0, .long r32, .long o_b]) (rest := []) rfl rfl (ok_addMod hq55) ?_
  show OEnds own_P 15 46 [.val (.ref 0), .val (.long v1), .second, .val (.long r29), .second, .val (.long r30), .second, .val (.long r31), .second, .val (.long r32), .second] [.long r33] (bk0 o_regX o_regY o_regInf o_privKey o_hasKey o_pubX o_pubY o_pubInf o_msg o_p o_a o_gx o_gy o_b o_msgLen o_sigX o_sigY o_sigInf o_sigS o_sigE po) _
  cases h
  exact OEnds.lret hm_15 rfl rfl
theorem ok_onCurve {o_regX : List Int64} {o_regY : List Int64} {o_regInf : List Int32} {o_privKey : List Int64} {o_hasKey : List Int32} {o_pubX : List Int64} {o_pubY : List Int64} {o_pubInf : List Int32} {o_msg : List Int32} {o_p : Int64} {o_a : Int64} {o_gx : Int64} {o_gy : Int64} {o_b : Int64} {o_msgLen : Int32} {o_sigX : Int64} {o_sigY : Int64} {o_sigInf : Int32} {o_sigS : Int64} {o_sigE : Int32} {po : List ACell} {v1 : Int64} {v3 : Int64} {res : Int32} (h : f_onCurve o_p o_a o_b v1 v3 = some res) : OEnds own_P 14 0 [.val (.ref 0), .val (.long v1), .second, .val (.long v3), .second, .unset, .unset] [] (bk0 o_regX o_regY o_regInf o_privKey o_hasKey o_pubX o_pubY o_pubInf o_msg o_p o_a o_gx o_gy o_b o_msgLen o_sigX o_sigY o_sigInf o_sigS o_sigE po) (some (.int res), (bk0 o_regX o_regY o_regInf o_privKey o_hasKey o_pubX o_pubY o_pubInf o_msg o_p o_a o_gx o_gy o_b o_msgLen o_sigX o_sigY o_sigInf o_sigS o_sigE po), 0, 0) := by
  unfold f_onCurve at h
  refine OEnds.adv hm_14 3 (pc' := 3) (L' := [.val (.ref 0), .val (.long v1), .second, .val (.long v3), .second, .unset, .unset]) (S' := [.long v3, .long v3, .ref 0]) (H' := (bk0 o_regX o_regY o_regInf o_privKey o_hasKey o_pubX o_pubY o_pubInf o_msg o_p o_a o_gx o_gy o_b o_msgLen o_sigX o_sigY o_sigInf o_sigS o_sigE po)) rfl ?_
  obtain ⟨r34, hq56, h⟩ := bnd h
  refine OEnds.call0 hm_14 rfl rfl (by decide) rfl (as := [.ref 0, .long v3, .long v3]) (rest := []) rfl rfl (ok_mulMod hq56) ?_
  refine OEnds.adv hm_14 4 (pc' := 12) (L' := [.val (.ref 0), .val (.long v1), .second, .val (.long v3), .second, .val (.long r34), .second]) (S' := [.long v1, .ref 0, .long r34]) (H' := (bk0 o_regX o_regY o_regInf o_privKey o_hasKey o_pubX o_pubY o_pubInf o_msg o_p o_a o_gx o_gy o_b o_msgLen o_sigX o_sigY o_sigInf o_sigS o_sigE po)) rfl ?_
  obtain ⟨r35, hq57, h⟩ := bnd h
  refine OEnds.call0 hm_14 rfl rfl (by decide) rfl (as := [.ref 0, .long v1]) (rest := [.long r34]) rfl rfl (ok_curveRhs hq57) ?_
  refine OEnds.adv hm_14 1 (pc' := 16) (L' := [.val (.ref 0), .val (.long v1), .second, .val (.long v3), .second, .val (.long r34), .second]) (S' := [.int (XT.cmpL r34 r35)]) (H' := (bk0 o_regX o_regY o_regInf o_privKey o_hasKey o_pubX o_pubY o_pubInf o_msg o_p o_a o_gx o_gy o_b o_msgLen o_sigX o_sigY o_sigInf o_sigS o_sigE po)) rfl ?_
  by_cases hc58 : r34 = r35
  · simp only [if_pos hc58] at h
    refine OEnds.ifF hm_14 rfl ((teq (c_eq.mpr hc58)).2) ?_
    refine OEnds.adv hm_14 2 (pc' := 24) (L' := [.val (.ref 0), .val (.long v1), .second, .val (.long v3), .second, .val (.long r34), .second]) (S' := [.int 1]) (H' := (bk0 o_regX o_regY o_regInf o_privKey o_hasKey o_pubX o_pubY o_pubInf o_msg o_p o_a o_gx o_gy o_b o_msgLen o_sigX o_sigY o_sigInf o_sigS o_sigE po)) rfl ?_
    cases h
    exact OEnds.iret hm_14 rfl rfl
  · simp only [if_neg hc58] at h
    refine OEnds.ifT hm_14 rfl (q := 23) rfl ((feq (mt c_eq.mp hc58)).2) ?_
    refine OEnds.adv hm_14 1 (pc' := 24) (L' := [.val (.ref 0), .val (.long v1), .second, .val (.long v3), .second, .val (.long r34), .second]) (S' := [.int 0]) (H' := (bk0 o_regX o_regY o_regInf o_privKey o_hasKey o_pubX o_pubY o_pubInf o_msg o_p o_a o_gx o_gy o_b o_msgLen o_sigX o_sigY o_sigInf o_sigS o_sigE po)) rfl ?_
    cases h
    exact OEnds.iret hm_14 rfl rfl
theorem ok_load {o_privKey : List Int64} {o_hasKey : List Int32} {o_pubX : List Int64} {o_pubY : List Int64} {o_pubInf : List Int32} {o_msg : List Int32} {o_p : Int64} {o_a : Int64} {o_gx : Int64} {o_gy : Int64} {o_b : Int64} {o_msgLen : Int32} {o_sigX : Int64} {o_sigY : Int64} {o_sigInf : Int32} {o_sigS : Int64} {o_sigE : Int32} {po : List ACell} {o_regX : List Int64} {o_regY : List Int64} {o_regInf : List Int32} {v1 : Int32} {v2 : Int32} {v3 : Int32} {res : Int32} {w_o_regX : List Int64} {w_o_regY : List Int64} {w_o_regInf : List Int32} (h : f_load o_p o_a o_b o_regX o_regY o_regInf v1 v2 v3 = some (res, w_o_regX, w_o_regY, w_o_regInf)) : OEnds own_P 11 0 [.val (.ref 0), .val (.int v1), .val (.int v2), .val (.int v3)] [] (bk0 o_regX o_regY o_regInf o_privKey o_hasKey o_pubX o_pubY o_pubInf o_msg o_p o_a o_gx o_gy o_b o_msgLen o_sigX o_sigY o_sigInf o_sigS o_sigE po) (some (.int res), (bk0 w_o_regX w_o_regY w_o_regInf o_privKey o_hasKey o_pubX o_pubY o_pubInf o_msg o_p o_a o_gx o_gy o_b o_msgLen o_sigX o_sigY o_sigInf o_sigS o_sigE po), 0, 0) := by
  unfold f_load at h
  refine OEnds.adv hm_11 2 (pc' := 2) (L' := [.val (.ref 0), .val (.int v1), .val (.int v2), .val (.int v3)]) (S' := [.int v1, .ref 0]) (H' := (bk0 o_regX o_regY o_regInf o_privKey o_hasKey o_pubX o_pubY o_pubInf o_msg o_p o_a o_gx o_gy o_b o_msgLen o_sigX o_sigY o_sigInf o_sigS o_sigE po)) rfl ?_
  obtain ⟨r36, hq59, h⟩ := bnd h
  refine OEnds.call0 hm_11 rfl rfl (by decide) rfl (as := [.ref 0, .int v1]) (rest := []) rfl rfl (ok_validRegister hq59) ?_
  show OEnds own_P 11 5 [.val (.ref 0), .val (.int v1), .val (.int v2), .val (.int v3)] [.int r36] (bk0 o_regX o_regY o_regInf o_privKey o_hasKey o_pubX o_pubY o_pubInf o_msg o_p o_a o_gx o_gy o_b o_msgLen o_sigX o_sigY o_sigInf o_sigS o_sigE po) _
  by_cases hc60 : r36 = (0 : Int32)
  · simp only [if_pos hc60] at h
    refine OEnds.ifF hm_11 rfl ((teq hc60).2) ?_
    refine OEnds.adv hm_11 1 (pc' := 9) (L' := [.val (.ref 0), .val (.int v1), .val (.int v2), .val (.int v3)]) (S' := [.int 0]) (H' := (bk0 o_regX o_regY o_regInf o_privKey o_hasKey o_pubX o_pubY o_pubInf o_msg o_p o_a o_gx o_gy o_b o_msgLen o_sigX o_sigY o_sigInf o_sigS o_sigE po)) rfl ?_
    cases h
    exact OEnds.iret hm_11 rfl rfl
  · simp only [if_neg hc60] at h
    refine OEnds.ifT hm_11 rfl (q := 10) rfl ((feq hc60).2) ?_
    refine OEnds.adv hm_11 3 (pc' := 13) (L' := [.val (.ref 0), .val (.int v1), .val (.int v2), .val (.int v3)]) (S' := [.long v2.toInt64, .ref 0]) (H' := (bk0 o_regX o_regY o_regInf o_privKey o_hasKey o_pubX o_pubY o_pubInf o_msg o_p o_a o_gx o_gy o_b o_msgLen o_sigX o_sigY o_sigInf o_sigS o_sigE po)) rfl ?_
    obtain ⟨r37, hq61, h⟩ := bnd h
    refine OEnds.call0 hm_11 rfl rfl (by decide) rfl (as := [.ref 0, .long v2.toInt64]) (rest := []) rfl rfl (ok_inField hq61) ?_
    show OEnds own_P 11 16 [.val (.ref 0), .val (.int v1), .val (.int v2), .val (.int v3)] [.int r37] (bk0 o_regX o_regY o_regInf o_privKey o_hasKey o_pubX o_pubY o_pubInf o_msg o_p o_a o_gx o_gy o_b o_msgLen o_sigX o_sigY o_sigInf o_sigS o_sigE po) _
    by_cases hc62 : r37 = (0 : Int32)
    · simp only [if_pos hc62] at h
      refine OEnds.ifT hm_11 rfl (q := 28) rfl ((teq hc62).1) ?_
      refine OEnds.adv hm_11 1 (pc' := 29) (L' := [.val (.ref 0), .val (.int v1), .val (.int v2), .val (.int v3)]) (S' := [.int 0]) (H' := (bk0 o_regX o_regY o_regInf o_privKey o_hasKey o_pubX o_pubY o_pubInf o_msg o_p o_a o_gx o_gy o_b o_msgLen o_sigX o_sigY o_sigInf o_sigS o_sigE po)) rfl ?_
      cases h
      exact OEnds.iret hm_11 rfl rfl
    · simp only [if_neg hc62] at h
      refine OEnds.ifF hm_11 rfl ((feq hc62).1) ?_
      refine OEnds.adv hm_11 3 (pc' := 22) (L' := [.val (.ref 0), .val (.int v1), .val (.int v2), .val (.int v3)]) (S' := [.long v3.toInt64, .ref 0]) (H' := (bk0 o_regX o_regY o_regInf o_privKey o_hasKey o_pubX o_pubY o_pubInf o_msg o_p o_a o_gx o_gy o_b o_msgLen o_sigX o_sigY o_sigInf o_sigS o_sigE po)) rfl ?_
      obtain ⟨r38, hq63, h⟩ := bnd h
      refine OEnds.call0 hm_11 rfl rfl (by decide) rfl (as := [.ref 0, .long v3.toInt64]) (rest := []) rfl rfl (ok_inField hq63) ?_
      show OEnds own_P 11 25 [.val (.ref 0), .val (.int v1), .val (.int v2), .val (.int v3)] [.int r38] (bk0 o_regX o_regY o_regInf o_privKey o_hasKey o_pubX o_pubY o_pubInf o_msg o_p o_a o_gx o_gy o_b o_msgLen o_sigX o_sigY o_sigInf o_sigS o_sigE po) _
      by_cases hc64 : r38 = (0 : Int32)
      · simp only [if_pos hc64] at h
        refine OEnds.ifF hm_11 rfl ((teq hc64).2) ?_
        refine OEnds.adv hm_11 1 (pc' := 29) (L' := [.val (.ref 0), .val (.int v1), .val (.int v2), .val (.int v3)]) (S' := [.int 0]) (H' := (bk0 o_regX o_regY o_regInf o_privKey o_hasKey o_pubX o_pubY o_pubInf o_msg o_p o_a o_gx o_gy o_b o_msgLen o_sigX o_sigY o_sigInf o_sigS o_sigE po)) rfl ?_
        cases h
        exact OEnds.iret hm_11 rfl rfl
      · simp only [if_neg hc64] at h
        refine OEnds.ifT hm_11 rfl (q := 30) rfl ((feq hc64).2) ?_
        refine OEnds.adv hm_11 5 (pc' := 35) (L' := [.val (.ref 0), .val (.int v1), .val (.int v2), .val (.int v3)]) (S' := [.long v3.toInt64, .long v2.toInt64, .ref 0]) (H' := (bk0 o_regX o_regY o_regInf o_privKey o_hasKey o_pubX o_pubY o_pubInf o_msg o_p o_a o_gx o_gy o_b o_msgLen o_sigX o_sigY o_sigInf o_sigS o_sigE po)) rfl ?_
        obtain ⟨r39, hq65, h⟩ := bnd h
        refine OEnds.call0 hm_11 rfl rfl (by decide) rfl (as := [.ref 0, .long v2.toInt64, .long v3.toInt64]) (rest := []) rfl rfl (ok_onCurve hq65) ?_
        show OEnds own_P 11 38 [.val (.ref 0), .val (.int v1), .val (.int v2), .val (.int v3)] [.int r39] (bk0 o_regX o_regY o_regInf o_privKey o_hasKey o_pubX o_pubY o_pubInf o_msg o_p o_a o_gx o_gy o_b o_msgLen o_sigX o_sigY o_sigInf o_sigS o_sigE po) _
        by_cases hc66 : r39 = (0 : Int32)
        · simp only [if_pos hc66] at h
          refine OEnds.ifF hm_11 rfl ((teq hc66).2) ?_
          refine OEnds.adv hm_11 1 (pc' := 42) (L' := [.val (.ref 0), .val (.int v1), .val (.int v2), .val (.int v3)]) (S' := [.int 0]) (H' := (bk0 o_regX o_regY o_regInf o_privKey o_hasKey o_pubX o_pubY o_pubInf o_msg o_p o_a o_gx o_gy o_b o_msgLen o_sigX o_sigY o_sigInf o_sigS o_sigE po)) rfl ?_
          cases h
          exact OEnds.iret hm_11 rfl rfl
        · simp only [if_neg hc66] at h
          refine OEnds.ifT hm_11 rfl (q := 43) rfl ((feq hc66).2) ?_
          refine OEnds.adv hm_11 7 (pc' := 50) (L' := [.val (.ref 0), .val (.int v1), .val (.int v2), .val (.int v3)]) (S' := [.int 0, .long v3.toInt64, .long v2.toInt64, .int v1, .ref 0]) (H' := (bk0 o_regX o_regY o_regInf o_privKey o_hasKey o_pubX o_pubY o_pubInf o_msg o_p o_a o_gx o_gy o_b o_msgLen o_sigX o_sigY o_sigInf o_sigS o_sigE po)) rfl ?_
          obtain ⟨⟨s40, s41, s42⟩, hq67, h⟩ := bnd h
          refine OEnds.call0 hm_11 rfl rfl (by decide) rfl (as := [.ref 0, .int v1, .long v2.toInt64, .long v3.toInt64, .int 0]) (rest := []) rfl rfl (ok_setRegister hq67) ?_
          refine OEnds.adv hm_11 1 (pc' := 54) (L' := [.val (.ref 0), .val (.int v1), .val (.int v2), .val (.int v3)]) (S' := [.int 1]) (H' := (bk0 s40 s41 s42 o_privKey o_hasKey o_pubX o_pubY o_pubInf o_msg o_p o_a o_gx o_gy o_b o_msgLen o_sigX o_sigY o_sigInf o_sigS o_sigE po)) rfl ?_
          cases h
          exact OEnds.iret hm_11 rfl rfl
theorem ok_coord {o_regX : List Int64} {o_regY : List Int64} {o_regInf : List Int32} {o_privKey : List Int64} {o_hasKey : List Int32} {o_pubX : List Int64} {o_pubY : List Int64} {o_pubInf : List Int32} {o_msg : List Int32} {o_p : Int64} {o_a : Int64} {o_gx : Int64} {o_gy : Int64} {o_b : Int64} {o_msgLen : Int32} {o_sigX : Int64} {o_sigY : Int64} {o_sigInf : Int32} {o_sigS : Int64} {o_sigE : Int32} {po : List ACell} {v1 : Int32} {v2 : Int32} {res : Int32} (h : f_coord o_regX o_regY o_regInf v1 v2 = some res) : OEnds own_P 16 0 [.val (.ref 0), .val (.int v1), .val (.int v2)] [] (bk0 o_regX o_regY o_regInf o_privKey o_hasKey o_pubX o_pubY o_pubInf o_msg o_p o_a o_gx o_gy o_b o_msgLen o_sigX o_sigY o_sigInf o_sigS o_sigE po) (some (.int res), (bk0 o_regX o_regY o_regInf o_privKey o_hasKey o_pubX o_pubY o_pubInf o_msg o_p o_a o_gx o_gy o_b o_msgLen o_sigX o_sigY o_sigInf o_sigS o_sigE po), 0, 0) := by
  unfold f_coord at h
  refine OEnds.adv hm_16 2 (pc' := 2) (L' := [.val (.ref 0), .val (.int v1), .val (.int v2)]) (S' := [.int v1, .ref 0]) (H' := (bk0 o_regX o_regY o_regInf o_privKey o_hasKey o_pubX o_pubY o_pubInf o_msg o_p o_a o_gx o_gy o_b o_msgLen o_sigX o_sigY o_sigInf o_sigS o_sigE po)) rfl ?_
  obtain ⟨r43, hq68, h⟩ := bnd h
  refine OEnds.call0 hm_16 rfl rfl (by decide) rfl (as := [.ref 0, .int v1]) (rest := []) rfl rfl (ok_validRegister hq68) ?_
  show OEnds own_P 16 5 [.val (.ref 0), .val (.int v1), .val (.int v2)] [.int r43] (bk0 o_regX o_regY o_regInf o_privKey o_hasKey o_pubX o_pubY o_pubInf o_msg o_p o_a o_gx o_gy o_b o_msgLen o_sigX o_sigY o_sigInf o_sigS o_sigE po) _
  by_cases hc69 : r43 = (0 : Int32)
  · simp only [if_pos hc69] at h
    refine OEnds.ifF hm_16 rfl ((teq hc69).2) ?_
    refine OEnds.adv hm_16 1 (pc' := 9) (L' := [.val (.ref 0), .val (.int v1), .val (.int v2)]) (S' := [.int (-1)]) (H' := (bk0 o_regX o_regY o_regInf o_privKey o_hasKey o_pubX o_pubY o_pubInf o_msg o_p o_a o_gx o_gy o_b o_msgLen o_sigX o_sigY o_sigInf o_sigS o_sigE po)) rfl ?_
    cases h
    exact OEnds.iret hm_16 rfl rfl
  · simp only [if_neg hc69] at h
    refine OEnds.ifT hm_16 rfl (q := 10) rfl ((feq hc69).2) ?_
    refine OEnds.adv hm_16 1 (pc' := 11) (L' := [.val (.ref 0), .val (.int v1), .val (.int v2)]) (S' := [.int v2]) (H' := (bk0 o_regX o_regY o_regInf o_privKey o_hasKey o_pubX o_pubY o_pubInf o_msg o_p o_a o_gx o_gy o_b o_msgLen o_sigX o_sigY o_sigInf o_sigS o_sigE po)) rfl ?_
    by_cases hc70 : v2 = (0 : Int32)
    · simp only [if_pos hc70] at h
      refine OEnds.ifF hm_16 rfl ((teq hc70).2) ?_
      refine OEnds.adv hm_16 3 (pc' := 19) (L' := [.val (.ref 0), .val (.int v1), .val (.int v2)]) (S' := [.int v1, .ref 3]) (H' := (bk0 o_regX o_regY o_regInf o_privKey o_hasKey o_pubX o_pubY o_pubInf o_msg o_p o_a o_gx o_gy o_b o_msgLen o_sigX o_sigY o_sigInf o_sigS o_sigE po)) rfl ?_
      obtain ⟨x47, hx47, h⟩ := bnd h
      refine OEnds.plain hm_16 rfl rfl (x_baload rfl hx47) ?_
      show OEnds own_P 16 20 [.val (.ref 0), .val (.int v1), .val (.int v2)] [.int x47] (bk0 o_regX o_regY o_regInf o_privKey o_hasKey o_pubX o_pubY o_pubInf o_msg o_p o_a o_gx o_gy o_b o_msgLen o_sigX o_sigY o_sigInf o_sigS o_sigE po) _
      by_cases hc71 : x47 = (0 : Int32)
      · simp only [if_pos hc71] at h
        refine OEnds.ifT hm_16 rfl (q := 27) rfl ((teq hc71).1) ?_
        refine OEnds.adv hm_16 3 (pc' := 32) (L' := [.val (.ref 0), .val (.int v1), .val (.int v2)]) (S' := [.int v1, .ref 1]) (H' := (bk0 o_regX o_regY o_regInf o_privKey o_hasKey o_pubX o_pubY o_pubInf o_msg o_p o_a o_gx o_gy o_b o_msgLen o_sigX o_sigY o_sigInf o_sigS o_sigE po)) rfl ?_
        obtain ⟨x48, hx48, h⟩ := bnd h
        refine OEnds.plain hm_16 rfl rfl (x_laload rfl hx48) ?_
        refine OEnds.adv hm_16 1 (pc' := 34) (L' := [.val (.ref 0), .val (.int v1), .val (.int v2)]) (S' := [.int x48.toInt32]) (H' := (bk0 o_regX o_regY o_regInf o_privKey o_hasKey o_pubX o_pubY o_pubInf o_msg o_p o_a o_gx o_gy o_b o_msgLen o_sigX o_sigY o_sigInf o_sigS o_sigE po)) rfl ?_
        cases h
        exact OEnds.iret hm_16 rfl rfl
      · simp only [if_neg hc71] at h
        refine OEnds.ifF hm_16 rfl ((feq hc71).1) ?_
        refine OEnds.adv hm_16 2 (pc' := 34) (L' := [.val (.ref 0), .val (.int v1), .val (.int v2)]) (S' := [.int 0]) (H' := (bk0 o_regX o_regY o_regInf o_privKey o_hasKey o_pubX o_pubY o_pubInf o_msg o_p o_a o_gx o_gy o_b o_msgLen o_sigX o_sigY o_sigInf o_sigS o_sigE po)) rfl ?_
        cases h
        exact OEnds.iret hm_16 rfl rfl
    · simp only [if_neg hc70] at h
      refine OEnds.ifT hm_16 rfl (q := 35) rfl ((feq hc70).2) ?_
      refine OEnds.adv hm_16 2 (pc' := 37) (L' := [.val (.ref 0), .val (.int v1), .val (.int v2)]) (S' := [.int 1, .int v2]) (H' := (bk0 o_regX o_regY o_regInf o_privKey o_hasKey o_pubX o_pubY o_pubInf o_msg o_p o_a o_gx o_gy o_b o_msgLen o_sigX o_sigY o_sigInf o_sigS o_sigE po)) rfl ?_
      by_cases hc72 : v2 = (1 : Int32)
      · simp only [if_pos hc72] at h
        refine OEnds.icmpF hm_16 rfl ((teq hc72).2) ?_
        refine OEnds.adv hm_16 3 (pc' := 45) (L' := [.val (.ref 0), .val (.int v1), .val (.int v2)]) (S' := [.int v1, .ref 3]) (H' := (bk0 o_regX o_regY o_regInf o_privKey o_hasKey o_pubX o_pubY o_pubInf o_msg o_p o_a o_gx o_gy o_b o_msgLen o_sigX o_sigY o_sigInf o_sigS o_sigE po)) rfl ?_
        obtain ⟨x45, hx45, h⟩ := bnd h
        refine OEnds.plain hm_16 rfl rfl (x_baload rfl hx45) ?_
        show OEnds own_P 16 46 [.val (.ref 0), .val (.int v1), .val (.int v2)] [.int x45] (bk0 o_regX o_regY o_regInf o_privKey o_hasKey o_pubX o_pubY o_pubInf o_msg o_p o_a o_gx o_gy o_b o_msgLen o_sigX o_sigY o_sigInf o_sigS o_sigE po) _
        by_cases hc73 : x45 = (0 : Int32)
        · simp only [if_pos hc73] at h
          refine OEnds.ifT hm_16 rfl (q := 53) rfl ((teq hc73).1) ?_
          refine OEnds.adv hm_16 3 (pc' := 58) (L' := [.val (.ref 0), .val (.int v1), .val (.int v2)]) (S' := [.int v1, .ref 2]) (H' := (bk0 o_regX o_regY o_regInf o_privKey o_hasKey o_pubX o_pubY o_pubInf o_msg o_p o_a o_gx o_gy o_b o_msgLen o_sigX o_sigY o_sigInf o_sigS o_sigE po)) rfl ?_
          obtain ⟨x46, hx46, h⟩ := bnd h
          refine OEnds.plain hm_16 rfl rfl (x_laload rfl hx46) ?_
          refine OEnds.adv hm_16 1 (pc' := 60) (L' := [.val (.ref 0), .val (.int v1), .val (.int v2)]) (S' := [.int x46.toInt32]) (H' := (bk0 o_regX o_regY o_regInf o_privKey o_hasKey o_pubX o_pubY o_pubInf o_msg o_p o_a o_gx o_gy o_b o_msgLen o_sigX o_sigY o_sigInf o_sigS o_sigE po)) rfl ?_
          cases h
          exact OEnds.iret hm_16 rfl rfl
        · simp only [if_neg hc73] at h
          refine OEnds.ifF hm_16 rfl ((feq hc73).1) ?_
          refine OEnds.adv hm_16 2 (pc' := 60) (L' := [.val (.ref 0), .val (.int v1), .val (.int v2)]) (S' := [.int 0]) (H' := (bk0 o_regX o_regY o_regInf o_privKey o_hasKey o_pubX o_pubY o_pubInf o_msg o_p o_a o_gx o_gy o_b o_msgLen o_sigX o_sigY o_sigInf o_sigS o_sigE po)) rfl ?_
          cases h
          exact OEnds.iret hm_16 rfl rfl
      · simp only [if_neg hc72] at h
        refine OEnds.icmpT hm_16 rfl (q := 61) rfl ((feq hc72).2) ?_
        refine OEnds.adv hm_16 2 (pc' := 63) (L' := [.val (.ref 0), .val (.int v1), .val (.int v2)]) (S' := [.int 2, .int v2]) (H' := (bk0 o_regX o_regY o_regInf o_privKey o_hasKey o_pubX o_pubY o_pubInf o_msg o_p o_a o_gx o_gy o_b o_msgLen o_sigX o_sigY o_sigInf o_sigS o_sigE po)) rfl ?_
        by_cases hc74 : v2 = (2 : Int32)
        · simp only [if_pos hc74] at h
          refine OEnds.icmpF hm_16 rfl ((teq hc74).2) ?_
          refine OEnds.adv hm_16 3 (pc' := 71) (L' := [.val (.ref 0), .val (.int v1), .val (.int v2)]) (S' := [.int v1, .ref 3]) (H' := (bk0 o_regX o_regY o_regInf o_privKey o_hasKey o_pubX o_pubY o_pubInf o_msg o_p o_a o_gx o_gy o_b o_msgLen o_sigX o_sigY o_sigInf o_sigS o_sigE po)) rfl ?_
          obtain ⟨x44, hx44, h⟩ := bnd h
          refine OEnds.plain hm_16 rfl rfl (x_baload rfl hx44) ?_
          show OEnds own_P 16 72 [.val (.ref 0), .val (.int v1), .val (.int v2)] [.int x44] (bk0 o_regX o_regY o_regInf o_privKey o_hasKey o_pubX o_pubY o_pubInf o_msg o_p o_a o_gx o_gy o_b o_msgLen o_sigX o_sigY o_sigInf o_sigS o_sigE po) _
          by_cases hc75 : x44 = (0 : Int32)
          · simp only [if_pos hc75] at h
            refine OEnds.ifT hm_16 rfl (q := 79) rfl ((teq hc75).1) ?_
            refine OEnds.adv hm_16 1 (pc' := 80) (L' := [.val (.ref 0), .val (.int v1), .val (.int v2)]) (S' := [.int 0]) (H' := (bk0 o_regX o_regY o_regInf o_privKey o_hasKey o_pubX o_pubY o_pubInf o_msg o_p o_a o_gx o_gy o_b o_msgLen o_sigX o_sigY o_sigInf o_sigS o_sigE po)) rfl ?_
            cases h
            exact OEnds.iret hm_16 rfl rfl
          · simp only [if_neg hc75] at h
            refine OEnds.ifF hm_16 rfl ((feq hc75).1) ?_
            refine OEnds.adv hm_16 2 (pc' := 80) (L' := [.val (.ref 0), .val (.int v1), .val (.int v2)]) (S' := [.int 1]) (H' := (bk0 o_regX o_regY o_regInf o_privKey o_hasKey o_pubX o_pubY o_pubInf o_msg o_p o_a o_gx o_gy o_b o_msgLen o_sigX o_sigY o_sigInf o_sigS o_sigE po)) rfl ?_
            cases h
            exact OEnds.iret hm_16 rfl rfl
        · simp only [if_neg hc74] at h
          refine OEnds.icmpT hm_16 rfl (q := 81) rfl ((feq hc74).2) ?_
          refine OEnds.adv hm_16 1 (pc' := 82) (L' := [.val (.ref 0), .val (.int v1), .val (.int v2)]) (S' := [.int (-1)]) (H' := (bk0 o_regX o_regY o_regInf o_privKey o_hasKey o_pubX o_pubY o_pubInf o_msg o_p o_a o_gx o_gy o_b o_msgLen o_sigX o_sigY o_sigInf o_sigS o_sigE po)) rfl ?_
          cases h
          exact OEnds.iret hm_16 rfl rfl
theorem ok_L_law_284 : ∀ {n0_regX : List Int64} {n0_regY : List Int64} {n0_regInf : List Int32} {v3 : Int32} {v19 : Int64} {v21 : Int64} {v23 : Int64} {n0_p : Int64} {n0_a : Int64} {n0_gx : Int64} {n0_gy : Int64} {n0_b : Int64} {n0_msgLen : Int32} {n0_sigX : Int64} {n0_sigY : Int64} {n0_sigInf : Int32} {n0_sigS : Int64} {n0_sigE : Int32} {n0_privKey : List Int64} {n0_hasKey : List Int32} {n0_pubX : List Int64} {n0_pubY : List Int64} {n0_pubInf : List Int32} {n0_msg : List Int32} {d0 d1 d2 d4 d5 d7 d8 d9 d10 d11 d12 d13 d14 d15 d16 d17 d18 d25 : Slot} {res : Int32}, f_L_law_284 n0_regX n0_regY n0_regInf v3 v19 v21 v23 = some res → OEndsQ own_P 0 284 [d0, d1, d2, .val (.int v3), d4, d5, .val (.ref 0), d7, d8, d9, d10, d11, d12, d13, d14, d15, d16, d17, d18, .val (.long v19), .second, .val (.long v21), .second, .val (.long v23), .second, d25] [] (bk0 n0_regX n0_regY n0_regInf n0_privKey n0_hasKey n0_pubX n0_pubY n0_pubInf n0_msg n0_p n0_a n0_gx n0_gy n0_b n0_msgLen n0_sigX n0_sigY n0_sigInf n0_sigS n0_sigE []) (LawQ res 0 0) := by
  intro n0_regX n0_regY n0_regInf v3 v19 v21 v23 n0_p n0_a n0_gx n0_gy n0_b n0_msgLen n0_sigX n0_sigY n0_sigInf n0_sigS n0_sigE n0_privKey n0_hasKey n0_pubX n0_pubY n0_pubInf n0_msg d0 d1 d2 d4 d5 d7 d8 d9 d10 d11 d12 d13 d14 d15 d16 d17 d18 d25 res h
  unfold f_L_law_284 at h
  refine OEndsQ.adv hm_0 3 (pc' := 288) (L' := [.unset, .unset, .unset, .val (.int v3), .unset, .unset, .val (.ref 0), .unset, .unset, .unset, .unset, .unset, .unset, .unset, .unset, .unset, .unset, .unset, .unset, .val (.long v19), .second, .val (.long v21), .second, .val (.long v23), .second, .unset]) (S' := [.int 0, .int v3, .ref 0]) (H' := (bk0 n0_regX n0_regY n0_regInf n0_privKey n0_hasKey n0_pubX n0_pubY n0_pubInf n0_msg n0_p n0_a n0_gx n0_gy n0_b n0_msgLen n0_sigX n0_sigY n0_sigInf n0_sigS n0_sigE [])) rfl ?_
  obtain ⟨r78, hq76, h⟩ := bnd h
  refine OEndsQ.call0 hm_0 rfl rfl (by decide) rfl (as := [.ref 0, .int v3, .int 0]) (rest := []) rfl rfl (ok_coord hq76) ?_
  refine OEndsQ.adv hm_0 3 (pc' := 295) (L' := [.unset, .unset, .unset, .val (.int v3), .unset, .unset, .val (.ref 0), .unset, .unset, .unset, .unset, .unset, .unset, .unset, .unset, .unset, .unset, .unset, .unset, .val (.long v19), .second, .val (.long v21), .second, .val (.long v23), .second, .unset]) (S' := [.int (XT.cmpL r78.toInt64 v19)]) (H' := (bk0 n0_regX n0_regY n0_regInf n0_privKey n0_hasKey n0_pubX n0_pubY n0_pubInf n0_msg n0_p n0_a n0_gx n0_gy n0_b n0_msgLen n0_sigX n0_sigY n0_sigInf n0_sigS n0_sigE [])) rfl ?_
  by_cases hc77 : r78.toInt64 = v19
  · simp only [if_pos hc77] at h
    refine OEndsQ.ifT hm_0 rfl (q := 300) rfl ((teq (c_eq.mpr hc77)).1) ?_
    refine OEndsQ.adv hm_0 3 (pc' := 304) (L' := [.unset, .unset, .unset, .val (.int v3), .unset, .unset, .val (.ref 0), .unset, .unset, .unset, .unset, .unset, .unset, .unset, .unset, .unset, .unset, .unset, .unset, .val (.long v19), .second, .val (.long v21), .second, .val (.long v23), .second, .unset]) (S' := [.int 1, .int v3, .ref 0]) (H' := (bk0 n0_regX n0_regY n0_regInf n0_privKey n0_hasKey n0_pubX n0_pubY n0_pubInf n0_msg n0_p n0_a n0_gx n0_gy n0_b n0_msgLen n0_sigX n0_sigY n0_sigInf n0_sigS n0_sigE [])) rfl ?_
    obtain ⟨r79, hq78, h⟩ := bnd h
    refine OEndsQ.call0 hm_0 rfl rfl (by decide) rfl (as := [.ref 0, .int v3, .int 1]) (rest := []) rfl rfl (ok_coord hq78) ?_
    refine OEndsQ.adv hm_0 3 (pc' := 311) (L' := [.unset, .unset, .unset, .val (.int v3), .unset, .unset, .val (.ref 0), .unset, .unset, .unset, .unset, .unset, .unset, .unset, .unset, .unset, .unset, .unset, .unset, .val (.long v19), .second, .val (.long v21), .second, .val (.long v23), .second, .unset]) (S' := [.int (XT.cmpL r79.toInt64 v21)]) (H' := (bk0 n0_regX n0_regY n0_regInf n0_privKey n0_hasKey n0_pubX n0_pubY n0_pubInf n0_msg n0_p n0_a n0_gx n0_gy n0_b n0_msgLen n0_sigX n0_sigY n0_sigInf n0_sigS n0_sigE [])) rfl ?_
    by_cases hc79 : r79.toInt64 = v21
    · simp only [if_pos hc79] at h
      refine OEndsQ.ifT hm_0 rfl (q := 316) rfl ((teq (c_eq.mpr hc79)).1) ?_
      refine OEndsQ.adv hm_0 3 (pc' := 320) (L' := [.unset, .unset, .unset, .val (.int v3), .unset, .unset, .val (.ref 0), .unset, .unset, .unset, .unset, .unset, .unset, .unset, .unset, .unset, .unset, .unset, .unset, .val (.long v19), .second, .val (.long v21), .second, .val (.long v23), .second, .unset]) (S' := [.int 2, .int v3, .ref 0]) (H' := (bk0 n0_regX n0_regY n0_regInf n0_privKey n0_hasKey n0_pubX n0_pubY n0_pubInf n0_msg n0_p n0_a n0_gx n0_gy n0_b n0_msgLen n0_sigX n0_sigY n0_sigInf n0_sigS n0_sigE [])) rfl ?_
      obtain ⟨r80, hq80, h⟩ := bnd h
      refine OEndsQ.call0 hm_0 rfl rfl (by decide) rfl (as := [.ref 0, .int v3, .int 2]) (rest := []) rfl rfl (ok_coord hq80) ?_
      refine OEndsQ.adv hm_0 3 (pc' := 327) (L' := [.unset, .unset, .unset, .val (.int v3), .unset, .unset, .val (.ref 0), .unset, .unset, .unset, .unset, .unset, .unset, .unset, .unset, .unset, .unset, .unset, .unset, .val (.long v19), .second, .val (.long v21), .second, .val (.long v23), .second, .unset]) (S' := [.int (XT.cmpL r80.toInt64 v23)]) (H' := (bk0 n0_regX n0_regY n0_regInf n0_privKey n0_hasKey n0_pubX n0_pubY n0_pubInf n0_msg n0_p n0_a n0_gx n0_gy n0_b n0_msgLen n0_sigX n0_sigY n0_sigInf n0_sigS n0_sigE [])) rfl ?_
      by_cases hc81 : r80.toInt64 = v23
      · simp only [if_pos hc81] at h
        refine OEndsQ.ifF hm_0 rfl ((teq (c_eq.mpr hc81)).2) ?_
        refine OEndsQ.adv hm_0 2 (pc' := 335) (L' := [.unset, .unset, .unset, .val (.int v3), .unset, .unset, .val (.ref 0), .unset, .unset, .unset, .unset, .unset, .unset, .unset, .unset, .unset, .unset, .unset, .unset, .val (.long v19), .second, .val (.long v21), .second, .val (.long v23), .second, .unset]) (S' := [.int 1]) (H' := (bk0 n0_regX n0_regY n0_regInf n0_privKey n0_hasKey n0_pubX n0_pubY n0_pubInf n0_msg n0_p n0_a n0_gx n0_gy n0_b n0_msgLen n0_sigX n0_sigY n0_sigInf n0_sigS n0_sigE [])) rfl ?_
        cases h
        exact OEndsQ.iret hm_0 rfl rfl
      · simp only [if_neg hc81] at h
        refine OEndsQ.ifT hm_0 rfl (q := 334) rfl ((feq (mt c_eq.mp hc81)).2) ?_
        refine OEndsQ.adv hm_0 1 (pc' := 335) (L' := [.unset, .unset, .unset, .val (.int v3), .unset, .unset, .val (.ref 0), .unset, .unset, .unset, .unset, .unset, .unset, .unset, .unset, .unset, .unset, .unset, .unset, .val (.long v19), .second, .val (.long v21), .second, .val (.long v23), .second, .unset]) (S' := [.int 0]) (H' := (bk0 n0_regX n0_regY n0_regInf n0_privKey n0_hasKey n0_pubX n0_pubY n0_pubInf n0_msg n0_p n0_a n0_gx n0_gy n0_b n0_msgLen n0_sigX n0_sigY n0_sigInf n0_sigS n0_sigE [])) rfl ?_
        cases h
        exact OEndsQ.iret hm_0 rfl rfl
    · simp only [if_neg hc79] at h
      refine OEndsQ.ifF hm_0 rfl ((feq (mt c_eq.mp hc79)).1) ?_
      refine OEndsQ.adv hm_0 1 (pc' := 315) (L' := [.unset, .unset, .unset, .val (.int v3), .unset, .unset, .val (.ref 0), .unset, .unset, .unset, .unset, .unset, .unset, .unset, .unset, .unset, .unset, .unset, .unset, .val (.long v19), .second, .val (.long v21), .second, .val (.long v23), .second, .unset]) (S' := [.int 0]) (H' := (bk0 n0_regX n0_regY n0_regInf n0_privKey n0_hasKey n0_pubX n0_pubY n0_pubInf n0_msg n0_p n0_a n0_gx n0_gy n0_b n0_msgLen n0_sigX n0_sigY n0_sigInf n0_sigS n0_sigE [])) rfl ?_
      cases h
      exact OEndsQ.iret hm_0 rfl rfl
  · simp only [if_neg hc77] at h
    refine OEndsQ.ifF hm_0 rfl ((feq (mt c_eq.mp hc77)).1) ?_
    refine OEndsQ.adv hm_0 1 (pc' := 299) (L' := [.unset, .unset, .unset, .val (.int v3), .unset, .unset, .val (.ref 0), .unset, .unset, .unset, .unset, .unset, .unset, .unset, .unset, .unset, .unset, .unset, .unset, .val (.long v19), .second, .val (.long v21), .second, .val (.long v23), .second, .unset]) (S' := [.int 0]) (H' := (bk0 n0_regX n0_regY n0_regInf n0_privKey n0_hasKey n0_pubX n0_pubY n0_pubInf n0_msg n0_p n0_a n0_gx n0_gy n0_b n0_msgLen n0_sigX n0_sigY n0_sigInf n0_sigS n0_sigE [])) rfl ?_
    cases h
    exact OEndsQ.iret hm_0 rfl rfl
theorem ok_L_law_189 : ∀ {n0_regX : List Int64} {n0_regY : List Int64} {n0_regInf : List Int32} {n0_p : Int64} {n0_a : Int64} {n0_b : Int64} {v3 : Int32} {v4 : Int32} {v5 : Int32} {v13 : Int64} {v15 : Int64} {v17 : Int32} {n0_gx : Int64} {n0_gy : Int64} {n0_msgLen : Int32} {n0_sigX : Int64} {n0_sigY : Int64} {n0_sigInf : Int32} {n0_sigS : Int64} {n0_sigE : Int32} {n0_privKey : List Int64} {n0_hasKey : List Int32} {n0_pubX : List Int64} {n0_pubY : List Int64} {n0_pubInf : List Int32} {n0_msg : List Int32} {d0 d1 d2 d7 d8 d9 d10 d11 d12 d18 d19 d20 d21 d22 d23 d24 d25 : Slot} {res : Int32}, f_L_law_189 n0_regX n0_regY n0_regInf n0_p n0_a n0_b v3 v4 v5 v13 v15 v17 = some res → OEndsQ own_P 0 189 [d0, d1, d2, .val (.int v3), .val (.int v4), .val (.int v5), .val (.ref 0), d7, d8, d9, d10, d11, d12, .val (.long v13), .second, .val (.long v15), .second, .val (.int v17), d18, d19, d20, d21, d22, d23, d24, d25] [] (bk0 n0_regX n0_regY n0_regInf n0_privKey n0_hasKey n0_pubX n0_pubY n0_pubInf n0_msg n0_p n0_a n0_gx n0_gy n0_b n0_msgLen n0_sigX n0_sigY n0_sigInf n0_sigS n0_sigE []) (LawQ res 0 0) := by
  intro n0_regX n0_regY n0_regInf n0_p n0_a n0_b v3 v4 v5 v13 v15 v17 n0_gx n0_gy n0_msgLen n0_sigX n0_sigY n0_sigInf n0_sigS n0_sigE n0_privKey n0_hasKey n0_pubX n0_pubY n0_pubInf n0_msg d0 d1 d2 d7 d8 d9 d10 d11 d12 d18 d19 d20 d21 d22 d23 d24 d25 res h
  unfold f_L_law_189 at h
  refine OEndsQ.adv hm_0 4 (pc' := 196) (L' := [.unset, .unset, .unset, .val (.int v3), .val (.int v4), .val (.int v5), .val (.ref 0), .unset, .unset, .unset, .unset, .unset, .unset, .val (.long v13), .second, .val (.long v15), .second, .val (.int v17), .unset, .unset, .unset, .unset, .unset, .unset, .unset, .unset]) (S' := [.int v5, .int v4, .int v3, .ref 0]) (H' := (bk0 n0_regX n0_regY n0_regInf n0_privKey n0_hasKey n0_pubX n0_pubY n0_pubInf n0_msg n0_p n0_a n0_gx n0_gy n0_b n0_msgLen n0_sigX n0_sigY n0_sigInf n0_sigS n0_sigE [])) rfl ?_
  obtain ⟨⟨r74, s75, s76, s77⟩, hq82, h⟩ := bnd h
  refine OEndsQ.call0 hm_0 rfl rfl (by decide) rfl (as := [.ref 0, .int v3, .int v4, .int v5]) (rest := []) rfl rfl (ok_load hq82) ?_
  refine OEndsQ.adv hm_0 3 (pc' := 205) (L' := [.unset, .unset, .unset, .val (.int v3), .val (.int v4), .val (.int v5), .val (.ref 0), .unset, .unset, .unset, .unset, .unset, .unset, .val (.long v13), .second, .val (.long v15), .second, .val (.int v17), .val (.int r74), .unset, .unset, .unset, .unset, .unset, .unset, .unset]) (S' := [.int v17, .int r74]) (H' := (bk0 s75 s76 s77 n0_privKey n0_hasKey n0_pubX n0_pubY n0_pubInf n0_msg n0_p n0_a n0_gx n0_gy n0_b n0_msgLen n0_sigX n0_sigY n0_sigInf n0_sigS n0_sigE [])) rfl ?_
  by_cases hc83 : r74 = v17
  · simp only [if_pos hc83] at h
    refine OEndsQ.icmpT hm_0 rfl (q := 210) rfl ((teq hc83).1) ?_
    refine OEndsQ.adv hm_0 7 (pc' := 227) (L' := [.unset, .unset, .unset, .val (.int v3), .val (.int v4), .val (.int v5), .val (.ref 0), .unset, .unset, .unset, .unset, .unset, .unset, .val (.long v13), .second, .val (.long v15), .second, .val (.int v17), .val (.int r74), .val (.long (-1)), .second, .val (.long (-1)), .second, .val (.long (-1)), .second, .unset]) (S' := [.int v17]) (H' := (bk0 s75 s76 s77 n0_privKey n0_hasKey n0_pubX n0_pubY n0_pubInf n0_msg n0_p n0_a n0_gx n0_gy n0_b n0_msgLen n0_sigX n0_sigY n0_sigInf n0_sigS n0_sigE [])) rfl ?_
    by_cases hc84 : v17 = (0 : Int32)
    · simp only [if_pos hc84] at h
      refine OEndsQ.ifT hm_0 rfl (q := 246) rfl ((teq hc84).1) ?_
      refine OEndsQ.adv hm_0 1 (pc' := 247) (L' := [.unset, .unset, .unset, .val (.int v3), .val (.int v4), .val (.int v5), .val (.ref 0), .unset, .unset, .unset, .unset, .unset, .unset, .val (.long v13), .second, .val (.long v15), .second, .val (.int v17), .val (.int r74), .val (.long (-1)), .second, .val (.long (-1)), .second, .val (.long (-1)), .second, .unset]) (S' := [.int v3]) (H' := (bk0 s75 s76 s77 n0_privKey n0_hasKey n0_pubX n0_pubY n0_pubInf n0_msg n0_p n0_a n0_gx n0_gy n0_b n0_msgLen n0_sigX n0_sigY n0_sigInf n0_sigS n0_sigE [])) rfl ?_
      by_cases hc85 : v3 = (0 : Int32)
      · simp only [if_pos hc85] at h
        refine OEndsQ.ifF hm_0 rfl ((teq hc85).2) ?_
        refine OEndsQ.adv hm_0 7 (pc' := 284) (L' := [.unset, .unset, .unset, .val (.int v3), .val (.int v4), .val (.int v5), .val (.ref 0), .unset, .unset, .unset, .unset, .unset, .unset, .val (.long v13), .second, .val (.long v15), .second, .val (.int v17), .val (.int r74), .val (.long v13), .second, .val (.long v15), .second, .val (.long 0), .second, .unset]) (S' := []) (H' := (bk0 s75 s76 s77 n0_privKey n0_hasKey n0_pubX n0_pubY n0_pubInf n0_msg n0_p n0_a n0_gx n0_gy n0_b n0_msgLen n0_sigX n0_sigY n0_sigInf n0_sigS n0_sigE [])) rfl ?_
        exact ok_L_law_284 h
      · simp only [if_neg hc85] at h
        refine OEndsQ.ifT hm_0 rfl (q := 264) rfl ((feq hc85).2) ?_
        refine OEndsQ.adv hm_0 2 (pc' := 266) (L' := [.unset, .unset, .unset, .val (.int v3), .val (.int v4), .val (.int v5), .val (.ref 0), .unset, .unset, .unset, .unset, .unset, .unset, .val (.long v13), .second, .val (.long v15), .second, .val (.int v17), .val (.int r74), .val (.long (-1)), .second, .val (.long (-1)), .second, .val (.long (-1)), .second, .unset]) (S' := [.int 1, .int v3]) (H' := (bk0 s75 s76 s77 n0_privKey n0_hasKey n0_pubX n0_pubY n0_pubInf n0_msg n0_p n0_a n0_gx n0_gy n0_b n0_msgLen n0_sigX n0_sigY n0_sigInf n0_sigS n0_sigE [])) rfl ?_
        by_cases hc86 : v3 < (1 : Int32)
        · simp only [if_pos hc86] at h
          refine OEndsQ.icmpT hm_0 rfl (q := 284) rfl ((tlt hc86).1) ?_
          show OEndsQ own_P 0 284 [.unset, .unset, .unset, .val (.int v3), .val (.int v4), .val (.int v5), .val (.ref 0), .unset, .unset, .unset, .unset, .unset, .unset, .val (.long v13), .second, .val (.long v15), .second, .val (.int v17), .val (.int r74), .val (.long (-1)), .second, .val (.long (-1)), .second, .val (.long (-1)), .second, .unset] [] (bk0 s75 s76 s77 n0_privKey n0_hasKey n0_pubX n0_pubY n0_pubInf n0_msg n0_p n0_a n0_gx n0_gy n0_b n0_msgLen n0_sigX n0_sigY n0_sigInf n0_sigS n0_sigE []) _
          exact ok_L_law_284 h
        · simp only [if_neg hc86] at h
          refine OEndsQ.icmpF hm_0 rfl ((flt hc86).1) ?_
          refine OEndsQ.adv hm_0 2 (pc' := 272) (L' := [.unset, .unset, .unset, .val (.int v3), .val (.int v4), .val (.int v5), .val (.ref 0), .unset, .unset, .unset, .unset, .unset, .unset, .val (.long v13), .second, .val (.long v15), .second, .val (.int v17), .val (.int r74), .val (.long (-1)), .second, .val (.long (-1)), .second, .val (.long (-1)), .second, .unset]) (S' := [.int 7, .int v3]) (H' := (bk0 s75 s76 s77 n0_privKey n0_hasKey n0_pubX n0_pubY n0_pubInf n0_msg n0_p n0_a n0_gx n0_gy n0_b n0_msgLen n0_sigX n0_sigY n0_sigInf n0_sigS n0_sigE [])) rfl ?_
          by_cases hc87 : (7 : Int32) < v3
          · simp only [if_pos hc87] at h
            refine OEndsQ.icmpT hm_0 rfl (q := 284) rfl ((tlt hc87).2.2.1) ?_
            show OEndsQ own_P 0 284 [.unset, .unset, .unset, .val (.int v3), .val (.int v4), .val (.int v5), .val (.ref 0), .unset, .unset, .unset, .unset, .unset, .unset, .val (.long v13), .second, .val (.long v15), .second, .val (.int v17), .val (.int r74), .val (.long (-1)), .second, .val (.long (-1)), .second, .val (.long (-1)), .second, .unset] [] (bk0 s75 s76 s77 n0_privKey n0_hasKey n0_pubX n0_pubY n0_pubInf n0_msg n0_p n0_a n0_gx n0_gy n0_b n0_msgLen n0_sigX n0_sigY n0_sigInf n0_sigS n0_sigE []) _
            exact ok_L_law_284 h
          · simp only [if_neg hc87] at h
            refine OEndsQ.icmpF hm_0 rfl ((flt hc87).2.2.1) ?_
            refine OEndsQ.adv hm_0 6 (pc' := 284) (L' := [.unset, .unset, .unset, .val (.int v3), .val (.int v4), .val (.int v5), .val (.ref 0), .unset, .unset, .unset, .unset, .unset, .unset, .val (.long v13), .second, .val (.long v15), .second, .val (.int v17), .val (.int r74), .val (.long 0), .second, .val (.long 0), .second, .val (.long 1), .second, .unset]) (S' := []) (H' := (bk0 s75 s76 s77 n0_privKey n0_hasKey n0_pubX n0_pubY n0_pubInf n0_msg n0_p n0_a n0_gx n0_gy n0_b n0_msgLen n0_sigX n0_sigY n0_sigInf n0_sigS n0_sigE [])) rfl ?_
            exact ok_L_law_284 h
    · simp only [if_neg hc84] at h
      refine OEndsQ.ifF hm_0 rfl ((feq hc84).1) ?_
      refine OEndsQ.adv hm_0 9 (pc' := 284) (L' := [.unset, .unset, .unset, .val (.int v3), .val (.int v4), .val (.int v5), .val (.ref 0), .unset, .unset, .unset, .unset, .unset, .unset, .val (.long v13), .second, .val (.long v15), .second, .val (.int v17), .val (.int r74), .val (.long v4.toInt64), .second, .val (.long v5.toInt64), .second, .val (.long 0), .second, .unset]) (S' := []) (H' := (bk0 s75 s76 s77 n0_privKey n0_hasKey n0_pubX n0_pubY n0_pubInf n0_msg n0_p n0_a n0_gx n0_gy n0_b n0_msgLen n0_sigX n0_sigY n0_sigInf n0_sigS n0_sigE [])) rfl ?_
      exact ok_L_law_284 h
  · simp only [if_neg hc83] at h
    refine OEndsQ.icmpF hm_0 rfl ((feq hc83).1) ?_
    refine OEndsQ.adv hm_0 1 (pc' := 209) (L' := [.unset, .unset, .unset, .val (.int v3), .val (.int v4), .val (.int v5), .val (.ref 0), .unset, .unset, .unset, .unset, .unset, .unset, .val (.long v13), .second, .val (.long v15), .second, .val (.int v17), .val (.int r74), .unset, .unset, .unset, .unset, .unset, .unset, .unset]) (S' := [.int 0]) (H' := (bk0 s75 s76 s77 n0_privKey n0_hasKey n0_pubX n0_pubY n0_pubInf n0_msg n0_p n0_a n0_gx n0_gy n0_b n0_msgLen n0_sigX n0_sigY n0_sigInf n0_sigS n0_sigE [])) rfl ?_
    cases h
    exact OEndsQ.iret hm_0 rfl rfl
theorem ok_L_law_105 : ∀ {n0_regX : List Int64} {n0_regY : List Int64} {n0_regInf : List Int32} {n0_p : Int64} {n0_a : Int64} {n0_b : Int64} {v3 : Int32} {v4 : Int32} {v5 : Int32} {v7 : Int64} {v9 : Int64} {v11 : Int64} {v13 : Int64} {v15 : Int64} {t0 : Int32} {n0_gx : Int64} {n0_gy : Int64} {n0_msgLen : Int32} {n0_sigX : Int64} {n0_sigY : Int64} {n0_sigInf : Int32} {n0_sigS : Int64} {n0_sigE : Int32} {n0_privKey : List Int64} {n0_hasKey : List Int32} {n0_pubX : List Int64} {n0_pubY : List Int64} {n0_pubInf : List Int32} {n0_msg : List Int32} {d0 d1 d2 d17 d18 d19 d20 d21 d22 d23 d24 d25 : Slot} {res : Int32}, f_L_law_105 n0_regX n0_regY n0_regInf n0_p n0_a n0_b v3 v4 v5 v7 v9 v11 v13 v15 t0 = some res → OEndsQ own_P 0 105 [d0, d1, d2, .val (.int v3), .val (.int v4), .val (.int v5), .val (.ref 0), .val (.long v7), .second, .val (.long v9), .second, .val (.long v11), .second, .val (.long v13), .second, .val (.long v15), .second, d17, d18, d19, d20, d21, d22, d23, d24, d25] [.int t0] (bk0 n0_regX n0_regY n0_regInf n0_privKey n0_hasKey n0_pubX n0_pubY n0_pubInf n0_msg n0_p n0_a n0_gx n0_gy n0_b n0_msgLen n0_sigX n0_sigY n0_sigInf n0_sigS n0_sigE []) (LawQ res 0 0) := by
  intro n0_regX n0_regY n0_regInf n0_p n0_a n0_b v3 v4 v5 v7 v9 v11 v13 v15 t0 n0_gx n0_gy n0_msgLen n0_sigX n0_sigY n0_sigInf n0_sigS n0_sigE n0_privKey n0_hasKey n0_pubX n0_pubY n0_pubInf n0_msg d0 d1 d2 d17 d18 d19 d20 d21 d22 d23 d24 d25 res h
  unfold f_L_law_105 at h
  refine OEndsQ.adv hm_0 2 (pc' := 109) (L' := [.unset, .unset, .unset, .val (.int v3), .val (.int v4), .val (.int v5), .val (.ref 0), .val (.long v7), .second, .val (.long v9), .second, .val (.long v11), .second, .val (.long v13), .second, .val (.long v15), .second, .val (.int t0), .unset, .unset, .unset, .unset, .unset, .unset, .unset, .unset]) (S' := [.int t0]) (H' := (bk0 n0_regX n0_regY n0_regInf n0_privKey n0_hasKey n0_pubX n0_pubY n0_pubInf n0_msg n0_p n0_a n0_gx n0_gy n0_b n0_msgLen n0_sigX n0_sigY n0_sigInf n0_sigS n0_sigE [])) rfl ?_
  by_cases hc88 : t0 = (0 : Int32)
  · simp only [if_pos hc88] at h
    refine OEndsQ.ifT hm_0 rfl (q := 189) rfl ((teq hc88).1) ?_
    show OEndsQ own_P 0 189 [.unset, .unset, .unset, .val (.int v3), .val (.int v4), .val (.int v5), .val (.ref 0), .val (.long v7), .second, .val (.long v9), .second, .val (.long v11), .second, .val (.long v13), .second, .val (.long v15), .second, .val (.int t0), .unset, .unset, .unset, .unset, .unset, .unset, .unset, .unset] [] (bk0 n0_regX n0_regY n0_regInf n0_privKey n0_hasKey n0_pubX n0_pubY n0_pubInf n0_msg n0_p n0_a n0_gx n0_gy n0_b n0_msgLen n0_sigX n0_sigY n0_sigInf n0_sigS n0_sigE []) _
    exact ok_L_law_189 h
  · simp only [if_neg hc88] at h
    refine OEndsQ.ifF hm_0 rfl ((feq hc88).1) ?_
    refine OEndsQ.adv hm_0 10 (pc' := 129) (L' := [.unset, .unset, .unset, .val (.int v3), .val (.int v4), .val (.int v5), .val (.ref 0), .val (.long v7), .second, .val (.long v9), .second, .val (.long v11), .second, .val (.long v13), .second, .val (.long v15), .second, .val (.int t0), .val (.long v4.toInt64), .second, .val (.long v5.toInt64), .second, .unset, .unset, .unset, .unset]) (S' := [.long v7, .long (v5.toInt64 * v5.toInt64)]) (H' := (bk0 n0_regX n0_regY n0_regInf n0_privKey n0_hasKey n0_pubX n0_pubY n0_pubInf n0_msg n0_p n0_a n0_gx n0_gy n0_b n0_msgLen n0_sigX n0_sigY n0_sigInf n0_sigS n0_sigE [])) rfl ?_
    by_cases hz89 : v7 = 0
    · simp only [if_pos hz89] at h
      cases h
    simp only [if_neg hz89] at h
    refine OEndsQ.plain hm_0 rfl rfl (x_lrem hz89) ?_
    refine OEndsQ.adv hm_0 5 (pc' := 139) (L' := [.unset, .unset, .unset, .val (.int v3), .val (.int v4), .val (.int v5), .val (.ref 0), .val (.long v7), .second, .val (.long v9), .second, .val (.long v11), .second, .val (.long v13), .second, .val (.long v15), .second, .val (.int t0), .val (.long v4.toInt64), .second, .val (.long v5.toInt64), .second, .val (.long ((v5.toInt64 * v5.toInt64) % v7)), .second, .unset, .unset]) (S' := [.long v7, .long (v4.toInt64 * v4.toInt64)]) (H' := (bk0 n0_regX n0_regY n0_regInf n0_privKey n0_hasKey n0_pubX n0_pubY n0_pubInf n0_msg n0_p n0_a n0_gx n0_gy n0_b n0_msgLen n0_sigX n0_sigY n0_sigInf n0_sigS n0_sigE [])) rfl ?_
    refine OEndsQ.plain hm_0 rfl rfl (x_lrem hz89) ?_
    refine OEndsQ.adv hm_0 3 (pc' := 145) (L' := [.unset, .unset, .unset, .val (.int v3), .val (.int v4), .val (.int v5), .val (.ref 0), .val (.long v7), .second, .val (.long v9), .second, .val (.long v11), .second, .val (.long v13), .second, .val (.long v15), .second, .val (.int t0), .val (.long v4.toInt64), .second, .val (.long v5.toInt64), .second, .val (.long ((v5.toInt64 * v5.toInt64) % v7)), .second, .unset, .unset]) (S' := [.long v7, .long (((v4.toInt64 * v4.toInt64) % v7) * v4.toInt64)]) (H' := (bk0 n0_regX n0_regY n0_regInf n0_privKey n0_hasKey n0_pubX n0_pubY n0_pubInf n0_msg n0_p n0_a n0_gx n0_gy n0_b n0_msgLen n0_sigX n0_sigY n0_sigInf n0_sigS n0_sigE [])) rfl ?_
    refine OEndsQ.plain hm_0 rfl rfl (x_lrem hz89) ?_
    refine OEndsQ.adv hm_0 6 (pc' := 157) (L' := [.unset, .unset, .unset, .val (.int v3), .val (.int v4), .val (.int v5), .val (.ref 0), .val (.long v7), .second, .val (.long v9), .second, .val (.long v11), .second, .val (.long v13), .second, .val (.long v15), .second, .val (.int t0), .val (.long v4.toInt64), .second, .val (.long v5.toInt64), .second, .val (.long ((v5.toInt64 * v5.toInt64) % v7)), .second, .val (.long ((((v4.toInt64 * v4.toInt64) % v7) * v4.toInt64) % v7)), .second]) (S' := [.long v7, .long (v9 * v4.toInt64), .long ((((v4.toInt64 * v4.toInt64) % v7) * v4.toInt64) % v7)]) (H' := (bk0 n0_regX n0_regY n0_regInf n0_privKey n0_hasKey n0_pubX n0_pubY n0_pubInf n0_msg n0_p n0_a n0_gx n0_gy n0_b n0_msgLen n0_sigX n0_sigY n0_sigInf n0_sigS n0_sigE [])) rfl ?_
    refine OEndsQ.plain hm_0 rfl rfl (x_lrem hz89) ?_
    refine OEndsQ.adv hm_0 2 (pc' := 161) (L' := [.unset, .unset, .unset, .val (.int v3), .val (.int v4), .val (.int v5), .val (.ref 0), .val (.long v7), .second, .val (.long v9), .second, .val (.long v11), .second, .val (.long v13), .second, .val (.long v15), .second, .val (.int t0), .val (.long v4.toInt64), .second, .val (.long v5.toInt64), .second, .val (.long ((v5.toInt64 * v5.toInt64) % v7)), .second, .val (.long ((((v4.toInt64 * v4.toInt64) % v7) * v4.toInt64) % v7)), .second]) (S' := [.long v7, .long (((((v4.toInt64 * v4.toInt64) % v7) * v4.toInt64) % v7) + ((v9 * v4.toInt64) % v7))]) (H' := (bk0 n0_regX n0_regY n0_regInf n0_privKey n0_hasKey n0_pubX n0_pubY n0_pubInf n0_msg n0_p n0_a n0_gx n0_gy n0_b n0_msgLen n0_sigX n0_sigY n0_sigInf n0_sigS n0_sigE [])) rfl ?_
    refine OEndsQ.plain hm_0 rfl rfl (x_lrem hz89) ?_
    refine OEndsQ.adv hm_0 5 (pc' := 171) (L' := [.unset, .unset, .unset, .val (.int v3), .val (.int v4), .val (.int v5), .val (.ref 0), .val (.long v7), .second, .val (.long v9), .second, .val (.long v11), .second, .val (.long v13), .second, .val (.long v15), .second, .val (.int t0), .val (.long v4.toInt64), .second, .val (.long v5.toInt64), .second, .val (.long ((v5.toInt64 * v5.toInt64) % v7)), .second, .val (.long ((((((v4.toInt64 * v4.toInt64) % v7) * v4.toInt64) % v7) + ((v9 * v4.toInt64) % v7)) % v7)), .second]) (S' := [.long v7, .long (((((((v4.toInt64 * v4.toInt64) % v7) * v4.toInt64) % v7) + ((v9 * v4.toInt64) % v7)) % v7) + v11)]) (H' := (bk0 n0_regX n0_regY n0_regInf n0_privKey n0_hasKey n0_pubX n0_pubY n0_pubInf n0_msg n0_p n0_a n0_gx n0_gy n0_b n0_msgLen n0_sigX n0_sigY n0_sigInf n0_sigS n0_sigE [])) rfl ?_
    refine OEndsQ.plain hm_0 rfl rfl (x_lrem hz89) ?_
    refine OEndsQ.adv hm_0 4 (pc' := 179) (L' := [.unset, .unset, .unset, .val (.int v3), .val (.int v4), .val (.int v5), .val (.ref 0), .val (.long v7), .second, .val (.long v9), .second, .val (.long v11), .second, .val (.long v13), .second, .val (.long v15), .second, .val (.int t0), .val (.long v4.toInt64), .second, .val (.long v5.toInt64), .second, .val (.long ((v5.toInt64 * v5.toInt64) % v7)), .second, .val (.long ((((((((v4.toInt64 * v4.toInt64) % v7) * v4.toInt64) % v7) + ((v9 * v4.toInt64) % v7)) % v7) + v11) % v7)), .second]) (S' := [.int (XT.cmpL ((v5.toInt64 * v5.toInt64) % v7) ((((((((v4.toInt64 * v4.toInt64) % v7) * v4.toInt64) % v7) + ((v9 * v4.toInt64) % v7)) % v7) + v11) % v7))]) (H' := (bk0 n0_regX n0_regY n0_regInf n0_privKey n0_hasKey n0_pubX n0_pubY n0_pubInf n0_msg n0_p n0_a n0_gx n0_gy n0_b n0_msgLen n0_sigX n0_sigY n0_sigInf n0_sigS n0_sigE [])) rfl ?_
    by_cases hc90 : ((v5.toInt64 * v5.toInt64) % v7) = ((((((((v4.toInt64 * v4.toInt64) % v7) * v4.toInt64) % v7) + ((v9 * v4.toInt64) % v7)) % v7) + v11) % v7)
    · simp only [if_pos hc90] at h
      refine OEndsQ.ifF hm_0 rfl ((teq (c_eq.mpr hc90)).2) ?_
      refine OEndsQ.adv hm_0 3 (pc' := 189) (L' := [.unset, .unset, .unset, .val (.int v3), .val (.int v4), .val (.int v5), .val (.ref 0), .val (.long v7), .second, .val (.long v9), .second, .val (.long v11), .second, .val (.long v13), .second, .val (.long v15), .second, .val (.int 1), .val (.long v4.toInt64), .second, .val (.long v5.toInt64), .second, .val (.long ((v5.toInt64 * v5.toInt64) % v7)), .second, .val (.long ((((((((v4.toInt64 * v4.toInt64) % v7) * v4.toInt64) % v7) + ((v9 * v4.toInt64) % v7)) % v7) + v11) % v7)), .second]) (S' := []) (H' := (bk0 n0_regX n0_regY n0_regInf n0_privKey n0_hasKey n0_pubX n0_pubY n0_pubInf n0_msg n0_p n0_a n0_gx n0_gy n0_b n0_msgLen n0_sigX n0_sigY n0_sigInf n0_sigS n0_sigE [])) rfl ?_
      exact ok_L_law_189 h
    · simp only [if_neg hc90] at h
      refine OEndsQ.ifT hm_0 rfl (q := 186) rfl ((feq (mt c_eq.mp hc90)).2) ?_
      refine OEndsQ.adv hm_0 2 (pc' := 189) (L' := [.unset, .unset, .unset, .val (.int v3), .val (.int v4), .val (.int v5), .val (.ref 0), .val (.long v7), .second, .val (.long v9), .second, .val (.long v11), .second, .val (.long v13), .second, .val (.long v15), .second, .val (.int 0), .val (.long v4.toInt64), .second, .val (.long v5.toInt64), .second, .val (.long ((v5.toInt64 * v5.toInt64) % v7)), .second, .val (.long ((((((((v4.toInt64 * v4.toInt64) % v7) * v4.toInt64) % v7) + ((v9 * v4.toInt64) % v7)) % v7) + v11) % v7)), .second]) (S' := []) (H' := (bk0 n0_regX n0_regY n0_regInf n0_privKey n0_hasKey n0_pubX n0_pubY n0_pubInf n0_msg n0_p n0_a n0_gx n0_gy n0_b n0_msgLen n0_sigX n0_sigY n0_sigInf n0_sigS n0_sigE [])) rfl ?_
      exact ok_L_law_189 h
theorem ok_L_law {v0 : Int32} {v1 : Int32} {v2 : Int32} {v3 : Int32} {v4 : Int32} {v5 : Int32} {res : Int32} (h : f_L_law v0 v1 v2 v3 v4 v5 = some res) : OEndsQ own_P 0 0 [.val (.int v0), .val (.int v1), .val (.int v2), .val (.int v3), .val (.int v4), .val (.int v5), .unset, .unset, .unset, .unset, .unset, .unset, .unset, .unset, .unset, .unset, .unset, .unset, .unset, .unset, .unset, .unset, .unset, .unset, .unset, .unset] [] [] (LawQ res 10 131) := by
  unfold f_L_law at h
  refine OEndsQ.made hm_0 rfl rfl (ks := 23) (c0 := 9) (s0 := 108) rfl (Nat.le_of_ble_eq_true rfl) (Nat.le_of_ble_eq_true rfl) ?_
  refine OEndsQ.adv hm_0 5 (pc' := 8) (L' := [.val (.int v0), .val (.int v1), .val (.int v2), .val (.int v3), .val (.int v4), .val (.int v5), .unset, .unset, .unset, .unset, .unset, .unset, .unset, .unset, .unset, .unset, .unset, .unset, .unset, .unset, .unset, .unset, .unset, .unset, .unset, .unset]) (S' := [.int v2, .int v1, .int 0, .int v0, .ref 0, .ref 0]) (H' := ((.inl (0, [.null, .null, .null, .null, .null, .null, .null, .null, .null, .long 0, .long 0, .long 0, .long 0, .long 0, .int 0, .long 0, .long 0, .int 0, .long 0, .int 0]) : ACell) :: [])) rfl ?_
  obtain ⟨⟨s49, s50, s51, s52, s53, s54, s55, s56, s57, s58, s59, s60, s61, s62, s63, s64, s65, s66, s67, s68⟩, hq91, h⟩ := bnd h
  refine OEndsQ.callN hm_0 rfl rfl (by decide) rfl (as := [.ref 0, .int v0, .int 0, .int v1, .int v2]) (rest := [.ref 0]) rfl rfl (c0 := 0) (s0 := 0) (ok_init hq91) (Nat.le_of_ble_eq_true rfl) (Nat.le_of_ble_eq_true rfl) ?_
  refine OEndsQ.adv hm_0 3 (pc' := 16) (L' := [.val (.int v0), .val (.int v1), .val (.int v2), .val (.int v3), .val (.int v4), .val (.int v5), .val (.ref 0), .unset, .unset, .unset, .unset, .unset, .unset, .unset, .unset, .unset, .unset, .unset, .unset, .unset, .unset, .unset, .unset, .unset, .unset, .unset]) (S' := [.int 0, .ref 0]) (H' := (bk0 s49 s50 s51 s52 s53 s54 s55 s56 s57 s58 s59 s60 s61 s62 s63 s64 s65 s66 s67 s68 [])) rfl ?_
  obtain ⟨r69, hq92, h⟩ := bnd h
  refine OEndsQ.call0 hm_0 rfl rfl (by decide) rfl (as := [.ref 0, .int 0]) (rest := []) rfl rfl (ok_param hq92) ?_
  refine OEndsQ.adv hm_0 4 (pc' := 25) (L' := [.val (.int v0), .val (.int v1), .val (.int v2), .val (.int v3), .val (.int v4), .val (.int v5), .val (.ref 0), .val (.long r69.toInt64), .second, .unset, .unset, .unset, .unset, .unset, .unset, .unset, .unset, .unset, .unset, .unset, .unset, .unset, .unset, .unset, .unset, .unset]) (S' := [.int 1, .ref 0]) (H' := (bk0 s49 s50 s51 s52 s53 s54 s55 s56 s57 s58 s59 s60 s61 s62 s63 s64 s65 s66 s67 s68 [])) rfl ?_
  obtain ⟨r70, hq93, h⟩ := bnd h
  refine OEndsQ.call0 hm_0 rfl rfl (by decide) rfl (as := [.ref 0, .int 1]) (rest := []) rfl rfl (ok_param hq93) ?_
  refine OEndsQ.adv hm_0 4 (pc' := 34) (L' := [.val (.int v0), .val (.int v1), .val (.int v2), .val (.int v3), .val (.int v4), .val (.int v5), .val (.ref 0), .val (.long r69.toInt64), .second, .val (.long r70.toInt64), .second, .unset, .unset, .unset, .unset, .unset, .unset, .unset, .unset, .unset, .unset, .unset, .unset, .unset, .unset, .unset]) (S' := [.int 2, .ref 0]) (H' := (bk0 s49 s50 s51 s52 s53 s54 s55 s56 s57 s58 s59 s60 s61 s62 s63 s64 s65 s66 s67 s68 [])) rfl ?_
  obtain ⟨r71, hq94, h⟩ := bnd h
  refine OEndsQ.call0 hm_0 rfl rfl (by decide) rfl (as := [.ref 0, .int 2]) (rest := []) rfl rfl (ok_param hq94) ?_
  refine OEndsQ.adv hm_0 4 (pc' := 43) (L' := [.val (.int v0), .val (.int v1), .val (.int v2), .val (.int v3), .val (.int v4), .val (.int v5), .val (.ref 0), .val (.long r69.toInt64), .second, .val (.long r70.toInt64), .second, .val (.long r71.toInt64), .second, .unset, .unset, .unset, .unset, .unset, .unset, .unset, .unset, .unset, .unset, .unset, .unset, .unset]) (S' := [.int 3, .ref 0]) (H' := (bk0 s49 s50 s51 s52 s53 s54 s55 s56 s57 s58 s59 s60 s61 s62 s63 s64 s65 s66 s67 s68 [])) rfl ?_
  obtain ⟨r72, hq95, h⟩ := bnd h
  refine OEndsQ.call0 hm_0 rfl rfl (by decide) rfl (as := [.ref 0, .int 3]) (rest := []) rfl rfl (ok_param hq95) ?_
  refine OEndsQ.adv hm_0 4 (pc' := 52) (L' := [.val (.int v0), .val (.int v1), .val (.int v2), .val (.int v3), .val (.int v4), .val (.int v5), .val (.ref 0), .val (.long r69.toInt64), .second, .val (.long r70.toInt64), .second, .val (.long r71.toInt64), .second, .val (.long r72.toInt64), .second, .unset, .unset, .unset, .unset, .unset, .unset, .unset, .unset, .unset, .unset, .unset]) (S' := [.int 4, .ref 0]) (H' := (bk0 s49 s50 s51 s52 s53 s54 s55 s56 s57 s58 s59 s60 s61 s62 s63 s64 s65 s66 s67 s68 [])) rfl ?_
  obtain ⟨r73, hq96, h⟩ := bnd h
  refine OEndsQ.call0 hm_0 rfl rfl (by decide) rfl (as := [.ref 0, .int 4]) (rest := []) rfl rfl (ok_param hq96) ?_
  refine OEndsQ.adv hm_0 3 (pc' := 59) (L' := [.val (.int v0), .val (.int v1), .val (.int v2), .val (.int v3), .val (.int v4), .val (.int v5), .val (.ref 0), .val (.long r69.toInt64), .second, .val (.long r70.toInt64), .second, .val (.long r71.toInt64), .second, .val (.long r72.toInt64), .second, .val (.long r73.toInt64), .second, .unset, .unset, .unset, .unset, .unset, .unset, .unset, .unset, .unset]) (S' := [.int v3]) (H' := (bk0 s49 s50 s51 s52 s53 s54 s55 s56 s57 s58 s59 s60 s61 s62 s63 s64 s65 s66 s67 s68 [])) rfl ?_
  by_cases hc97 : v3 < (0 : Int32)
  · simp only [if_pos hc97] at h
    refine OEndsQ.ifT hm_0 rfl (q := 104) rfl ((tlt hc97).1) ?_
    refine OEndsQ.adv hm_0 1 (pc' := 105) (L' := [.val (.int v0), .val (.int v1), .val (.int v2), .val (.int v3), .val (.int v4), .val (.int v5), .val (.ref 0), .val (.long r69.toInt64), .second, .val (.long r70.toInt64), .second, .val (.long r71.toInt64), .second, .val (.long r72.toInt64), .second, .val (.long r73.toInt64), .second, .unset, .unset, .unset, .unset, .unset, .unset, .unset, .unset, .unset]) (S' := [.int 0]) (H' := (bk0 s49 s50 s51 s52 s53 s54 s55 s56 s57 s58 s59 s60 s61 s62 s63 s64 s65 s66 s67 s68 [])) rfl ?_
    exact ok_L_law_105 h
  · simp only [if_neg hc97] at h
    refine OEndsQ.ifF hm_0 rfl ((flt hc97).1) ?_
    refine OEndsQ.adv hm_0 2 (pc' := 65) (L' := [.val (.int v0), .val (.int v1), .val (.int v2), .val (.int v3), .val (.int v4), .val (.int v5), .val (.ref 0), .val (.long r69.toInt64), .second, .val (.long r70.toInt64), .second, .val (.long r71.toInt64), .second, .val (.long r72.toInt64), .second, .val (.long r73.toInt64), .second, .unset, .unset, .unset, .unset, .unset, .unset, .unset, .unset, .unset]) (S' := [.int 7, .int v3]) (H' := (bk0 s49 s50 s51 s52 s53 s54 s55 s56 s57 s58 s59 s60 s61 s62 s63 s64 s65 s66 s67 s68 [])) rfl ?_
    by_cases hc98 : (7 : Int32) < v3
    · simp only [if_pos hc98] at h
      refine OEndsQ.icmpT hm_0 rfl (q := 104) rfl ((tlt hc98).2.2.1) ?_
      refine OEndsQ.adv hm_0 1 (pc' := 105) (L' := [.val (.int v0), .val (.int v1), .val (.int v2), .val (.int v3), .val (.int v4), .val (.int v5), .val (.ref 0), .val (.long r69.toInt64), .second, .val (.long r70.toInt64), .second, .val (.long r71.toInt64), .second, .val (.long r72.toInt64), .second, .val (.long r73.toInt64), .second, .unset, .unset, .unset, .unset, .unset, .unset, .unset, .unset, .unset]) (S' := [.int 0]) (H' := (bk0 s49 s50 s51 s52 s53 s54 s55 s56 s57 s58 s59 s60 s61 s62 s63 s64 s65 s66 s67 s68 [])) rfl ?_
      exact ok_L_law_105 h
    · simp only [if_neg hc98] at h
      refine OEndsQ.icmpF hm_0 rfl ((flt hc98).2.2.1) ?_
      refine OEndsQ.adv hm_0 1 (pc' := 70) (L' := [.val (.int v0), .val (.int v1), .val (.int v2), .val (.int v3), .val (.int v4), .val (.int v5), .val (.ref 0), .val (.long r69.toInt64), .second, .val (.long r70.toInt64), .second, .val (.long r71.toInt64), .second, .val (.long r72.toInt64), .second, .val (.long r73.toInt64), .second, .unset, .unset, .unset, .unset, .unset, .unset, .unset, .unset, .unset]) (S' := [.int v4]) (H' := (bk0 s49 s50 s51 s52 s53 s54 s55 s56 s57 s58 s59 s60 s61 s62 s63 s64 s65 s66 s67 s68 [])) rfl ?_
      by_cases hc99 : v4 < (0 : Int32)
      · simp only [if_pos hc99] at h
        refine OEndsQ.ifT hm_0 rfl (q := 104) rfl ((tlt hc99).1) ?_
        refine OEndsQ.adv hm_0 1 (pc' := 105) (L' := [.val (.int v0), .val (.int v1), .val (.int v2), .val (.int v3), .val (.int v4), .val (.int v5), .val (.ref 0), .val (.long r69.toInt64), .second, .val (.long r70.toInt64), .second, .val (.long r71.toInt64), .second, .val (.long r72.toInt64), .second, .val (.long r73.toInt64), .second, .unset, .unset, .unset, .unset, .unset, .unset, .unset, .unset, .unset]) (S' := [.int 0]) (H' := (bk0 s49 s50 s51 s52 s53 s54 s55 s56 s57 s58 s59 s60 s61 s62 s63 s64 s65 s66 s67 s68 [])) rfl ?_
        exact ok_L_law_105 h
      · simp only [if_neg hc99] at h
        refine OEndsQ.ifF hm_0 rfl ((flt hc99).1) ?_
        refine OEndsQ.adv hm_0 6 (pc' := 81) (L' := [.val (.int v0), .val (.int v1), .val (.int v2), .val (.int v3), .val (.int v4), .val (.int v5), .val (.ref 0), .val (.long r69.toInt64), .second, .val (.long r70.toInt64), .second, .val (.long r71.toInt64), .second, .val (.long r72.toInt64), .second, .val (.long r73.toInt64), .second, .unset, .unset, .unset, .unset, .unset, .unset, .unset, .unset, .unset]) (S' := [.int (XT.cmpL v4.toInt64 (r69.toInt64 - (1 : Int64)))]) (H' := (bk0 s49 s50 s51 s52 s53 s54 s55 s56 s57 s58 s59 s60 s61 s62 s63 s64 s65 s66 s67 s68 [])) rfl ?_
        by_cases hc100 : (r69.toInt64 - (1 : Int64)) < v4.toInt64
        · simp only [if_pos hc100] at h
          refine OEndsQ.ifT hm_0 rfl (q := 104) rfl ((tlt (c_gt.mpr hc100)).2.2.1) ?_
          refine OEndsQ.adv hm_0 1 (pc' := 105) (L' := [.val (.int v0), .val (.int v1), .val (.int v2), .val (.int v3), .val (.int v4), .val (.int v5), .val (.ref 0), .val (.long r69.toInt64), .second, .val (.long r70.toInt64), .second, .val (.long r71.toInt64), .second, .val (.long r72.toInt64), .second, .val (.long r73.toInt64), .second, .unset, .unset, .unset, .unset, .unset, .unset, .unset, .unset, .unset]) (S' := [.int 0]) (H' := (bk0 s49 s50 s51 s52 s53 s54 s55 s56 s57 s58 s59 s60 s61 s62 s63 s64 s65 s66 s67 s68 [])) rfl ?_
          exact ok_L_law_105 h
        · simp only [if_neg hc100] at h
          refine OEndsQ.ifF hm_0 rfl ((flt (mt c_gt.mp hc100)).2.2.1) ?_
          refine OEndsQ.adv hm_0 1 (pc' := 86) (L' := [.val (.int v0), .val (.int v1), .val (.int v2), .val (.int v3), .val (.int v4), .val (.int v5), .val (.ref 0), .val (.long r69.toInt64), .second, .val (.long r70.toInt64), .second, .val (.long r71.toInt64), .second, .val (.long r72.toInt64), .second, .val (.long r73.toInt64), .second, .unset, .unset, .unset, .unset, .unset, .unset, .unset, .unset, .unset]) (S' := [.int v5]) (H' := (bk0 s49 s50 s51 s52 s53 s54 s55 s56 s57 s58 s59 s60 s61 s62 s63 s64 s65 s66 s67 s68 [])) rfl ?_
          by_cases hc101 : v5 < (0 : Int32)
          · simp only [if_pos hc101] at h
            refine OEndsQ.ifT hm_0 rfl (q := 104) rfl ((tlt hc101).1) ?_
            refine OEndsQ.adv hm_0 1 (pc' := 105) (L' := [.val (.int v0), .val (.int v1), .val (.int v2), .val (.int v3), .val (.int v4), .val (.int v5), .val (.ref 0), .val (.long r69.toInt64), .second, .val (.long r70.toInt64), .second, .val (.long r71.toInt64), .second, .val (.long r72.toInt64), .second, .val (.long r73.toInt64), .second, .unset, .unset, .unset, .unset, .unset, .unset, .unset, .unset, .unset]) (S' := [.int 0]) (H' := (bk0 s49 s50 s51 s52 s53 s54 s55 s56 s57 s58 s59 s60 s61 s62 s63 s64 s65 s66 s67 s68 [])) rfl ?_
            exact ok_L_law_105 h
          · simp only [if_neg hc101] at h
            refine OEndsQ.ifF hm_0 rfl ((flt hc101).1) ?_
            refine OEndsQ.adv hm_0 6 (pc' := 97) (L' := [.val (.int v0), .val (.int v1), .val (.int v2), .val (.int v3), .val (.int v4), .val (.int v5), .val (.ref 0), .val (.long r69.toInt64), .second, .val (.long r70.toInt64), .second, .val (.long r71.toInt64), .second, .val (.long r72.toInt64), .second, .val (.long r73.toInt64), .second, .unset, .unset, .unset, .unset, .unset, .unset, .unset, .unset, .unset]) (S' := [.int (XT.cmpL v5.toInt64 (r69.toInt64 - (1 : Int64)))]) (H' := (bk0 s49 s50 s51 s52 s53 s54 s55 s56 s57 s58 s59 s60 s61 s62 s63 s64 s65 s66 s67 s68 [])) rfl ?_
            by_cases hc102 : (r69.toInt64 - (1 : Int64)) < v5.toInt64
            · simp only [if_pos hc102] at h
              refine OEndsQ.ifT hm_0 rfl (q := 104) rfl ((tlt (c_gt.mpr hc102)).2.2.1) ?_
              refine OEndsQ.adv hm_0 1 (pc' := 105) (L' := [.val (.int v0), .val (.int v1), .val (.int v2), .val (.int v3), .val (.int v4), .val (.int v5), .val (.ref 0), .val (.long r69.toInt64), .second, .val (.long r70.toInt64), .second, .val (.long r71.toInt64), .second, .val (.long r72.toInt64), .second, .val (.long r73.toInt64), .second, .unset, .unset, .unset, .unset, .unset, .unset, .unset, .unset, .unset]) (S' := [.int 0]) (H' := (bk0 s49 s50 s51 s52 s53 s54 s55 s56 s57 s58 s59 s60 s61 s62 s63 s64 s65 s66 s67 s68 [])) rfl ?_
              exact ok_L_law_105 h
            · simp only [if_neg hc102] at h
              refine OEndsQ.ifF hm_0 rfl ((flt (mt c_gt.mp hc102)).2.2.1) ?_
              refine OEndsQ.adv hm_0 2 (pc' := 105) (L' := [.val (.int v0), .val (.int v1), .val (.int v2), .val (.int v3), .val (.int v4), .val (.int v5), .val (.ref 0), .val (.long r69.toInt64), .second, .val (.long r70.toInt64), .second, .val (.long r71.toInt64), .second, .val (.long r72.toInt64), .second, .val (.long r73.toInt64), .second, .unset, .unset, .unset, .unset, .unset, .unset, .unset, .unset, .unset]) (S' := [.int 1]) (H' := (bk0 s49 s50 s51 s52 s53 s54 s55 s56 s57 s58 s59 s60 s61 s62 s63 s64 s65 s66 s67 s68 [])) rfl ?_
              exact ok_L_law_105 h
/-! The field and the curve -/
def own_pr (p : Int64) : Prop := p = 8191 ∨ p = 65521 ∨ p = 65537 ∨ p = 131071 ∨ p = 524287 ∨ p = 998244353 ∨ p = 1000000007 ∨ p = 2147483647
def own_prI (P : Int) : Prop := P = 8191 ∨ P = 65521 ∨ P = 65537 ∨ P = 131071 ∨ P = 524287 ∨ P = 998244353 ∨ P = 1000000007 ∨ P = 2147483647
theorem own_pr_i {p : Int64} (h : own_pr p) : own_prI p.toInt := by
  unfold own_prI
  rcases h with rfl | rfl | rfl | rfl | rfl | rfl | rfl | rfl <;> decide
theorem own_pr_b {P : Int} (h : own_prI P) : 8191 ≤ P ∧ P ≤ 2147483647 := by
  rcases h with rfl | rfl | rfl | rfl | rfl | rfl | rfl | rfl <;> decide
def own_fd (p a : Int64) : Prop := 0 ≤ a.toInt ∧ a.toInt < p.toInt
theorem own_ne {p : Int64} (h : own_pr p) : ¬ p = 0 := by
  rcases h with rfl | rfl | rfl | rfl | rfl | rfl | rfl | rfl <;> decide
theorem own_mulI {p a b : Int64} (h : own_pr p) (ha : own_fd p a) (hb : own_fd p b) : ((a * b) % p).toInt = (a.toInt * b.toInt) % p.toInt ∧ own_fd p ((a * b) % p) := by
  have hp := own_pr_b (own_pr_i h)
  have m := mulb (M := 2147483647) ha.1 (by have := ha.2; omega) hb.1 (by have := hb.2; omega)
  have e : (a * b).toInt = a.toInt * b.toInt := lmul_i (by omega) (by omega)
  have e2 : ((a * b) % p).toInt = (a.toInt * b.toInt) % p.toInt := by rw [lmod_i (by omega), e]
  refine ⟨e2, ?_⟩
  unfold own_fd
  rw [e2]
  exact ⟨Int.emod_nonneg _ (by omega), Int.emod_lt_of_pos _ (by omega)⟩
theorem own_mul {p a b : Int64} (h : own_pr p) : f_mulMod p a b = some ((a * b) % p) := by
  unfold f_mulMod
  rw [if_neg (own_ne h)]
theorem own_add {p a b : Int64} (h : own_pr p) (ha : own_fd p a) (hb : own_fd p b) : f_addMod p a b = some ((a + b) % p) ∧ ((a + b) % p).toInt = (a.toInt + b.toInt) % p.toInt ∧ own_fd p ((a + b) % p) := by
  have hp := own_pr_b (own_pr_i h)
  have hi := own_pr_i h
  obtain ⟨a0, a1⟩ := ha
  obtain ⟨b0, b1⟩ := hb
  have e : (a + b).toInt = a.toInt + b.toInt := ladd_i (by omega) (by omega)
  have e2 : ((a + b) % p).toInt = (a.toInt + b.toInt) % p.toInt := by rw [lmod_i (by omega), e]
  refine ⟨?_, e2, ?_⟩
  · unfold f_addMod
    congr 1
    rw [leqI, e2]
    by_cases g : a + b < p
    · rw [if_pos g, e]
      rw [lltI, e] at g
      rw [Int.emod_eq_of_lt (by omega) g]
    · have e3 : (a + b - p).toInt = a.toInt + b.toInt - p.toInt := by rw [lsub_i (by omega) (by omega), e]
      rw [if_neg g, e3]
      rw [lltI, e] at g
      clear e e2 e3
      generalize a.toInt = x at a0 a1 g ⊢
      generalize b.toInt = y at b0 b1 g ⊢
      generalize p.toInt = P at hi a1 b1 g hp ⊢
      rcases hi with rfl | rfl | rfl | rfl | rfl | rfl | rfl | rfl <;> omega
  · unfold own_fd
    rw [e2]
    exact ⟨Int.emod_nonneg _ (by omega), Int.emod_lt_of_pos _ (by omega)⟩
theorem own_sub {p a b : Int64} (h : own_pr p) (ha : own_fd p a) (hb : own_fd p b) : ∃ r, f_subMod p a b = some r ∧ r.toInt = (a.toInt - b.toInt) % p.toInt ∧ own_fd p r := by
  have hp := own_pr_b (own_pr_i h)
  have hi := own_pr_i h
  obtain ⟨a0, a1⟩ := ha
  obtain ⟨b0, b1⟩ := hb
  have e : (a - b).toInt = a.toInt - b.toInt := lsub_i (by omega) (by omega)
  have e0 : (0 : Int64).toInt = 0 := rfl
  have key : (if (a - b) < (0 : Int64) then ((a - b) + p) else (a - b)).toInt = (a.toInt - b.toInt) % p.toInt := by
    by_cases g : a - b < 0
    · have g' := g
      rw [lltI, e, e0] at g'
      have e3 : (a - b + p).toInt = a.toInt - b.toInt + p.toInt := by rw [ladd_i (by omega) (by omega), e]
      rw [if_pos g, e3]
      clear e e3 g
      generalize a.toInt = x at a0 a1 g' ⊢
      generalize b.toInt = y at b0 b1 g' ⊢
      generalize p.toInt = P at hi a1 b1 hp ⊢
      rcases hi with rfl | rfl | rfl | rfl | rfl | rfl | rfl | rfl <;> omega
    · have g' := g
      rw [lltI, e, e0] at g'
      rw [if_neg g, e, Int.emod_eq_of_lt (by omega) (by omega)]
  refine ⟨_, rfl, key, ?_⟩
  unfold own_fd
  rw [key]
  exact ⟨Int.emod_nonneg _ (by omega), Int.emod_lt_of_pos _ (by omega)⟩
/-- b of the curve through (gx, gy) with this a -/
def own_bI (P a gx gy : Int) : Int := ((gy * gy) % P - (((gx * gx) % P) * gx) % P - (a * gx) % P) % P
theorem own_cb {p a gx gy : Int64} (h : own_pr p) (ha : own_fd p a) (hx : own_fd p gx) (hy : own_fd p gy) : ∃ b, f_computeB p a gx gy = some b ∧ b.toInt = own_bI p.toInt a.toInt gx.toInt gy.toInt ∧ own_fd p b := by
  have hi := own_pr_i h
  obtain ⟨e1, f1⟩ := own_mulI h hy hy
  obtain ⟨e2, f2⟩ := own_mulI h hx hx
  obtain ⟨e3, f3⟩ := own_mulI h f2 hx
  obtain ⟨e4, f4⟩ := own_mulI h ha hx
  obtain ⟨r5, q5, e5, f5⟩ := own_sub h f1 f3
  obtain ⟨r6, q6, e6, f6⟩ := own_sub h f5 f4
  refine ⟨r6, ?_, ?_, f6⟩
  · unfold f_computeB
    rw [own_mul h, Option.bind_some, own_mul h, Option.bind_some, own_mul h, Option.bind_some, own_mul h, Option.bind_some, q5, Option.bind_some, q6, Option.bind_some]
  · rw [e6, e5, e1, e3, e4, e2]
    unfold own_bI
    generalize (gy.toInt * gy.toInt) = A
    generalize (gx.toInt * gx.toInt % p.toInt * gx.toInt) = B
    generalize (a.toInt * gx.toInt) = C
    generalize p.toInt = P at hi ⊢
    rcases hi with rfl | rfl | rfl | rfl | rfl | rfl | rfl | rfl <;> omega
/-- the discriminant -/
def own_dI (P a b : Int) : Int := (4 * ((((a * a) % P) * a) % P) + 27 * ((b * b) % P)) % P
theorem own_disc {p a b : Int64} (h : own_pr p) (ha : own_fd p a) (hb : own_fd p b) : ∃ d, f_discriminant p a b = some d ∧ d.toInt = own_dI p.toInt a.toInt b.toInt ∧ own_fd p d := by
  have hi := own_pr_i h
  have hp := own_pr_b hi
  have t4 : own_fd p 4 := ⟨by decide, by have e : (4 : Int64).toInt = 4 := rfl; omega⟩
  have t27 : own_fd p 27 := ⟨by decide, by have e : (27 : Int64).toInt = 27 := rfl; omega⟩
  have e4 : (4 : Int64).toInt = 4 := rfl
  have e27 : (27 : Int64).toInt = 27 := rfl
  obtain ⟨e1, f1⟩ := own_mulI h ha ha
  obtain ⟨e2, f2⟩ := own_mulI h f1 ha
  obtain ⟨e3, f3⟩ := own_mulI h t4 f2
  obtain ⟨e5, f5⟩ := own_mulI h hb hb
  obtain ⟨e6, f6⟩ := own_mulI h t27 f5
  obtain ⟨q7, e7, f7⟩ := own_add h f3 f6
  refine ⟨_, ?_, ?_, f7⟩
  · unfold f_discriminant
    rw [own_mul h, Option.bind_some, own_mul h, Option.bind_some, own_mul h, Option.bind_some, own_mul h, Option.bind_some, own_mul h, Option.bind_some, q7, Option.bind_some]
  · rw [e7, e3, e6, e2, e5, e1, e4, e27]
    unfold own_dI
    generalize (a.toInt * a.toInt % p.toInt * a.toInt) % p.toInt = A
    generalize (b.toInt * b.toInt) % p.toInt = B
    generalize p.toInt = P at hi ⊢
    rcases hi with rfl | rfl | rfl | rfl | rfl | rfl | rfl | rfl <;> omega
theorem own_193 (pk : List Int64) (hk : List Int32) (px py : List Int64) (pi msg : List Int32) (p a gx gy b : Int64) (ml : Int32) (sx sy : Int64) (si : Int32) (ss : Int64) (se : Int32) :
    f_init_193 f_init_215 100000 [0, 0, 0, 0, 0, 0, 0, 0] [0, 0, 0, 0, 0, 0, 0, 0] [0, 0, 0, 0, 0, 0, 0, 0] pk hk px py pi msg p a gx gy b ml sx sy si ss se 0 = some ([gx, 0, 0, 0, 0, 0, 0, 0], [gy, 0, 0, 0, 0, 0, 0, 0], [0, 1, 1, 1, 1, 1, 1, 1], pk, hk, px, py, pi, msg, p, a, gx, gy, b, 0, 0, 0, 1, 0, 0) := by
  have m1 : (1 : Int32) &&& 1 = 1 := by decide
  have m0 : (0 : Int32) &&& 1 = 0 := by decide
  simp [f_init_193, f_setRegister, f_setRegister_23, f_setRegister_40, f_init_215, wrA, m1, m0]
theorem own_clF {p : Int64} (h : own_pr p) (v : Int32) : ∃ c, f_clampField p v = some c ∧ own_fd p c ∧ c = (if v.toInt64 < (0 : Int64) then (0 : Int64) else (if (p - (1 : Int64)) < v.toInt64 then (p - (1 : Int64)) else v.toInt64)) := by
  have hp := own_pr_b (own_pr_i h)
  have e1 : (1 : Int64).toInt = 1 := rfl
  have e0 : (0 : Int64).toInt = 0 := rfl
  have ep : (p - 1).toInt = p.toInt - 1 := by rw [lsub_i (by omega) (by omega), e1]
  refine ⟨_, rfl, ?_, rfl⟩
  unfold own_fd
  split
  · constructor <;> omega
  · rename_i g
    split
    · constructor <;> omega
    · rename_i g2
      rw [lltI] at g g2
      constructor <;> omega
theorem own_prime (v : Int32) : ∃ p, f_primeAt v = some p ∧ own_pr p := by
  refine ⟨_, rfl, ?_⟩
  unfold own_pr
  repeat' split
  all_goals simp
theorem own_142 {R : Type} (k193 : List Int64 → List Int64 → List Int32 → List Int64 → List Int32 → List Int64 → List Int64 → List Int32 → List Int32 → Int64 → Int64 → Int64 → Int64 → Int64 → Int32 → Int64 → Int64 → Int32 → Int64 → Int32 → Int32 → Option (List Int64 × List Int64 × List Int32 × List Int64 × List Int32 × List Int64 × List Int64 × List Int32 × List Int32 × Int64 × Int64 × Int64 × Int64 × Int64 × Int32 × Int64 × Int64 × Int32 × Int64 × Int32))
    (RX RY : List Int64) (RI : List Int32) (pk : List Int64) (hk : List Int32) (px py : List Int64) (pi msg : List Int32) {p gx gy : Int64} (ml : Int32) (sx sy : Int64) (si : Int32) (ss : Int64) (se : Int32) (h : own_pr p) (hx : own_fd p gx) (hy : own_fd p gy) :
    ∀ (n : Nat) (a b : Int64) (i : Int32), own_fd p a → own_fd p b → 0 ≤ i.toInt → i.toInt ≤ 8 → 8 - i.toInt < n → ∃ a' b', own_fd p a' ∧ own_fd p b' ∧ f_init_142 k193 n RX RY RI pk hk px py pi msg p a gx gy b ml sx sy si ss se i = k193 RX RY RI pk hk px py pi msg p a' gx gy b' ml sx sy si ss se 0 := by
  have hp := own_pr_b (own_pr_i h)
  intro n
  induction n with
  | zero => intro a b i ha hb h0 h1 h2; exfalso; omega
  | succ n ih =>
    intro a b i ha hb h0 h1 h2
    unfold f_init_142
    by_cases g : i < 8
    · have g' : i.toInt < 8 := ilt.mp g
      have ei : (i + 1).toInt = i.toInt + 1 := by clear ih; ((try simp only [ilt, ile, ieq, iadd_e, isub_e, imul_e, Int32.reduceToInt] at *) <;> omega)
      obtain ⟨d, e, -, -⟩ := own_disc h ha hb
      rw [if_pos g, e, Option.bind_some]
      by_cases g2 : d = 0
      · have t1 : own_fd p 1 := ⟨by decide, by have e : (1 : Int64).toInt = 1 := rfl; omega⟩
        obtain ⟨-, -, f1⟩ := own_add h ha t1
        obtain ⟨b', e', -, f2⟩ := own_cb h f1 hx hy
        rw [if_pos g2, if_neg (own_ne h), e', Option.bind_some]
        exact ih _ _ (i + 1) f1 f2 (by omega) (by omega) (by omega)
      · rw [if_neg g2]
        exact ⟨a, b, ha, hb, rfl⟩
    · rw [if_neg g]
      exact ⟨a, b, ha, hb, rfl⟩
theorem own_p0 (p a gx gy b : Int64) : f_param p a gx gy b 0 = some p.toInt32 := rfl
theorem own_p1 (p a gx gy b : Int64) : f_param p a gx gy b 1 = some a.toInt32 := rfl
theorem own_p2 (p a gx gy b : Int64) : f_param p a gx gy b 2 = some b.toInt32 := rfl
theorem own_p3 (p a gx gy b : Int64) : f_param p a gx gy b 3 = some gx.toInt32 := rfl
theorem own_p4 (p a gx gy b : Int64) : f_param p a gx gy b 4 = some gy.toInt32 := rfl
theorem own_p5 (p a gx gy b : Int64) : f_param p a gx gy b 5 = some (-1) := rfl
theorem own_init (v0 va v1 v2 : Int32) : ∃ (p a gx gy b : Int64) (pk : List Int64) (hk : List Int32) (px py : List Int64) (pi msg : List Int32), own_pr p ∧ own_fd p a ∧ own_fd p gx ∧ own_fd p gy ∧ own_fd p b ∧
    f_init v0 va v1 v2 = some ([gx, 0, 0, 0, 0, 0, 0, 0], [gy, 0, 0, 0, 0, 0, 0, 0], [0, 1, 1, 1, 1, 1, 1, 1], pk, hk, px, py, pi, msg, p, a, gx, gy, b, 0, 0, 0, 1, 0, 0) := by
  unfold f_init f_init_82 f_init_93
  obtain ⟨p, e, h⟩ := own_prime (if (7 : Int32) < (if v0 < (0 : Int32) then (0 : Int32) else v0) then (7 : Int32) else (if v0 < (0 : Int32) then (0 : Int32) else v0))
  obtain ⟨a, ea, ha, -⟩ := own_clF h va
  obtain ⟨gx, ex, hx, -⟩ := own_clF h v1
  obtain ⟨gy, ey, hy, -⟩ := own_clF h v2
  obtain ⟨b, eb, -, hb⟩ := own_cb h ha hx hy
  rw [e, Option.bind_some, ea, Option.bind_some, ex, Option.bind_some, ey, Option.bind_some, eb, Option.bind_some]
  have r8 : (List.replicate 8 0 : List Int64) = [0, 0, 0, 0, 0, 0, 0, 0] := rfl
  have i8 : (List.replicate 8 0 : List Int32) = [0, 0, 0, 0, 0, 0, 0, 0] := rfl
  rw [r8, i8]
  obtain ⟨a', b', ha', hb', q⟩ := own_142 (R := Unit) (f_init_193 f_init_215 100000) [0, 0, 0, 0, 0, 0, 0, 0] [0, 0, 0, 0, 0, 0, 0, 0] [0, 0, 0, 0, 0, 0, 0, 0] (List.replicate 4 0) (List.replicate 4 0) (List.replicate 4 0) (List.replicate 4 0) (List.replicate 4 0) (List.replicate 64 0) 0 0 0 0 0 0 h hx hy 100000 a b 0 ha hb (by decide) (by decide) (by decide)
  rw [q, own_193]
  exact ⟨p, a', gx, gy, b', _, _, _, _, _, _, h, ha', hx, hy, hb', rfl⟩
theorem own_on {p a b x y : Int64} (h : own_pr p) (ha : own_fd p a) (hb : own_fd p b) (hx : own_fd p x) : f_onCurve p a b x y = some (if ((y * y) % p) = ((((((((x * x) % p) * x) % p) + ((a * x) % p)) % p) + b) % p) then (1 : Int32) else (0 : Int32)) := by
  obtain ⟨e1, f1⟩ := own_mulI h hx hx
  obtain ⟨e2, f2⟩ := own_mulI h f1 hx
  obtain ⟨e3, f3⟩ := own_mulI h ha hx
  obtain ⟨q4, -, f4⟩ := own_add h f2 f3
  obtain ⟨q5, -, f5⟩ := own_add h f4 hb
  unfold f_onCurve f_curveRhs
  rw [own_mul h, Option.bind_some, own_mul h, Option.bind_some, own_mul h, Option.bind_some, own_mul h, Option.bind_some, q4, Option.bind_some, q5, Option.bind_some, Option.bind_some]
theorem own_eight {r : Int32} (h0 : 0 ≤ r.toInt) (h1 : r.toInt < 8) : r = 0 ∨ r = 1 ∨ r = 2 ∨ r = 3 ∨ r = 4 ∨ r = 5 ∨ r = 6 ∨ r = 7 := by
  simp only [ieq, Int32.reduceToInt]
  omega
/-- the registers as they were made: what the law reads of them -/
theorem own_fresh {gx gy : Int64} {p : Int64} (h : own_pr p) (hx : own_fd p gx) (hy : own_fd p gy) (r : Int32) (V X : Int64) : f_L_law_284 [gx, 0, 0, 0, 0, 0, 0, 0] [gy, 0, 0, 0, 0, 0, 0, 0] [0, 1, 1, 1, 1, 1, 1, 1] r (if r = (0 : Int32) then gx else (if r < (1 : Int32) then (-1 : Int64) else (if (7 : Int32) < r then (-1 : Int64) else (0 : Int64)))) (if r = (0 : Int32) then gy else (if r < (1 : Int32) then (-1 : Int64) else (if (7 : Int32) < r then (-1 : Int64) else (0 : Int64)))) (if r = (0 : Int32) then (0 : Int64) else (if r < (1 : Int32) then (-1 : Int64) else (if (7 : Int32) < r then (-1 : Int64) else (1 : Int64)))) = some 1 := by
  have hp := own_pr_b (own_pr_i h)
  have bx : gx.toInt32.toInt64 = gx := lback (by have := hx.1; omega) (by have := hx.2; omega)
  have by' : gy.toInt32.toInt64 = gy := lback (by have := hy.1; omega) (by have := hy.2; omega)
  have m1 : (-1 : Int32).toInt64 = -1 := by decide
  have z0 : (0 : Int32).toInt64 = 0 := by decide
  have z1 : (1 : Int32).toInt64 = 1 := by decide
  by_cases a : r < 0
  · have n0 : ¬ r = 0 := by ((try simp only [ilt, ile, ieq, iadd_e, isub_e, imul_e, Int32.reduceToInt] at *) <;> omega)
    have n1 : r < 1 := by clear n0; ((try simp only [ilt, ile, ieq, iadd_e, isub_e, imul_e, Int32.reduceToInt] at *) <;> omega)
    simp [f_L_law_284, f_coord, f_validRegister, a, n0, n1, m1]
  · by_cases b : r < 8
    · have a' := a
      rw [ilt] at a'
      rcases own_eight (r := r) (by have e0 : (0 : Int32).toInt = 0 := rfl; omega) (ilt.mp b) with rfl | rfl | rfl | rfl | rfl | rfl | rfl | rfl <;> simp [f_L_law_284, f_coord, f_validRegister, rdA, bx, by', z0, z1]
    · have n0 : ¬ r = 0 := by ((try simp only [ilt, ile, ieq, iadd_e, isub_e, imul_e, Int32.reduceToInt] at *) <;> omega)
      have n1 : ¬ r < 1 := by clear n0; ((try simp only [ilt, ile, ieq, iadd_e, isub_e, imul_e, Int32.reduceToInt] at *) <;> omega)
      have n7 : (7 : Int32) < r := by clear n0 n1; ((try simp only [ilt, ile, ieq, iadd_e, isub_e, imul_e, Int32.reduceToInt] at *) <;> omega)
      simp [f_L_law_284, f_coord, f_validRegister, a, b, n0, n1, n7, m1]
theorem own_true (v0 v1 v2 v3 v4 v5 : Int32) : f_L_law v0 v1 v2 v3 v4 v5 = some 1 := by
  obtain ⟨p, a, gx, gy, b, pk, hk, px, py, pi, msg, h, ha, hx, hy, hb, e⟩ := own_init v0 0 v1 v2
  have hp := own_pr_b (own_pr_i h)
  have bp : p.toInt32.toInt64 = p := lback (by omega) (by omega)
  have ba : a.toInt32.toInt64 = a := lback (by have := ha.1; omega) (by have := ha.2; omega)
  have bb : b.toInt32.toInt64 = b := lback (by have := hb.1; omega) (by have := hb.2; omega)
  have bx : gx.toInt32.toInt64 = gx := lback (by have := hx.1; omega) (by have := hx.2; omega)
  have by' : gy.toInt32.toInt64 = gy := lback (by have := hy.1; omega) (by have := hy.2; omega)
  have e1 : (1 : Int64).toInt = 1 := rfl
  have ep : (p - 1).toInt = p.toInt - 1 := by rw [lsub_i (by omega) (by omega), e1]
  have z0 : (0 : Int32).toInt64 = 0 := by decide
  unfold f_L_law
  rw [e, Option.bind_some]
  dsimp only
  rw [own_p0, Option.bind_some, own_p1, Option.bind_some, own_p2, Option.bind_some, own_p3, Option.bind_some, own_p4, Option.bind_some, bp, ba, bb, bx, by']
  have refuse : f_load p a b [gx, 0, 0, 0, 0, 0, 0, 0] [gy, 0, 0, 0, 0, 0, 0, 0] [0, 1, 1, 1, 1, 1, 1, 1] v3 v4 v5 = some (0, [gx, 0, 0, 0, 0, 0, 0, 0], [gy, 0, 0, 0, 0, 0, 0, 0], [0, 1, 1, 1, 1, 1, 1, 1]) → f_L_law_189 [gx, 0, 0, 0, 0, 0, 0, 0] [gy, 0, 0, 0, 0, 0, 0, 0] [0, 1, 1, 1, 1, 1, 1, 1] p a b v3 v4 v5 gx gy 0 = some 1 := by
    intro q
    unfold f_L_law_189
    rw [q, Option.bind_some]
    show (if (0 : Int32) = 0 then _ else _) = _
    rw [if_pos rfl, if_pos rfl, if_pos rfl, if_pos rfl]
    exact own_fresh h hx hy v3 0 0
  have c4 : v4.toInt64.toInt = v4.toInt := Int32.toInt_toInt64 v4
  have c5 : v5.toInt64.toInt = v5.toInt := Int32.toInt_toInt64 v5
  have e0 : (0 : Int64).toInt = 0 := rfl
  have i0 : (0 : Int32).toInt = 0 := rfl
  have i7 : (7 : Int32).toInt = 7 := rfl
  have i8 : (8 : Int32).toInt = 8 := rfl
  by_cases k1 : v3 < 0
  · rw [if_pos k1]
    unfold f_L_law_105
    rw [if_pos rfl]
    exact refuse (by simp [f_load, f_validRegister, k1])
  rw [if_neg k1]
  by_cases k2 : (7 : Int32) < v3
  · rw [if_pos k2]
    unfold f_L_law_105
    rw [if_pos rfl]
    have k2' : ¬ v3 < 8 := by rw [ilt] at k2 ⊢; omega
    exact refuse (by simp [f_load, f_validRegister, k1, k2'])
  rw [if_neg k2]
  have k3 : v3 < 8 := by rw [ilt] at k2 ⊢; omega
  by_cases k4 : v4 < 0
  · rw [if_pos k4]
    unfold f_L_law_105
    rw [if_pos rfl]
    have k4' : v4.toInt64 < 0 := by rw [lltI, c4, e0]; rw [ilt, i0] at k4; exact k4
    exact refuse (by simp [f_load, f_validRegister, f_inField, k1, k3, k4'])
  have k4' : ¬ v4.toInt64 < 0 := by rw [lltI, c4, e0]; rw [ilt, i0] at k4; exact k4
  rw [if_neg k4]
  by_cases k5 : p - 1 < v4.toInt64
  · rw [if_pos k5]
    unfold f_L_law_105
    rw [if_pos rfl]
    exact refuse (by simp [f_load, f_validRegister, f_inField, k1, k3, k4', k5])
  rw [if_neg k5]
  by_cases k6 : v5 < 0
  · rw [if_pos k6]
    unfold f_L_law_105
    rw [if_pos rfl]
    have k6' : v5.toInt64 < 0 := by rw [lltI, c5, e0]; rw [ilt, i0] at k6; exact k6
    exact refuse (by simp [f_load, f_validRegister, f_inField, k1, k3, k4', k5, k6'])
  have k6' : ¬ v5.toInt64 < 0 := by rw [lltI, c5, e0]; rw [ilt, i0] at k6; exact k6
  rw [if_neg k6]
  by_cases k7 : p - 1 < v5.toInt64
  · rw [if_pos k7]
    unfold f_L_law_105
    rw [if_pos rfl]
    exact refuse (by simp [f_load, f_validRegister, f_inField, k1, k3, k4', k5, k6', k7])
  rw [if_neg k7]
  have n0 := own_ne h
  unfold f_L_law_105
  rw [if_neg (by decide), if_neg n0, if_neg n0, if_neg n0, if_neg n0, if_neg n0, if_neg n0]
  have hv4 : own_fd p v4.toInt64 := by
    have q := k5
    rw [lltI, ep] at q
    have q2 := k4
    rw [ilt] at q2
    exact ⟨by omega, by omega⟩
  have on := own_on (y := v5.toInt64) h ha hb hv4
  by_cases k8 : ((v5.toInt64 * v5.toInt64) % p) = ((((((((v4.toInt64 * v4.toInt64) % p) * v4.toInt64) % p) + ((a * v4.toInt64) % p)) % p) + b) % p)
  rotate_left
  · rw [if_neg k8]
    rw [if_neg k8] at on
    exact refuse (by simp [f_load, f_validRegister, f_inField, k1, k3, k4', k5, k6', k7, on])
  · rw [if_pos k8]
    rw [if_pos k8] at on
    have m0 : (0 : Int32) &&& 1 = 0 := by decide
    have d4 : v4.toInt64.toInt32 = v4 := by simp
    have d5 : v5.toInt64.toInt32 = v5 := by simp
    rw [ilt] at k1 k3
    have hr0 : 0 ≤ v3.toInt := by omega
    have hr1 : v3.toInt < 8 := by omega
    have n0' : ¬ v3 < 0 := by rw [ilt]; omega
    have n8' : v3 < 8 := by rw [ilt]; omega
    have vr : f_validRegister v3 = some 1 := by
      unfold f_validRegister
      rw [if_neg n0', if_pos n8']
    have f4 : f_inField p v4.toInt64 = some 1 := by
      unfold f_inField
      rw [if_neg k4', if_neg k5]
    have f5 : f_inField p v5.toInt64 = some 1 := by
      unfold f_inField
      rw [if_neg k6', if_neg k7]
    have lX : ([gx, 0, 0, 0, 0, 0, 0, 0] : List Int64).length = 8 := rfl
    have lY : ([gy, 0, 0, 0, 0, 0, 0, 0] : List Int64).length = 8 := rfl
    have lI : ([0, 1, 1, 1, 1, 1, 1, 1] : List Int32).length = 8 := rfl
    generalize ([gx, 0, 0, 0, 0, 0, 0, 0] : List Int64) = RX at lX ⊢
    generalize ([gy, 0, 0, 0, 0, 0, 0, 0] : List Int64) = RY at lY ⊢
    generalize ([0, 1, 1, 1, 1, 1, 1, 1] : List Int32) = RI at lI ⊢
    have ld : f_load p a b RX RY RI v3 v4 v5 = some (1, RX.set v3.toInt.toNat v4.toInt64, RY.set v3.toInt.toNat v5.toInt64, RI.set v3.toInt.toNat 0) := by
      unfold f_load f_setRegister f_setRegister_23 f_setRegister_40
      rw [vr, Option.bind_some, if_neg (by decide), f4, Option.bind_some, if_neg (by decide), f5, Option.bind_some, if_neg (by decide), on, Option.bind_some, if_neg (by decide), m0, wrA_in hr0 (by omega), Option.bind_some, if_pos rfl, wrA_in hr0 (by omega), Option.bind_some, if_pos rfl, wrA_in hr0 (by omega), Option.bind_some, Option.bind_some]
    have rX : rdA (RX.set v3.toInt.toNat v4.toInt64) v3 = some v4.toInt64 := by rw [rdA_nn hr0, List.getElem?_set_self (by omega)]
    have rY : rdA (RY.set v3.toInt.toNat v5.toInt64) v3 = some v5.toInt64 := by rw [rdA_nn hr0, List.getElem?_set_self (by omega)]
    have rI : rdA (RI.set v3.toInt.toNat 0) v3 = some 0 := by rw [rdA_nn hr0, List.getElem?_set_self (by omega)]
    unfold f_L_law_189
    rw [ld, Option.bind_some]
    show (if (1 : Int32) = 1 then f_L_law_284 _ _ _ v3 (if (1 : Int32) = 0 then _ else v4.toInt64) (if (1 : Int32) = 0 then _ else v5.toInt64) (if (1 : Int32) = 0 then _ else 0) else _) = _
    rw [if_pos rfl, if_neg (by decide), if_neg (by decide), if_neg (by decide)]
    have q0 : f_coord (RX.set v3.toInt.toNat v4.toInt64) (RY.set v3.toInt.toNat v5.toInt64) (RI.set v3.toInt.toNat 0) v3 0 = some v4 := by
      unfold f_coord
      rw [vr, Option.bind_some, if_neg (by decide), if_pos rfl, rI, Option.bind_some, if_pos rfl, rX, Option.bind_some, d4]
    have q1 : f_coord (RX.set v3.toInt.toNat v4.toInt64) (RY.set v3.toInt.toNat v5.toInt64) (RI.set v3.toInt.toNat 0) v3 1 = some v5 := by
      unfold f_coord
      rw [vr, Option.bind_some, if_neg (by decide), if_neg (by decide), if_pos rfl, rI, Option.bind_some, if_pos rfl, rY, Option.bind_some, d5]
    have q2 : f_coord (RX.set v3.toInt.toNat v4.toInt64) (RY.set v3.toInt.toNat v5.toInt64) (RI.set v3.toInt.toNat 0) v3 2 = some 0 := by
      unfold f_coord
      rw [vr, Option.bind_some, if_neg (by decide), if_neg (by decide), if_neg (by decide), if_pos rfl, rI, Option.bind_some, if_pos rfl]
    unfold f_L_law_284
    rw [q0, Option.bind_some, if_pos rfl, q1, Option.bind_some, if_pos rfl, q2, Option.bind_some, z0, if_pos rfl]
set_option maxRecDepth 65536 in
theorem comes_1 {Post : Tables → Env → Array Value → State → Outcome → State → Prop} (hpost : ∀ tb e args s v u, (limb_1_1.after args s (.returned v) u = true ∧ limb_1_2.after args s (.returned v) u = true ∧ True) → FrameEnd s (.returned v) u (Jvm.fieldLocs frame_1_writes args s ++ Jvm.arrayLocs frame_1_arrays args s ++ Jvm.staticLocs frame_1_statics s) 32 384 → Post tb e args s (.returned v) u) :
    ArmFor flags0 classFile x code maxLocals ret World_1 tables_1 room_1 Calls_1 rest_1 Pre_1 Post := by
  intro l hfl _ _ p e ha hc hk s m args below hf hA hF happ hP
  obtain ⟨hcalls, hrest, hpre⟩ := hP
  obtain ⟨-, -, -, hnamed, -, -, -, hat⟩ := (Spec.applies_iff hf).mp happ
  obtain ⟨hg, hn⟩ := and_e (Cond.before_iff.mp (show (Jvm.Cond.and given_1 narrow_1).before args s = true from hpre))
  obtain ⟨h1, h2⟩ := and_e hg
  have hw := fun d (hd : d ∈ tables_1) => atoms_spec (ws := Jvm.Cond.code x code maxLocals ret :: tables_1) hat d (List.mem_cons_of_mem _ hd)
  obtain ⟨w0, w1, w2, w3, w4, w5, rfl⟩ : ∃ w0 w1 w2 w3 w4 w5 : Value, args = #[w0, w1, w2, w3, w4, w5] := by
    have hs : args.size = 6 := by simpa [Cond.value, given_1] using h1
    obtain ⟨L⟩ := args
    match L, hs with
    | [w0, w1, w2, w3, w4, w5], _ => exact ⟨w0, w1, w2, w3, w4, w5, rfl⟩
  obtain ⟨g0, t0⟩ := and_e h2
  obtain ⟨i0, e0⟩ := is_v g0
  obtain rfl : w0 = (.int i0) := Option.some.inj e0
  obtain ⟨g1, t1⟩ := and_e t0
  obtain ⟨i1, e1⟩ := is_v g1
  obtain rfl : w1 = (.int i1) := Option.some.inj e1
  obtain ⟨g2, t2⟩ := and_e t1
  obtain ⟨i2, e2⟩ := is_v g2
  obtain rfl : w2 = (.int i2) := Option.some.inj e2
  obtain ⟨g3, t3⟩ := and_e t2
  obtain ⟨i3, e3⟩ := is_v g3
  obtain rfl : w3 = (.int i3) := Option.some.inj e3
  obtain ⟨g4, t4⟩ := and_e t3
  obtain ⟨i4, e4⟩ := is_v g4
  obtain rfl : w4 = (.int i4) := Option.some.inj e4
  obtain ⟨i5, e5⟩ := is_v t4
  obtain rfl : w5 = (.int i5) := Option.some.inj e5
  have E : OEndsQ own_P 0 0 (entL [.int i0, .int i1, .int i2, .int i3, .int i4, .int i5] d_0.maxL) [] [] (LawQ 1 10 131) := ok_L_law (own_true i0 i1 i2 i3 i4 i5)
  have hS : SR [] [.int i0, .int i1, .int i2, .int i3, .int i4, .int i5] [.int i0, .int i1, .int i2, .int i3, .int i4, .int i5] := ⟨_, _, rfl, rfl, ⟨_, _, rfl, rfl, ⟨_, _, rfl, rfl, ⟨_, _, rfl, rfl, ⟨_, _, rfl, rfl, ⟨_, _, rfl, rfl, rfl⟩⟩⟩⟩⟩⟩
  have hH : HR own_P s s.heap.size s.heap [] [] := ⟨Nat.le_refl _, rfl, fun i j a h => by simp at h, fun k a h => by simp at h, fun k a c h => by simp at h⟩
  have M := law_met (l := l) own_chk (fun w hw' => hw w (own_in w hw')) hm_0 E hS (Nat.le_of_ble_eq_true rfl) hH tables_1 room_1 (Nat.le_of_ble_eq_true rfl) (Nat.le_of_ble_eq_true rfl) (Nat.le_of_ble_eq_true rfl) (Nat.le_of_ble_eq_true rfl)
  obtain ⟨n, o, h1, h2, h3, L, rfl, N, hq⟩ := M p e ha hc hk s m _ below hf ((Spec.applies_iff_loose hf).mp happ).1 ⟨rfl, State.Warmed39.refl s, rfl⟩ trivial
  refine ⟨n, _, h1, h2, h3, hpost _ _ _ _ _ _ ⟨Cond.after_iff.mpr rfl, Cond.after_iff.mpr (eq_i res_at (Term.int_eval (1)) rfl), trivial⟩ ⟨hq.1, hq.2.1, (hq.2.2.sift fun y hy => Or.inr (N y hy)).mono (by decide) (by decide)⟩⟩
theorem main_1_1 : Claimed_1_1 := comes_1 fun _ _ _ _ _ _ h hF => ⟨h.1, hF⟩
theorem main_1_2 : Claimed_1_2 := comes_1 fun _ _ _ _ _ _ h hF => ⟨h.2.1, hF⟩
end Jvm.Pilot.@@N@@
namespace Jvm.Pilot.@@N@@
open Jvm Jvm.ClassFile Sem Op Lib Jvm.Free Jvm.Stand Jvm.Pilot.@@N@@.Jvm.D
/-! MADE BY PROGRAM (witnessworld.py) out of the Statement's table words and the real class files: 13 classes; the members and pool entries that the words name. The judged class is class 1, her method 1. -/
namespace start1
open Jvm.ClassFile
def u (s : String) : CpInfo := .utf8 (stringToUtf16 s)
/-- a pool by its gaps: so many unusable entries, then the entry; so many at the end -/
def gap : Nat → List CpInfo → List CpInfo
  | 0, r => r
  | n + 1, r => .unusable :: gap n r
def poolList (es : List (Nat × CpInfo)) (last : Nat) : List CpInfo := es.foldr (fun e r => gap e.1 (e.2 :: r)) (gap last [])
def pool (es : List (Nat × CpInfo)) (last : Nat) : Array CpInfo := ⟨poolList es last⟩
def fileOf (pool : Array CpInfo) (this : Nat) (attrs : Array Attribute := #[]) (ms : Array MethodInfo := #[]) (fl : Nat := 33) (sup : Nat := 0) (ifs : Array Nat := #[]) (fds : Array FieldInfo := #[]) : ClassFile where
  minorVersion := 0
  majorVersion := 65
  constantPool := pool
  accessFlags := fl
  thisClass := this
  superClass := sup
  interfaces := ifs
  fields := fds
  methods := ms
  attributes := attrs
def plain (name : String) (sup : Option ClassId) : Class where
  name := name
  kind := .ordinary
  loader := none
  accessFlags := 33
  super := sup
  interfaces := #[]
  cf := none
  fields := #[]
  methods := #[]
  instanceTypes := #[]
  staticTypes := #[]
  resolved := #[]
  callSites := []
  init := .initialized
  statics := none
  mirror := none

def pool0 : Array CpInfo := pool [(5, u "<init>"), (0, u "()V"), (1, .class_ 10), (1, u "java/lang/Object")] 113

def k0c0 : Code := { maxStack := 0, maxLocals := 1, code := object_method_1_code, exceptionTable := #[], attributes := #[] }
def k0m0 : Method := { name := "<init>", desc := "()V", sig := { parameters := [], returnType := none }, accessFlags := 1, code := some k0c0 }
/-- java/lang/Object -/
def k0 : Class := { plain "java/lang/Object" none with
  accessFlags := 33
  interfaces := #[]
  cf := some (fileOf pool0 8 #[] #[{ accessFlags := 1, nameIndex := 5, descriptorIndex := 6, attributes := #[] }] 33 0 #[] #[])
  fields := #[]
  methods := #[k0m0]
  instanceTypes := #[]
  staticTypes := #[]
  resolved := Array.replicate 124 none
  statics := none }

def pool1 : Array CpInfo := pool [(2, .class_ 4), (1, u "java/lang/Object"), (0, u "<init>"), (0, u "()V"), (0, .class_ 8), (0, u "CurveLadder"), (0, .methodref 7 10), (0, .nameAndType 5 11), (0, u "(IIII)V"), (0, .methodref 7 13), (0, .nameAndType 14 15), (0, u "param"), (0, u "(I)I"), (0, .methodref 7 17), (0, .nameAndType 18 19), (0, u "load"), (0, u "(III)Z"), (0, .long 18446744073709551615), (1, .methodref 7 23), (0, .nameAndType 24 25), (0, u "coord"), (0, u "(II)I"), (0, .class_ 27), (0, u "CurveLadderL2"), (2, u "law"), (0, u "(IIIIII)Z")] 3

def k1m0 : Method := { name := "<init>", desc := "()V", sig := { parameters := [], returnType := none }, accessFlags := 1, code := none }
def k1c1 : Code := { maxStack := 6, maxLocals := 26, code := code, exceptionTable := #[], attributes := #[] }
def k1m1 : Method := { name := "law", desc := "(IIIIII)Z", sig := { parameters := [.int, .int, .int, .int, .int, .int], returnType := some .boolean }, accessFlags := 9, code := some k1c1 }
/-- CurveLadderL2 -/
def k1 : Class := { plain "CurveLadderL2" (some 0) with
  accessFlags := 33
  interfaces := #[]
  cf := some (fileOf pool1 26 #[] #[{ accessFlags := 1, nameIndex := 5, descriptorIndex := 6, attributes := #[] }, { accessFlags := 9, nameIndex := 30, descriptorIndex := 31, attributes := #[] }] 33 2 #[] #[])
  fields := #[]
  methods := #[k1m0, k1m1]
  instanceTypes := #[]
  staticTypes := #[]
  resolved := Array.replicate 35 none
  statics := none }

def pool2 : Array CpInfo := pool [(1, .methodref 2 3), (0, .class_ 4), (0, .nameAndType 5 6), (0, u "java/lang/Object"), (0, u "<init>"), (0, u "()V"), (0, .fieldref 8 9), (0, .class_ 10), (0, .nameAndType 11 12), (0, u "CurveLadder"), (0, u "regX"), (0, u "[J"), (0, .fieldref 8 14), (0, .nameAndType 15 12), (0, u "regY"), (0, .fieldref 8 17), (0, .nameAndType 18 19), (0, u "regInf"), (0, u "[Z"), (0, .fieldref 8 21), (0, .nameAndType 22 12), (0, u "privKey"), (0, .fieldref 8 24), (0, .nameAndType 25 19), (0, u "hasKey"), (0, .fieldref 8 27), (0, .nameAndType 28 12), (0, u "pubX"), (0, .fieldref 8 30), (0, .nameAndType 31 12), (0, u "pubY"), (0, .fieldref 8 33), (0, .nameAndType 34 19), (0, u "pubInf"), (0, .fieldref 8 36), (0, .nameAndType 37 38), (0, u "msg"), (0, u "[I"), (0, .methodref 8 40), (0, .nameAndType 41 42), (0, u "primeAt"), (0, u "(I)J"), (0, .fieldref 8 44), (0, .nameAndType 45 46), (0, u "p"), (0, u "J"), (0, .methodref 8 48), (0, .nameAndType 49 42), (0, u "clampField"), (0, .fieldref 8 51), (0, .nameAndType 52 46), (0, u "a"), (0, .fieldref 8 54), (0, .nameAndType 55 46), (0, u "gx"), (0, .fieldref 8 57), (0, .nameAndType 58 46), (0, u "gy"), (0, .methodref 8 60), (0, .nameAndType 61 62), (0, u "computeB"), (0, u "()J"), (0, .fieldref 8 64), (0, .nameAndType 65 46), (0, u "b"), (0, .methodref 8 67), (0, .nameAndType 68 62), (0, u "discriminant"), (0, .methodref 8 70), (0, .nameAndType 71 72), (0, u "setRegister"), (0, u "(IJJZ)V"), (0, .fieldref 8 74), (0, .nameAndType 75 76), (0, u "msgLen"), (0, u "I"), (0, .fieldref 8 78), (0, .nameAndType 79 46), (0, u "sigX"), (0, .fieldref 8 81), (0, .nameAndType 82 46), (0, u "sigY"), (0, .fieldref 8 84), (0, .nameAndType 85 86), (0, u "sigInf"), (0, u "Z"), (0, .fieldref 8 88), (0, .nameAndType 89 46), (0, u "sigS"), (0, .fieldref 8 91), (0, .nameAndType 92 76), (0, u "sigE"), (0, .methodref 8 94), (0, .nameAndType 95 96), (0, u "validRegister"), (0, u "(I)Z"), (0, .methodref 8 98), (0, .nameAndType 99 100), (0, u "inField"), (0, u "(J)Z"), (0, .methodref 8 102), (0, .nameAndType 103 104), (0, u "onCurve"), (0, u "(JJ)Z"), (6, u "resX"), (2, u "resY"), (2, u "resInf"), (18, .long 8191), (1, .long 65521), (1, .long 65537), (1, .long 131071), (1, .long 524287), (1, .long 998244353), (1, .long 1000000007), (1, .long 2147483647), (1, .methodref 8 153), (0, .nameAndType 154 155), (0, u "mulMod"), (0, u "(JJ)J"), (0, .methodref 8 157), (0, .nameAndType 158 155), (0, u "subMod"), (0, .long 4), (1, .long 27), (1, .methodref 8 164), (0, .nameAndType 165 155), (0, u "addMod"), (5, .methodref 8 172), (0, .nameAndType 173 174), (0, u "curveRhs"), (0, u "(J)J"), (14, u "(II)I"), (1, u "REGISTERS"), (2, u "PARTIES"), (1, u "MESSAGE_CAPACITY"), (1, u "SCALAR_LIMIT"), (0, u "PARAM_P"), (1, u "PARAM_A"), (1, u "PARAM_B"), (1, u "PARAM_GX"), (1, u "PARAM_GY"), (0, u "COORD_X"), (0, u "COORD_Y"), (0, u "COORD_INF"), (0, u "SIG_RX"), (0, u "SIG_RY"), (0, u "SIG_RINF"), (0, u "SIG_S"), (0, u "SIG_CHALLENGE"), (0, u "SIG_MSGLEN"), (1, u "(IIII)V"), (3, u "param"), (0, u "(I)I"), (0, u "load"), (0, u "(III)Z"), (4, u "coord")] 13

def k2c0 : Code := { maxStack := 7, maxLocals := 7, code := prog_1_method_1_code, exceptionTable := #[], attributes := #[] }
def k2m0 : Method := { name := "<init>", desc := "(IIII)V", sig := { parameters := [.int, .int, .int, .int], returnType := none }, accessFlags := 1, code := some k2c0 }
def k2c1 : Code := { maxStack := 2, maxLocals := 2, code := prog_1_method_2_code, exceptionTable := #[], attributes := #[] }
def k2m1 : Method := { name := "param", desc := "(I)I", sig := { parameters := [.int], returnType := some .int }, accessFlags := 1, code := some k2c1 }
def k2c2 : Code := { maxStack := 7, maxLocals := 4, code := prog_1_method_3_code, exceptionTable := #[], attributes := #[] }
def k2m2 : Method := { name := "load", desc := "(III)Z", sig := { parameters := [.int, .int, .int], returnType := some .boolean }, accessFlags := 1, code := some k2c2 }
def k2c3 : Code := { maxStack := 2, maxLocals := 3, code := prog_1_method_7_code, exceptionTable := #[], attributes := #[] }
def k2m3 : Method := { name := "coord", desc := "(II)I", sig := { parameters := [.int, .int], returnType := some .int }, accessFlags := 1, code := some k2c3 }
def k2c4 : Code := { maxStack := 2, maxLocals := 2, code := prog_1_method_17_code, exceptionTable := #[], attributes := #[] }
def k2m4 : Method := { name := "primeAt", desc := "(I)J", sig := { parameters := [.int], returnType := some .long }, accessFlags := 2, code := some k2c4 }
def k2c5 : Code := { maxStack := 6, maxLocals := 4, code := prog_1_method_18_code, exceptionTable := #[], attributes := #[] }
def k2m5 : Method := { name := "clampField", desc := "(I)J", sig := { parameters := [.int], returnType := some .long }, accessFlags := 2, code := some k2c5 }
def k2c6 : Code := { maxStack := 5, maxLocals := 11, code := prog_1_method_19_code, exceptionTable := #[], attributes := #[] }
def k2m6 : Method := { name := "computeB", desc := "()J", sig := { parameters := [], returnType := some .long }, accessFlags := 2, code := some k2c6 }
def k2c7 : Code := { maxStack := 5, maxLocals := 11, code := prog_1_method_20_code, exceptionTable := #[], attributes := #[] }
def k2m7 : Method := { name := "discriminant", desc := "()J", sig := { parameters := [], returnType := some .long }, accessFlags := 2, code := some k2c7 }
def k2c8 : Code := { maxStack := 2, maxLocals := 2, code := prog_1_method_21_code, exceptionTable := #[], attributes := #[] }
def k2m8 : Method := { name := "validRegister", desc := "(I)Z", sig := { parameters := [.int], returnType := some .boolean }, accessFlags := 2, code := some k2c8 }
def k2c9 : Code := { maxStack := 6, maxLocals := 3, code := prog_1_method_23_code, exceptionTable := #[], attributes := #[] }
def k2m9 : Method := { name := "inField", desc := "(J)Z", sig := { parameters := [.long], returnType := some .boolean }, accessFlags := 2, code := some k2c9 }
def k2c10 : Code := { maxStack := 4, maxLocals := 7, code := prog_1_method_24_code, exceptionTable := #[], attributes := #[] }
def k2m10 : Method := { name := "setRegister", desc := "(IJJZ)V", sig := { parameters := [.int, .long, .long, .boolean], returnType := none }, accessFlags := 2, code := some k2c10 }
def k2c11 : Code := { maxStack := 4, maxLocals := 5, code := prog_1_method_26_code, exceptionTable := #[], attributes := #[] }
def k2m11 : Method := { name := "mulMod", desc := "(JJ)J", sig := { parameters := [.long, .long], returnType := some .long }, accessFlags := 2, code := some k2c11 }
def k2c12 : Code := { maxStack := 4, maxLocals := 7, code := prog_1_method_27_code, exceptionTable := #[], attributes := #[] }
def k2m12 : Method := { name := "addMod", desc := "(JJ)J", sig := { parameters := [.long, .long], returnType := some .long }, accessFlags := 2, code := some k2c12 }
def k2c13 : Code := { maxStack := 4, maxLocals := 7, code := prog_1_method_28_code, exceptionTable := #[], attributes := #[] }
def k2m13 : Method := { name := "subMod", desc := "(JJ)J", sig := { parameters := [.long, .long], returnType := some .long }, accessFlags := 2, code := some k2c13 }
def k2c14 : Code := { maxStack := 5, maxLocals := 11, code := prog_1_method_31_code, exceptionTable := #[], attributes := #[] }
def k2m14 : Method := { name := "curveRhs", desc := "(J)J", sig := { parameters := [.long], returnType := some .long }, accessFlags := 2, code := some k2c14 }
def k2c15 : Code := { maxStack := 5, maxLocals := 7, code := prog_1_method_32_code, exceptionTable := #[], attributes := #[] }
def k2m15 : Method := { name := "onCurve", desc := "(JJ)Z", sig := { parameters := [.long, .long], returnType := some .boolean }, accessFlags := 2, code := some k2c15 }
/-- CurveLadder -/
def k2 : Class := { plain "CurveLadder" (some 0) with
  accessFlags := 49
  interfaces := #[]
  cf := some (fileOf pool2 8 #[] #[{ accessFlags := 1, nameIndex := 5, descriptorIndex := 218, attributes := #[] }, { accessFlags := 1, nameIndex := 222, descriptorIndex := 223, attributes := #[] }, { accessFlags := 1, nameIndex := 224, descriptorIndex := 225, attributes := #[] }, { accessFlags := 1, nameIndex := 230, descriptorIndex := 189, attributes := #[] }, { accessFlags := 2, nameIndex := 41, descriptorIndex := 42, attributes := #[] }, { accessFlags := 2, nameIndex := 49, descriptorIndex := 42, attributes := #[] }, { accessFlags := 2, nameIndex := 61, descriptorIndex := 62, attributes := #[] }, { accessFlags := 2, nameIndex := 68, descriptorIndex := 62, attributes := #[] }, { accessFlags := 2, nameIndex := 95, descriptorIndex := 96, attributes := #[] }, { accessFlags := 2, nameIndex := 99, descriptorIndex := 100, attributes := #[] }, { accessFlags := 2, nameIndex := 71, descriptorIndex := 72, attributes := #[] }, { accessFlags := 2, nameIndex := 154, descriptorIndex := 155, attributes := #[] }, { accessFlags := 2, nameIndex := 165, descriptorIndex := 155, attributes := #[] }, { accessFlags := 2, nameIndex := 158, descriptorIndex := 155, attributes := #[] }, { accessFlags := 2, nameIndex := 173, descriptorIndex := 174, attributes := #[] }, { accessFlags := 2, nameIndex := 103, descriptorIndex := 104, attributes := #[] }] 49 2 #[] #[{ accessFlags := 25, nameIndex := 191, descriptorIndex := 76, attributes := #[] }, { accessFlags := 25, nameIndex := 194, descriptorIndex := 76, attributes := #[] }, { accessFlags := 25, nameIndex := 196, descriptorIndex := 76, attributes := #[] }, { accessFlags := 25, nameIndex := 198, descriptorIndex := 46, attributes := #[] }, { accessFlags := 25, nameIndex := 199, descriptorIndex := 76, attributes := #[] }, { accessFlags := 25, nameIndex := 201, descriptorIndex := 76, attributes := #[] }, { accessFlags := 25, nameIndex := 203, descriptorIndex := 76, attributes := #[] }, { accessFlags := 25, nameIndex := 205, descriptorIndex := 76, attributes := #[] }, { accessFlags := 25, nameIndex := 207, descriptorIndex := 76, attributes := #[] }, { accessFlags := 25, nameIndex := 208, descriptorIndex := 76, attributes := #[] }, { accessFlags := 25, nameIndex := 209, descriptorIndex := 76, attributes := #[] }, { accessFlags := 25, nameIndex := 210, descriptorIndex := 76, attributes := #[] }, { accessFlags := 25, nameIndex := 211, descriptorIndex := 76, attributes := #[] }, { accessFlags := 25, nameIndex := 212, descriptorIndex := 76, attributes := #[] }, { accessFlags := 25, nameIndex := 213, descriptorIndex := 76, attributes := #[] }, { accessFlags := 25, nameIndex := 214, descriptorIndex := 76, attributes := #[] }, { accessFlags := 25, nameIndex := 215, descriptorIndex := 76, attributes := #[] }, { accessFlags := 25, nameIndex := 216, descriptorIndex := 76, attributes := #[] }, { accessFlags := 2, nameIndex := 45, descriptorIndex := 46, attributes := #[] }, { accessFlags := 2, nameIndex := 52, descriptorIndex := 46, attributes := #[] }, { accessFlags := 2, nameIndex := 65, descriptorIndex := 46, attributes := #[] }, { accessFlags := 2, nameIndex := 55, descriptorIndex := 46, attributes := #[] }, { accessFlags := 2, nameIndex := 58, descriptorIndex := 46, attributes := #[] }, { accessFlags := 2, nameIndex := 11, descriptorIndex := 12, attributes := #[] }, { accessFlags := 2, nameIndex := 15, descriptorIndex := 12, attributes := #[] }, { accessFlags := 2, nameIndex := 18, descriptorIndex := 19, attributes := #[] }, { accessFlags := 2, nameIndex := 111, descriptorIndex := 46, attributes := #[] }, { accessFlags := 2, nameIndex := 114, descriptorIndex := 46, attributes := #[] }, { accessFlags := 2, nameIndex := 117, descriptorIndex := 86, attributes := #[] }, { accessFlags := 2, nameIndex := 22, descriptorIndex := 12, attributes := #[] }, { accessFlags := 2, nameIndex := 25, descriptorIndex := 19, attributes := #[] }, { accessFlags := 2, nameIndex := 28, descriptorIndex := 12, attributes := #[] }, { accessFlags := 2, nameIndex := 31, descriptorIndex := 12, attributes := #[] }, { accessFlags := 2, nameIndex := 34, descriptorIndex := 19, attributes := #[] }, { accessFlags := 2, nameIndex := 37, descriptorIndex := 38, attributes := #[] }, { accessFlags := 2, nameIndex := 75, descriptorIndex := 76, attributes := #[] }, { accessFlags := 2, nameIndex := 79, descriptorIndex := 46, attributes := #[] }, { accessFlags := 2, nameIndex := 82, descriptorIndex := 46, attributes := #[] }, { accessFlags := 2, nameIndex := 85, descriptorIndex := 86, attributes := #[] }, { accessFlags := 2, nameIndex := 89, descriptorIndex := 46, attributes := #[] }, { accessFlags := 2, nameIndex := 92, descriptorIndex := 76, attributes := #[] }])
  fields := #[{ name := "REGISTERS", type := .int, accessFlags := 25, slot := 0, constantValue := 0 }, { name := "PARTIES", type := .int, accessFlags := 25, slot := 1, constantValue := 0 }, { name := "MESSAGE_CAPACITY", type := .int, accessFlags := 25, slot := 2, constantValue := 0 }, { name := "SCALAR_LIMIT", type := .long, accessFlags := 25, slot := 3, constantValue := 0 }, { name := "PARAM_P", type := .int, accessFlags := 25, slot := 4, constantValue := 0 }, { name := "PARAM_A", type := .int, accessFlags := 25, slot := 5, constantValue := 0 }, { name := "PARAM_B", type := .int, accessFlags := 25, slot := 6, constantValue := 0 }, { name := "PARAM_GX", type := .int, accessFlags := 25, slot := 7, constantValue := 0 }, { name := "PARAM_GY", type := .int, accessFlags := 25, slot := 8, constantValue := 0 }, { name := "COORD_X", type := .int, accessFlags := 25, slot := 9, constantValue := 0 }, { name := "COORD_Y", type := .int, accessFlags := 25, slot := 10, constantValue := 0 }, { name := "COORD_INF", type := .int, accessFlags := 25, slot := 11, constantValue := 0 }, { name := "SIG_RX", type := .int, accessFlags := 25, slot := 12, constantValue := 0 }, { name := "SIG_RY", type := .int, accessFlags := 25, slot := 13, constantValue := 0 }, { name := "SIG_RINF", type := .int, accessFlags := 25, slot := 14, constantValue := 0 }, { name := "SIG_S", type := .int, accessFlags := 25, slot := 15, constantValue := 0 }, { name := "SIG_CHALLENGE", type := .int, accessFlags := 25, slot := 16, constantValue := 0 }, { name := "SIG_MSGLEN", type := .int, accessFlags := 25, slot := 17, constantValue := 0 }, { name := "p", type := .long, accessFlags := 2, slot := 0, constantValue := 0 }, { name := "a", type := .long, accessFlags := 2, slot := 1, constantValue := 0 }, { name := "b", type := .long, accessFlags := 2, slot := 2, constantValue := 0 }, { name := "gx", type := .long, accessFlags := 2, slot := 3, constantValue := 0 }, { name := "gy", type := .long, accessFlags := 2, slot := 4, constantValue := 0 }, { name := "regX", type := (.array .long), accessFlags := 2, slot := 5, constantValue := 0 }, { name := "regY", type := (.array .long), accessFlags := 2, slot := 6, constantValue := 0 }, { name := "regInf", type := (.array .boolean), accessFlags := 2, slot := 7, constantValue := 0 }, { name := "resX", type := .long, accessFlags := 2, slot := 8, constantValue := 0 }, { name := "resY", type := .long, accessFlags := 2, slot := 9, constantValue := 0 }, { name := "resInf", type := .boolean, accessFlags := 2, slot := 10, constantValue := 0 }, { name := "privKey", type := (.array .long), accessFlags := 2, slot := 11, constantValue := 0 }, { name := "hasKey", type := (.array .boolean), accessFlags := 2, slot := 12, constantValue := 0 }, { name := "pubX", type := (.array .long), accessFlags := 2, slot := 13, constantValue := 0 }, { name := "pubY", type := (.array .long), accessFlags := 2, slot := 14, constantValue := 0 }, { name := "pubInf", type := (.array .boolean), accessFlags := 2, slot := 15, constantValue := 0 }, { name := "msg", type := (.array .int), accessFlags := 2, slot := 16, constantValue := 0 }, { name := "msgLen", type := .int, accessFlags := 2, slot := 17, constantValue := 0 }, { name := "sigX", type := .long, accessFlags := 2, slot := 18, constantValue := 0 }, { name := "sigY", type := .long, accessFlags := 2, slot := 19, constantValue := 0 }, { name := "sigInf", type := .boolean, accessFlags := 2, slot := 20, constantValue := 0 }, { name := "sigS", type := .long, accessFlags := 2, slot := 21, constantValue := 0 }, { name := "sigE", type := .int, accessFlags := 2, slot := 22, constantValue := 0 }]
  methods := #[k2m0, k2m1, k2m2, k2m3, k2m4, k2m5, k2m6, k2m7, k2m8, k2m9, k2m10, k2m11, k2m12, k2m13, k2m14, k2m15]
  instanceTypes := #[.long, .long, .long, .long, .long, (.array .long), (.array .long), (.array .boolean), .long, .long, .boolean, (.array .long), (.array .boolean), (.array .long), (.array .long), (.array .boolean), (.array .int), .int, .long, .long, .boolean, .long, .int]
  staticTypes := #[.int, .int, .int, .long, .int, .int, .int, .int, .int, .int, .int, .int, .int, .int, .int, .int, .int, .int]
  resolved := Array.replicate 244 none
  statics := none }

def pool3 : Array CpInfo := pool [(1, u "java/lang/Cloneable"), (0, .class_ 1), (0, u "java/lang/Object"), (0, .class_ 3)] 3

/-- java/lang/Cloneable -/
def k3 : Class := { plain "java/lang/Cloneable" (some 0) with
  accessFlags := 1537
  interfaces := #[]
  cf := some (fileOf pool3 2 #[] #[] 1537 4 #[] #[])
  fields := #[]
  methods := #[]
  instanceTypes := #[]
  staticTypes := #[]
  resolved := Array.replicate 8 none
  statics := none }

def pool4 : Array CpInfo := pool [(1, u "java/io/Serializable"), (0, .class_ 1), (0, u "java/lang/Object"), (0, .class_ 3)] 3

/-- java/io/Serializable -/
def k4 : Class := { plain "java/io/Serializable" (some 0) with
  accessFlags := 1537
  interfaces := #[]
  cf := some (fileOf pool4 2 #[] #[] 1537 4 #[] #[])
  fields := #[]
  methods := #[]
  instanceTypes := #[]
  staticTypes := #[]
  resolved := Array.replicate 8 none
  statics := none }

/-- the primitive boolean -/
def k5 : Class := { plain "boolean" none with kind := .primitive 'Z', accessFlags := 0x411 }
/-- [Z -/
def k6 : Class := { plain "[Z" (some 0) with kind := .array 5 .boolean, interfaces := #[3, 4], accessFlags := 1041 }

/-- the primitive byte -/
def k7 : Class := { plain "byte" none with kind := .primitive 'B', accessFlags := 0x411 }
/-- [B -/
def k8 : Class := { plain "[B" (some 0) with kind := .array 7 .byte, interfaces := #[3, 4], accessFlags := 1041 }

/-- the primitive int -/
def k9 : Class := { plain "int" none with kind := .primitive 'I', accessFlags := 0x411 }
/-- [I -/
def k10 : Class := { plain "[I" (some 0) with kind := .array 9 .int, interfaces := #[3, 4], accessFlags := 1041 }

/-- the primitive long -/
def k11 : Class := { plain "long" none with kind := .primitive 'J', accessFlags := 0x411 }
/-- [J -/
def k12 : Class := { plain "[J" (some 0) with kind := .array 11 .long, interfaces := #[3, 4], accessFlags := 1041 }

def heap : Heap := #[]
def classes : Array Class := #[k0, k1, k2, k3, k4, k5, k6, k7, k8, k9, k10, k11, k12]
def interned : List (Array UInt16 × Addr) := []
def slotsUsed : Nat := 0
def theMethod : MethodId := ⟨1, 1⟩
def args0 : Array Value := #[.int 1, .int 2, .int 3, .int 4, .int 5, .int 6]
def aboutOver (below : List Frame) : State where
  vm := { classes := classes, interned := interned.toArray }
  heap := heap
  slotsUsed := slotsUsed
  threads := #[{ frames := .invoking theMethod args0 :: below }]
def below0 : List Frame := [.native { method := ⟨0, 0⟩, args := #[] }]
def about1 : State := aboutOver below0
def p0 : Program := .bare "" "" ""
def e0 : Env := launch0.env 0 0 0
theorem w_frames : about1.frames = Frame.invoking theMethod args0 :: below0 := rfl
set_option maxRecDepth 65536 in
theorem w_args : argsFit about1.vm theMethod args0 = true := by decide +kernel
set_option maxRecDepth 65536 in
theorem w_heap : heapFits about1 = true := by decide +kernel
set_option maxRecDepth 65536 in
theorem w_runnable : about1.curStatus? = some .runnable := by decide +kernel
set_option maxRecDepth 65536 in
theorem w_alone : about1.alone = true := by decide +kernel
set_option maxRecDepth 65536 in
theorem w_named : about1.methodNamed? x = some theMethod := by decide +kernel
set_option maxRecDepth 65536 in
theorem w_hears : about1.hears theMethod below0 = true := by decide +kernel
set_option maxRecDepth 65536 in
theorem w_ripe : about1.ripe theMethod args0 below0 = true := by decide +kernel
theorem w_running : about1.status = .running := rfl
set_option maxRecDepth 65536 in
theorem w_room : about1.hasRoom e0.platform room_1 = true :=
  launch0.hasRoom_least _ room_1 (by decide +kernel) (by decide +kernel) (by decide +kernel) (by decide +kernel) (by decide +kernel) (by decide +kernel)
theorem allAtoms_all (ts : List Jvm.Cond) (a : Array Jvm.Value) (st : Jvm.State) : (allAtoms ts).before a st = ts.all (fun c => c.before a st) := by
  induction ts with
  | nil => rfl
  | cons c t ih =>
    show (Jvm.Cond.and c (allAtoms t)).before a st = _
    rw [Jvm.Cond.before_and, ih, List.all_cons]
def words1 : List Jvm.Cond := Jvm.Cond.code x code maxLocals ret :: tables_1
/-- a 'code' word, met by the world's own term for the bytes: nothing is compared byte by byte -/
theorem code_word {y : MethodName} {bytes : ByteArray} {mx : Nat} {rt : Option FieldType} {a : Array Value} {s : State} {m : MethodId} {meth : Method} {c : Code} (h1 : s.methodNamed? y = some m) (h2 : s.vm.method? m = some meth) (h3 : meth.code = some c) (h4 : c.code = bytes)
    (h5 : (c.maxLocals == mx && c.exceptionTable.isEmpty && decide (c.maxStack ≤ mostOperands) && decide (meth.sig.returnType = rt) && !meth.locks && decide (parseMethodDescriptor y.desc = some meth.sig)) = true) : (Jvm.Cond.code y bytes mx rt).before a s = true := by
  simp only [Bool.and_eq_true, beq_iff_eq, Bool.not_eq_true', decide_eq_true_eq] at h5
  obtain ⟨⟨⟨⟨⟨g1, g2⟩, g3⟩, g4⟩, g5⟩, g6⟩ := h5
  simp [Cond.before, Cond.holds, Cond.value, h1, h2, h3, h4, g1, g2, g3, g4, g5, g6]
def isCode : Jvm.Cond → Bool
  | .code _ _ _ _ => true
  | _ => false
theorem all_split {L : List Jvm.Cond} {P : Jvm.Cond → Bool} (h1 : L.all (fun c => isCode c || P c) = true) (h2 : ∀ c ∈ L.filter isCode, P c = true) : L.all P = true := by
  refine List.all_eq_true.mpr fun c hc => ?_
  have h := List.all_eq_true.mp h1 c hc
  rcases Bool.eq_false_or_eq_true (isCode c) with hi | hi
  · exact h2 c (List.mem_filter.mpr ⟨hc, hi⟩)
  · simpa [hi] using h
set_option maxRecDepth 65536 in
theorem w_c0 : (Jvm.Cond.code x code maxLocals ret).before args0 about1 = true := code_word (m := ⟨1, 1⟩) (meth := k1m1) (c := k1c1) (by decide +kernel) rfl rfl rfl (by decide +kernel)
set_option maxRecDepth 65536 in
theorem w_c1 : (Jvm.Cond.code ({ cls := "CurveLadder", name := "<init>", desc := "(IIII)V" } : Jvm.MethodName) prog_1_method_1_code (7 : Nat) (Option.none : Option Jvm.ClassFile.FieldType)).before args0 about1 = true := code_word (m := ⟨2, 0⟩) (meth := k2m0) (c := k2c0) (by decide +kernel) rfl rfl rfl (by decide +kernel)
set_option maxRecDepth 65536 in
theorem w_c2 : (Jvm.Cond.code ({ cls := "java/lang/Object", name := "<init>", desc := "()V" } : Jvm.MethodName) object_method_1_code (1 : Nat) (Option.none : Option Jvm.ClassFile.FieldType)).before args0 about1 = true := code_word (m := ⟨0, 0⟩) (meth := k0m0) (c := k0c0) (by decide +kernel) rfl rfl rfl (by decide +kernel)
set_option maxRecDepth 65536 in
theorem w_c3 : (Jvm.Cond.code ({ cls := "CurveLadder", name := "primeAt", desc := "(I)J" } : Jvm.MethodName) prog_1_method_17_code (2 : Nat) (Option.some Jvm.ClassFile.FieldType.long)).before args0 about1 = true := code_word (m := ⟨2, 4⟩) (meth := k2m4) (c := k2c4) (by decide +kernel) rfl rfl rfl (by decide +kernel)
set_option maxRecDepth 65536 in
theorem w_c4 : (Jvm.Cond.code ({ cls := "CurveLadder", name := "clampField", desc := "(I)J" } : Jvm.MethodName) prog_1_method_18_code (4 : Nat) (Option.some Jvm.ClassFile.FieldType.long)).before args0 about1 = true := code_word (m := ⟨2, 5⟩) (meth := k2m5) (c := k2c5) (by decide +kernel) rfl rfl rfl (by decide +kernel)
set_option maxRecDepth 65536 in
theorem w_c5 : (Jvm.Cond.code ({ cls := "CurveLadder", name := "computeB", desc := "()J" } : Jvm.MethodName) prog_1_method_19_code (11 : Nat) (Option.some Jvm.ClassFile.FieldType.long)).before args0 about1 = true := code_word (m := ⟨2, 6⟩) (meth := k2m6) (c := k2c6) (by decide +kernel) rfl rfl rfl (by decide +kernel)
set_option maxRecDepth 65536 in
theorem w_c6 : (Jvm.Cond.code ({ cls := "CurveLadder", name := "mulMod", desc := "(JJ)J" } : Jvm.MethodName) prog_1_method_26_code (5 : Nat) (Option.some Jvm.ClassFile.FieldType.long)).before args0 about1 = true := code_word (m := ⟨2, 11⟩) (meth := k2m11) (c := k2c11) (by decide +kernel) rfl rfl rfl (by decide +kernel)
set_option maxRecDepth 65536 in
theorem w_c7 : (Jvm.Cond.code ({ cls := "CurveLadder", name := "subMod", desc := "(JJ)J" } : Jvm.MethodName) prog_1_method_28_code (7 : Nat) (Option.some Jvm.ClassFile.FieldType.long)).before args0 about1 = true := code_word (m := ⟨2, 13⟩) (meth := k2m13) (c := k2c13) (by decide +kernel) rfl rfl rfl (by decide +kernel)
set_option maxRecDepth 65536 in
theorem w_c8 : (Jvm.Cond.code ({ cls := "CurveLadder", name := "discriminant", desc := "()J" } : Jvm.MethodName) prog_1_method_20_code (11 : Nat) (Option.some Jvm.ClassFile.FieldType.long)).before args0 about1 = true := code_word (m := ⟨2, 7⟩) (meth := k2m7) (c := k2c7) (by decide +kernel) rfl rfl rfl (by decide +kernel)
set_option maxRecDepth 65536 in
theorem w_c9 : (Jvm.Cond.code ({ cls := "CurveLadder", name := "addMod", desc := "(JJ)J" } : Jvm.MethodName) prog_1_method_27_code (7 : Nat) (Option.some Jvm.ClassFile.FieldType.long)).before args0 about1 = true := code_word (m := ⟨2, 12⟩) (meth := k2m12) (c := k2c12) (by decide +kernel) rfl rfl rfl (by decide +kernel)
set_option maxRecDepth 65536 in
theorem w_c10 : (Jvm.Cond.code ({ cls := "CurveLadder", name := "setRegister", desc := "(IJJZ)V" } : Jvm.MethodName) prog_1_method_24_code (7 : Nat) (Option.none : Option Jvm.ClassFile.FieldType)).before args0 about1 = true := code_word (m := ⟨2, 10⟩) (meth := k2m10) (c := k2c10) (by decide +kernel) rfl rfl rfl (by decide +kernel)
set_option maxRecDepth 65536 in
theorem w_c11 : (Jvm.Cond.code ({ cls := "CurveLadder", name := "param", desc := "(I)I" } : Jvm.MethodName) prog_1_method_2_code (2 : Nat) (Option.some Jvm.ClassFile.FieldType.int)).before args0 about1 = true := code_word (m := ⟨2, 1⟩) (meth := k2m1) (c := k2c1) (by decide +kernel) rfl rfl rfl (by decide +kernel)
set_option maxRecDepth 65536 in
theorem w_c12 : (Jvm.Cond.code ({ cls := "CurveLadder", name := "load", desc := "(III)Z" } : Jvm.MethodName) prog_1_method_3_code (4 : Nat) (Option.some Jvm.ClassFile.FieldType.boolean)).before args0 about1 = true := code_word (m := ⟨2, 2⟩) (meth := k2m2) (c := k2c2) (by decide +kernel) rfl rfl rfl (by decide +kernel)
set_option maxRecDepth 65536 in
theorem w_c13 : (Jvm.Cond.code ({ cls := "CurveLadder", name := "validRegister", desc := "(I)Z" } : Jvm.MethodName) prog_1_method_21_code (2 : Nat) (Option.some Jvm.ClassFile.FieldType.boolean)).before args0 about1 = true := code_word (m := ⟨2, 8⟩) (meth := k2m8) (c := k2c8) (by decide +kernel) rfl rfl rfl (by decide +kernel)
set_option maxRecDepth 65536 in
theorem w_c14 : (Jvm.Cond.code ({ cls := "CurveLadder", name := "inField", desc := "(J)Z" } : Jvm.MethodName) prog_1_method_23_code (3 : Nat) (Option.some Jvm.ClassFile.FieldType.boolean)).before args0 about1 = true := code_word (m := ⟨2, 9⟩) (meth := k2m9) (c := k2c9) (by decide +kernel) rfl rfl rfl (by decide +kernel)
set_option maxRecDepth 65536 in
theorem w_c15 : (Jvm.Cond.code ({ cls := "CurveLadder", name := "onCurve", desc := "(JJ)Z" } : Jvm.MethodName) prog_1_method_32_code (7 : Nat) (Option.some Jvm.ClassFile.FieldType.boolean)).before args0 about1 = true := code_word (m := ⟨2, 15⟩) (meth := k2m15) (c := k2c15) (by decide +kernel) rfl rfl rfl (by decide +kernel)
set_option maxRecDepth 65536 in
theorem w_c16 : (Jvm.Cond.code ({ cls := "CurveLadder", name := "curveRhs", desc := "(J)J" } : Jvm.MethodName) prog_1_method_31_code (11 : Nat) (Option.some Jvm.ClassFile.FieldType.long)).before args0 about1 = true := code_word (m := ⟨2, 14⟩) (meth := k2m14) (c := k2c14) (by decide +kernel) rfl rfl rfl (by decide +kernel)
set_option maxRecDepth 65536 in
theorem w_c17 : (Jvm.Cond.code ({ cls := "CurveLadder", name := "coord", desc := "(II)I" } : Jvm.MethodName) prog_1_method_7_code (3 : Nat) (Option.some Jvm.ClassFile.FieldType.int)).before args0 about1 = true := code_word (m := ⟨2, 3⟩) (meth := k2m3) (c := k2c3) (by decide +kernel) rfl rfl rfl (by decide +kernel)
def codes1 : List Jvm.Cond := [Jvm.Cond.code x code maxLocals ret, Jvm.Cond.code ({ cls := "CurveLadder", name := "<init>", desc := "(IIII)V" } : Jvm.MethodName) prog_1_method_1_code (7 : Nat) (Option.none : Option Jvm.ClassFile.FieldType), Jvm.Cond.code ({ cls := "java/lang/Object", name := "<init>", desc := "()V" } : Jvm.MethodName) object_method_1_code (1 : Nat) (Option.none : Option Jvm.ClassFile.FieldType), Jvm.Cond.code ({ cls := "CurveLadder", name := "primeAt", desc := "(I)J" } : Jvm.MethodName) prog_1_method_17_code (2 : Nat) (Option.some Jvm.ClassFile.FieldType.long), Jvm.Cond.code ({ cls := "CurveLadder", name := "clampField", desc := "(I)J" } : Jvm.MethodName) prog_1_method_18_code (4 : Nat) (Option.some Jvm.ClassFile.FieldType.long), Jvm.Cond.code ({ cls := "CurveLadder", name := "computeB", desc := "()J" } : Jvm.MethodName) prog_1_method_19_code (11 : Nat) (Option.some Jvm.ClassFile.FieldType.long), Jvm.Cond.code ({ cls := "CurveLadder", name := "mulMod", desc := "(JJ)J" } : Jvm.MethodName) prog_1_method_26_code (5 : Nat) (Option.some Jvm.ClassFile.FieldType.long), Jvm.Cond.code ({ cls := "CurveLadder", name := "subMod", desc := "(JJ)J" } : Jvm.MethodName) prog_1_method_28_code (7 : Nat) (Option.some Jvm.ClassFile.FieldType.long), Jvm.Cond.code ({ cls := "CurveLadder", name := "discriminant", desc := "()J" } : Jvm.MethodName) prog_1_method_20_code (11 : Nat) (Option.some Jvm.ClassFile.FieldType.long), Jvm.Cond.code ({ cls := "CurveLadder", name := "addMod", desc := "(JJ)J" } : Jvm.MethodName) prog_1_method_27_code (7 : Nat) (Option.some Jvm.ClassFile.FieldType.long), Jvm.Cond.code ({ cls := "CurveLadder", name := "setRegister", desc := "(IJJZ)V" } : Jvm.MethodName) prog_1_method_24_code (7 : Nat) (Option.none : Option Jvm.ClassFile.FieldType), Jvm.Cond.code ({ cls := "CurveLadder", name := "param", desc := "(I)I" } : Jvm.MethodName) prog_1_method_2_code (2 : Nat) (Option.some Jvm.ClassFile.FieldType.int), Jvm.Cond.code ({ cls := "CurveLadder", name := "load", desc := "(III)Z" } : Jvm.MethodName) prog_1_method_3_code (4 : Nat) (Option.some Jvm.ClassFile.FieldType.boolean), Jvm.Cond.code ({ cls := "CurveLadder", name := "validRegister", desc := "(I)Z" } : Jvm.MethodName) prog_1_method_21_code (2 : Nat) (Option.some Jvm.ClassFile.FieldType.boolean), Jvm.Cond.code ({ cls := "CurveLadder", name := "inField", desc := "(J)Z" } : Jvm.MethodName) prog_1_method_23_code (3 : Nat) (Option.some Jvm.ClassFile.FieldType.boolean), Jvm.Cond.code ({ cls := "CurveLadder", name := "onCurve", desc := "(JJ)Z" } : Jvm.MethodName) prog_1_method_32_code (7 : Nat) (Option.some Jvm.ClassFile.FieldType.boolean), Jvm.Cond.code ({ cls := "CurveLadder", name := "curveRhs", desc := "(J)J" } : Jvm.MethodName) prog_1_method_31_code (11 : Nat) (Option.some Jvm.ClassFile.FieldType.long), Jvm.Cond.code ({ cls := "CurveLadder", name := "coord", desc := "(II)I" } : Jvm.MethodName) prog_1_method_7_code (3 : Nat) (Option.some Jvm.ClassFile.FieldType.int)]
set_option maxRecDepth 65536 in
theorem codes_eq : words1.filter isCode = codes1 := rfl
theorem w_codes : ∀ c ∈ words1.filter isCode, c.before args0 about1 = true := by
  rw [codes_eq]
  intro c hc
  simp only [codes1, List.mem_cons, List.not_mem_nil, or_false] at hc
  rcases hc with rfl | rfl | rfl | rfl | rfl | rfl | rfl | rfl | rfl | rfl | rfl | rfl | rfl | rfl | rfl | rfl | rfl | rfl
  · exact w_c0
  · exact w_c1
  · exact w_c2
  · exact w_c3
  · exact w_c4
  · exact w_c5
  · exact w_c6
  · exact w_c7
  · exact w_c8
  · exact w_c9
  · exact w_c10
  · exact w_c11
  · exact w_c12
  · exact w_c13
  · exact w_c14
  · exact w_c15
  · exact w_c16
  · exact w_c17
set_option maxRecDepth 65536 in
theorem w_t1 : (words1.take 24).all (fun c => isCode c || c.before args0 about1) = true := by decide +kernel
set_option maxRecDepth 65536 in
theorem w_t2 : ((words1.drop 24).take 24).all (fun c => isCode c || c.before args0 about1) = true := by decide +kernel
set_option maxRecDepth 65536 in
theorem w_t3 : (((words1.drop 24).drop 24).take 24).all (fun c => isCode c || c.before args0 about1) = true := by decide +kernel
set_option maxRecDepth 65536 in
theorem w_t4 : ((((words1.drop 24).drop 24).drop 24).take 24).all (fun c => isCode c || c.before args0 about1) = true := by decide +kernel
set_option maxRecDepth 65536 in
theorem w_t5 : (((((words1.drop 24).drop 24).drop 24).drop 24).take 24).all (fun c => isCode c || c.before args0 about1) = true := by decide +kernel
set_option maxRecDepth 65536 in
theorem w_t6 : (((((words1.drop 24).drop 24).drop 24).drop 24).drop 24).all (fun c => isCode c || c.before args0 about1) = true := by decide +kernel
theorem w_tables : (allAtoms (Jvm.Cond.code x code maxLocals ret :: tables_1)).before args0 about1 = true := by
  rw [allAtoms_all]
  show words1.all (fun c => c.before args0 about1) = true
  refine all_split ?_ w_codes
  rw [← List.take_append_drop 24 words1, List.all_append, w_t1, ← List.take_append_drop 24 (words1.drop 24), List.all_append, w_t2, ← List.take_append_drop 24 ((words1.drop 24).drop 24), List.all_append, w_t3, ← List.take_append_drop 24 (((words1.drop 24).drop 24).drop 24), List.all_append, w_t4, ← List.take_append_drop 24 ((((words1.drop 24).drop 24).drop 24).drop 24), List.all_append, w_t5, w_t6]
  rfl
set_option maxRecDepth 65536 in
theorem w_case : (Jvm.Cond.and given_1 narrow_1).before args0 about1 = true := by decide +kernel
theorem w_applies : (headSpec (Jvm.Cond.code x code maxLocals ret :: tables_1) room_1).applies x e0.platform about1 = true :=
  (Spec.applies_iff w_frames).mpr ⟨w_running, w_runnable, w_alone, w_named, w_hears, w_ripe, w_room, w_tables⟩
theorem atStart : AtStart classFile x code maxLocals ret World_1 tables_1 room_1 Calls_1 rest_1 Pre_1 launch0 p0 e0 about1 theMethod args0 below0 :=
  ⟨lists_1, trivial, launch0.admits_env _ _ _, launch0.least_env, fairChoices_fair.cas, fairChoices_fair.clock, w_frames, w_args, w_heap, w_applies, trivial, trivial, w_case⟩
end start1
theorem witness_1 : WitnessClaimed_1 := ⟨start1.p0, start1.e0, start1.about1, start1.theMethod, start1.args0, start1.below0, start1.atStart⟩
end Jvm.Pilot.@@N@@
