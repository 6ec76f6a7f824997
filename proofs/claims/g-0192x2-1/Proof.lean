import JvmDerived
import JvmDerived.Pilot.@@N@@Statement
import JvmDerived.Pilot.@@N@@Code
set_option linter.unusedVariables false
set_option linter.unusedSimpArgs false
namespace Jvm.Own
open Jvm Jvm.ClassFile Sem Op Lib Jvm.Free Jvm.Stand Jvm.LawKit Jvm.RoadKit Bundle

/-! A plain machine: the few instructions that these classes use, over a heap of plain lists. -/
/-- an object (class number, fields in order) | an int array (false) or boolean array (true) | a long array -/
abbrev ACell := (Nat × List Value) ⊕ ((Bool × List Int32) ⊕ List Int64)
abbrev AHeap := List ACell
/-- instruction, length, variables forgotten ahead of it, link number, constant -/
abbrev It := Instr × Nat × List Bool × Nat × Int
/-- a field: name, descriptor, type, final -/
abbrev FD := String × String × FieldType × Bool
/-- a class: name, number of its slots, its fields -/
abbrev CD := String × Nat × List FD
/-- a method: name, bytes, variables, return type; kind (0 static, 1 constructor, 2 private, 3 virtual), parameters, class number, frames, words; code -/
abbrev MD := MethodName × ByteArray × Nat × Option FieldType × Nat × Nat × Nat × Nat × Nat × List (Nat × It)
/-- classes, methods, number of cells that are only read -/
abbrev PD := List CD × List MD × Nat
abbrev PD.cls (P : PD) : List CD := P.1
abbrev PD.mth (P : PD) : List MD := P.2.1
abbrev PD.nr (P : PD) : Nat := P.2.2
abbrev MD.name (d : MD) : MethodName := d.1
abbrev MD.bytes (d : MD) : ByteArray := d.2.1
abbrev MD.maxL (d : MD) : Nat := d.2.2.1
abbrev MD.ret (d : MD) : Option FieldType := d.2.2.2.1
abbrev MD.kind (d : MD) : Nat := d.2.2.2.2.1
abbrev MD.npar (d : MD) : Nat := d.2.2.2.2.2.1
abbrev MD.cid (d : MD) : Nat := d.2.2.2.2.2.2.1
abbrev MD.rf (d : MD) : Nat := d.2.2.2.2.2.2.2.1
abbrev MD.rw (d : MD) : Nat := d.2.2.2.2.2.2.2.2.1
abbrev MD.code (d : MD) : List (Nat × It) := d.2.2.2.2.2.2.2.2.2

def rdA {α : Type} (L : List α) (j : Int32) : Option α := if j < 0 then none else L[j.toNatClampNeg]?
def wrA {α : Type} (L : List α) (j : Int32) (x : α) : Option (List α) := if j < 0 then none else if j.toNatClampNeg < L.length then some (L.set j.toNatClampNeg x) else none
def getL (L : List Slot) (k : Nat) : Option Value := match L[k]? with | some (.val v) => some v | _ => none
def isC2 : Option Slot → Bool | some (.val v) => v.category == 2 | _ => false
def isSec : Option Slot → Bool | some .second => true | _ => false
def free1 : Option Slot → Bool | some .unset => true | some (.val v) => v.category == 1 | _ => false
def st1 (L : List Slot) (k : Nat) (v : Value) : Option (List Slot) :=
  if free1 L[k]? && (k == 0 || !isC2 L[k - 1]?) && !isSec L[k + 1]? then some (L.set k (.val v)) else none
def free2 : Option Slot → Option Slot → Bool | some .unset, some .unset => true | some (.val v), some .second => v.category == 2 | _, _ => false
def st2 (L : List Slot) (k : Nat) (v : Value) : Option (List Slot) :=
  if free2 L[k]? L[k + 1]? && (k == 0 || !isC2 L[k - 1]?) && !isSec L[k + 2]? then some ((L.set k (.val v)).set (k + 1) .second) else none
def forget : List Bool → List Slot → List Slot
  | [], L => L
  | _ :: _, [] => []
  | true :: r, _ :: L => .unset :: forget r L
  | false :: r, s :: L => s :: forget r L
def catSum : List Value → Nat
  | [] => 0
  | v :: r => v.category + catSum r
def entA : List Value → List Slot
  | [] => []
  | v :: r => if v.category = 2 then .val v :: .second :: entA r else .val v :: entA r
def entL (as : List Value) (n : Nat) : List Slot := entA as ++ List.replicate (n - (entA as).length) .unset
def putOk : FieldType → Value → Bool
  | .int, .int _ => true
  | .long, .long _ => true
  | .boolean, .int x => (x == 0) || (x == 1)
  | .array _, .ref _ => true
  | _, _ => false
def dflt : FieldType → Value
  | .long => .long 0
  | .array _ => .null
  | _ => .int 0
def dfOk : FieldType → Bool
  | .int => true
  | .boolean => true
  | .long => true
  | .array _ => true
  | _ => false
def tgt (pc : Nat) (o : Int) : Option Nat := if 0 ≤ (pc : Int) + o then some ((pc : Int) + o).toNat else none
def fetch : List (Nat × It) → Nat → Option It
  | [], _ => none
  | (q, i) :: r, pc => if q = pc then some i else fetch r pc
/-- one instruction that neither branches nor calls nor returns -/
def xI (P : PD) (ini : Bool) (cid : Nat) (i : Instr) (a : Nat) (b : Int) (L : List Slot) (S : List Value) (H : AHeap) : Option (List Slot × List Value × AHeap) :=
  match i with
  | .aload_n k => match getL L k.val with | some (.ref x) => some (L, .ref x :: S, H) | _ => none
  | .aload k => match getL L k with | some (.ref x) => some (L, .ref x :: S, H) | _ => none
  | .iload_n k => match getL L k.val with | some (.int x) => some (L, .int x :: S, H) | _ => none
  | .iload k => match getL L k with | some (.int x) => some (L, .int x :: S, H) | _ => none
  | .lload_n k => match getL L k.val with | some (.long x) => some (L, .long x :: S, H) | _ => none
  | .lload k => match getL L k with | some (.long x) => some (L, .long x :: S, H) | _ => none
  | .istore_n k => match S with | .int x :: S' => (st1 L k.val (.int x)).map fun L' => (L', S', H) | _ => none
  | .istore k => match S with | .int x :: S' => (st1 L k (.int x)).map fun L' => (L', S', H) | _ => none
  | .astore_n k => match S with | .ref x :: S' => (st1 L k.val (.ref x)).map fun L' => (L', S', H) | _ => none
  | .astore k => match S with | .ref x :: S' => (st1 L k (.ref x)).map fun L' => (L', S', H) | _ => none
  | .lstore_n k => match S with | .long x :: S' => (st2 L k.val (.long x)).map fun L' => (L', S', H) | _ => none
  | .lstore k => match S with | .long x :: S' => (st2 L k (.long x)).map fun L' => (L', S', H) | _ => none
  | .iinc k d => match getL L k with | some (.int x) => (st1 L k (.int (x + Int32.ofInt d))).map fun L' => (L', S, H) | _ => none
  | .iconst d => some (L, .int (Int32.ofInt d) :: S, H)
  | .bipush d => some (L, .int (Int8.ofInt d).toInt32 :: S, H)
  | .sipush d => some (L, .int (Int16.ofInt d).toInt32 :: S, H)
  | .lconst k => some (L, .long (Int64.ofNat k) :: S, H)
  | .ldc _ => some (L, .int (Int32.ofInt b) :: S, H)
  | .ldc2_w _ => some (L, .long (Int64.ofInt b) :: S, H)
  | .iadd => match S with | .int y :: .int x :: S' => some (L, .int (x + y) :: S', H) | _ => none
  | .isub => match S with | .int y :: .int x :: S' => some (L, .int (x - y) :: S', H) | _ => none
  | .imul => match S with | .int y :: .int x :: S' => some (L, .int (x * y) :: S', H) | _ => none
  | .iand => match S with | .int y :: .int x :: S' => some (L, .int (x &&& y) :: S', H) | _ => none
  | .ior => match S with | .int y :: .int x :: S' => some (L, .int (x ||| y) :: S', H) | _ => none
  | .ixor => match S with | .int y :: .int x :: S' => some (L, .int (x ^^^ y) :: S', H) | _ => none
  | .ishl => match S with | .int y :: .int x :: S' => some (L, .int (x <<< (y &&& 31)) :: S', H) | _ => none
  | .ishr => match S with | .int y :: .int x :: S' => some (L, .int (x >>> (y &&& 31)) :: S', H) | _ => none
  | .iushr => match S with | .int y :: .int x :: S' => some (L, .int (XT.ushr x y) :: S', H) | _ => none
  | .idiv => match S with | .int y :: .int x :: S' => if y = 0 then none else some (L, .int (x / y) :: S', H) | _ => none
  | .irem => match S with | .int y :: .int x :: S' => if y = 0 then none else some (L, .int (x % y) :: S', H) | _ => none
  | .ladd => match S with | .long y :: .long x :: S' => some (L, .long (x + y) :: S', H) | _ => none
  | .lsub => match S with | .long y :: .long x :: S' => some (L, .long (x - y) :: S', H) | _ => none
  | .lmul => match S with | .long y :: .long x :: S' => some (L, .long (x * y) :: S', H) | _ => none
  | .land => match S with | .long y :: .long x :: S' => some (L, .long (x &&& y) :: S', H) | _ => none
  | .lor => match S with | .long y :: .long x :: S' => some (L, .long (x ||| y) :: S', H) | _ => none
  | .lxor => match S with | .long y :: .long x :: S' => some (L, .long (x ^^^ y) :: S', H) | _ => none
  | .lshl => match S with | .int y :: .long x :: S' => some (L, .long (x <<< (y.toInt64 &&& 63)) :: S', H) | _ => none
  | .lshr => match S with | .int y :: .long x :: S' => some (L, .long (x >>> (y.toInt64 &&& 63)) :: S', H) | _ => none
  | .lushr => match S with | .int y :: .long x :: S' => some (L, .long (XT.ushrL x y) :: S', H) | _ => none
  | .ldiv => match S with | .long y :: .long x :: S' => if y = 0 then none else some (L, .long (x / y) :: S', H) | _ => none
  | .lrem => match S with | .long y :: .long x :: S' => if y = 0 then none else some (L, .long (x % y) :: S', H) | _ => none
  | .lcmp => match S with | .long y :: .long x :: S' => some (L, .int (XT.cmpL x y) :: S', H) | _ => none
  | .i2l => match S with | .int x :: S' => some (L, .long x.toInt64 :: S', H) | _ => none
  | .l2i => match S with | .long x :: S' => some (L, .int x.toInt32 :: S', H) | _ => none
  | .dup => match S with
    | .int x :: S' => some (L, .int x :: .int x :: S', H)
    | .ref x :: S' => some (L, .ref x :: .ref x :: S', H)
    | _ => none
  | .dup2 => match S with
    | .int x :: .ref y :: S' => some (L, .int x :: .ref y :: .int x :: .ref y :: S', H)
    | .long x :: S' => some (L, .long x :: .long x :: S', H)
    | _ => none
  | .pop => match S with | .int _ :: S' => some (L, S', H) | _ => none
  | .getfield _ => match S with
    | .ref o :: S' => match H[o]? with
      | some (.inl (c, fs)) => if c = cid then match fs[a]? with
        | some (.int x) => some (L, .int x :: S', H)
        | some (.long x) => some (L, .long x :: S', H)
        | some (.ref x) => some (L, .ref x :: S', H)
        | _ => none
        else none
      | _ => none
    | _ => none
  | .putfield _ => match S with
    | v :: .ref o :: S' => match H[o]? with
      | some (.inl (c, fs)) => if c = cid ∧ P.nr ≤ o then match (P.cls[c]?).bind fun cd => cd.2.2[a]? with
        | some (_, _, ty, fin) => if putOk ty v && (!fin || ini) then some (L, S', H.set o (.inl (c, fs.set a v))) else none
        | none => none
        else none
      | _ => none
    | _ => none
  | .iaload => match S with
    | .int j :: .ref o :: S' => match H[o]? with
      | some (.inr (.inl (false, A))) => (rdA A j).map fun x => (L, .int x :: S', H)
      | _ => none
    | _ => none
  | .baload => match S with
    | .int j :: .ref o :: S' => match H[o]? with
      | some (.inr (.inl (true, A))) => (rdA A j).map fun x => (L, .int x :: S', H)
      | _ => none
    | _ => none
  | .laload => match S with
    | .int j :: .ref o :: S' => match H[o]? with
      | some (.inr (.inr A)) => (rdA A j).map fun x => (L, .long x :: S', H)
      | _ => none
    | _ => none
  | .iastore => match S with
    | .int x :: .int j :: .ref o :: S' => match H[o]? with
      | some (.inr (.inl (false, A))) => if P.nr ≤ o then (wrA A j x).map fun A' => (L, S', H.set o (.inr (.inl (false, A')))) else none
      | _ => none
    | _ => none
  | .bastore => match S with
    | .int x :: .int j :: .ref o :: S' => match H[o]? with
      | some (.inr (.inl (true, A))) => if P.nr ≤ o then (wrA A j (x &&& 1)).map fun A' => (L, S', H.set o (.inr (.inl (true, A')))) else none
      | _ => none
    | _ => none
  | .lastore => match S with
    | .long x :: .int j :: .ref o :: S' => match H[o]? with
      | some (.inr (.inr A)) => if P.nr ≤ o then (wrA A j x).map fun A' => (L, S', H.set o (.inr (.inr A'))) else none
      | _ => none
    | _ => none
  | .arraylength => match S with
    | .ref o :: S' => match H[o]? with
      | some (.inr (.inl (_, A))) => some (L, .int A.length.toInt32 :: S', H)
      | _ => none
    | _ => none
  | _ => none
/-- one instruction that makes a cell: how many slots it takes stands last -/
def xN (P : PD) (i : Instr) (a : Nat) (S : List Value) (H : AHeap) : Option (List Value × AHeap × Nat) :=
  match i with
  | .new _ => match P.cls[a]? with
    | some cd => some (.ref H.length :: S, H ++ [.inl (a, cd.2.2.map fun f => dflt f.2.2.1)], cd.2.1)
    | none => none
  | .newarray t => match S with
    | .int n :: S' => if n < 0 ∨ 100000 < n.toNatClampNeg then none else match t with
      | .int => some (.ref H.length :: S', H ++ [.inr (.inl (false, List.replicate n.toNatClampNeg 0))], n.toNatClampNeg)
      | .boolean => some (.ref H.length :: S', H ++ [.inr (.inl (true, List.replicate n.toNatClampNeg 0))], n.toNatClampNeg)
      | .long => some (.ref H.length :: S', H ++ [.inr (.inr (List.replicate n.toNatClampNeg 0))], n.toNatClampNeg)
      | _ => none
    | _ => none
  | _ => none
/-- the words that a call from d to y asks -/
def fitsRoom (d y : MD) (rest : List Value) : Bool := decide (y.rf + 1 ≤ d.rf) && decide (catSum rest + (y.maxL + 11) + y.rw ≤ d.rw)
/-- the arguments of a call, first to last, and what lies under them -/
def argsOf (n : Nat) (S : List Value) : Option (List Value × List Value) := if n ≤ S.length then some ((S.take n).reverse, S.drop n) else none
def recvOk (P : PD) (H : AHeap) (y : MD) (as : List Value) : Bool :=
  if y.kind = 0 then true else match as with
    | .ref o :: _ => match H[o]? with
      | some (.inl (c, _)) => decide (c = y.cid)
      | _ => false
    | _ => false
def nargs (y : MD) : Nat := if y.kind = 0 then y.npar else y.npar + 1
def invKind (i : Instr) (k : Nat) : Bool := match i with
  | .invokestatic _ => k == 0
  | .invokespecial _ => k == 1
  | .invokevirtual _ => k == 2 || k == 3
  | _ => false
/-- what a method returns of an int on its stack -/
def retV (r : Option FieldType) (x : Int32) : Option Value := match r with
  | some .int => some (.int x)
  | some .boolean => some (.int (x &&& 1))
  | _ => none
def isInv : Instr → Bool
  | .invokestatic _ => true
  | .invokespecial _ => true
  | .invokevirtual _ => true
  | _ => false
def isNew : Instr → Bool
  | .new _ => true
  | .newarray _ => true
  | _ => false
/-- what a run answers: what it returns, the heap, how many cells and slots it has made -/
abbrev Res := Option Value × AHeap × Nat × Nat
def addR (r : Res) (kc ks : Nat) : Res := (r.1, r.2.1, r.2.2.1 + kc, r.2.2.2 + ks)
/-- n instructions at the most, from pc of method mi to its return -/
def exe (P : PD) : Nat → Nat → Nat → List Slot → List Value → AHeap → Option Res
  | 0, _, _, _, _, _ => none
  | n + 1, mi, pc, L0, S, H => match P.mth[mi]? with
    | none => none
    | some d => match fetch d.code pc with
      | none => none
      | some (i, len, er, a, b) =>
        let L := forget er L0
        match i with
        | .goto o => match tgt pc o with
          | some q => exe P n mi q L S H
          | none => none
        | .if_icmp cd o => match S with
          | .int y :: .int x :: S' => if if_icmp.holds cd x y = true then match tgt pc o with
              | some q => exe P n mi q L S' H
              | none => none
            else exe P n mi (pc + 3) L S' H
          | _ => none
        | .ifCond cd o => match S with
          | .int x :: S' => if ifCond.holds cd x = true then match tgt pc o with
              | some q => exe P n mi q L S' H
              | none => none
            else exe P n mi (pc + 3) L S' H
          | _ => none
        | .ifnonnull o => match S with
          | .ref _ :: S' => match tgt pc o with
            | some q => exe P n mi q L S' H
            | none => none
          | _ => none
        | .ireturn => match S with
          | [.int x] => match retV d.ret x with
            | some v => some (some v, H, 0, 0)
            | none => none
          | _ => none
        | .lreturn => match S with
          | [.long x] => if d.ret = some .long then some (some (.long x), H, 0, 0) else none
          | _ => none
        | .return_ => match S with
          | [] => if d.ret = none then some (none, H, 0, 0) else none
          | _ => none
        | i => if isInv i = true then
            if b = -1 then match i, S with
              | .invokespecial _, .ref _ :: S' => if 1 ≤ d.rf ∧ catSum S' + 12 ≤ d.rw then exe P n mi (pc + 3) L S' H else none
              | _, _ => none
            else match P.mth[a]? with
              | none => none
              | some y => match argsOf (nargs y) S with
                | none => none
                | some (as, rest) =>
                  if decide (0 < a) && invKind i y.kind && recvOk P H y as && fitsRoom d y rest && decide ((entA as).length ≤ y.maxL) then
                    match exe P n a 0 (entL as y.maxL) [] H with
                    | some (v, H1, kc, ks) => (exe P n mi (pc + 3) L (v.toList ++ rest) H1).map fun r => addR r kc ks
                    | none => none
                  else none
          else if isNew i = true then match xN P i a S H with
            | some (S', H', ks) => (exe P n mi (pc + len) L S' H').map fun r => addR r 1 ks
            | none => none
          else match xI P (d.name.name == "<init>") d.cid i a b L S H with
            | some (L', S', H') => exe P n mi (pc + len) L' S' H'
            | none => none
end Jvm.Own
namespace Jvm.Own
open Jvm Jvm.ClassFile Sem Op Lib Jvm.Free Jvm.Stand Jvm.LawKit Jvm.RoadKit Bundle

/-! The words that the machine's program rests on -/
def fWord (C : String) (f : FD) : Jvm.Cond := if f.2.2.2 then .laysFinal C C f.1 f.2.1 else .lays C C f.1 f.2.1
def cWords (cd : CD) : List Jvm.Cond := .instantiable cd.1 cd.2.1 :: .initialized cd.1 :: cd.2.2.map (fWord cd.1)
def mWords (y : MD) : List Jvm.Cond := .code y.name y.bytes y.maxL y.ret :: .initialized y.name.cls ::
  (if y.kind = 0 then [.static y.name] else if y.kind = 1 then [.instanceMethod y.name] else if y.kind = 2 then [.instanceMethod y.name, .privateMethod y.name]
   else [.declares y.name, .selects y.name.cls y.name y.name, .instanceMethod y.name])
def fieldOf (P : PD) (c a : Nat) : Option FD := (P.cls[c]?).bind fun cd => cd.2.2[a]?
def fLink (P : PD) (d : MD) (k a : Nat) : List Jvm.Cond := match fieldOf P d.cid a with | some f => [.fieldLink d.name.cls k d.name.cls f.1 f.2.1] | none => []
def mLink (P : PD) (d : MD) (k a : Nat) (b : Int) : List Jvm.Cond :=
  if b = -1 then [.methodLink d.name.cls k Lib.objectInit, .instanceMethod Lib.objectInit, .code Lib.objectInit ⟨#[0xb1]⟩ 1 none]
  else match P.mth[a]? with | some y => [.methodLink d.name.cls k y.name] | none => []
def iWords (P : PD) (d : MD) (x : Nat × It) : List Jvm.Cond := match x with
  | (_, .getfield k, _, _, a, _) => fLink P d k a
  | (_, .putfield k, _, _, a, _) => fLink P d k a
  | (_, .ldc k, _, _, _, b) => [.constant d.name.cls k (Int32.ofInt b)]
  | (_, .ldc2_w k, _, _, _, b) => [.constantLong d.name.cls k (Int64.ofInt b)]
  | (_, .new k, _, _, a, _) => match P.cls[a]? with | some cd => [.classLink d.name.cls k cd.1] | none => []
  | (_, .newarray t, _, _, _, _) => [.arrayClass (newarray.typeOf t)]
  | (_, .invokestatic k, _, _, a, b) => mLink P d k a b
  | (_, .invokespecial k, _, _, a, b) => mLink P d k a b
  | (_, .invokevirtual k, _, _, a, b) => mLink P d k a b
  | _ => []
def wordsOf (P : PD) : List Jvm.Cond := P.cls.flatMap cWords ++ (P.mth.drop 1).flatMap mWords ++ P.mth.flatMap fun d => d.code.flatMap (iWords P d)
/-! What can be looked up in the program itself -/
def nodup : List String → Bool
  | [] => true
  | x :: r => !r.contains x && nodup r
def fChk (f : FD) : Bool := decide (parseFieldDescriptor f.2.1 = some f.2.2.1) && dfOk f.2.2.1
def cChk (cd : CD) : Bool := nodup (cd.2.2.map fun f => f.1) && cd.2.2.all fChk
def sigChk (y : MD) : Bool := match parseMethodDescriptor y.name.desc with
  | some g => decide (g.parameters.length = y.npar)
  | none => false
def lenOk (i : Instr) (n : Nat) : Bool := match i with
  | .aload _ | .iload _ | .lload _ | .istore _ | .astore _ | .lstore _ | .bipush _ | .ldc _ | .newarray _ => n == 2
  | .iinc _ _ | .sipush _ | .ldc2_w _ | .getfield _ | .putfield _ | .new _ | .goto _ | .if_icmp _ _ | .ifCond _ _ | .ifnonnull _ | .invokestatic _ | .invokespecial _ | .invokevirtual _ => n == 3
  | _ => n == 1
def codeChk (y : MD) : Bool := y.code.all fun x => decide (decode y.bytes x.1 = .ok (x.2.1, x.2.2.1)) && lenOk x.2.1 x.2.2.1
def clsChk (P : PD) (y : MD) : Bool := match P.cls[y.cid]? with | some cd => cd.1 == y.name.cls | none => y.kind == 0
def mChk (P : PD) (y : MD) : Bool := plainName y.name.cls && sigChk y && codeChk y && clsChk P y && decide (y.name.cls ≠ "java/lang/invoke/MethodHandle") && decide (y.name.cls ≠ "java/lang/invoke/VarHandle") && (y.kind != 1 || (y.name.name == "<init>" && decide (y.ret = none)))
def chk (P : PD) : Bool := P.cls.all cChk && P.mth.all (mChk P)

/-! Plain and real values -/
def VR (ρ : List Addr) : Value → Value → Prop
  | .ref k, w => ∃ a, ρ[k]? = some a ∧ w = .ref a
  | v, w => w = v
def SR (ρ : List Addr) : List Value → List Value → Prop
  | [], ws => ws = []
  | v :: vs, ws => ∃ w ws', ws = w :: ws' ∧ VR ρ v w ∧ SR ρ vs ws'
def OV (ρ : List Addr) : Option Value → Option Value → Prop
  | none, w => w = none
  | some v, w => ∃ u, w = some u ∧ VR ρ v u
def WFc (A : Array Slot) : Prop := (∀ (i : Nat) w, A[i]? = some (.val w) → w.category = 2 → A[i + 1]? = some .second) ∧ ∀ (i : Nat), A[i]? = some .second → ∃ j w, i = j + 1 ∧ A[j]? = some (.val w) ∧ w.category = 2
def SlR (ρ : List Addr) : Slot → Option Slot → Prop
  | .unset, _ => True
  | .second, o => o = some .second
  | .val v, o => ∃ w, VR ρ v w ∧ o = some (.val w)
def LR (ρ : List Addr) (L : List Slot) (A : Array Slot) : Prop := A.size = L.length ∧ WFc A ∧ ∀ (i : Nat) s, L[i]? = some s → SlR ρ s A[i]?
theorem VR.mono {ρ t : List Addr} {v w : Value} (h : VR ρ v w) : VR (ρ ++ t) v w := by
  cases v <;> first | exact h | skip
  obtain ⟨a, h1, h2⟩ := h
  exact ⟨a, by rw [List.getElem?_append_left (List.getElem?_eq_some_iff.mp h1).1]; exact h1, h2⟩
theorem SR.mono {ρ t : List Addr} : ∀ {v w : List Value}, SR ρ v w → SR (ρ ++ t) v w
  | [], _, h => h
  | _ :: _, _, ⟨w, ws, h1, h2, h3⟩ => ⟨w, ws, h1, h2.mono, SR.mono h3⟩
theorem SlR.mono {ρ t : List Addr} {s : Slot} {o : Option Slot} (h : SlR ρ s o) : SlR (ρ ++ t) s o := by
  cases s with
  | unset => trivial
  | second => exact h
  | val v => obtain ⟨w, h1, h2⟩ := h; exact ⟨w, h1.mono, h2⟩
theorem LR.mono {ρ t : List Addr} {L : List Slot} {A : Array Slot} (h : LR ρ L A) : LR (ρ ++ t) L A := ⟨h.1, h.2.1, fun i s q => (h.2.2 i s q).mono⟩
theorem VR.cat {ρ : List Addr} {v w : Value} (h : VR ρ v w) : w.category = v.category := by
  cases v <;> first | (obtain ⟨a, -, rfl⟩ := h; rfl) | (cases h; rfl)
theorem SR.cat {ρ : List Addr} : ∀ {v w : List Value}, SR ρ v w → (w.map fun v => v.category).sum = catSum v
  | [], _, h => by cases h; rfl
  | _ :: _, _, ⟨w, ws, h1, h2, h3⟩ => by subst h1; simp [catSum, h2.cat, SR.cat h3]
theorem SR.len {ρ : List Addr} : ∀ {v w : List Value}, SR ρ v w → w.length = v.length
  | [], _, h => by cases h; rfl
  | _ :: _, _, ⟨w, ws, h1, h2, h3⟩ => by subst h1; simp [SR.len h3]
theorem SR.app {ρ : List Addr} : ∀ {v w v' w' : List Value}, SR ρ v w → SR ρ v' w' → SR ρ (v ++ v') (w ++ w')
  | [], _, _, _, h, h' => by cases h; exact h'
  | _ :: _, _, _, _, ⟨w, ws, h1, h2, h3⟩, h' => by subst h1; exact ⟨w, ws ++ _, rfl, h2, SR.app h3 h'⟩
theorem SR.rev {ρ : List Addr} : ∀ {v w : List Value}, SR ρ v w → SR ρ v.reverse w.reverse
  | [], _, h => by cases h; exact rfl
  | _ :: _, _, ⟨w, ws, h1, h2, h3⟩ => by subst h1; simp only [List.reverse_cons]; exact (SR.rev h3).app ⟨w, [], rfl, h2, rfl⟩
theorem SR.take {ρ : List Addr} : ∀ (n : Nat) {v w : List Value}, SR ρ v w → SR ρ (v.take n) (w.take n)
  | 0, _, _, _ => rfl
  | n + 1, [], _, h => by cases h; exact rfl
  | n + 1, _ :: _, _, ⟨w, ws, h1, h2, h3⟩ => by subst h1; exact ⟨w, _, rfl, h2, SR.take n h3⟩
theorem SR.drop {ρ : List Addr} : ∀ (n : Nat) {v w : List Value}, SR ρ v w → SR ρ (v.drop n) (w.drop n)
  | 0, _, _, h => h
  | n + 1, [], _, h => by cases h; exact rfl
  | n + 1, _ :: _, _, ⟨w, ws, h1, h2, h3⟩ => by subst h1; exact SR.drop n h3
theorem OV.list {ρ : List Addr} {v w : Option Value} (h : OV ρ v w) : SR ρ v.toList w.toList := by
  cases v with
  | none => cases h; exact rfl
  | some v => obtain ⟨u, rfl, h⟩ := h; exact ⟨u, [], rfl, h, rfl⟩
theorem LR.get {ρ : List Addr} {L : List Slot} {A : Array Slot} (h : LR ρ L A) {k : Nat} {v : Value} (g : getL L k = some v) : ∃ w, VR ρ v w ∧ A[k]? = some (.val w) := by
  unfold getL at g
  split at g
  · rename_i u q
    cases g
    exact h.2.2 k _ q
  · cases g
theorem forget_get : ∀ (er : List Bool) (L : List Slot) (i : Nat) (s : Slot), (forget er L)[i]? = some s → s = .unset ∨ L[i]? = some s
  | [], L, i, s, h => Or.inr h
  | _ :: _, [], i, s, h => by simp [forget] at h
  | true :: r, t :: L, 0, s, h => by simp [forget] at h; exact Or.inl h.symm
  | false :: r, t :: L, 0, s, h => by simp [forget] at h; exact Or.inr (by simp [h])
  | true :: r, t :: L, i + 1, s, h => by simp [forget] at h; simpa using forget_get r L i s h
  | false :: r, t :: L, i + 1, s, h => by simp [forget] at h; simpa using forget_get r L i s h
theorem forget_len : ∀ (er : List Bool) (L : List Slot), (forget er L).length = L.length
  | [], _ => rfl
  | _ :: _, [] => rfl
  | true :: r, _ :: L => by simp [forget, forget_len r L]
  | false :: r, _ :: L => by simp [forget, forget_len r L]
theorem LR.forget {ρ : List Addr} {A : Array Slot} (er : List Bool) {L : List Slot} (h : LR ρ L A) : LR ρ (forget er L) A :=
  ⟨by rw [forget_len]; exact h.1, h.2.1, fun i s q => by
    rcases forget_get er L i s q with rfl | z
    · trivial
    · exact h.2.2 i s z⟩
/-! Stores -/
theorem setAt_ok {A : Array Slot} {i : Nat} (h : i < A.size) (x : Slot) : setAt A i x = some (A.setIfInBounds i x) := by simp [setAt, h]
theorem get_set (A : Array Slot) (i j : Nat) (x : Slot) : (A.setIfInBounds i x)[j]? = if i = j then (if i < A.size then some x else none) else A[j]? := by
  rw [Array.getElem?_setIfInBounds]
theorem sl_unset {A : Array Slot} {k : Nat} {w : Value} (h : A[k]? = some .unset) : storeLocals A k w = storeSelf A k w := by
  unfold storeLocals; rw [h]; rfl
theorem sl_second {A : Array Slot} {k : Nat} {w : Value} (h : A[k]? = some .second) (hk : k - 1 < A.size) : storeLocals A k w = storeSelf (A.setIfInBounds (k - 1) .unset) k w := by
  unfold storeLocals; rw [h]
  show (setAt A (k - 1) .unset).bind _ = _
  rw [setAt_ok hk]; rfl
theorem sl_val2 {A : Array Slot} {k : Nat} {w u : Value} (h : A[k]? = some (.val u)) (hu : u.category = 2) (hk : k + 1 < A.size) : storeLocals A k w = storeSelf (A.setIfInBounds (k + 1) .unset) k w := by
  unfold storeLocals; rw [h]
  show (if u.category = 2 then (setAt A (k + 1) .unset).bind _ else _) = _
  rw [if_pos hu, setAt_ok hk]; rfl
theorem sl_val1 {A : Array Slot} {k : Nat} {w u : Value} (h : A[k]? = some (.val u)) (hu : ¬ u.category = 2) : storeLocals A k w = storeSelf A k w := by
  unfold storeLocals; rw [h]
  show (if u.category = 2 then (setAt A (k + 1) .unset).bind _ else _) = _
  rw [if_neg hu]
theorem ss_1 {A : Array Slot} {k : Nat} {w : Value} (hk : k < A.size) (hw : ¬ w.category = 2) : storeSelf A k w = some (A.setIfInBounds k (.val w)) := by
  unfold storeSelf; rw [setAt_ok hk]
  show (if w.category = 2 then _ else _) = _
  rw [if_neg hw]
theorem ss_2c {A : Array Slot} {k : Nat} {w u : Value} (hk : k < A.size) (hk1 : k + 1 < A.size) (hk2 : k + 2 < A.size) (hw : w.category = 2) (h : (A.setIfInBounds k (.val w))[k + 1]? = some (.val u)) (hu : u.category = 2) : storeSelf A k w = some (((A.setIfInBounds k (.val w)).setIfInBounds (k + 2) .unset).setIfInBounds (k + 1) .second) := by
  unfold storeSelf; rw [setAt_ok hk]
  show (if w.category = 2 then _ else _) = _
  rw [if_pos hw, h]
  show (if u.category = 2 then (setAt _ (k + 2) .unset).bind _ else _) = _
  rw [if_pos hu, setAt_ok (by simpa using hk2)]
  exact setAt_ok (by simpa using hk1) _
theorem ss_2 {A : Array Slot} {k : Nat} {w : Value} {o : Slot} (hk : k < A.size) (hk1 : k + 1 < A.size) (hw : w.category = 2) (h : (A.setIfInBounds k (.val w))[k + 1]? = some o) (ho : ¬ ∃ u, o = .val u ∧ u.category = 2) : storeSelf A k w = some ((A.setIfInBounds k (.val w)).setIfInBounds (k + 1) .second) := by
  unfold storeSelf; rw [setAt_ok hk]
  show (if w.category = 2 then _ else _) = _
  rw [if_pos hw, h]
  cases o with
  | unset => exact setAt_ok (by simpa using hk1) _
  | second => exact setAt_ok (by simpa using hk1) _
  | val u =>
    show (if u.category = 2 then _ else _) = _
    rw [if_neg fun z => ho ⟨u, rfl, z⟩]
    exact setAt_ok (by simpa using hk1) _
theorem store1_sim {ρ : List Addr} {L : List Slot} {A : Array Slot} (h : LR ρ L A) {k : Nat} {v w : Value} {L' : List Slot} (hs : st1 L k v = some L') (hv : VR ρ v w) (hc : w.category = 1) : ∃ A', storeLocals A k w = some A' ∧ LR ρ L' A' := by
  unfold st1 at hs
  split at hs
  · rename_i q
    cases hs
    simp only [Bool.and_eq_true] at q
    obtain ⟨⟨q1, q2⟩, q3⟩ := q
    obtain ⟨hA, ⟨w1, w2⟩, hl⟩ := h
    have hk : k < L.length := by
      rcases Nat.lt_or_ge k L.length with z | z
      · exact z
      · rw [List.getElem?_eq_none z] at q1; cases q1
    have hkA : k < A.size := hA ▸ hk
    obtain ⟨sl, hsl⟩ : ∃ sl, A[k]? = some sl := ⟨A[k], Array.getElem?_eq_getElem hkA⟩
    have hc2 : ¬ w.category = 2 := by rw [hc]; decide
    classical
    have key : ∃ A', storeLocals A k w = some A' ∧ A'.size = A.size ∧ (∀ j, A'[j]? = if j = k then some (.val w) else if (sl = .second ∧ j + 1 = k) ∨ ((∃ u, sl = .val u ∧ u.category = 2) ∧ j = k + 1) then some .unset else A[j]?) := by
      cases sl with
      | unset =>
        refine ⟨A.setIfInBounds k (.val w), by rw [sl_unset hsl]; exact ss_1 hkA hc2, by simp, fun j => ?_⟩
        rw [get_set]
        by_cases e : k = j
        · subst e; simp [hkA]
        · have e' : ¬ j = k := fun z => e z.symm
          simp [e, e']
      | second =>
        obtain ⟨j0, u, rfl, g1, g2⟩ := w2 k hsl
        refine ⟨(A.setIfInBounds j0 .unset).setIfInBounds (j0 + 1) (.val w), by rw [sl_second hsl (show j0 + 1 - 1 < A.size by omega)]; exact ss_1 (by simpa using hkA) hc2, by simp, fun j => ?_⟩
        rw [get_set, get_set]
        by_cases e : j0 + 1 = j
        · subst e; simp [hkA]
        · by_cases e2 : j0 = j
          · subst e2; simp; omega
          · have e' : ¬ j = j0 + 1 := fun z => e z.symm
            have e2' : ¬ j = j0 := fun z => e2 z.symm
            simp [e, e', e2, e2']
      | val u =>
        by_cases hu : u.category = 2
        · have g := w1 k u hsl hu
          have hk1 : k + 1 < A.size := (Array.getElem?_eq_some_iff.mp g).1
          refine ⟨(A.setIfInBounds (k + 1) .unset).setIfInBounds k (.val w), by rw [sl_val2 hsl hu hk1]; exact ss_1 (by simpa using hkA) hc2, by simp, fun j => ?_⟩
          rw [get_set, get_set]
          by_cases e : k = j
          · subst e; simp [hkA]
          · have e' : ¬ j = k := fun z => e z.symm
            by_cases e2 : k + 1 = j
            · subst e2; simp [hk1, hu]
            · have e2' : ¬ j = k + 1 := fun z => e2 z.symm
              simp [e, e', e2, e2']
        · refine ⟨A.setIfInBounds k (.val w), by rw [sl_val1 hsl hu]; exact ss_1 hkA hc2, by simp, fun j => ?_⟩
          rw [get_set]
          by_cases e : k = j
          · subst e; simp [hkA]
          · have e' : ¬ j = k := fun z => e z.symm
            simp [e, e', hu]
    obtain ⟨A', k1, k2, k3⟩ := key
    refine ⟨A', k1, by rw [k2, hA]; simp, ⟨fun i u g1 g2 => ?_, fun i g1 => ?_⟩, fun i s g => ?_⟩
    · rw [k3] at g1
      split at g1
      · cases g1; exact absurd g2 hc2
      · rename_i e1
        split at g1
        · cases g1
        · rename_i e2
          have g3 := w1 i u g1 g2
          rw [k3]
          split
          · rename_i e3
            have : sl = .second := by rw [← e3] at hsl; exact Option.some.inj (hsl.symm.trans g3)
            exact absurd (Or.inl ⟨this, e3⟩) e2
          · rename_i e3
            split
            · rename_i e4
              rcases e4 with ⟨z1, z2⟩ | ⟨⟨u', z1, z2⟩, z3⟩
              · exfalso
                have : k = i + 1 + 1 := z2.symm
                subst this
                rw [z1] at hsl
                obtain ⟨j0, u0, y1, y2, y3⟩ := w2 _ hsl
                have : j0 = i + 1 := by omega
                subst this
                rw [g3] at y2; cases y2
              · exact absurd (by omega) e1
            · exact g3
    · rw [k3] at g1
      split at g1
      · cases g1
      · rename_i e1
        split at g1
        · cases g1
        · rename_i e2
          obtain ⟨j, u, z1, z2, z3⟩ := w2 i g1
          refine ⟨j, u, z1, ?_, z3⟩
          rw [k3]
          split
          · rename_i e3
            subst e3
            have : sl = .val u := Option.some.inj (hsl.symm.trans z2)
            exact absurd (Or.inr ⟨⟨u, this, z3⟩, z1⟩) e2
          · split
            · rename_i e3 e4
              rcases e4 with ⟨y1, y2⟩ | ⟨⟨u', y1, y2⟩, y3⟩
              · exact absurd (z1.trans y2) e1
              · subst y3
                have g5 := w1 k u' (y1 ▸ hsl) y2
                rw [z2] at g5; cases g5
            · exact z2
    · rw [List.getElem?_set] at g
      split at g
      · rename_i e
        subst e
        cases g
        exact ⟨w, hv, by rw [k3]; simp⟩
      · rename_i e
        have e' : ¬ i = k := fun z => e z.symm
        have g2 := hl i s g
        rw [k3, if_neg e']
        split
        · rename_i e4
          cases s with
          | unset => trivial
          | second =>
            exfalso
            have g2' : A[i]? = some .second := g2
            rcases e4 with ⟨y1, y2⟩ | ⟨⟨u', y1, y2⟩, y3⟩
            · obtain ⟨j0, u0, x1, x2, x3⟩ := w2 k (y1 ▸ hsl)
              have : i = j0 := by omega
              subst this
              rw [x2] at g2'; cases g2'
            · subst y3
              rw [g] at q3
              simp [isSec] at q3
          | val v0 =>
            exfalso
            obtain ⟨w0, x1, x2⟩ := g2
            rcases e4 with ⟨y1, y2⟩ | ⟨⟨u', y1, y2⟩, y3⟩
            · obtain ⟨j0, u0, z1, z2, z3⟩ := w2 k (y1 ▸ hsl)
              have : i = j0 := by omega
              subst this
              have hw0 : w0 = u0 := by rw [x2] at z2; cases z2; rfl
              have hcat : v0.category = 2 := by rw [← x1.cat, hw0]; exact z3
              subst y2
              have : L[i + 1 - 1]? = some (.val v0) := g
              rw [this] at q2
              simp [isC2, hcat] at q2
            · subst y3
              have g5 := w1 k u' (y1 ▸ hsl) y2
              rw [x2] at g5; cases g5
        · exact g2
  · cases hs
end Jvm.Own
namespace Jvm.Own
open Jvm Jvm.ClassFile Sem Op Lib Jvm.Free Jvm.Stand Jvm.LawKit Jvm.RoadKit Bundle
theorem store2_sim {ρ : List Addr} {L : List Slot} {A : Array Slot} (h : LR ρ L A) {k : Nat} {v w : Value} {L' : List Slot} (hs : st2 L k v = some L') (hv : VR ρ v w) (hc : w.category = 2) : ∃ A', storeLocals A k w = some A' ∧ LR ρ L' A' := by
  unfold st2 at hs
  split at hs
  · rename_i q
    cases hs
    simp only [Bool.and_eq_true] at q
    obtain ⟨⟨q1, q2⟩, q3⟩ := q
    obtain ⟨hA, ⟨w1, w2⟩, hl⟩ := h
    have hk1 : k + 1 < L.length := by
      rcases Nat.lt_or_ge (k + 1) L.length with z | z
      · exact z
      · rw [List.getElem?_eq_none z] at q1
        cases h0 : L[k]? with
        | none => rw [h0] at q1; cases q1
        | some s0 => rw [h0] at q1; cases s0 <;> cases q1
    have hk : k < L.length := by omega
    have hkA : k < A.size := hA ▸ hk
    have hkA1 : k + 1 < A.size := hA ▸ hk1
    obtain ⟨sl, hsl⟩ : ∃ sl, A[k]? = some sl := ⟨A[k], Array.getElem?_eq_getElem hkA⟩
    obtain ⟨sm, hsm⟩ : ∃ sm, A[k + 1]? = some sm := ⟨A[k + 1], Array.getElem?_eq_getElem hkA1⟩
    have n1 : ¬ k = k + 1 := by omega
    have n2 : ¬ k + 2 = k + 1 := by omega
    have n3 : ¬ k + 2 = k := by omega
    classical
    have key : ∃ A', storeLocals A k w = some A' ∧ A'.size = A.size ∧ (∀ j, A'[j]? = if j = k then some (.val w) else if j = k + 1 then some .second else if (sl = .second ∧ j + 1 = k) ∨ ((∃ u, sm = .val u ∧ u.category = 2) ∧ j = k + 2) then some .unset else A[j]?) := by
      by_cases hm : ∃ u, sm = .val u ∧ u.category = 2
      · obtain ⟨u, rfl, hu⟩ := hm
        have g := w1 (k + 1) u hsm hu
        have hk2 : k + 2 < A.size := (Array.getElem?_eq_some_iff.mp g).1
        cases sl with
        | unset =>
          refine ⟨((A.setIfInBounds k (.val w)).setIfInBounds (k + 2) .unset).setIfInBounds (k + 1) .second, ?_, by simp, fun j => ?_⟩
          · rw [sl_unset hsl]; exact ss_2c hkA hkA1 hk2 hc (by rw [get_set, if_neg n1]; exact hsm) hu
          · rw [get_set, get_set, get_set]
            by_cases e0 : j = k
            · subst e0; simp [hkA]
            · by_cases e1 : j = k + 1
              · subst e1; simp [hkA1]
              · by_cases e2 : j = k + 2
                · subst e2; simp [hk2, hu]
                · have e0' : ¬ k = j := fun z => e0 z.symm
                  have e1' : ¬ k + 1 = j := fun z => e1 z.symm
                  have e2' : ¬ k + 2 = j := fun z => e2 z.symm
                  simp [e0, e1, e2, e0', e1', e2']
        | second =>
          obtain ⟨j0, u0, rfl, g1, g2⟩ := w2 k hsl
          have hj0 : j0 < A.size := by omega
          refine ⟨(((A.setIfInBounds j0 .unset).setIfInBounds (j0 + 1) (.val w)).setIfInBounds (j0 + 1 + 2) .unset).setIfInBounds (j0 + 1 + 1) .second, ?_, by simp, fun j => ?_⟩
          · have m1 : ¬ j0 + 1 = j0 + 1 + 1 := by omega
            have m2 : ¬ j0 = j0 + 1 + 1 := by omega
            rw [sl_second hsl (show j0 + 1 - 1 < A.size by omega)]
            exact ss_2c (by simpa using hkA) (by simpa using hkA1) (by simpa using hk2) hc (by rw [get_set, if_neg m1, get_set, if_neg (by omega)]; exact hsm) hu
          · rw [get_set, get_set, get_set, get_set]
            by_cases e0 : j = j0 + 1
            · subst e0; simp [hkA]
            · by_cases e1 : j = j0 + 1 + 1
              · subst e1; simp [hkA1]
              · by_cases e2 : j = j0 + 1 + 2
                · subst e2; simp [hk2, hu]
                · by_cases e3 : j = j0
                  · subst e3
                    rw [if_neg (by omega), if_neg (by omega), if_neg (by omega), if_pos rfl, if_pos hj0, if_neg (by omega), if_neg (by omega), if_pos (Or.inl ⟨rfl, rfl⟩)]
                  · have e0' : ¬ j0 + 1 = j := fun z => e0 z.symm
                    have e1' : ¬ j0 + 1 + 1 = j := fun z => e1 z.symm
                    have e2' : ¬ j0 + 1 + 2 = j := fun z => e2 z.symm
                    have e3' : ¬ j0 = j := fun z => e3 z.symm
                    simp [e0, e1, e2, e3, e0', e1', e2', e3']
        | val u1 =>
          have hu1 : ¬ u1.category = 2 := fun z => by have := w1 k u1 hsl z; rw [hsm] at this; cases this
          refine ⟨((A.setIfInBounds k (.val w)).setIfInBounds (k + 2) .unset).setIfInBounds (k + 1) .second, ?_, by simp, fun j => ?_⟩
          · rw [sl_val1 hsl hu1]; exact ss_2c hkA hkA1 hk2 hc (by rw [get_set, if_neg n1]; exact hsm) hu
          · rw [get_set, get_set, get_set]
            by_cases e0 : j = k
            · subst e0; simp [hkA]
            · by_cases e1 : j = k + 1
              · subst e1; simp [hkA1]
              · by_cases e2 : j = k + 2
                · subst e2; simp [hk2, hu]
                · have e0' : ¬ k = j := fun z => e0 z.symm
                  have e1' : ¬ k + 1 = j := fun z => e1 z.symm
                  have e2' : ¬ k + 2 = j := fun z => e2 z.symm
                  simp [e0, e1, e2, e0', e1', e2']
      · cases sl with
        | unset =>
          refine ⟨(A.setIfInBounds k (.val w)).setIfInBounds (k + 1) .second, ?_, by simp, fun j => ?_⟩
          · rw [sl_unset hsl]; exact ss_2 hkA hkA1 hc (by rw [get_set, if_neg n1]; exact hsm) hm
          · rw [get_set, get_set]
            by_cases e0 : j = k
            · subst e0; simp [hkA]
            · by_cases e1 : j = k + 1
              · subst e1; simp [hkA1]
              · have e0' : ¬ k = j := fun z => e0 z.symm
                have e1' : ¬ k + 1 = j := fun z => e1 z.symm
                simp [e0, e1, e0', e1', hm]
        | second =>
          obtain ⟨j0, u0, rfl, g1, g2⟩ := w2 k hsl
          have hj0 : j0 < A.size := by omega
          have m1 : ¬ j0 + 1 = j0 + 1 + 1 := by omega
          have m2 : ¬ j0 = j0 + 1 + 1 := by omega
          refine ⟨((A.setIfInBounds j0 .unset).setIfInBounds (j0 + 1) (.val w)).setIfInBounds (j0 + 1 + 1) .second, ?_, by simp, fun j => ?_⟩
          · rw [sl_second hsl (show j0 + 1 - 1 < A.size by omega)]
            exact ss_2 (by simpa using hkA) (by simpa using hkA1) hc (by rw [get_set, if_neg m1, get_set, if_neg (by omega)]; exact hsm) hm
          · rw [get_set, get_set, get_set]
            by_cases e0 : j = j0 + 1
            · subst e0; simp [hkA]
            · by_cases e1 : j = j0 + 1 + 1
              · subst e1; simp [hkA1]
              · by_cases e3 : j = j0
                · subst e3
                  rw [if_neg (by omega), if_neg (by omega), if_pos rfl, if_pos hj0, if_neg (by omega), if_neg (by omega), if_pos (Or.inl ⟨rfl, rfl⟩)]
                · have e0' : ¬ j0 + 1 = j := fun z => e0 z.symm
                  have e1' : ¬ j0 + 1 + 1 = j := fun z => e1 z.symm
                  have e3' : ¬ j0 = j := fun z => e3 z.symm
                  simp [e0, e1, e3, e0', e1', e3', hm]
        | val u1 =>
          by_cases hu1 : u1.category = 2
          · refine ⟨((A.setIfInBounds (k + 1) .unset).setIfInBounds k (.val w)).setIfInBounds (k + 1) .second, ?_, by simp, fun j => ?_⟩
            · rw [sl_val2 hsl hu1 hkA1]
              exact ss_2 (o := .unset) (by simpa using hkA) (by simpa using hkA1) hc (by rw [get_set, if_neg n1, get_set, if_pos rfl, if_pos hkA1]) (by rintro ⟨u, z, -⟩; cases z)
            · rw [get_set, get_set, get_set]
              by_cases e0 : j = k
              · subst e0; simp [hkA]
              · by_cases e1 : j = k + 1
                · subst e1; simp [hkA1]
                · have e0' : ¬ k = j := fun z => e0 z.symm
                  have e1' : ¬ k + 1 = j := fun z => e1 z.symm
                  simp [e0, e1, e0', e1', hm]
          · refine ⟨(A.setIfInBounds k (.val w)).setIfInBounds (k + 1) .second, ?_, by simp, fun j => ?_⟩
            · rw [sl_val1 hsl hu1]; exact ss_2 hkA hkA1 hc (by rw [get_set, if_neg n1]; exact hsm) hm
            · rw [get_set, get_set]
              by_cases e0 : j = k
              · subst e0; simp [hkA]
              · by_cases e1 : j = k + 1
                · subst e1; simp [hkA1]
                · have e0' : ¬ k = j := fun z => e0 z.symm
                  have e1' : ¬ k + 1 = j := fun z => e1 z.symm
                  simp [e0, e1, e0', e1', hm]
    obtain ⟨A', k1, k2, k3⟩ := key
    refine ⟨A', k1, by rw [k2, hA]; simp, ⟨fun i u g1 g2 => ?_, fun i g1 => ?_⟩, fun i s g => ?_⟩
    · by_cases e1 : i = k
      · subst e1; rw [k3]; simp
      · have g1' := g1
        rw [k3, if_neg e1] at g1'
        split at g1'
        · cases g1'
        · rename_i e2
          split at g1'
          · cases g1'
          · rename_i e4
            have g3 := w1 i u g1' g2
            rw [k3]
            have c1 : ¬ i + 1 = k := fun e3 => by
              have : sl = .second := by rw [← e3] at hsl; exact Option.some.inj (hsl.symm.trans g3)
              exact e4 (Or.inl ⟨this, e3⟩)
            have c2 : ¬ i + 1 = k + 1 := by omega
            have c3 : ¬ ((sl = .second ∧ i + 1 + 1 = k) ∨ ((∃ u, sm = .val u ∧ u.category = 2) ∧ i + 1 = k + 2)) := fun z => by
              rcases z with ⟨z1, z2⟩ | ⟨z1, z2⟩
              · subst z2
                rw [z1] at hsl
                obtain ⟨j0, u0, y1, y2, y3⟩ := w2 _ hsl
                have : j0 = i + 1 := by omega
                subst this
                rw [g3] at y2; cases y2
              · omega
            rw [if_neg c1, if_neg c2, if_neg c3]
            exact g3
    · rw [k3] at g1
      split at g1
      · cases g1
      · rename_i e1
        split at g1
        · rename_i e2
          exact ⟨k, w, e2, by rw [k3]; simp, hc⟩
        · rename_i e2
          split at g1
          · cases g1
          · rename_i e4
            obtain ⟨j, u, z1, z2, z3⟩ := w2 i g1
            refine ⟨j, u, z1, ?_, z3⟩
            rw [k3]
            have c1 : ¬ j = k := by omega
            have c2 : ¬ j = k + 1 := fun e => by
              subst e
              exact e4 (Or.inr ⟨⟨u, Option.some.inj (hsm.symm.trans z2), z3⟩, by omega⟩)
            have c3 : ¬ ((sl = .second ∧ j + 1 = k) ∨ ((∃ u, sm = .val u ∧ u.category = 2) ∧ j = k + 2)) := fun z => by
              rcases z with ⟨y1, y2⟩ | ⟨⟨u', y1, y2⟩, y3⟩
              · exact e1 (z1.trans y2)
              · subst y3
                have g5 := w1 (k + 1) u' (y1 ▸ hsm) y2
                rw [z2] at g5; cases g5
            rw [if_neg c1, if_neg c2, if_neg c3]
            exact z2
    · rw [List.getElem?_set] at g
      split at g
      · rename_i e
        subst e
        have : k + 1 < (L.set k (.val v)).length := by simp [hk1]
        rw [if_pos this] at g
        cases g
        show A'[k + 1]? = some .second
        rw [k3]; simp
      · rename_i e
        have e' : ¬ i = k + 1 := fun z => e z.symm
        rw [List.getElem?_set] at g
        split at g
        · rename_i e0
          subst e0
          cases g
          exact ⟨w, hv, by rw [k3]; simp⟩
        · rename_i e0
          have e0' : ¬ i = k := fun z => e0 z.symm
          have g2 := hl i s g
          rw [k3, if_neg e0', if_neg e']
          split
          · rename_i e4
            cases s with
            | unset => trivial
            | second =>
              exfalso
              have g2' : A[i]? = some .second := g2
              rcases e4 with ⟨y1, y2⟩ | ⟨⟨u', y1, y2⟩, y3⟩
              · obtain ⟨j0, u0, x1, x2, x3⟩ := w2 k (y1 ▸ hsl)
                have : i = j0 := by omega
                subst this
                rw [x2] at g2'; cases g2'
              · subst y3
                rw [g] at q3
                simp [isSec] at q3
            | val v0 =>
              exfalso
              obtain ⟨w0, x1, x2⟩ := g2
              rcases e4 with ⟨y1, y2⟩ | ⟨⟨u', y1, y2⟩, y3⟩
              · obtain ⟨j0, u0, z1, z2, z3⟩ := w2 k (y1 ▸ hsl)
                have : i = j0 := by omega
                subst this
                have hw0 : w0 = u0 := by rw [x2] at z2; cases z2; rfl
                have hcat : v0.category = 2 := by rw [← x1.cat, hw0]; exact z3
                subst y2
                have : L[i + 1 - 1]? = some (.val v0) := g
                rw [this] at q2
                simp [isC2, hcat] at q2
              · subst y3
                have g5 := w1 (k + 1) u' (y1 ▸ hsm) y2
                rw [x2] at g5; cases g5
          · exact g2
  · cases hs
/-! The frame with which a method is entered -/
theorem entA_app (ws : List Value) : ∀ acc : Array Slot, ws.foldl (fun acc v => if v.category = 2 then (acc.push (.val v)).push .second else acc.push (.val v)) acc = acc ++ (entA ws).toArray := by
  induction ws with
  | nil => intro acc; simp [entA]
  | cons v r ih =>
    intro acc
    rw [List.foldl_cons, ih]
    show _ = acc ++ (if v.category = 2 then .val v :: .second :: entA r else .val v :: entA r).toArray
    by_cases h : v.category = 2
    · rw [if_pos h, if_pos h]; simp
    · rw [if_neg h, if_neg h]; simp
theorem argsToLocals_eq (ws : List Value) (n : Nat) : argsToLocals ws.toArray n = (entL ws n).toArray := by
  unfold argsToLocals entL
  have h := entA_app ws #[]
  simp only [List.foldl_toArray', List.size_toArray] at *
  simp [h]
theorem entA_len {ρ : List Addr} : ∀ {v w : List Value}, SR ρ v w → (entA w).length = (entA v).length
  | [], _, h => by cases h; rfl
  | _ :: _, _, ⟨w, ws, h1, h2, h3⟩ => by
    subst h1
    unfold entA
    rw [h2.cat]
    split <;> simp [entA_len h3]
theorem entA_rel {ρ : List Addr} : ∀ {v w : List Value}, SR ρ v w → ∀ (m i : Nat) (s : Slot), (entA v ++ List.replicate m .unset)[i]? = some s → SlR ρ s (entA w ++ List.replicate m .unset)[i]?
  | [], _, h, m, i, s, q => by
    cases h
    simp only [entA, List.nil_append] at q ⊢
    rw [List.getElem?_replicate] at q
    split at q
    · cases q; trivial
    · cases q
  | v :: vs, _, ⟨w, ws, h1, h2, h3⟩, m, i, s, q => by
    subst h1
    unfold entA at q ⊢
    rw [h2.cat]
    split
    · rename_i c
      rw [if_pos c] at q
      match i, q with
      | 0, q => simp at q; subst q; exact ⟨w, h2, by simp⟩
      | 1, q => simp at q; subst q; simp [SlR]
      | i + 2, q => simp at q ⊢; exact entA_rel h3 m i s q
    · rename_i c
      rw [if_neg c] at q
      match i, q with
      | 0, q => simp at q; subst q; exact ⟨w, h2, by simp⟩
      | i + 1, q => simp at q ⊢; exact entA_rel h3 m i s q
theorem entA_wf : ∀ (ws : List Value) (m : Nat), (∀ (i : Nat) w, (entA ws ++ List.replicate m .unset)[i]? = some (.val w) → w.category = 2 → (entA ws ++ List.replicate m .unset)[i + 1]? = some .second) ∧
    ∀ (i : Nat), (entA ws ++ List.replicate m .unset)[i]? = some .second → ∃ j w, i = j + 1 ∧ (entA ws ++ List.replicate m .unset)[j]? = some (.val w) ∧ w.category = 2
  | [], m => by
    constructor
    · intro i w q
      simp only [entA, List.nil_append, List.getElem?_replicate] at q
      split at q <;> cases q
    · intro i q
      simp only [entA, List.nil_append, List.getElem?_replicate] at q
      split at q <;> cases q
  | v :: vs, m => by
    obtain ⟨h1, h2⟩ := entA_wf vs m
    unfold entA
    split
    · rename_i c
      constructor
      · intro i w q
        match i, q with
        | 0, q => intro _; simp
        | 1, q => simp at q
        | i + 2, q => simp at q ⊢; exact h1 i w q
      · intro i q
        match i, q with
        | 0, q => simp at q
        | 1, q => exact ⟨0, v, rfl, by simp, c⟩
        | i + 2, q =>
          simp at q
          obtain ⟨j, w, e, g1, g2⟩ := h2 i q
          exact ⟨j + 2, w, by omega, by simpa using g1, g2⟩
    · rename_i c
      constructor
      · intro i w q
        match i, q with
        | 0, q => intro z; simp at q; subst q; exact absurd z c
        | i + 1, q => simp at q ⊢; exact h1 i w q
      · intro i q
        match i, q with
        | 0, q => simp at q
        | i + 1, q =>
          simp at q
          obtain ⟨j, w, e, g1, g2⟩ := h2 i q
          exact ⟨j + 1, w, by omega, by simpa using g1, g2⟩
theorem LR.enter {ρ : List Addr} {v w : List Value} (h : SR ρ v w) {n : Nat} (hn : (entA v).length ≤ n) : LR ρ (entL v n) (argsToLocals w.toArray n) ∧ (argsToLocals w.toArray n).size = n := by
  rw [argsToLocals_eq]
  have hl := entA_len h
  refine ⟨⟨by simp [entL, hl], ?_, fun i s q => ?_⟩, by simp [entL, hl]; omega⟩
  · obtain ⟨h1, h2⟩ := entA_wf w (n - (entA w).length)
    exact ⟨fun i u q c => by simpa [entL] using h1 i u (by simpa [entL] using q) c, fun i q => by
      obtain ⟨j, u, e, g1, g2⟩ := h2 i (by simpa [entL] using q)
      exact ⟨j, u, e, by simpa [entL] using g1, g2⟩⟩
  · unfold entL at q ⊢
    rw [hl]
    simpa using entA_rel h _ i s q
end Jvm.Own
namespace Jvm.RoadKit
open Sem ClassFile Op Lib Jvm.Stand Jvm.Free Jvm.LawKit
section New
variable {p : Program} {l : Launch} {e : Env} {R : Room} {s : State} {m : MethodId} {args : Array Value} {below : List Frame} {meth : Method} {c : Code} {T : State} {locs : List Loc} {cells slots : Nat}
theorem retI (X : Stand p l e R s m args below meth c T locs cells slots) (hx : p.tables.exec = Jvm.exec) {pc : Nat} {Ls : Array Slot} {z : Int32} {rest : List Value} (hret : meth.sig.returnType = some .int) (hd : decode c.code pc = .ok (.ireturn, 1)) {fs : List Frame}
    (hl : ∀ (f : JFrame) (acts : List Action), f.method = m → f.locked = none → f.entered = [] → (doReturn e (T.setTop f) acts (some (.int z))).1 = T.setFrames fs) : Steps p.tables e below (T.setTop (mkF m pc Ls (.int z :: rest))) (T.setFrames fs) := by
  have hm' : T.vm.method? m = some meth := X.method'
  have hn : narrow .int (.int z) = .int z := rfl
  show Steps p.tables e below (T.setTop { method := m, pc := pc, locals := Ls, stack := _ :: rest, locked := none }) _
  jvm_step X.here [X.here.top, hx, hd, hm', hret, hn]
  first | (intro acts; rw [hl _ acts rfl rfl rfl]) | rw [hl _ _ rfl rfl rfl]
  exact Steps.refl _
end New
end Jvm.RoadKit
namespace Jvm.Own
open Jvm Jvm.ClassFile Sem Op Lib Jvm.Free Jvm.Stand Jvm.LawKit Jvm.RoadKit Bundle
/-! The plain heap and the real one -/
def tyA (b : Bool) : FieldType := if b then .boolean else .int
def CR (P : PD) (Z : State) (h : Heap) (ρ : List Addr) (a : Addr) : ACell → Prop
  | .inl (c, fs) => ∃ cd, P.cls[c]? = some cd ∧ Exa Z h a cd.1 ∧ fs.length = cd.2.2.length ∧ ∀ (i : Nat) v fd, fs[i]? = some v → cd.2.2[i]? = some fd → ∃ w, VR ρ v w ∧ Fld Z h a cd.1 fd.1 fd.2.1 w
  | .inr (.inl (b, L)) => ∃ cl, Arr Z h a cl (tyA b) ∧ cl.slots.size = L.length ∧ L.length < 2 ^ 31 ∧ ∀ (i : Nat) x, L[i]? = some x → cl.slots[i]? = some (.int x)
  | .inr (.inr L) => ∃ cl, Arr Z h a cl .long ∧ cl.slots.size = L.length ∧ L.length < 2 ^ 31 ∧ ∀ (i : Nat) x, L[i]? = some x → cl.slots[i]? = some (.long x)
def HR (P : PD) (Z : State) (n0 : Nat) (h : Heap) (ρ : List Addr) (H : AHeap) : Prop :=
  n0 ≤ h.size ∧ ρ.length = H.length ∧ (∀ (i j : Nat) a, ρ[i]? = some a → ρ[j]? = some a → i = j) ∧ (∀ (k : Nat) a, ρ[k]? = some a → P.nr ≤ k → n0 ≤ a) ∧ ∀ (k : Nat) a c, ρ[k]? = some a → H[k]? = some c → CR P Z h ρ a c
section Heaps
variable {P : PD} {Z : State} {n0 : Nat} {h h' : Heap} {ρ : List Addr} {H : AHeap} {a : Addr} {k : Nat} {a0 : Array Value}
theorem CR.lt {c : ACell} (q : CR P Z h ρ a c) : a < h.size := by
  match c, q with
  | .inl (_, _), q => obtain ⟨cd, -, E, -⟩ := q; exact E.lt
  | .inr (.inl (_, _)), q => obtain ⟨cl, A, -⟩ := q; exact A.lt
  | .inr (.inr _), q => obtain ⟨cl, A, -⟩ := q; exact A.lt
theorem HR.at (q : HR P Z n0 h ρ H) {c : ACell} (hc : H[k]? = some c) : ∃ a, ρ[k]? = some a ∧ CR P Z h ρ a c := by
  obtain ⟨-, q1, -, -, q4⟩ := q
  have hk : k < ρ.length := by rw [q1]; exact (List.getElem?_eq_some_iff.mp hc).1
  exact ⟨ρ[k], List.getElem?_eq_getElem hk, q4 k _ c (List.getElem?_eq_getElem hk) hc⟩
theorem HR.lt (q : HR P Z n0 h ρ H) (hk : ρ[k]? = some a) : a < h.size := by
  obtain ⟨-, q1, -, -, q4⟩ := q
  have hk' : k < H.length := by rw [← q1]; exact (List.getElem?_eq_some_iff.mp hk).1
  exact (q4 k a _ hk (List.getElem?_eq_getElem hk')).lt
theorem CR.grow {t : List Addr} {c : ACell} (E : Ext h h') (q : CR P Z h ρ a c) : CR P Z h' (ρ ++ t) a c := by
  match c, q with
  | .inl (_, _), ⟨cd, q1, q2, q3, q4⟩ => exact ⟨cd, q1, q2.ext E, q3, fun i v fd g1 g2 => by obtain ⟨w, z1, z2⟩ := q4 i v fd g1 g2; exact ⟨w, z1.mono, z2.ext E⟩⟩
  | .inr (.inl (_, _)), ⟨cl, q1, q2⟩ => exact ⟨cl, q1.ext E, q2⟩
  | .inr (.inr _), ⟨cl, q1, q2⟩ => exact ⟨cl, q1.ext E, q2⟩
theorem HR.push {c : ACell} (q : HR P Z n0 h ρ H) (E : Ext h h') (hc : CR P Z h' (ρ ++ [h.size]) h.size c) : HR P Z n0 h' (ρ ++ [h.size]) (H ++ [c]) := by
  have q0 := q
  obtain ⟨q1, q2, q3, q4, q5⟩ := q
  have old : ∀ (i : Nat) b, (ρ ++ [h.size])[i]? = some b → (ρ[i]? = some b ∧ b < h.size) ∨ (i = ρ.length ∧ b = h.size) := fun i b g => by
    rw [List.getElem?_append] at g
    split at g
    · exact Or.inl ⟨g, q0.lt g⟩
    · rename_i z
      right
      have : i - ρ.length = 0 := by
        rcases Nat.eq_zero_or_pos (i - ρ.length) with y | y
        · exact y
        · rw [List.getElem?_eq_none (by simp; omega)] at g; cases g
      rw [this] at g
      simp at g
      exact ⟨by omega, g.symm⟩
  refine ⟨Nat.le_trans q1 E.1, by simp [q2], fun i j b g1 g2 => ?_, fun i b g1 g2 => ?_, fun i b c' g1 g2 => ?_⟩
  · rcases old i b g1 with ⟨y1, y2⟩ | ⟨y1, y2⟩ <;> rcases old j b g2 with ⟨z1, z2⟩ | ⟨z1, z2⟩
    · exact q3 i j b y1 z1
    · exact absurd (z2 ▸ y2) (Nat.lt_irrefl _)
    · exact absurd (y2 ▸ z2) (Nat.lt_irrefl _)
    · rw [y1, z1]
  · rcases old i b g1 with ⟨y1, y2⟩ | ⟨y1, y2⟩
    · exact q4 i b y1 g2
    · rw [y2]; exact q1
  · rcases old i b g1 with ⟨y1, y2⟩ | ⟨y1, y2⟩
    · have hi : i < H.length := by rw [← q2]; exact (List.getElem?_eq_some_iff.mp y1).1
      rw [List.getElem?_append_left hi] at g2
      exact (q5 i b c' y1 g2).grow E
    · subst y1 y2
      rw [q2] at g2
      simp at g2
      subst g2
      exact hc
theorem CR.other {v : Value} {sl : Nat} {b : Addr} {c : ACell} (W : Wr h h' a sl v) (ne : b ≠ a) (q : CR P Z h ρ b c) : CR P Z h' ρ b c := by
  match c, q with
  | .inl (_, _), ⟨cd, q1, q2, q3, q4⟩ => exact ⟨cd, q1, q2.wr W, q3, fun i v fd g1 g2 => by obtain ⟨w, z1, z2⟩ := q4 i v fd g1 g2; exact ⟨w, z1, z2.other W (Or.inl ne)⟩⟩
  | .inr (.inl (_, _)), ⟨cl, q1, q2⟩ => exact ⟨cl, q1.other W ne, q2⟩
  | .inr (.inr _), ⟨cl, q1, q2⟩ => exact ⟨cl, q1.other W ne, q2⟩
theorem HR.set {v : Value} {sl : Nat} {c : ACell} (q : HR P Z n0 h ρ H) (hk : ρ[k]? = some a) (W : Wr h h' a sl v) (hc : CR P Z h' ρ a c) : HR P Z n0 h' ρ (H.set k c) := by
  obtain ⟨q1, q2, q3, q4, q5⟩ := q
  refine ⟨by rw [W.size]; exact q1, by simp [q2], q3, q4, fun i b c' g1 g2 => ?_⟩
  rw [List.getElem?_set] at g2
  split at g2
  · rename_i e
    subst e
    split at g2
    · cases g2
      rw [hk] at g1; cases g1
      exact hc
    · cases g2
  · rename_i e
    exact (q5 i b c' g1 g2).other W fun z => e (q3 k i a hk (z ▸ g1))
theorem nodup_ne : ∀ {l : List String}, nodup l = true → ∀ {i j : Nat} {x y : String}, l[i]? = some x → l[j]? = some y → i ≠ j → x ≠ y
  | [], _, i, j, x, y, h1, _, _ => by simp at h1
  | z :: r, hn, i, j, x, y, h1, h2, ne => by
    simp only [nodup, Bool.and_eq_true, Bool.not_eq_true', List.contains_eq_mem, decide_eq_false_iff_not] at hn
    match i, j, h1, h2, ne with
    | 0, 0, _, _, ne => exact absurd rfl ne
    | 0, j + 1, h1, h2, _ => simp at h1 h2; subst h1; exact fun e => hn.1 (e ▸ List.mem_of_getElem? h2)
    | i + 1, 0, h1, h2, _ => simp at h1 h2; subst h2; exact fun e => hn.1 (e ▸ List.mem_of_getElem? h1)
    | i + 1, j + 1, h1, h2, ne => simp at h1 h2; exact nodup_ne hn.2 h1 h2 (fun e => ne (by rw [e]))
theorem laid_of {C : String} {f : FD} (w : (fWord C f).before a0 Z = true) : Laid Z a0 C C f.1 f.2.1 := by
  unfold fWord at w
  split at w
  · exact Or.inr w
  · exact Or.inl w
theorem HR.putF {c j : Nat} {fs : List Value} {cd : CD} {fd : FD} {v w : Value} (q : HR P Z n0 h ρ H) (hk : ρ[k]? = some a) (hc : H[k]? = some (.inl (c, fs))) (hcd : P.cls[c]? = some cd) (hfd : cd.2.2[j]? = some fd)
    (hck : cChk cd = true) (hl : ∀ f ∈ cd.2.2, (fWord cd.1 f).before a0 Z = true) (W : Wr h h' a (RoadKit.slotOf Z cd.1 fd.1 fd.2.1) w) (hv : VR ρ v w) : HR P Z n0 h' ρ (H.set k (.inl (c, fs.set j v))) := by
  obtain ⟨a', ha, cr⟩ := q.at hc
  rw [hk] at ha; cases ha
  obtain ⟨cd', q1, q2, q3, q4⟩ := cr
  rw [hcd] at q1; cases q1
  refine q.set hk W ⟨cd, hcd, q2.wr W, by simp [q3], fun i v0 fd' g1 g2 => ?_⟩
  simp only [cChk, Bool.and_eq_true, List.all_eq_true] at hck
  obtain ⟨n1, n2⟩ := hck
  by_cases e : j = i
  · subst e
    rw [hfd] at g2; cases g2
    rw [List.getElem?_set] at g1
    split at g1
    · split at g1
      · cases g1
        rename_i z
        obtain ⟨w0, -, F⟩ := q4 j _ fd (List.getElem?_eq_getElem z) hfd
        exact ⟨w, hv, F.same W⟩
      · cases g1
    · rename_i z; exact absurd rfl z
  · rw [List.getElem?_set_ne e] at g1
    obtain ⟨w0, z1, F⟩ := q4 i v0 fd' g1 g2
    refine ⟨w0, z1, F.other W (Or.inr ?_)⟩
    have m1 := List.mem_of_getElem? hfd
    have m2 := List.mem_of_getElem? g2
    have f1 := n2 fd m1
    have f2 := n2 fd' m2
    simp only [fChk, Bool.and_eq_true, decide_eq_true_eq] at f1 f2
    refine slot_ne (laid_of (hl fd' m2)) (laid_of (hl fd m1)) ?_ f2.1 f1.1
    exact nodup_ne n1 (i := i) (j := j) (by simp [g2]) (by simp [hfd]) (fun z => e z.symm)
theorem HR.wrI {b : Bool} {L : List Int32} {i : Nat} {x : Int32} (q : HR P Z n0 h ρ H) (hk : ρ[k]? = some a) (hc : H[k]? = some (.inr (.inl (b, L)))) (W : Wr h h' a i (.int x)) : HR P Z n0 h' ρ (H.set k (.inr (.inl (b, L.set i x)))) := by
  obtain ⟨a', ha, cr⟩ := q.at hc
  rw [hk] at ha; cases ha
  obtain ⟨cl, A, q2, q3, q4⟩ := cr
  have lt : i < cl.slots.size := by
    obtain ⟨cl', z1, -, z3, -⟩ := W
    rw [A.1] at z1; cases z1
    exact z3
  refine q.set hk W ⟨_, A.same W, by simp [sz_set, q2], by simpa using q3, fun j y g => ?_⟩
  rw [List.getElem?_set] at g
  split at g
  · rename_i e
    subst e
    split at g
    · cases g; simp [Cell.setSlot, lt]
    · cases g
  · rename_i e
    have := q4 j y g
    simp [Cell.setSlot, Array.getElem?_setIfInBounds, e, this]
theorem HR.wrJ {L : List Int64} {i : Nat} {x : Int64} (q : HR P Z n0 h ρ H) (hk : ρ[k]? = some a) (hc : H[k]? = some (.inr (.inr L))) (W : Wr h h' a i (.long x)) : HR P Z n0 h' ρ (H.set k (.inr (.inr (L.set i x)))) := by
  obtain ⟨a', ha, cr⟩ := q.at hc
  rw [hk] at ha; cases ha
  obtain ⟨cl, A, q2, q3, q4⟩ := cr
  have lt : i < cl.slots.size := by
    obtain ⟨cl', z1, -, z3, -⟩ := W
    rw [A.1] at z1; cases z1
    exact z3
  refine q.set hk W ⟨_, A.same W, by simp [sz_set, q2], by simpa using q3, fun j y g => ?_⟩
  rw [List.getElem?_set] at g
  split at g
  · rename_i e
    subst e
    split at g
    · cases g; simp [Cell.setSlot, lt]
    · cases g
  · rename_i e
    have := q4 j y g
    simp [Cell.setSlot, Array.getElem?_setIfInBounds, e, this]
end Heaps
theorem SR.int {ρ : List Addr} {x : Int32} {S Sc : List Value} (h : SR ρ (.int x :: S) Sc) : ∃ Sc', Sc = .int x :: Sc' ∧ SR ρ S Sc' := by
  obtain ⟨w, ws, h1, h2, h3⟩ := h
  exact ⟨ws, by rw [h1, show w = .int x from h2], h3⟩
theorem SR.long {ρ : List Addr} {x : Int64} {S Sc : List Value} (h : SR ρ (.long x :: S) Sc) : ∃ Sc', Sc = .long x :: Sc' ∧ SR ρ S Sc' := by
  obtain ⟨w, ws, h1, h2, h3⟩ := h
  exact ⟨ws, by rw [h1, show w = .long x from h2], h3⟩
theorem SR.ref {ρ : List Addr} {x : Nat} {S Sc : List Value} (h : SR ρ (.ref x :: S) Sc) : ∃ a Sc', ρ[x]? = some a ∧ Sc = .ref a :: Sc' ∧ SR ρ S Sc' := by
  obtain ⟨w, ws, h1, ⟨a, h2, h4⟩, h3⟩ := h
  exact ⟨a, ws, h2, by rw [h1, h4], h3⟩
theorem rdA_spec {α : Type} {L : List α} {j : Int32} {x : α} (h : rdA L j = some x) : ¬ j < 0 ∧ L[j.toNatClampNeg]? = some x := by
  unfold rdA at h
  split at h
  · cases h
  · rename_i q; exact ⟨q, h⟩
theorem wrA_spec {α : Type} {L L' : List α} {j : Int32} {x : α} (h : wrA L j x = some L') : ¬ j < 0 ∧ j.toNatClampNeg < L.length ∧ L' = L.set j.toNatClampNeg x := by
  unfold wrA at h
  split at h
  · cases h
  · rename_i q
    split at h
    · rename_i z; cases h; exact ⟨q, z, rfl⟩
    · cases h
end Jvm.Own
namespace Jvm.Own
open Jvm Jvm.ClassFile Sem Op Lib Jvm.Free Jvm.Stand Jvm.LawKit Jvm.RoadKit Bundle
theorem st1_len {L L' : List Slot} {k : Nat} {v : Value} (h : st1 L k v = some L') : L'.length = L.length := by
  unfold st1 at h
  split at h
  · cases h; simp
  · cases h
theorem st2_len {L L' : List Slot} {k : Nat} {v : Value} (h : st2 L k v = some L') : L'.length = L.length := by
  unfold st2 at h
  split at h
  · cases h; simp
  · cases h
theorem lrem_mod (x y : Int64) : x - (x / y) * y = x % y := by
  apply Int64.toInt_inj.mp
  have h1 := Int64.le_toInt (x % y)
  have h2 := Int64.toInt_lt (x % y)
  rw [Int64.toInt_sub, Int64.toInt_mul, Int64.toInt_div, Int.bmod_mul_bmod, Int.sub_bmod_bmod, Int.mul_comm (x.toInt.tdiv y.toInt), ← Int.tmod_def, ← Int64.toInt_mod]
  exact Int.bmod_eq_of_le_mul_two (by omega) (by omega)
theorem putOk_sim {ρ : List Addr} {ty : FieldType} {v w : Value} (h : putOk ty v = true) (hv : VR ρ v w) : narrow ty w = w ∧ fits ty w = true := by
  cases ty <;> cases v <;> first | (simp [putOk] at h; done) | skip
  · cases hv; exact ⟨rfl, rfl⟩
  · cases hv; exact ⟨rfl, rfl⟩
  · rename_i x
    cases hv
    simp only [putOk, Bool.or_eq_true, beq_iff_eq] at h
    rcases h with rfl | rfl
    · exact ⟨rfl, rfl⟩
    · exact ⟨rfl, rfl⟩
  · obtain ⟨a, -, rfl⟩ := hv; exact ⟨rfl, rfl⟩
theorem dflt_sim {ρ : List Addr} {ty : FieldType} (h : dfOk ty = true) : VR ρ (dflt ty) (defaultValue ty) := by
  cases ty <;> first | (simp [dfOk] at h; done) | exact rfl
theorem fieldOf_spec {P : PD} {c a : Nat} {cd : CD} {f : FD} (h1 : P.cls[c]? = some cd) (h2 : cd.2.2[a]? = some f) : fieldOf P c a = some f := by simp [fieldOf, h1, h2]
theorem in_wordsOf {P : PD} {d : MD} {x : Nat × It} {w : Jvm.Cond} (hd : d ∈ P.mth) (hx : x ∈ d.code) (hw : w ∈ iWords P d x) : w ∈ wordsOf P :=
  List.mem_append_right _ (List.mem_flatMap.mpr ⟨d, hd, List.mem_flatMap.mpr ⟨x, hx, hw⟩⟩)
theorem in_wordsC {P : PD} {cd : CD} {w : Jvm.Cond} (hd : cd ∈ P.cls) (hw : w ∈ cWords cd) : w ∈ wordsOf P :=
  List.mem_append_left _ (List.mem_append_left _ (List.mem_flatMap.mpr ⟨cd, hd, hw⟩))
theorem in_wordsM {P : PD} {y : MD} {j : Nat} {w : Jvm.Cond} (hd : P.mth[j]? = some y) (hj : 0 < j) (hw : w ∈ mWords y) : w ∈ wordsOf P := by
  refine List.mem_append_left _ (List.mem_append_right _ (List.mem_flatMap.mpr ⟨y, ?_, hw⟩))
  have : (P.mth.drop 1)[j - 1]? = some y := by rw [List.getElem?_drop]; rw [show 1 + (j - 1) = j by omega]; exact hd
  exact List.mem_of_getElem? this
theorem fWord_in {cd : CD} {f : FD} (h : f ∈ cd.2.2) : fWord cd.1 f ∈ cWords cd := List.mem_cons_of_mem _ (List.mem_cons_of_mem _ (List.mem_map.mpr ⟨f, h, rfl⟩))
theorem cChk_of {P : PD} (hP : chk P = true) {cd : CD} (h : cd ∈ P.cls) : cChk cd = true := by
  simp only [chk, Bool.and_eq_true, List.all_eq_true] at hP
  exact hP.1 cd h
theorem mChk_of {P : PD} (hP : chk P = true) {d : MD} (h : d ∈ P.mth) : mChk P d = true := by
  simp only [chk, Bool.and_eq_true, List.all_eq_true] at hP
  exact hP.2 d h
theorem cid_of {P : PD} (hP : chk P = true) {d : MD} (h : d ∈ P.mth) {cd : CD} (hc : P.cls[d.cid]? = some cd) : cd.1 = d.name.cls := by
  have := mChk_of hP h
  simp only [mChk, Bool.and_eq_true] at this
  have h4 := this.1.1.1.2
  unfold clsChk at h4
  rw [hc] at h4
  simpa using h4
section Step
variable {P : PD} {Z : State} {n0 : Nat} {a0 : Array Value} {l : Launch} {p : Program} {e : Env} {R : Room} {s : State} {m : MethodId} {args : Array Value} {below : List Frame} {meth : Method} {c : Code} {T : State} {locs : List Loc} {cells slots : Nat} {d : MD}
def Nxt (P : PD) (Z : State) (n0 : Nat) (l : Launch) (p : Program) (e : Env) (R : Room) (s : State) (m : MethodId) (args : Array Value) (below : List Frame) (meth : Method) (c : Code) (T : State) (cells slots : Nat) (ρ : List Addr) (g : JFrame) (pc' : Nat) (L L' : List Slot) (S' : List Value) (H1 : AHeap) : Prop :=
  ∃ T' locs' A' Sc', Stand p l e R s m args below meth c T' locs' cells slots ∧ L'.length = L.length ∧ LR ρ L' A' ∧ SR ρ S' Sc' ∧ HR P Z n0 T'.heap ρ H1 ∧ Fr n0 locs' ∧
    ∀ target, Steps p.tables e below (T'.setTop (mkF m pc' A' Sc')) target → Steps p.tables e below (T.setTop g) target
theorem Nxt.pure {ρ : List Addr} {H : AHeap} {g : JFrame} {pc' : Nat} {L L' : List Slot} {S' Sc' : List Value} {A' : Array Slot} (X : Stand p l e R s m args below meth c T locs cells slots) (hl : L'.length = L.length) (hL : LR ρ L' A') (hS : SR ρ S' Sc') (hH : HR P Z n0 T.heap ρ H) (hF : Fr n0 locs)
    (k : ∀ target, Steps p.tables e below (T.setTop (mkF m pc' A' Sc')) target → Steps p.tables e below (T.setTop g) target) : Nxt P Z n0 l p e R s m args below meth c T cells slots ρ g pc' L L' S' H :=
  ⟨T, locs, A', Sc', X, hl, hL, hS, hH, hF, k⟩
theorem Nxt.mem {ρ : List Addr} {H1 : AHeap} {g : JFrame} {pc' : Nat} {L L' : List Slot} {S' Sc' : List Value} {A' : Array Slot} {T' : State} {locs' : List Loc} (X : Stand p l e R s m args below meth c T' locs' cells slots) (hl : L'.length = L.length) (hL : LR ρ L' A') (hS : SR ρ S' Sc') (hH : HR P Z n0 T'.heap ρ H1) (hF : Fr n0 locs')
    (k : ∀ target, Steps p.tables e below (T'.setTop (mkF m pc' A' Sc')) target → Steps p.tables e below (T.setTop g) target) : Nxt P Z n0 l p e R s m args below meth c T cells slots ρ g pc' L L' S' H1 :=
  ⟨T', locs', A', Sc', X, hl, hL, hS, hH, hF, k⟩
set_option maxHeartbeats 4000000 in
theorem stepX (X : Stand p l e R s m args below meth c T locs cells slots) (hx : p.tables.exec = Jvm.exec) (hZ : Z.Warmed39 s.vm) (hown : s.vm.findClass d.name.cls = some m.cls) (hnm : meth.name = d.name.name) (hP : chk P = true) (hW : ∀ w ∈ wordsOf P, w.before a0 Z = true) (hdm : d ∈ P.mth)
    {pc len a : Nat} {er : List Bool} {b : Int} {i : Instr} (hit : (pc, i, len, er, a, b) ∈ d.code) (hd : decode c.code pc = .ok (i, len)) (hlen : lenOk i len = true) {ρ : List Addr} {L L' : List Slot} {S S' Sc : List Value} {H H1 : AHeap} {A : Array Slot}
    (hL : LR ρ L A) (hS : SR ρ S Sc) (hH : HR P Z n0 T.heap ρ H) (hF : Fr n0 locs) (h : xI P (d.name.name == "<init>") d.cid i a b L S H = some (L', S', H1)) :
    Nxt P Z n0 l p e R s m args below meth c T cells slots ρ (mkF m pc A Sc) (pc + len) L L' S' H1 := by
  have hWi : ∀ w ∈ iWords P d (pc, i, len, er, a, b), w.before a0 Z = true := fun w q => hW w (in_wordsOf hdm hit q)
  cases i with
  | aload_n k =>
    obtain rfl : len = 1 := by simpa [lenOk] using hlen
    simp only [xI] at h
    split at h
    · rename_i x q
      cases h
      obtain ⟨w, hv, hg⟩ := hL.get q
      obtain ⟨ad, h1, rfl⟩ := hv
      exact Nxt.pure X rfl hL ⟨_, _, rfl, ⟨ad, h1, rfl⟩, hS⟩ hH hF (fun t z => XS.aloadN (g := mkF m pc A Sc) X.here hx rfl hd hg rfl z)
    · cases h
  | aload k =>
    obtain rfl : len = 2 := by simpa [lenOk] using hlen
    simp only [xI] at h
    split at h
    · rename_i x q
      cases h
      obtain ⟨w, hv, hg⟩ := hL.get q
      obtain ⟨ad, h1, rfl⟩ := hv
      exact Nxt.pure X rfl hL ⟨_, _, rfl, ⟨ad, h1, rfl⟩, hS⟩ hH hF (fun t z => XS.aload (g := mkF m pc A Sc) X.here hx rfl hd hg rfl z)
    · cases h
  | iload_n k =>
    obtain rfl : len = 1 := by simpa [lenOk] using hlen
    simp only [xI] at h
    split at h
    · rename_i x q
      cases h
      obtain ⟨w, hv, hg⟩ := hL.get q
      obtain rfl : w = .int _ := hv
      exact Nxt.pure X rfl hL ⟨_, _, rfl, rfl, hS⟩ hH hF (fun t z => XS.iloadN (g := mkF m pc A Sc) X.here hx rfl hd hg z)
    · cases h
  | iload k =>
    obtain rfl : len = 2 := by simpa [lenOk] using hlen
    simp only [xI] at h
    split at h
    · rename_i x q
      cases h
      obtain ⟨w, hv, hg⟩ := hL.get q
      obtain rfl : w = .int _ := hv
      exact Nxt.pure X rfl hL ⟨_, _, rfl, rfl, hS⟩ hH hF (fun t z => XS.iload (g := mkF m pc A Sc) X.here hx rfl hd hg z)
    · cases h
  | lload_n k =>
    obtain rfl : len = 1 := by simpa [lenOk] using hlen
    simp only [xI] at h
    split at h
    · rename_i x q
      cases h
      obtain ⟨w, hv, hg⟩ := hL.get q
      obtain rfl : w = .long _ := hv
      exact Nxt.pure X rfl hL ⟨_, _, rfl, rfl, hS⟩ hH hF (fun t z => XT.lloadN (g := mkF m pc A Sc) X.here hx rfl hd hg z)
    · cases h
  | lload k =>
    obtain rfl : len = 2 := by simpa [lenOk] using hlen
    simp only [xI] at h
    split at h
    · rename_i x q
      cases h
      obtain ⟨w, hv, hg⟩ := hL.get q
      obtain rfl : w = .long _ := hv
      exact Nxt.pure X rfl hL ⟨_, _, rfl, rfl, hS⟩ hH hF (fun t z => XT.lload (g := mkF m pc A Sc) X.here hx rfl hd hg z)
    · cases h
  | istore_n k =>
    obtain rfl : len = 1 := by simpa [lenOk] using hlen
    simp only [xI] at h
    split at h
    · rename_i x S0
      obtain ⟨L1, q, e1⟩ := Option.map_eq_some_iff.mp h
      cases e1
      obtain ⟨S2, rfl, h2⟩ := hS.int
      obtain ⟨A', z1, z2⟩ := store1_sim hL q (show VR ρ (.int x) (.int x) from rfl) rfl
      exact Nxt.pure X (st1_len q) z2 h2 hH hF (fun t z => XS.istoreN (g := mkF m pc A _) X.here hx rfl hd rfl z1 z)
    · cases h
  | istore k =>
    obtain rfl : len = 2 := by simpa [lenOk] using hlen
    simp only [xI] at h
    split at h
    · rename_i x S0
      obtain ⟨L1, q, e1⟩ := Option.map_eq_some_iff.mp h
      cases e1
      obtain ⟨S2, rfl, h2⟩ := hS.int
      obtain ⟨A', z1, z2⟩ := store1_sim hL q (show VR ρ (.int x) (.int x) from rfl) rfl
      exact Nxt.pure X (st1_len q) z2 h2 hH hF (fun t z => XS.istore (g := mkF m pc A _) X.here hx rfl hd rfl z1 z)
    · cases h
  | astore_n k =>
    obtain rfl : len = 1 := by simpa [lenOk] using hlen
    simp only [xI] at h
    split at h
    · rename_i x S0
      obtain ⟨L1, q, e1⟩ := Option.map_eq_some_iff.mp h
      cases e1
      obtain ⟨ad, S2, h1, rfl, h2⟩ := hS.ref
      obtain ⟨A', z1, z2⟩ := store1_sim hL q (show VR ρ (.ref x) (.ref ad) from ⟨ad, h1, rfl⟩) rfl
      exact Nxt.pure X (st1_len q) z2 h2 hH hF (fun t z => XS.astoreN (g := mkF m pc A _) X.here hx rfl hd rfl rfl z1 z)
    · cases h
  | astore k =>
    obtain rfl : len = 2 := by simpa [lenOk] using hlen
    simp only [xI] at h
    split at h
    · rename_i x S0
      obtain ⟨L1, q, e1⟩ := Option.map_eq_some_iff.mp h
      cases e1
      obtain ⟨ad, S2, h1, rfl, h2⟩ := hS.ref
      obtain ⟨A', z1, z2⟩ := store1_sim hL q (show VR ρ (.ref x) (.ref ad) from ⟨ad, h1, rfl⟩) rfl
      exact Nxt.pure X (st1_len q) z2 h2 hH hF (fun t z => XS.astore (g := mkF m pc A _) X.here hx rfl hd rfl rfl z1 z)
    · cases h
  | lstore_n k =>
    obtain rfl : len = 1 := by simpa [lenOk] using hlen
    simp only [xI] at h
    split at h
    · rename_i x S0
      obtain ⟨L1, q, e1⟩ := Option.map_eq_some_iff.mp h
      cases e1
      obtain ⟨S2, rfl, h2⟩ := hS.long
      obtain ⟨A', z1, z2⟩ := store2_sim hL q (show VR ρ (.long x) (.long x) from rfl) rfl
      exact Nxt.pure X (st2_len q) z2 h2 hH hF (fun t z => XT.lstoreN (g := mkF m pc A _) X.here hx rfl hd rfl z1 z)
    · cases h
  | lstore k =>
    obtain rfl : len = 2 := by simpa [lenOk] using hlen
    simp only [xI] at h
    split at h
    · rename_i x S0
      obtain ⟨L1, q, e1⟩ := Option.map_eq_some_iff.mp h
      cases e1
      obtain ⟨S2, rfl, h2⟩ := hS.long
      obtain ⟨A', z1, z2⟩ := store2_sim hL q (show VR ρ (.long x) (.long x) from rfl) rfl
      exact Nxt.pure X (st2_len q) z2 h2 hH hF (fun t z => XT.lstore (g := mkF m pc A _) X.here hx rfl hd rfl z1 z)
    · cases h
  | iinc k dd =>
    obtain rfl : len = 3 := by simpa [lenOk] using hlen
    simp only [xI] at h
    split at h
    · rename_i x q0
      obtain ⟨L1, q, e1⟩ := Option.map_eq_some_iff.mp h
      cases e1
      obtain ⟨w, hv, hg⟩ := hL.get q0
      obtain rfl : w = .int _ := hv
      obtain ⟨A', z1, z2⟩ := store1_sim hL q (show VR ρ (.int (x + Int32.ofInt dd)) (.int (x + Int32.ofInt dd)) from rfl) rfl
      exact Nxt.pure X (st1_len q) z2 hS hH hF (fun t z => XS.iinc (g := mkF m pc A Sc) X.here hx rfl hd hg z1 z)
    · cases h
  | iconst v =>
    obtain rfl : len = 1 := by simpa [lenOk] using hlen
    simp only [xI] at h
    cases h
    exact Nxt.pure X rfl hL ⟨_, _, rfl, rfl, hS⟩ hH hF (fun t z => XS.iconst (g := mkF m pc A Sc) X.here hx rfl hd z)
  | bipush v =>
    obtain rfl : len = 2 := by simpa [lenOk] using hlen
    simp only [xI] at h
    cases h
    exact Nxt.pure X rfl hL ⟨_, _, rfl, rfl, hS⟩ hH hF (fun t z => XS.bipush (g := mkF m pc A Sc) X.here hx rfl hd z)
  | sipush v =>
    obtain rfl : len = 3 := by simpa [lenOk] using hlen
    simp only [xI] at h
    cases h
    exact Nxt.pure X rfl hL ⟨_, _, rfl, rfl, hS⟩ hH hF (fun t z => XS.sipush (g := mkF m pc A Sc) X.here hx rfl hd z)
  | lconst v =>
    obtain rfl : len = 1 := by simpa [lenOk] using hlen
    simp only [xI] at h
    cases h
    exact Nxt.pure X rfl hL ⟨_, _, rfl, rfl, hS⟩ hH hF (fun t z => XT.lconst (g := mkF m pc A Sc) X.here hx rfl hd z)
  | ldc k =>
    obtain rfl : len = 2 := by simpa [lenOk] using hlen
    simp only [xI] at h
    cases h
    have w1 := hWi (.constant d.name.cls k (Int32.ofInt b)) (List.mem_singleton.mpr rfl)
    exact Nxt.pure X rfl hL ⟨_, _, rfl, rfl, hS⟩ hH hF (fun t z => X.ldcInt hx hown (mvT hZ w1) (g := mkF m pc A Sc) rfl hd t z)
  | ldc2_w k =>
    obtain rfl : len = 3 := by simpa [lenOk] using hlen
    simp only [xI] at h
    cases h
    have w1 := hWi (.constantLong d.name.cls k (Int64.ofInt b)) (List.mem_singleton.mpr rfl)
    exact Nxt.pure X rfl hL ⟨_, _, rfl, rfl, hS⟩ hH hF (fun t z => X.ldc2Long hx hown (mvT hZ w1) (g := mkF m pc A Sc) rfl hd t z)
  | iadd =>
    obtain rfl : len = 1 := by simpa [lenOk] using hlen
    simp only [xI] at h
    split at h
    · rename_i y x S0
      cases h
      obtain ⟨S1, rfl, h1⟩ := hS.int
      obtain ⟨S2, rfl, h2⟩ := h1.int
      exact Nxt.pure X rfl hL ⟨_, _, rfl, rfl, h2⟩ hH hF (fun t z => XS.iadd (g := mkF m pc A _) X.here hx rfl hd rfl z)
    · cases h
  | isub =>
    obtain rfl : len = 1 := by simpa [lenOk] using hlen
    simp only [xI] at h
    split at h
    · rename_i y x S0
      cases h
      obtain ⟨S1, rfl, h1⟩ := hS.int
      obtain ⟨S2, rfl, h2⟩ := h1.int
      exact Nxt.pure X rfl hL ⟨_, _, rfl, rfl, h2⟩ hH hF (fun t z => XS.isub (g := mkF m pc A _) X.here hx rfl hd rfl z)
    · cases h
  | imul =>
    obtain rfl : len = 1 := by simpa [lenOk] using hlen
    simp only [xI] at h
    split at h
    · rename_i y x S0
      cases h
      obtain ⟨S1, rfl, h1⟩ := hS.int
      obtain ⟨S2, rfl, h2⟩ := h1.int
      exact Nxt.pure X rfl hL ⟨_, _, rfl, rfl, h2⟩ hH hF (fun t z => XS.imul (g := mkF m pc A _) X.here hx rfl hd rfl z)
    · cases h
  | iand =>
    obtain rfl : len = 1 := by simpa [lenOk] using hlen
    simp only [xI] at h
    split at h
    · rename_i y x S0
      cases h
      obtain ⟨S1, rfl, h1⟩ := hS.int
      obtain ⟨S2, rfl, h2⟩ := h1.int
      exact Nxt.pure X rfl hL ⟨_, _, rfl, rfl, h2⟩ hH hF (fun t z => XS.iand (g := mkF m pc A _) X.here hx rfl hd rfl z)
    · cases h
  | ior =>
    obtain rfl : len = 1 := by simpa [lenOk] using hlen
    simp only [xI] at h
    split at h
    · rename_i y x S0
      cases h
      obtain ⟨S1, rfl, h1⟩ := hS.int
      obtain ⟨S2, rfl, h2⟩ := h1.int
      exact Nxt.pure X rfl hL ⟨_, _, rfl, rfl, h2⟩ hH hF (fun t z => XT.ior (g := mkF m pc A _) X.here hx rfl hd rfl z)
    · cases h
  | ixor =>
    obtain rfl : len = 1 := by simpa [lenOk] using hlen
    simp only [xI] at h
    split at h
    · rename_i y x S0
      cases h
      obtain ⟨S1, rfl, h1⟩ := hS.int
      obtain ⟨S2, rfl, h2⟩ := h1.int
      exact Nxt.pure X rfl hL ⟨_, _, rfl, rfl, h2⟩ hH hF (fun t z => XT.ixor (g := mkF m pc A _) X.here hx rfl hd rfl z)
    · cases h
  | ishl =>
    obtain rfl : len = 1 := by simpa [lenOk] using hlen
    simp only [xI] at h
    split at h
    · rename_i y x S0
      cases h
      obtain ⟨S1, rfl, h1⟩ := hS.int
      obtain ⟨S2, rfl, h2⟩ := h1.int
      exact Nxt.pure X rfl hL ⟨_, _, rfl, rfl, h2⟩ hH hF (fun t z => XT.ishl (g := mkF m pc A _) X.here hx rfl hd rfl z)
    · cases h
  | ishr =>
    obtain rfl : len = 1 := by simpa [lenOk] using hlen
    simp only [xI] at h
    split at h
    · rename_i y x S0
      cases h
      obtain ⟨S1, rfl, h1⟩ := hS.int
      obtain ⟨S2, rfl, h2⟩ := h1.int
      exact Nxt.pure X rfl hL ⟨_, _, rfl, rfl, h2⟩ hH hF (fun t z => XT.ishr (g := mkF m pc A _) X.here hx rfl hd rfl z)
    · cases h
  | iushr =>
    obtain rfl : len = 1 := by simpa [lenOk] using hlen
    simp only [xI] at h
    split at h
    · rename_i y x S0
      cases h
      obtain ⟨S1, rfl, h1⟩ := hS.int
      obtain ⟨S2, rfl, h2⟩ := h1.int
      exact Nxt.pure X rfl hL ⟨_, _, rfl, rfl, h2⟩ hH hF (fun t z => XT.iushr (g := mkF m pc A _) X.here hx rfl hd rfl z)
    · cases h
  | ladd =>
    obtain rfl : len = 1 := by simpa [lenOk] using hlen
    simp only [xI] at h
    split at h
    · rename_i y x S0
      cases h
      obtain ⟨S1, rfl, h1⟩ := hS.long
      obtain ⟨S2, rfl, h2⟩ := h1.long
      exact Nxt.pure X rfl hL ⟨_, _, rfl, rfl, h2⟩ hH hF (fun t z => XT.ladd (g := mkF m pc A _) X.here hx rfl hd rfl z)
    · cases h
  | lsub =>
    obtain rfl : len = 1 := by simpa [lenOk] using hlen
    simp only [xI] at h
    split at h
    · rename_i y x S0
      cases h
      obtain ⟨S1, rfl, h1⟩ := hS.long
      obtain ⟨S2, rfl, h2⟩ := h1.long
      exact Nxt.pure X rfl hL ⟨_, _, rfl, rfl, h2⟩ hH hF (fun t z => XT.lsub (g := mkF m pc A _) X.here hx rfl hd rfl z)
    · cases h
  | lmul =>
    obtain rfl : len = 1 := by simpa [lenOk] using hlen
    simp only [xI] at h
    split at h
    · rename_i y x S0
      cases h
      obtain ⟨S1, rfl, h1⟩ := hS.long
      obtain ⟨S2, rfl, h2⟩ := h1.long
      exact Nxt.pure X rfl hL ⟨_, _, rfl, rfl, h2⟩ hH hF (fun t z => XT.lmul (g := mkF m pc A _) X.here hx rfl hd rfl z)
    · cases h
  | land =>
    obtain rfl : len = 1 := by simpa [lenOk] using hlen
    simp only [xI] at h
    split at h
    · rename_i y x S0
      cases h
      obtain ⟨S1, rfl, h1⟩ := hS.long
      obtain ⟨S2, rfl, h2⟩ := h1.long
      exact Nxt.pure X rfl hL ⟨_, _, rfl, rfl, h2⟩ hH hF (fun t z => XT.land (g := mkF m pc A _) X.here hx rfl hd rfl z)
    · cases h
  | lor =>
    obtain rfl : len = 1 := by simpa [lenOk] using hlen
    simp only [xI] at h
    split at h
    · rename_i y x S0
      cases h
      obtain ⟨S1, rfl, h1⟩ := hS.long
      obtain ⟨S2, rfl, h2⟩ := h1.long
      exact Nxt.pure X rfl hL ⟨_, _, rfl, rfl, h2⟩ hH hF (fun t z => XT.lor (g := mkF m pc A _) X.here hx rfl hd rfl z)
    · cases h
  | lxor =>
    obtain rfl : len = 1 := by simpa [lenOk] using hlen
    simp only [xI] at h
    split at h
    · rename_i y x S0
      cases h
      obtain ⟨S1, rfl, h1⟩ := hS.long
      obtain ⟨S2, rfl, h2⟩ := h1.long
      exact Nxt.pure X rfl hL ⟨_, _, rfl, rfl, h2⟩ hH hF (fun t z => XT.lxor (g := mkF m pc A _) X.here hx rfl hd rfl z)
    · cases h
  | lcmp =>
    obtain rfl : len = 1 := by simpa [lenOk] using hlen
    simp only [xI] at h
    split at h
    · rename_i y x S0
      cases h
      obtain ⟨S1, rfl, h1⟩ := hS.long
      obtain ⟨S2, rfl, h2⟩ := h1.long
      exact Nxt.pure X rfl hL ⟨_, _, rfl, rfl, h2⟩ hH hF (fun t z => XT.lcmp (g := mkF m pc A _) X.here hx rfl hd rfl z)
    · cases h
  | lshl =>
    obtain rfl : len = 1 := by simpa [lenOk] using hlen
    simp only [xI] at h
    split at h
    · rename_i y x S0
      cases h
      obtain ⟨S1, rfl, h1⟩ := hS.int
      obtain ⟨S2, rfl, h2⟩ := h1.long
      exact Nxt.pure X rfl hL ⟨_, _, rfl, rfl, h2⟩ hH hF (fun t z => XT.lshl (g := mkF m pc A _) X.here hx rfl hd rfl z)
    · cases h
  | lshr =>
    obtain rfl : len = 1 := by simpa [lenOk] using hlen
    simp only [xI] at h
    split at h
    · rename_i y x S0
      cases h
      obtain ⟨S1, rfl, h1⟩ := hS.int
      obtain ⟨S2, rfl, h2⟩ := h1.long
      exact Nxt.pure X rfl hL ⟨_, _, rfl, rfl, h2⟩ hH hF (fun t z => XT.lshr (g := mkF m pc A _) X.here hx rfl hd rfl z)
    · cases h
  | lushr =>
    obtain rfl : len = 1 := by simpa [lenOk] using hlen
    simp only [xI] at h
    split at h
    · rename_i y x S0
      cases h
      obtain ⟨S1, rfl, h1⟩ := hS.int
      obtain ⟨S2, rfl, h2⟩ := h1.long
      exact Nxt.pure X rfl hL ⟨_, _, rfl, rfl, h2⟩ hH hF (fun t z => XT.lushr (g := mkF m pc A _) X.here hx rfl hd rfl z)
    · cases h
  | idiv =>
    obtain rfl : len = 1 := by simpa [lenOk] using hlen
    simp only [xI] at h
    split at h
    · rename_i y x S0
      split at h
      · cases h
      · rename_i hy
        cases h
        obtain ⟨S1, rfl, h1⟩ := hS.int
        obtain ⟨S2, rfl, h2⟩ := h1.int
        exact Nxt.pure X rfl hL ⟨_, _, rfl, rfl, h2⟩ hH hF (fun t z => XS.idiv (g := mkF m pc A _) X.here hx rfl hd rfl hy z)
    · cases h
  | irem =>
    obtain rfl : len = 1 := by simpa [lenOk] using hlen
    simp only [xI] at h
    split at h
    · rename_i y x S0
      split at h
      · cases h
      · rename_i hy
        cases h
        obtain ⟨S1, rfl, h1⟩ := hS.int
        obtain ⟨S2, rfl, h2⟩ := h1.int
        exact Nxt.pure X rfl hL ⟨_, _, rfl, rfl, h2⟩ hH hF (fun t z => iremM (g := mkF m pc A _) X hx rfl hd rfl hy z)
    · cases h
  | ldiv =>
    obtain rfl : len = 1 := by simpa [lenOk] using hlen
    simp only [xI] at h
    split at h
    · rename_i y x S0
      split at h
      · cases h
      · rename_i hy
        cases h
        obtain ⟨S1, rfl, h1⟩ := hS.long
        obtain ⟨S2, rfl, h2⟩ := h1.long
        exact Nxt.pure X rfl hL ⟨_, _, rfl, rfl, h2⟩ hH hF (fun t z => XT.ldiv (g := mkF m pc A _) X.here hx rfl hd rfl hy z)
    · cases h
  | lrem =>
    obtain rfl : len = 1 := by simpa [lenOk] using hlen
    simp only [xI] at h
    split at h
    · rename_i y x S0
      split at h
      · cases h
      · rename_i hy
        cases h
        obtain ⟨S1, rfl, h1⟩ := hS.long
        obtain ⟨S2, rfl, h2⟩ := h1.long
        exact Nxt.pure X rfl hL ⟨_, _, rfl, rfl, h2⟩ hH hF (fun t z => XT.lrem (g := mkF m pc A _) X.here hx rfl hd rfl hy (by rw [lrem_mod]; exact z))
    · cases h
  | i2l =>
    obtain rfl : len = 1 := by simpa [lenOk] using hlen
    simp only [xI] at h
    split at h
    · rename_i x S0
      cases h
      obtain ⟨S1, rfl, h1⟩ := hS.int
      exact Nxt.pure X rfl hL ⟨_, _, rfl, rfl, h1⟩ hH hF (fun t z => XT.i2l (g := mkF m pc A _) X.here hx rfl hd rfl z)
    · cases h
  | l2i =>
    obtain rfl : len = 1 := by simpa [lenOk] using hlen
    simp only [xI] at h
    split at h
    · rename_i x S0
      cases h
      obtain ⟨S1, rfl, h1⟩ := hS.long
      exact Nxt.pure X rfl hL ⟨_, _, rfl, rfl, h1⟩ hH hF (fun t z => XT.l2i (g := mkF m pc A _) X.here hx rfl hd rfl z)
    · cases h
  | dup =>
    obtain rfl : len = 1 := by simpa [lenOk] using hlen
    simp only [xI] at h
    split at h
    · rename_i x S0
      cases h
      obtain ⟨S1, rfl, h1⟩ := hS.int
      exact Nxt.pure X rfl hL ⟨_, _, rfl, rfl, _, _, rfl, rfl, h1⟩ hH hF (fun t z => XS.dup (g := mkF m pc A _) X.here hx rfl hd rfl rfl z)
    · rename_i x S0
      cases h
      obtain ⟨ad, S1, g1, rfl, h1⟩ := hS.ref
      exact Nxt.pure X rfl hL ⟨_, _, rfl, ⟨ad, g1, rfl⟩, _, _, rfl, ⟨ad, g1, rfl⟩, h1⟩ hH hF (fun t z => XS.dup (g := mkF m pc A _) X.here hx rfl hd rfl rfl z)
    · cases h
  | dup2 =>
    obtain rfl : len = 1 := by simpa [lenOk] using hlen
    simp only [xI] at h
    split at h
    · rename_i x y S0
      cases h
      obtain ⟨S1, rfl, h1⟩ := hS.int
      obtain ⟨ad, S2, g1, rfl, h2⟩ := h1.ref
      exact Nxt.pure X rfl hL ⟨_, _, rfl, rfl, _, _, rfl, ⟨ad, g1, rfl⟩, _, _, rfl, rfl, _, _, rfl, ⟨ad, g1, rfl⟩, h2⟩ hH hF (fun t z => XT.dup2 (g := mkF m pc A _) X.here hx rfl hd rfl rfl rfl z)
    · rename_i x S0
      cases h
      obtain ⟨S1, rfl, h1⟩ := hS.long
      exact Nxt.pure X rfl hL ⟨_, _, rfl, rfl, _, _, rfl, rfl, h1⟩ hH hF (fun t z => XT.dup2L (g := mkF m pc A _) X.here hx rfl hd rfl z)
    · cases h
  | pop =>
    obtain rfl : len = 1 := by simpa [lenOk] using hlen
    simp only [xI] at h
    split at h
    · rename_i x S0
      cases h
      obtain ⟨S1, rfl, h1⟩ := hS.int
      exact Nxt.pure X rfl hL h1 hH hF (fun t z => XT.pop (g := mkF m pc A _) X.here hx rfl hd rfl rfl z)
    · cases h
  | getfield k =>
    obtain rfl : len = 3 := by simpa [lenOk] using hlen
    simp only [xI] at h
    split at h
    · rename_i o S0
      obtain ⟨ad, S1, g1, rfl, h1⟩ := hS.ref
      split at h
      · rename_i c0 fs hc0
        split at h
        · rename_i ec
          subst ec
          obtain ⟨ad', g2, cd, q1, q2, q3, q4⟩ := hH.at hc0
          rw [g1] at g2; cases g2
          have hcd := cid_of hP hdm q1
          have core : ∀ v, fs[a]? = some v → ∃ w T2, VR ρ v w ∧ Stand p l e R s m args below meth c T2 locs cells slots ∧ T2.heap = T.heap ∧ ∀ target, Steps p.tables e below (T2.setTop (mkF m (pc + 3) A (w :: S1))) target → Steps p.tables e below (T.setTop (mkF m pc A (.ref ad :: S1))) target := fun v hv => by
            have ha : a < cd.2.2.length := by rw [← q3]; exact (List.getElem?_eq_some_iff.mp hv).1
            obtain ⟨w, hvw, F⟩ := q4 a v _ hv (List.getElem?_eq_getElem ha)
            have w1 := hWi (.fieldLink d.name.cls k d.name.cls cd.2.2[a].1 cd.2.2[a].2.1) (by
              show _ ∈ fLink P d k a
              unfold fLink
              rw [fieldOf_spec q1 (List.getElem?_eq_getElem ha)]
              exact List.mem_singleton.mpr rfl)
            rw [hcd] at F
            obtain ⟨T2, X2, e2, st2⟩ := getF X hx hZ hown (host := "") (Or.inl w1) Via.refl rfl F (g := mkF m pc A (.ref ad :: S1)) rfl rfl hd
            exact ⟨w, T2, hvw, X2, e2, st2⟩
          split at h
          · rename_i x hv
            cases h
            obtain ⟨w, T2, hvw, X2, e2, st2⟩ := core _ hv
            exact Nxt.mem X2 rfl hL ⟨_, _, rfl, hvw, h1⟩ (by rw [e2]; exact hH) hF st2
          · rename_i x hv
            cases h
            obtain ⟨w, T2, hvw, X2, e2, st2⟩ := core _ hv
            exact Nxt.mem X2 rfl hL ⟨_, _, rfl, hvw, h1⟩ (by rw [e2]; exact hH) hF st2
          · rename_i x hv
            cases h
            obtain ⟨w, T2, hvw, X2, e2, st2⟩ := core _ hv
            exact Nxt.mem X2 rfl hL ⟨_, _, rfl, hvw, h1⟩ (by rw [e2]; exact hH) hF st2
          · cases h
        · cases h
      · cases h
    · cases h
  | putfield k =>
    obtain rfl : len = 3 := by simpa [lenOk] using hlen
    simp only [xI] at h
    split at h
    · rename_i v o S0
      obtain ⟨w, Sx, rfl, hvw, hS1⟩ := hS
      obtain ⟨ad, S1, g1, rfl, h1⟩ := hS1.ref
      split at h
      · rename_i c0 fs hc0
        split at h
        · rename_i ec
          obtain ⟨ec, enr⟩ := ec
          subst ec
          split at h
          · rename_i nm ds ty fin hf
            split at h
            · rename_i hok
              cases h
              simp only [Bool.and_eq_true] at hok
              obtain ⟨hok, hfin⟩ := hok
              obtain ⟨ad', g2, cd, q1, q2, q3, q4⟩ := hH.at hc0
              rw [g1] at g2; cases g2
              have hcd := cid_of hP hdm q1
              rw [q1] at hf
              have hf' : cd.2.2[a]? = some (nm, ds, ty, fin) := hf
              have ha : a < fs.length := by rw [q3]; exact (List.getElem?_eq_some_iff.mp hf').1
              obtain ⟨w0, -, F⟩ := q4 a _ _ (List.getElem?_eq_getElem ha) hf'
              have w1 := hWi (.fieldLink d.name.cls k d.name.cls nm ds) (by
                show _ ∈ fLink P d k a
                unfold fLink
                rw [fieldOf_spec q1 hf']
                exact List.mem_singleton.mpr rfl)
              have hcm : cd ∈ P.cls := List.mem_of_getElem? q1
              have w2 := hW _ (in_wordsC hcm (fWord_in (List.mem_of_getElem? hf')))
              have w3 := hW (.instantiable cd.1 cd.2.1) (in_wordsC hcm (List.mem_cons_self ..))
              have hck := cChk_of hP hcm
              have hck' := hck
              simp only [cChk, Bool.and_eq_true, List.all_eq_true] at hck'
              have f1 := hck'.2 _ (List.mem_of_getElem? hf')
              simp only [fChk, Bool.and_eq_true, decide_eq_true_eq] at f1
              obtain ⟨p1, p2⟩ := putOk_sim hok hvw
              have Ly : (Jvm.Cond.lays cd.1 cd.1 nm ds).before a0 Z = true ∨ ((Jvm.Cond.laysFinal cd.1 cd.1 nm ds).before a0 Z = true ∧ d.name.cls = cd.1 ∧ meth.name = "<init>") := by
                unfold fWord at w2
                cases fin with
                | false => exact Or.inl w2
                | true => exact Or.inr ⟨w2, hcd.symm, by rw [hnm]; simpa using hfin⟩
              obtain ⟨T2, h2, X2, e2, W2, st2⟩ := putF X hx hZ hown (host := "") (R0 := d.name.cls) (O := cd.1) (Or.inl w1) (by rw [hcd]; exact Via.refl) rfl F q2 Ly w3 f1.1 p1 p2 (g := mkF m pc A (w :: .ref ad :: S1)) rfl rfl hd
              have hH2 := hH.putF (a0 := a0) g1 hc0 q1 hf' hck (fun f hfm => hW _ (in_wordsC hcm (fWord_in hfm))) W2 hvw
              exact Nxt.mem X2 rfl hL h1 (by rw [e2]; exact hH2) (Fr.snoc X2 hF (hH.2.2.2.1 _ _ g1 enr)) st2
            · cases h
          · cases h
        · cases h
      · cases h
    · cases h
  | iaload =>
    obtain rfl : len = 1 := by simpa [lenOk] using hlen
    simp only [xI] at h
    split at h
    · rename_i j o S0
      obtain ⟨S1, rfl, h1⟩ := hS.int
      obtain ⟨ad, S2, g1, rfl, h2⟩ := h1.ref
      split at h
      · rename_i B hc0
        obtain ⟨x, q, e1⟩ := Option.map_eq_some_iff.mp h
        cases e1
        obtain ⟨hj, hat⟩ := rdA_spec q
        obtain ⟨ad', g2, cl, Ar, z1, z2, z3⟩ := hH.at hc0
        rw [g1] at g2; cases g2
        have hin : ¬ (j < 0 ∨ cl.slots.size ≤ j.toNatClampNeg) := by
          have := (List.getElem?_eq_some_iff.mp hat).1
          rintro (y | y)
          · exact hj y
          · omega
        exact Nxt.pure X rfl hL ⟨_, _, rfl, rfl, h2⟩ hH hF (fun t z => X.iaload hx (j := j) (v := .int x) Ar.1 (State.isArrayOf_alike hZ.alike Ar.2.1) Ar.2.2 hin (z3 _ _ hat) (g := mkF m pc A _) rfl rfl hd t z)
      · cases h
    · cases h
  | baload =>
    obtain rfl : len = 1 := by simpa [lenOk] using hlen
    simp only [xI] at h
    split at h
    · rename_i j o S0
      obtain ⟨S1, rfl, h1⟩ := hS.int
      obtain ⟨ad, S2, g1, rfl, h2⟩ := h1.ref
      split at h
      · rename_i B hc0
        obtain ⟨x, q, e1⟩ := Option.map_eq_some_iff.mp h
        cases e1
        obtain ⟨hj, hat⟩ := rdA_spec q
        obtain ⟨ad', g2, cl, Ar, z1, z2, z3⟩ := hH.at hc0
        rw [g1] at g2; cases g2
        have hin : ¬ (j < 0 ∨ cl.slots.size ≤ j.toNatClampNeg) := by
          have := (List.getElem?_eq_some_iff.mp hat).1
          rintro (y | y)
          · exact hj y
          · omega
        exact Nxt.pure X rfl hL ⟨_, _, rfl, rfl, h2⟩ hH hF (fun t z => X.baloadBooleans hx (j := j) (v := .int x) Ar.1 (State.isArrayOf_alike hZ.alike Ar.2.1) Ar.2.2 hin (z3 _ _ hat) (g := mkF m pc A _) rfl rfl hd t z)
      · cases h
    · cases h
  | laload =>
    obtain rfl : len = 1 := by simpa [lenOk] using hlen
    simp only [xI] at h
    split at h
    · rename_i j o S0
      obtain ⟨S1, rfl, h1⟩ := hS.int
      obtain ⟨ad, S2, g1, rfl, h2⟩ := h1.ref
      split at h
      · rename_i B hc0
        obtain ⟨x, q, e1⟩ := Option.map_eq_some_iff.mp h
        cases e1
        obtain ⟨hj, hat⟩ := rdA_spec q
        obtain ⟨ad', g2, cl, Ar, z1, z2, z3⟩ := hH.at hc0
        rw [g1] at g2; cases g2
        have hin : ¬ (j < 0 ∨ cl.slots.size ≤ j.toNatClampNeg) := by
          have := (List.getElem?_eq_some_iff.mp hat).1
          rintro (y | y)
          · exact hj y
          · omega
        exact Nxt.pure X rfl hL ⟨_, _, rfl, rfl, h2⟩ hH hF (fun t z => X.laload hx (j := j) (v := .long x) Ar.1 (State.isArrayOf_alike hZ.alike Ar.2.1) Ar.2.2 hin (z3 _ _ hat) (g := mkF m pc A _) rfl rfl hd t z)
      · cases h
    · cases h
  | iastore =>
    obtain rfl : len = 1 := by simpa [lenOk] using hlen
    simp only [xI] at h
    split at h
    · rename_i x j o S0
      obtain ⟨S1, rfl, h1⟩ := hS.int
      obtain ⟨S2, rfl, h2⟩ := h1.int
      obtain ⟨ad, S3, g1, rfl, h3⟩ := h2.ref
      split at h
      · rename_i B hc0
        split at h
        · rename_i enr
          obtain ⟨B', q, e1⟩ := Option.map_eq_some_iff.mp h
          cases e1
          obtain ⟨hj, hlt, rfl⟩ := wrA_spec q
          obtain ⟨ad', g2, cl, Ar, z1, z2, z3⟩ := hH.at hc0
          rw [g1] at g2; cases g2
          have hin : ¬ (j < 0 ∨ cl.slots.size ≤ j.toNatClampNeg) := by
            rintro (y | y)
            · exact hj y
            · omega
          obtain ⟨T2, h2', X2, e2, W2, st2⟩ := stI X hx hZ rfl Ar (j := j) (x := x) hin (g := mkF m pc A _) rfl rfl hd
          exact Nxt.mem X2 rfl hL h3 (by rw [e2]; exact hH.wrI g1 hc0 W2) (Fr.snoc X2 hF (hH.2.2.2.1 _ _ g1 enr)) st2
        · cases h
      · cases h
    · cases h
  | bastore =>
    obtain rfl : len = 1 := by simpa [lenOk] using hlen
    simp only [xI] at h
    split at h
    · rename_i x j o S0
      obtain ⟨S1, rfl, h1⟩ := hS.int
      obtain ⟨S2, rfl, h2⟩ := h1.int
      obtain ⟨ad, S3, g1, rfl, h3⟩ := h2.ref
      split at h
      · rename_i B hc0
        split at h
        · rename_i enr
          obtain ⟨B', q, e1⟩ := Option.map_eq_some_iff.mp h
          cases e1
          obtain ⟨hj, hlt, rfl⟩ := wrA_spec q
          obtain ⟨ad', g2, cl, Ar, z1, z2, z3⟩ := hH.at hc0
          rw [g1] at g2; cases g2
          have hin : ¬ (j < 0 ∨ cl.slots.size ≤ j.toNatClampNeg) := by
            rintro (y | y)
            · exact hj y
            · omega
          obtain ⟨T2, h2', X2, e2, W2, st2⟩ := stZ X hx hZ rfl Ar (j := j) (x := x) hin (g := mkF m pc A _) rfl rfl hd
          exact Nxt.mem X2 rfl hL h3 (by rw [e2]; exact hH.wrI g1 hc0 W2) (Fr.snoc X2 hF (hH.2.2.2.1 _ _ g1 enr)) st2
        · cases h
      · cases h
    · cases h
  | lastore =>
    obtain rfl : len = 1 := by simpa [lenOk] using hlen
    simp only [xI] at h
    split at h
    · rename_i x j o S0
      obtain ⟨S1, rfl, h1⟩ := hS.long
      obtain ⟨S2, rfl, h2⟩ := h1.int
      obtain ⟨ad, S3, g1, rfl, h3⟩ := h2.ref
      split at h
      · rename_i B hc0
        split at h
        · rename_i enr
          obtain ⟨B', q, e1⟩ := Option.map_eq_some_iff.mp h
          cases e1
          obtain ⟨hj, hlt, rfl⟩ := wrA_spec q
          obtain ⟨ad', g2, cl, Ar, z1, z2, z3⟩ := hH.at hc0
          rw [g1] at g2; cases g2
          have hin : ¬ (j < 0 ∨ cl.slots.size ≤ j.toNatClampNeg) := by
            rintro (y | y)
            · exact hj y
            · omega
          obtain ⟨T2, h2', X2, e2, W2, st2⟩ := stJ X hx hZ rfl Ar (j := j) (x := x) hin (g := mkF m pc A _) rfl rfl hd
          exact Nxt.mem X2 rfl hL h3 (by rw [e2]; exact hH.wrJ g1 hc0 W2) (Fr.snoc X2 hF (hH.2.2.2.1 _ _ g1 enr)) st2
        · cases h
      · cases h
    · cases h
  | arraylength =>
    obtain rfl : len = 1 := by simpa [lenOk] using hlen
    simp only [xI] at h
    split at h
    · rename_i o S0
      obtain ⟨ad, S1, g1, rfl, h1⟩ := hS.ref
      split at h
      · rename_i bb B hc0
        cases h
        obtain ⟨ad', g2, cl, Ar, z1, z2, z3⟩ := hH.at hc0
        rw [g1] at g2; cases g2
        exact Nxt.pure X rfl hL ⟨_, _, rfl, rfl, h1⟩ hH hF (fun t z => X.arraylength hx (cell := cl) Ar.1 (State.isArrayOf_alike hZ.alike Ar.2.1) (g := mkF m pc A _) rfl rfl hd t (by rw [z1]; exact z))
      · cases h
    · cases h
  | _ => simp [xI] at h
set_option maxHeartbeats 4000000 in
theorem stepN (X : Stand p l e R s m args below meth c T locs cells slots) (hx : p.tables.exec = Jvm.exec) (hZ : Z.Warmed39 s.vm) (hown : s.vm.findClass d.name.cls = some m.cls) (hP : chk P = true) (hW : ∀ w ∈ wordsOf P, w.before a0 Z = true) (hdm : d ∈ P.mth)
    {pc len a ks : Nat} {er : List Bool} {b : Int} {i : Instr} (hit : (pc, i, len, er, a, b) ∈ d.code) (hd : decode c.code pc = .ok (i, len)) (hlen : lenOk i len = true) {ρ : List Addr} {S S' Sc : List Value} {H H1 : AHeap} {A : Array Slot}
    (hS : SR ρ S Sc) (hH : HR P Z n0 T.heap ρ H) (h : xN P i a S H = some (S', H1, ks)) (hc : cells + 1 ≤ R.cells) (hl : slots + ks ≤ R.slots) :
    ∃ T' ad Sc', Stand p l e R s m args below meth c T' locs (cells + 1) (slots + ks) ∧ SR (ρ ++ [ad]) S' Sc' ∧ HR P Z n0 T'.heap (ρ ++ [ad]) H1 ∧
      ∀ target, Steps p.tables e below (T'.setTop (mkF m (pc + len) A Sc')) target → Steps p.tables e below (T.setTop (mkF m pc A Sc)) target := by
  have hWi : ∀ w ∈ iWords P d (pc, i, len, er, a, b), w.before a0 Z = true := fun w q => hW w (in_wordsOf hdm hit q)
  cases i with
  | new k =>
    obtain rfl : len = 3 := by simpa [lenOk] using hlen
    simp only [xN] at h
    split at h
    · rename_i cd q1
      cases h
      have hcm : cd ∈ P.cls := List.mem_of_getElem? q1
      have w1 := hWi (.classLink d.name.cls k cd.1) (by simp only [iWords, q1]; exact List.mem_singleton.mpr rfl)
      have w2 := hW (.instantiable cd.1 cd.2.1) (in_wordsC hcm (List.mem_cons_self ..))
      have w3 := hW (.initialized cd.1) (in_wordsC hcm (List.mem_cons_of_mem _ (List.mem_cons_self ..)))
      obtain ⟨T2, h2, X2, e2, E2, A2, D2, -, st2⟩ := newO X hx hZ hown w1 w2 w3 rfl (g := mkF m pc A Sc) rfl hd hc hl
      have hck := cChk_of hP hcm
      simp only [cChk, Bool.and_eq_true, List.all_eq_true] at hck
      have hcr : CR P Z h2 (ρ ++ [T.heap.size]) T.heap.size (.inl (a, cd.2.2.map fun f => dflt f.2.2.1)) := by
        refine ⟨cd, q1, A2, by simp, fun j v fd y1 y2 => ?_⟩
        rw [List.getElem?_map, y2] at y1
        cases y1
        have f1 := hck.2 _ (List.mem_of_getElem? y2)
        simp only [fChk, Bool.and_eq_true, decide_eq_true_eq] at f1
        exact ⟨_, dflt_sim f1.2, D2 (laid_of (hW _ (in_wordsC hcm (fWord_in (List.mem_of_getElem? y2))))) f1.1⟩
      refine ⟨T2, T.heap.size, _, X2, ⟨_, _, rfl, ⟨T.heap.size, ?_, rfl⟩, hS.mono⟩, (by rw [e2]; exact hH.push E2 hcr), st2⟩
      rw [← hH.2.1]; simp
    · cases h
  | newarray t =>
    obtain rfl : len = 2 := by simpa [lenOk] using hlen
    simp only [xN] at h
    split at h
    · rename_i n S0
      obtain ⟨S1, rfl, h1⟩ := hS.int
      split at h
      · cases h
      · rename_i hn
        have hn1 : ¬ n < 0 := fun z => hn (Or.inl z)
        have hn2 : n.toNatClampNeg ≤ 100000 := Nat.le_of_not_lt fun z => hn (Or.inr z)
        have w1 := hWi (.arrayClass (newarray.typeOf t)) (List.mem_singleton.mpr rfl)
        have top : (ρ ++ [T.heap.size])[H.length]? = some T.heap.size := by rw [← hH.2.1]; simp
        split at h
        · cases h
          obtain ⟨T2, h2, cA, X2, e2, E2, A2, st2⟩ := newP X hx hZ w1 rfl (g := mkF m pc A _) rfl hd rfl hn1 (cap := n.toNatClampNeg) (Nat.le_refl _) (by omega) hc hl
          have hcr : CR P Z h2 (ρ ++ [T.heap.size]) T.heap.size ((.inr (.inl (false, List.replicate n.toNatClampNeg 0)) : ACell)) := by
            refine ⟨_, A2, by simp [sz_new], by simp; omega, fun j x y => ?_⟩
            rw [List.getElem?_replicate] at y
            split at y
            · rename_i lt
              cases y
              simp [newA, lt, newarray.typeOf, defaultValue]
            · cases y
          exact ⟨T2, T.heap.size, _, X2, ⟨_, _, rfl, ⟨T.heap.size, top, rfl⟩, h1.mono⟩, (by rw [e2]; exact hH.push E2 hcr), st2⟩
        · cases h
          obtain ⟨T2, h2, cA, X2, e2, E2, A2, st2⟩ := newP X hx hZ w1 rfl (g := mkF m pc A _) rfl hd rfl hn1 (cap := n.toNatClampNeg) (Nat.le_refl _) (by omega) hc hl
          have hcr : CR P Z h2 (ρ ++ [T.heap.size]) T.heap.size ((.inr (.inl (true, List.replicate n.toNatClampNeg 0)) : ACell)) := by
            refine ⟨_, A2, by simp [sz_new], by simp; omega, fun j x y => ?_⟩
            rw [List.getElem?_replicate] at y
            split at y
            · rename_i lt
              cases y
              simp [newA, lt, newarray.typeOf, defaultValue]
            · cases y
          exact ⟨T2, T.heap.size, _, X2, ⟨_, _, rfl, ⟨T.heap.size, top, rfl⟩, h1.mono⟩, (by rw [e2]; exact hH.push E2 hcr), st2⟩
        · cases h
          obtain ⟨T2, h2, cA, X2, e2, E2, A2, st2⟩ := newP X hx hZ w1 rfl (g := mkF m pc A _) rfl hd rfl hn1 (cap := n.toNatClampNeg) (Nat.le_refl _) (by omega) hc hl
          have hcr : CR P Z h2 (ρ ++ [T.heap.size]) T.heap.size ((.inr (.inr (List.replicate n.toNatClampNeg 0)) : ACell)) := by
            refine ⟨_, A2, by simp [sz_new], by simp; omega, fun j x y => ?_⟩
            rw [List.getElem?_replicate] at y
            split at y
            · rename_i lt
              cases y
              simp [newA, lt, newarray.typeOf, defaultValue]
            · cases y
          exact ⟨T2, T.heap.size, _, X2, ⟨_, _, rfl, ⟨T.heap.size, top, rfl⟩, h1.mono⟩, (by rw [e2]; exact hH.push E2 hcr), st2⟩
        · cases h
    · cases h
  | _ => simp [xN] at h
end Step
end Jvm.Own
namespace Jvm.Own
open Jvm Jvm.ClassFile Sem Op Lib Jvm.Free Jvm.Stand Jvm.LawKit Jvm.RoadKit Bundle
theorem fetch_mem : ∀ {l : List (Nat × It)} {pc : Nat} {i : It}, fetch l pc = some i → (pc, i) ∈ l
  | [], _, _, h => by simp [fetch] at h
  | (q, j) :: r, pc, i, h => by
    unfold fetch at h
    split at h
    · rename_i e; cases h; subst e; exact List.mem_cons_self ..
    · exact List.mem_cons_of_mem _ (fetch_mem h)
theorem tgt_spec {pc q : Nat} {o : Int} (h : tgt pc o = some q) : 0 ≤ (pc : Int) + o ∧ ((pc : Int) + o).toNat = q := by
  unfold tgt at h
  split at h
  · rename_i z; cases h; exact ⟨z, rfl⟩
  · cases h
/-- the end of a method's run -/
def Done (P : PD) (Z : State) (n0 : Nat) (p : Program) (e : Env) (below : List Frame) (s : State) (ρ : List Addr) (v : Option Value) (H' : AHeap) (kc ks : Nat) (t0 : State) : Prop :=
  ∃ s₂ v' L' t, Steps p.tables e below t0 s₂ ∧ s₂.status = .running ∧ Ended s₂ below (.returned v') ∧ OV (ρ ++ t) v v' ∧ HR P Z n0 s₂.heap (ρ ++ t) H' ∧ Fr n0 L' ∧ FrameEnd s (.returned v') s₂ L' kc ks
def Cx (P : PD) (Z : State) (p : Program) (R : Room) (s : State) (m : MethodId) (meth : Method) (c : Code) (d : MD) : Prop :=
  p.tables.exec = Jvm.exec ∧ Z.Warmed39 s.vm ∧ c.code = d.bytes ∧ c.maxLocals = d.maxL ∧ s.vm.findClass d.name.cls = some m.cls ∧ meth.name = d.name.name ∧ meth.sig.returnType = d.ret ∧ meth.locks = false ∧ d.rf ≤ R.frames ∧ d.rw ≤ R.locals
/-- what the machine says of a run that has come to pc is what the model does -/
def Says (P : PD) (Z : State) (n0 : Nat) (l : Launch) (n : Nat) : Prop :=
  ∀ (mi pc : Nat) (L : List Slot) (S : List Value) (H : AHeap) (v : Option Value) (H' : AHeap) (kc ks : Nat), exe P n mi pc L S H = some (v, H', kc, ks) → ∀ d, P.mth[mi]? = some d →
    ∀ (p : Program) (e : Env) (R : Room) (s : State) (m : MethodId) (args : Array Value) (below : List Frame) (meth : Method) (c : Code) (T : State) (locs : List Loc) (cells slots : Nat),
      Stand p l e R s m args below meth c T locs cells slots → Cx P Z p R s m meth c d → cells + kc ≤ R.cells → slots + ks ≤ R.slots →
      ∀ (ρ : List Addr) (A : Array Slot) (Sc : List Value), LR ρ L A → L.length = d.maxL → SR ρ S Sc → HR P Z n0 T.heap ρ H → Fr n0 locs →
        Done P Z n0 p e below s ρ v H' (cells + kc) (slots + ks) (T.setTop (mkF m pc A Sc))
def QQ (P : PD) (Z : State) (n0 : Nat) (ρ : List Addr) (v : Option Value) (H1 : AHeap) (v' : Option Value) (h' : Heap) (L : List Loc) : Prop := Fr n0 L ∧ ∃ t, OV (ρ ++ t) v v' ∧ HR P Z n0 h' (ρ ++ t) H1
theorem met_of {P : PD} {Z : State} {n0 : Nat} {l : Launch} {n : Nat} (ih : Says P Z n0 l n) {j : Nat} {y : MD} (hy : P.mth[j]? = some y) (hpn : plainName y.name.cls = true) {as ws : List Value} {H H1 : AHeap} {v : Option Value} {kc ks : Nat} (he : exe P n j 0 (entL as y.maxL) [] H = some (v, H1, kc, ks)) {ρ : List Addr} (hS : SR ρ as ws) (hlen : (entA as).length ≤ y.maxL) {h : Heap} (hH : HR P Z n0 h ρ H) (w0 : List Jvm.Cond) (rm : Room) (r1 : y.rf ≤ rm.frames) (r2 : y.rw ≤ rm.locals) (r3 : kc ≤ rm.cells) (r4 : ks ≤ rm.slots) :
    MetFree l y.name (head1 (Jvm.Cond.code y.name y.bytes y.maxL y.ret :: w0) rm) (fun a U => a = ws.toArray ∧ Z.Warmed39 U.vm ∧ U.heap = h) (fun _ _ _ _ _ => True)
      (fun _ U o U' => ∃ v' L, o = .returned v' ∧ QQ P Z n0 ρ v H1 v' U'.heap L ∧ FrameEnd U o U' L kc ks) := by
  refine MetFree.of_bodySF (plainFor_of_name hpn) hisR ?_
  intro p e s m args below meth c s₁ Bd hml0 hP hK
  obtain ⟨rfl, hZ, hh⟩ := hP
  have X0 : Stand p l e rm s m ws.toArray below meth c s₁ [] 0 0 := Stand.of_body Bd
  have e0 : s₁.heap = h := by rw [← hh, Bd.state]; rfl
  obtain ⟨hL, hsz⟩ := LR.enter hS hlen
  have hLl : (entL as y.maxL).length = y.maxL := by rw [← hL.1]; exact hsz
  obtain ⟨s₂, v', L', t, h1, h2, h3, h4, h5, h6, h7⟩ := ih j 0 _ [] H v H1 kc ks he y hy p e _ s m ws.toArray below meth c s₁ [] 0 0 X0
    ⟨Bd.exec, hZ, Bd.bytes, hml0, findClass_of_methodNamed Bd.named, (name_of_methodNamed Bd.named Bd.method).1, Bd.returns, BodyLoose.notSynchronized Bd, r1, r2⟩
    (by rw [Nat.zero_add]; exact r3) (by rw [Nat.zero_add]; exact r4) ρ _ [] hL hLl rfl (by rw [e0]; exact hH) (Fr.nil n0)
  refine ⟨s₂, _, h1, h2, h3, v', L', rfl, ⟨h6, t, h4, h5⟩, ?_⟩
  rw [Nat.zero_add, Nat.zero_add] at h7
  exact h7
section Sound
variable {P : PD} {Z : State} {n0 : Nat} {a0 : Array Value} {l : Launch}
theorem Done.step {p : Program} {e : Env} {below : List Frame} {s : State} {ρ t : List Addr} {v : Option Value} {H' : AHeap} {kc ks : Nat} {t0 t1 : State} (h : Done P Z n0 p e below s (ρ ++ t) v H' kc ks t1) (k : ∀ target, Steps p.tables e below t1 target → Steps p.tables e below t0 target) : Done P Z n0 p e below s ρ v H' kc ks t0 := by
  obtain ⟨s₂, v', L', t', h1, h2, h3, h4, h5, h6, h7⟩ := h
  exact ⟨s₂, v', L', t ++ t', k _ h1, h2, h3, by rw [← List.append_assoc]; exact h4, by rw [← List.append_assoc]; exact h5, h6, h7⟩
theorem argsOf_spec {n : Nat} {S as rest : List Value} (h : argsOf n S = some (as, rest)) : n ≤ S.length ∧ as = (S.take n).reverse ∧ rest = S.drop n := by
  unfold argsOf at h
  split at h
  · rename_i z; cases h; exact ⟨z, rfl, rfl⟩
  · cases h
theorem res_ext {α : Type} {o : Option Res} {v : Option Value} {H' : AHeap} {kc ks c1 s1 : Nat} (h : (o.map fun r => addR r c1 s1) = some (v, H', kc, ks)) : ∃ kc' ks', o = some (v, H', kc', ks') ∧ kc = kc' + c1 ∧ ks = ks' + s1 := by
  obtain ⟨⟨v0, H0, c0, s0⟩, h1, h2⟩ := Option.map_eq_some_iff.mp h
  simp only [addR] at h2
  cases h2
  exact ⟨c0, s0, h1, rfl, rfl⟩
set_option maxHeartbeats 4000000 in
theorem sound (hP : chk P = true) (hW : ∀ w ∈ wordsOf P, w.before a0 Z = true) : ∀ n, Says P Z n0 l n
  | 0 => fun mi pc L S H v H' kc ks h => by simp [exe] at h
  | n + 1 => by
    have ih := sound hP hW n
    intro mi pc L S H v H' kc ks h d hmi
    unfold exe at h
    rw [hmi] at h
    simp only at h
    have hdm : d ∈ P.mth := List.mem_of_getElem? hmi
    split at h
    · cases h
    rename_i it i len er a b hft
    have hit := fetch_mem hft
    have hmc := mChk_of hP hdm
    simp only [mChk, Bool.and_eq_true] at hmc
    obtain ⟨⟨⟨⟨⟨⟨mc1, mc2⟩, mc3⟩, mc4⟩, mc5⟩, mc6⟩, mc7⟩ := hmc
    unfold codeChk at mc3
    rw [List.all_eq_true] at mc3
    have hci := mc3 _ hit
    simp only [Bool.and_eq_true, decide_eq_true_eq] at hci
    obtain ⟨hdec, hlenOk⟩ := hci
    -- a jump, or a fall through
    have jump : ∀ (q : Nat) (S1 : List Value) (h1 : exe P n mi q (forget er L) S1 H = some (v, H', kc, ks)),
        (∀ (p : Program) (e : Env) (R : Room) (s : State) (m : MethodId) (args : Array Value) (below : List Frame) (meth : Method) (c : Code) (T : State) (locs : List Loc) (cells slots : Nat),
          Stand p l e R s m args below meth c T locs cells slots → Cx P Z p R s m meth c d → ∀ (ρ : List Addr) (A : Array Slot) (Sc : List Value), LR ρ L A → SR ρ S Sc → ∃ Sc1, SR ρ S1 Sc1 ∧ ∀ target, Steps p.tables e below (T.setTop (mkF m q A Sc1)) target → Steps p.tables e below (T.setTop (mkF m pc A Sc)) target) →
        ∀ (p : Program) (e : Env) (R : Room) (s : State) (m : MethodId) (args : Array Value) (below : List Frame) (meth : Method) (c : Code) (T : State) (locs : List Loc) (cells slots : Nat),
          Stand p l e R s m args below meth c T locs cells slots → Cx P Z p R s m meth c d → cells + kc ≤ R.cells → slots + ks ≤ R.slots →
          ∀ (ρ : List Addr) (A : Array Slot) (Sc : List Value), LR ρ L A → L.length = d.maxL → SR ρ S Sc → HR P Z n0 T.heap ρ H → Fr n0 locs →
            Done P Z n0 p e below s ρ v H' (cells + kc) (slots + ks) (T.setTop (mkF m pc A Sc)) := by
      intro q S1 h1 st p e R s m args below meth c T locs cells slots X cx k1 k2 ρ A Sc hL hLl hS hH hF
      obtain ⟨Sc1, hS1, st1⟩ := st p e R s m args below meth c T locs cells slots X cx ρ A Sc hL hS
      have := ih mi q _ S1 H v H' kc ks h1 d hmi p e R s m args below meth c T locs cells slots X cx k1 k2 ρ A Sc1 (hL.forget er) (by rw [forget_len]; exact hLl) hS1 hH hF
      exact Done.step (t := []) (by rw [List.append_nil]; exact this) st1
    have dec : ∀ {c : Code}, c.code = d.bytes → decode c.code pc = .ok (i, len) := fun hc => by rw [hc]; exact hdec
    split at h
    · -- goto
      rename_i o
      split at h
      · rename_i q hq
        obtain ⟨t1, t2⟩ := tgt_spec hq
        have m3 := jump q S h
        obtain rfl : len = 3 := by simpa [lenOk] using hlenOk
        exact m3 fun p e R s m args below meth c T locs cells slots X cx ρ A Sc hL hS => ⟨Sc, hS, fun t z => XS.goto (g := mkF m pc A Sc) X.here cx.1 rfl (pc0 := pc) (pc' := q) rfl (dec cx.2.2.1) t1 t2 z⟩
      · cases h
    · -- if_icmp
      rename_i cd o
      split at h
      · rename_i y x S1
        obtain rfl : len = 3 := by simpa [lenOk] using hlenOk
        split at h
        · rename_i hc
          split at h
          · rename_i q hq
            obtain ⟨t1, t2⟩ := tgt_spec hq
            have m3 := jump q S1 h
            exact m3 fun p e R s m args below meth c T locs cells slots X cx ρ A Sc hL hS => by
              obtain ⟨Sa, rfl, ha⟩ := hS.int
              obtain ⟨Sb, rfl, hb⟩ := ha.int
              exact ⟨Sb, hb, fun t z => XS.icmpYes (g := mkF m pc A _) X.here cx.1 rfl (pc0 := pc) (pc' := q) rfl (dec cx.2.2.1) rfl hc t1 t2 z⟩
          · cases h
        · rename_i hc
          have m3 := jump (pc + 3) S1 h
          exact m3 fun p e R s m args below meth c T locs cells slots X cx ρ A Sc hL hS => by
            obtain ⟨Sa, rfl, ha⟩ := hS.int
            obtain ⟨Sb, rfl, hb⟩ := ha.int
            exact ⟨Sb, hb, fun t z => XS.icmpNo (g := mkF m pc A _) X.here cx.1 rfl (dec cx.2.2.1) rfl (by simpa using hc) z⟩
      · cases h
    · -- ifCond
      rename_i cd o
      split at h
      · rename_i x S1
        obtain rfl : len = 3 := by simpa [lenOk] using hlenOk
        split at h
        · rename_i hc
          split at h
          · rename_i q hq
            obtain ⟨t1, t2⟩ := tgt_spec hq
            have m3 := jump q S1 h
            exact m3 fun p e R s m args below meth c T locs cells slots X cx ρ A Sc hL hS => by
              obtain ⟨Sa, rfl, ha⟩ := hS.int
              exact ⟨Sa, ha, fun t z => XS.ifYes (g := mkF m pc A _) X.here cx.1 rfl (pc0 := pc) (pc' := q) rfl (dec cx.2.2.1) rfl hc t1 t2 z⟩
          · cases h
        · rename_i hc
          have m3 := jump (pc + 3) S1 h
          exact m3 fun p e R s m args below meth c T locs cells slots X cx ρ A Sc hL hS => by
            obtain ⟨Sa, rfl, ha⟩ := hS.int
            exact ⟨Sa, ha, fun t z => XS.ifNo (g := mkF m pc A _) X.here cx.1 rfl (dec cx.2.2.1) rfl (by simpa using hc) z⟩
      · cases h
    · -- ifnonnull
      rename_i o
      split at h
      · rename_i x S1
        split at h
        · rename_i q hq
          obtain ⟨t1, t2⟩ := tgt_spec hq
          have m3 := jump q S1 h
          obtain rfl : len = 3 := by simpa [lenOk] using hlenOk
          exact m3 fun p e R s m args below meth c T locs cells slots X cx ρ A Sc hL hS => by
            obtain ⟨ad, Sa, -, rfl, ha⟩ := hS.ref
            exact ⟨Sa, ha, fun t z => XT.ifnonnullYes (g := mkF m pc A _) X.here cx.1 rfl (pc0 := pc) (pc' := q) rfl (dec cx.2.2.1) rfl t1 t2 z⟩
        · cases h
      · cases h
    · -- ireturn
      split at h
      · rename_i x
        split at h
        · rename_i v0 hv0
          cases h
          obtain rfl : len = 1 := by simpa [lenOk] using hlenOk
          intro p e R s m args below meth c T locs cells slots X cx k1 k2 ρ A Sc hL hLl hS hH hF
          obtain ⟨hx, hZ, hby, hml, hown, hnm, hret, hlk, -, -⟩ := cx
          obtain ⟨Sa, rfl, ha⟩ := hS.int
          unfold retV at hv0
          split at hv0
          · rename_i hr0
            cases hv0
            obtain ⟨fs, hr, hrun, hended, hWm, hsame⟩ := X.leave (v := some (.int x)) (fun q => by rw [hret, hr0] at q; cases q) hlk
            exact ⟨_, _, locs, [], retI X hx (by rw [hret, hr0]) (dec hby) hr, hrun, hended, ⟨_, rfl, rfl⟩, by rw [List.append_nil]; exact hH, hF, ⟨_, rfl⟩, hWm, hsame⟩
          · rename_i hr0
            cases hv0
            obtain ⟨fs, hr, hrun, hended, hWm, hsame⟩ := X.leave (v := some (.int (x &&& 1))) (fun q => by rw [hret, hr0] at q; cases q) hlk
            exact ⟨_, _, locs, [], retN X hx (t := .boolean) (by rw [hret, hr0]) (by simp) (dec hby) hr, hrun, hended, ⟨_, rfl, rfl⟩, by rw [List.append_nil]; exact hH, hF, ⟨_, rfl⟩, hWm, hsame⟩
          · cases hv0
        · cases h
      · cases h
    · -- lreturn
      split at h
      · rename_i x
        split at h
        · rename_i hr0
          cases h
          obtain rfl : len = 1 := by simpa [lenOk] using hlenOk
          intro p e R s m args below meth c T locs cells slots X cx k1 k2 ρ A Sc hL hLl hS hH hF
          obtain ⟨hx, hZ, hby, hml, hown, hnm, hret, hlk, -, -⟩ := cx
          obtain ⟨Sa, rfl, ha⟩ := hS.long
          obtain rfl : Sa = [] := ha
          obtain ⟨fs, hr, hrun, hended, hWm, hsame⟩ := X.leave (v := some (.long x)) (fun q => by rw [hret, hr0] at q; cases q) hlk
          exact ⟨_, _, locs, [], X.lreturnOut hx (by rw [hret, hr0]) (dec hby) hr, hrun, hended, ⟨_, rfl, rfl⟩, by rw [List.append_nil]; exact hH, hF, ⟨_, rfl⟩, hWm, hsame⟩
        · cases h
      · cases h
    · -- return
      split at h
      · split at h
        · rename_i hr0
          cases h
          obtain rfl : len = 1 := by simpa [lenOk] using hlenOk
          intro p e R s m args below meth c T locs cells slots X cx k1 k2 ρ A Sc hL hLl hS hH hF
          obtain ⟨hx, hZ, hby, hml, hown, hnm, hret, hlk, -, -⟩ := cx
          obtain rfl : Sc = [] := hS
          obtain ⟨fs, hr, hrun, hended, hWm, hsame⟩ := X.leave (v := none) (fun _ => rfl) hlk
          exact ⟨_, _, locs, [], X.returnOut hx (by rw [hret, hr0]) (dec hby) hr, hrun, hended, rfl, by rw [List.append_nil]; exact hH, hF, ⟨_, rfl⟩, hWm, hsame⟩
        · cases h
      · cases h
    · -- a call, or a plain step
      split at h
      · rename_i hinv
        split at h
        · -- Object.<init>
          rename_i hb1
          subst hb1
          have hk : ∃ k x S1, i = .invokespecial k ∧ S = .ref x :: S1 ∧ (if 1 ≤ d.rf ∧ catSum S1 + 12 ≤ d.rw then exe P n mi (pc + 3) (forget er L) S1 H else none) = some (v, H', kc, ks) := by
            split at h
            · exact ⟨_, _, _, rfl, rfl, h⟩
            · cases h
          clear h
          obtain ⟨k, x, S1, rfl, rfl, h⟩ := hk
          · split at h
            · rename_i hroom
              have m3 := ih mi (pc + 3) _ S1 H v H' kc ks h d hmi
              obtain rfl : len = 3 := by simpa [lenOk] using hlenOk
              have hWi : ∀ w ∈ iWords P d (pc, .invokespecial k, 3, er, a, -1), w.before a0 Z = true := fun w q => hW w (in_wordsOf hdm hit q)
              have hWi' : ∀ w ∈ [Jvm.Cond.methodLink d.name.cls k Lib.objectInit, .instanceMethod Lib.objectInit, .code Lib.objectInit ⟨#[0xb1]⟩ 1 none], w.before a0 Z = true := hWi
              intro p e R s m args below meth c T locs cells slots X cx k1 k2 ρ A Sc hL hLl hS hH hF
              have cx0 := cx
              obtain ⟨hx, hZ, hby, hml, hown, hnm, hret, hlk, hrf, hrw⟩ := cx
              obtain ⟨ad, Sa, -, rfl, ha⟩ := hS.ref
              obtain ⟨T2, X2, e2, st2⟩ := initO X hx hZ hown (hWi' _ (by simp)) (hWi' _ (by simp)) (hWi' _ (by simp)) rfl (g := mkF m pc A (.ref ad :: Sa)) rfl (by rw [hml]; exact hL.1.trans hLl) rfl (dec hby) (by omega) (W := catSum S1) (by show 2 * 0 + _ ≤ _; rw [ha.cat]; omega) (by omega)
              have := m3 p e R s m args below meth c T2 locs cells slots X2 cx0 k1 k2 ρ A Sa (hL.forget er) (by rw [forget_len]; exact hLl) ha (by rw [e2]; exact hH) hF
              exact Done.step (t := []) (by rw [List.append_nil]; exact this) st2
            · cases h
        · rename_i hb1
          split at h
          · cases h
          rename_i y hy
          split at h
          · cases h
          rename_i as rest hao
          split at h
          · rename_i hcond
            simp only [Bool.and_eq_true, decide_eq_true_eq] at hcond
            obtain ⟨⟨⟨⟨hj, hik⟩, hrecv⟩, hroom⟩, hent⟩ := hcond
            split at h
            · rename_i v1 H1 c1 s1 hcal
              obtain ⟨c0, s0, hcon, rfl, rfl⟩ := res_ext (α := Unit) h
              have m3 := ih mi (pc + 3) _ _ H1 v H' c0 s0 hcon d hmi
              intro p e R s m args below meth c T locs cells slots X cx k1 k2 ρ A Sc hL hLl hS hH hF
              have cx0 := cx
              obtain ⟨hx, hZ, hby, hml, hown, hnm, hret, hlk, hrf, hrw⟩ := cx
              have hym : y ∈ P.mth := List.mem_of_getElem? hy
              have hyc := mChk_of hP hym
              simp only [mChk, Bool.and_eq_true, decide_eq_true_eq] at hyc
              obtain ⟨⟨⟨⟨⟨⟨yc1, yc2⟩, yc3⟩, yc4⟩, yc5⟩, yc6⟩, yc7⟩ := hyc
              simp only [fitsRoom, Bool.and_eq_true, decide_eq_true_eq] at hroom
              obtain ⟨hn, has, hrest⟩ := argsOf_spec hao
              have hnc : nargs y ≤ Sc.length := by rw [hS.len]; exact hn
              have hSa : SR ρ as (Sc.take (nargs y)).reverse := by rw [has]; exact (hS.take _).rev
              have hSr : SR ρ rest (Sc.drop (nargs y)) := by rw [hrest]; exact hS.drop _
              have hsplit : Sc = (Sc.take (nargs y)).reverse.reverse ++ Sc.drop (nargs y) := by rw [List.reverse_reverse, List.take_append_drop]
              obtain ⟨ws, hws⟩ : ∃ ws, ws = (Sc.take (nargs y)).reverse := ⟨_, rfl⟩
              obtain ⟨rc, hrc⟩ : ∃ rc, rc = Sc.drop (nargs y) := ⟨_, rfl⟩
              have hwl : ws.length = nargs y := by rw [hws]; simp; omega
              rw [← hws] at hSa hsplit
              rw [← hrc] at hSr hsplit
              have wcode := hW (.code y.name y.bytes y.maxL y.ret) (in_wordsM hy hj (List.mem_cons_self ..))
              have winit := hW (.initialized y.name.cls) (in_wordsM hy hj (List.mem_cons_of_mem _ (List.mem_cons_self ..)))
              have wmore : ∀ w ∈ (if y.kind = 0 then [Jvm.Cond.static y.name] else if y.kind = 1 then [.instanceMethod y.name] else if y.kind = 2 then [.instanceMethod y.name, .privateMethod y.name] else [.declares y.name, .selects y.name.cls y.name y.name, .instanceMethod y.name]), w.before a0 Z = true := fun w q => hW w (in_wordsM hy hj (List.mem_cons_of_mem _ (List.mem_cons_of_mem _ q)))
              have hMH : y.name.cls ≠ "java/lang/invoke/MethodHandle" ∧ y.name.cls ≠ "java/lang/invoke/VarHandle" := ⟨yc5, yc6⟩
              have back := backOf (W := catSum rest) (len := 3) (R := R) (p := p) (e := e) (below := below) (s := s) (args := args) (met_of ih hy yc1 hcal hSa hent hH [] ({ frames := y.rf, cells := c1, slots := s1, locals := y.rw } : Room) (Nat.le_refl _) (Nat.le_refl _) (Nat.le_refl _) (Nat.le_refl _)) hZ wcode winit (by show y.rf + 1 ≤ _; omega) (by show _ + y.rw ≤ _; omega)
              have hWW : 2 * (mkF m pc A Sc).monitorRoom + (rc.map fun v => v.category).sum ≤ catSum rest := by show 2 * 0 + _ ≤ _; rw [hSr.cat]; omega
              have hpar : ∀ sig, parseMethodDescriptor y.name.desc = some sig → sig.parameters.length = y.npar := fun sig q => by
                unfold sigChk at yc2
                rw [q] at yc2
                simpa using yc2
              have fin : ∀ (v1' : Option Value) (T2 : State) (Lc : List Loc), Stand p l e R s m args below meth c T2 (locs ++ Lc) (cells + c1) (slots + s1) → QQ P Z n0 ρ v1 H1 v1' T2.heap Lc →
                  (∀ target, Steps p.tables e below (T2.setTop (mkF m (pc + 3) A (v1'.toList ++ rc))) target → Steps p.tables e below (T.setTop (mkF m pc A Sc)) target) →
                  Done P Z n0 p e below s ρ v H' (cells + (c0 + c1)) (slots + (s0 + s1)) (T.setTop (mkF m pc A Sc)) := by
                intro v1' T2 Lc X2 hq st2
                obtain ⟨hF2, t, hov, hH2⟩ := hq
                have := m3 p e R s m args below meth c T2 (locs ++ Lc) _ _ X2 cx0 (by omega) (by omega) (ρ ++ t) A (v1'.toList ++ rc) (hL.forget er).mono (by rw [forget_len]; exact hLl) (hov.list.app hSr.mono) hH2 (hF.app hF2)
                have q1 : cells + c1 + c0 = cells + (c0 + c1) := by omega
                have q2 : slots + s1 + s0 = slots + (s0 + s1) := by omega
                rw [q1, q2] at this
                exact this.step st2
              have hcR : cells + c1 ≤ R.cells := by omega
              have hsR : slots + s1 ≤ R.slots := by omega
              cases i with
              | invokestatic k =>
                obtain rfl : len = 3 := by simpa [lenOk] using hlenOk
                have hk0 : y.kind = 0 := by simpa [invKind] using hik
                have wl := hW (.methodLink d.name.cls k y.name) (in_wordsOf hdm hit (by show _ ∈ mLink P d k a b; unfold mLink; rw [if_neg hb1, hy]; exact List.mem_singleton.mpr rfl))
                have wst := wmore (.static y.name) (by rw [if_pos hk0]; exact List.mem_singleton.mpr rfl)
                have hna : nargs y = y.npar := by simp [nargs, hk0]
                obtain ⟨v1', _, ⟨T2, L2, k2', n2⟩, -, X2, ⟨Lc, hQ, l2, y2, z2⟩, st2⟩ := Jvm.LawKit.callS X hx (y := y.name) hown (mvT hZ wl) (mvT hZ wst) (mvT hZ winit) (mvT hZ wcode) hMH back (g := mkF m pc A Sc) rfl (by rw [hml]; exact hL.1.trans hLl) (argsL := ws) (rest := rc) (fun sig q => by rw [hpar sig q, hwl, hna]) hsplit hWW (dec hby) (fun _ _ => ⟨rfl, rfl, hcR, hsR⟩)
                dsimp only [Pt.U, Pt.locs, Pt.cells, Pt.slots] at X2 l2 y2 z2 st2 hQ
                subst l2 y2 z2
                exact fin v1' T2 Lc X2 hQ st2
              | invokespecial k =>
                obtain rfl : len = 3 := by simpa [lenOk] using hlenOk
                have hk1 : y.kind = 1 := by simpa [invKind] using hik
                have wl := hW (.methodLink d.name.cls k y.name) (in_wordsOf hdm hit (by show _ ∈ mLink P d k a b; unfold mLink; rw [if_neg hb1, hy]; exact List.mem_singleton.mpr rfl))
                have wst := wmore (.instanceMethod y.name) (by rw [if_neg (by omega), if_pos hk1]; exact List.mem_singleton.mpr rfl)
                have hna : nargs y = y.npar + 1 := by simp [nargs, hk1]
                simp [hk1] at yc7
                have wcode' : (Jvm.Cond.code y.name y.bytes y.maxL none).before a0 Z = true := by rw [← yc7.2]; exact wcode
                unfold recvOk at hrecv
                rw [if_neg (by omega)] at hrecv
                split at hrecv
                · rename_i o as'
                  obtain ⟨ad, ws', g1, rfl, ha'⟩ := hSa.ref
                  have hst : Sc = ws'.reverse ++ .ref ad :: rc := by rw [hsplit]; simp
                  obtain ⟨v1', _, ⟨T2, L2, k2', n2⟩, -, X2, ⟨Lc, hQ, l2, y2, z2⟩, st2⟩ := X.specialBack hx (y := y.name) yc7.1 hown (mvT hZ wl) (mvT hZ wst) (mvT hZ wcode') hMH back (g := mkF m pc A Sc) rfl (by rw [hml]; exact hL.1.trans hLl) (Steps.refl _) (a := ad) (argsL := ws') (rest := rc) (fun sig q => by rw [hpar sig q]; simp [hna] at hwl; omega) hst hWW (dec hby) (fun _ _ => ⟨rfl, rfl, hcR, hsR⟩)
                  dsimp only [Pt.U, Pt.locs, Pt.cells, Pt.slots] at X2 l2 y2 z2 st2 hQ
                  subst l2 y2 z2
                  exact fin v1' T2 Lc X2 hQ fun t z => st2.trans z
                · cases hrecv
              | invokevirtual k =>
                obtain rfl : len = 3 := by simpa [lenOk] using hlenOk
                have wl := hW (.methodLink d.name.cls k y.name) (in_wordsOf hdm hit (by show _ ∈ mLink P d k a b; unfold mLink; rw [if_neg hb1, hy]; exact List.mem_singleton.mpr rfl))
                have hk23 : y.kind = 2 ∨ y.kind = 3 := by simpa [invKind] using hik
                have hk0 : ¬ y.kind = 0 := by omega
                have hk1 : ¬ y.kind = 1 := by omega
                have hna : nargs y = y.npar + 1 := by simp [nargs, hk0]
                unfold recvOk at hrecv
                rw [if_neg hk0] at hrecv
                split at hrecv
                · rename_i o as'
                  obtain ⟨ad, ws', g1, rfl, ha'⟩ := hSa.ref
                  have hst : Sc = ws'.reverse ++ .ref ad :: rc := by rw [hsplit]; simp
                  split at hrecv
                  · rename_i c0 fs hc0
                    obtain rfl : c0 = y.cid := by simpa using hrecv
                    obtain ⟨ad', g2, cd, q1, q2, q3, q4⟩ := hH.at hc0
                    rw [g1] at g2; cases g2
                    have hcd := cid_of hP hym q1
                    have hcm : cd ∈ P.cls := List.mem_of_getElem? q1
                    rw [hcd] at q2
                    by_cases hk2 : y.kind = 2
                    · have w1 := wmore (.instanceMethod y.name) (by rw [if_neg hk0, if_neg hk1, if_pos hk2]; simp)
                      have w2 := wmore (.privateMethod y.name) (by rw [if_neg hk0, if_neg hk1, if_pos hk2]; simp)
                      have w3 := hW (.instantiable cd.1 cd.2.1) (in_wordsC hcm (List.mem_cons_self ..))
                      rw [hcd] at w3
                      obtain ⟨cI, kI, i1, i2, i3, i4, -⟩ := Cond.instantiable_spec (mvT hZ w3 (args := args) : (Jvm.Cond.instantiable y.name.cls cd.2.1).before args s = true)
                      have hsel := selects_self_of_private (args := args) i1 i2 (by simp at i4; exact i4.1) (Cond.privateMethod_at (mvP hZ w2 (args := #[]))) (mvT hZ w1) hMH
                      obtain ⟨cq, hq1, hq2⟩ := q2.cell
                      obtain ⟨v1', _, ⟨T2, L2, k2', n2⟩, -, X2, ⟨Lc, hQ, l2, y2, z2⟩, st2⟩ := X.privateBack hx (y := y.name) hown (mvT hZ wl) (mvT hZ w1) hsel (Cond.privateMethod_at (mvP hZ w2 (args := #[]))) (mvT hZ wcode) hMH back (g := mkF m pc A Sc) rfl (by rw [hml]; exact hL.1.trans hLl) (Steps.refl _) (a := ad) hq1 hq2 (argsL := ws') (rest := rc) (fun sig q => by rw [hpar sig q]; simp [hna] at hwl; omega) hst hWW (dec hby) (fun _ _ => ⟨rfl, rfl, hcR, hsR⟩)
                      dsimp only [Pt.U, Pt.locs, Pt.cells, Pt.slots] at X2 l2 y2 z2 st2 hQ
                      subst l2 y2 z2
                      exact fin v1' T2 Lc X2 hQ fun t z => st2.trans z
                    · have w1 := wmore (.declares y.name) (by rw [if_neg hk0, if_neg hk1, if_neg hk2]; simp)
                      have w2 := wmore (.selects y.name.cls y.name y.name) (by rw [if_neg hk0, if_neg hk1, if_neg hk2]; simp)
                      have w3 := wmore (.instanceMethod y.name) (by rw [if_neg hk0, if_neg hk1, if_neg hk2]; simp)
                      obtain ⟨cq, kq, qa, qb, qc⟩ := isOf hZ rfl q2
                      obtain ⟨v1', _, ⟨T2, L2, k2', n2⟩, -, X2, ⟨Lc, hQ, l2, y2, z2⟩, st2⟩ := X.virtualBack hx (y := y.name) (z := y.name) hown (mvT hZ wl) (mvT hZ w1) (notFace_of_selects (args := #[]) (mvT hZ w2)) (mvT hZ w2) (mvT hZ w3) hMH back qa qc (g := mkF m pc A Sc) rfl (by rw [hml]; exact hL.1.trans hLl) (Steps.refl _) (argsL := ws') (rest := rc) (fun sig q => by rw [hpar sig q]; simp [hna] at hwl; omega) hst hWW (dec hby) (fun _ _ => ⟨rfl, rfl, hcR, hsR⟩)
                      dsimp only [Pt.U, Pt.locs, Pt.cells, Pt.slots] at X2 l2 y2 z2 st2 hQ
                      subst l2 y2 z2
                      exact fin v1' T2 Lc X2 hQ fun t z => st2.trans z
                  · cases hrecv
                · cases hrecv
              | _ => simp [isInv] at hinv
            · cases h
          · cases h
      · split at h
        · split at h
          · rename_i S1 H1 k1' hxN
            obtain ⟨c0, s0, hcon, rfl, rfl⟩ := res_ext (α := Unit) h
            have m3 := ih mi (pc + len) _ S1 H1 v H' c0 s0 hcon d hmi
            intro p e R s m args below meth c T locs cells slots X cx k1 k2 ρ A Sc hL hLl hS hH hF
            have cx0 := cx
            obtain ⟨hx, hZ, hby, hml, hown, hnm, hret, hlk, hrf, hrw⟩ := cx
            obtain ⟨T2, ad, Sc2, X2, hS2, hH2, st2⟩ := stepN (A := A) X hx hZ hown hP hW hdm hit (dec hby) hlenOk hS hH hxN (by omega) (by omega)
            have := m3 p e R s m args below meth c T2 locs _ _ X2 cx0 (by omega) (by omega) (ρ ++ [ad]) A Sc2 (hL.forget er).mono (by rw [forget_len]; exact hLl) hS2 hH2 hF
            have q1 : cells + 1 + c0 = cells + (c0 + 1) := by omega
            have q2 : slots + k1' + s0 = slots + (s0 + k1') := by omega
            rw [q1, q2] at this
            exact this.step st2
          · cases h
        · split at h
          · rename_i L1 S1 H1 hxI
            have m3 := ih mi (pc + len) L1 S1 H1 v H' kc ks h d hmi
            intro p e R s m args below meth c T locs cells slots X cx k1 k2 ρ A Sc hL hLl hS hH hF
            have cx0 := cx
            obtain ⟨hx, hZ, hby, hml, hown, hnm, hret, hlk, hrf, hrw⟩ := cx
            obtain ⟨T2, locs2, A2, Sc2, X2, x3, hL2, hS2, hH2, hF2, st2⟩ := stepX X hx hZ hown hnm hP hW hdm hit (dec hby) hlenOk (hL.forget er) hS hH hF hxI
            have := m3 p e R s m args below meth c T2 locs2 cells slots X2 cx0 k1 k2 ρ A2 Sc2 hL2 (by rw [x3, forget_len]; exact hLl) hS2 hH2 hF2
            exact Done.step (t := []) (by rw [List.append_nil]; exact this) st2
          · cases h
end Sound
end Jvm.Own
namespace Jvm.Own
open Jvm Jvm.ClassFile Sem Op Lib Jvm.Free Jvm.Stand Jvm.LawKit Jvm.RoadKit Bundle
/-! Runs of the plain machine, rule by rule -/
def OEnds (P : PD) (mi pc : Nat) (L : List Slot) (S : List Value) (H : AHeap) (r : Res) : Prop := ∃ n0, ∀ n, n0 ≤ n → exe P n mi pc L S H = some r
def plainI : Instr → Bool
  | .goto _ => false
  | .if_icmp _ _ => false
  | .ifCond _ _ => false
  | .ifnonnull _ => false
  | .ireturn => false
  | .lreturn => false
  | .return_ => false
  | .invokestatic _ => false
  | .invokespecial _ => false
  | .invokevirtual _ => false
  | .new _ => false
  | .newarray _ => false
  | _ => true
section Rules
variable {P : PD} {mi pc len a q : Nat} {er : List Bool} {b : Int} {i : Instr} {d y : MD} {L L' : List Slot} {S S' as rest : List Value} {H H' H1 : AHeap} {r : Res} {kc ks : Nat} {v : Option Value}
theorem OEnds.up (h : ∀ n, exe P n mi q L' S' H' = some r → exe P (n + 1) mi pc L S H = some r) (E : OEnds P mi q L' S' H' r) : OEnds P mi pc L S H r := by
  obtain ⟨n0, E⟩ := E
  refine ⟨n0 + 1, fun n hn => ?_⟩
  obtain ⟨k, rfl⟩ : ∃ k, n = k + 1 := ⟨n - 1, by omega⟩
  exact h k (E k (by omega))
theorem OEnds.plain (hm : P.mth[mi]? = some d) (hf : fetch d.code pc = some (i, len, er, a, b)) (hp : plainI i = true) (hx : xI P (d.name.name == "<init>") d.cid i a b (forget er L) S H = some (L', S', H')) (E : OEnds P mi (pc + len) L' S' H' r) : OEnds P mi pc L S H r := by
  refine E.up fun n h => ?_
  unfold exe
  rw [hm]
  simp only
  rw [hf]
  simp only
  split
  all_goals first | (simp [plainI] at hp; done) | skip
  have h1 : ¬ isInv i = true := by
    cases i <;> first | (simp [plainI] at hp; done) | simp [isInv]
  have h2 : ¬ isNew i = true := by
    cases i <;> first | (simp [plainI] at hp; done) | simp [isNew]
  rw [if_neg h1, if_neg h2, hx]
  exact h
theorem OEnds.goto {o : Int} (hm : P.mth[mi]? = some d) (hf : fetch d.code pc = some (.goto o, len, er, a, b)) (ht : tgt pc o = some q) (E : OEnds P mi q (forget er L) S H r) : OEnds P mi pc L S H r := by
  refine E.up fun n h => ?_
  unfold exe
  rw [hm]
  simp only
  rw [hf]
  simp only
  rw [ht]
  exact h
theorem OEnds.icmpT {o : Int} {cd : ClassFile.Cond} {x z : Int32} (hm : P.mth[mi]? = some d) (hf : fetch d.code pc = some (.if_icmp cd o, len, er, a, b)) (ht : tgt pc o = some q) (hc : if_icmp.holds cd x z = true) (E : OEnds P mi q (forget er L) S H r) : OEnds P mi pc L (.int z :: .int x :: S) H r := by
  refine E.up fun n h => ?_
  unfold exe
  rw [hm]
  simp only
  rw [hf]
  simp only
  rw [if_pos hc, ht]
  exact h
theorem OEnds.icmpF {o : Int} {cd : ClassFile.Cond} {x z : Int32} (hm : P.mth[mi]? = some d) (hf : fetch d.code pc = some (.if_icmp cd o, len, er, a, b)) (hc : if_icmp.holds cd x z = false) (E : OEnds P mi (pc + 3) (forget er L) S H r) : OEnds P mi pc L (.int z :: .int x :: S) H r := by
  refine E.up fun n h => ?_
  unfold exe
  rw [hm]
  simp only
  rw [hf]
  simp only
  rw [if_neg (by rw [hc]; exact Bool.false_ne_true)]
  exact h
theorem OEnds.ifT {o : Int} {cd : ClassFile.Cond} {x : Int32} (hm : P.mth[mi]? = some d) (hf : fetch d.code pc = some (.ifCond cd o, len, er, a, b)) (ht : tgt pc o = some q) (hc : if_icmp.holds cd x 0 = true) (E : OEnds P mi q (forget er L) S H r) : OEnds P mi pc L (.int x :: S) H r := by
  refine E.up fun n h => ?_
  unfold exe
  rw [hm]
  simp only
  rw [hf]
  simp only
  rw [if_pos ((if0 cd x).trans hc), ht]
  exact h
theorem OEnds.ifF {o : Int} {cd : ClassFile.Cond} {x : Int32} (hm : P.mth[mi]? = some d) (hf : fetch d.code pc = some (.ifCond cd o, len, er, a, b)) (hc : if_icmp.holds cd x 0 = false) (E : OEnds P mi (pc + 3) (forget er L) S H r) : OEnds P mi pc L (.int x :: S) H r := by
  refine E.up fun n h => ?_
  unfold exe
  rw [hm]
  simp only
  rw [hf]
  simp only
  rw [if_neg (by rw [if0 cd x, hc]; exact Bool.false_ne_true)]
  exact h
theorem OEnds.nonnull {o : Int} {x : Nat} (hm : P.mth[mi]? = some d) (hf : fetch d.code pc = some (.ifnonnull o, len, er, a, b)) (ht : tgt pc o = some q) (E : OEnds P mi q (forget er L) S H r) : OEnds P mi pc L (.ref x :: S) H r := by
  refine E.up fun n h => ?_
  unfold exe
  rw [hm]
  simp only
  rw [hf]
  simp only
  rw [ht]
  exact h
theorem OEnds.iret {x : Int32} {u : Value} (hm : P.mth[mi]? = some d) (hf : fetch d.code pc = some (.ireturn, len, er, a, b)) (hv : retV d.ret x = some u) : OEnds P mi pc L [.int x] H (some u, H, 0, 0) := by
  refine ⟨1, fun n hn => ?_⟩
  obtain ⟨k, rfl⟩ : ∃ k, n = k + 1 := ⟨n - 1, by omega⟩
  unfold exe
  rw [hm]
  simp only
  rw [hf]
  simp only
  rw [hv]
theorem OEnds.lret {x : Int64} (hm : P.mth[mi]? = some d) (hf : fetch d.code pc = some (.lreturn, len, er, a, b)) (hv : d.ret = some .long) : OEnds P mi pc L [.long x] H (some (.long x), H, 0, 0) := by
  refine ⟨1, fun n hn => ?_⟩
  obtain ⟨k, rfl⟩ : ∃ k, n = k + 1 := ⟨n - 1, by omega⟩
  unfold exe
  rw [hm]
  simp only
  rw [hf]
  simp only
  rw [if_pos hv]
theorem OEnds.vret (hm : P.mth[mi]? = some d) (hf : fetch d.code pc = some (.return_, len, er, a, b)) (hv : d.ret = none) : OEnds P mi pc L [] H (none, H, 0, 0) := by
  refine ⟨1, fun n hn => ?_⟩
  obtain ⟨k, rfl⟩ : ∃ k, n = k + 1 := ⟨n - 1, by omega⟩
  unfold exe
  rw [hm]
  simp only
  rw [hf]
  simp only
  rw [if_pos hv]
theorem OEnds.oinit {k x : Nat} (hm : P.mth[mi]? = some d) (hf : fetch d.code pc = some (.invokespecial k, len, er, a, -1)) (hr : 1 ≤ d.rf ∧ catSum S + 12 ≤ d.rw) (E : OEnds P mi (pc + 3) (forget er L) S H r) : OEnds P mi pc L (.ref x :: S) H r := by
  refine E.up fun n h => ?_
  unfold exe
  rw [hm]
  simp only
  rw [hf]
  simp only [isInv, if_true]
  rw [if_pos hr]
  exact h
theorem OEnds.call (hm : P.mth[mi]? = some d) (hf : fetch d.code pc = some (i, len, er, a, b)) (hi : isInv i = true) (hb : ¬ b = -1) (hy : P.mth[a]? = some y) (hao : argsOf (nargs y) S = some (as, rest))
    (hc : (decide (0 < a) && invKind i y.kind && recvOk P H y as && fitsRoom d y rest && decide ((entA as).length ≤ y.maxL)) = true) (E1 : OEnds P a 0 (entL as y.maxL) [] H (v, H1, kc, ks)) (E2 : OEnds P mi (pc + 3) (forget er L) (v.toList ++ rest) H1 r) : OEnds P mi pc L S H (addR r kc ks) := by
  obtain ⟨n1, E1⟩ := E1
  obtain ⟨n2, E2⟩ := E2
  refine ⟨n1 + n2 + 1, fun n hn => ?_⟩
  obtain ⟨k, rfl⟩ : ∃ k, n = k + 1 := ⟨n - 1, by omega⟩
  have e1 := E1 k (by omega)
  have e2 := E2 k (by omega)
  unfold exe
  rw [hm]
  simp only
  rw [hf]
  simp only
  split
  all_goals first | (simp [isInv] at hi; done) | skip
  rw [if_pos hi, if_neg hb, hy]
  simp only
  rw [hao]
  simp only
  rw [if_pos hc, e1]
  simp only
  rw [e2]
  rfl
theorem OEnds.call0 (hm : P.mth[mi]? = some d) (hf : fetch d.code pc = some (i, len, er, a, b)) (hi : isInv i = true) (hb : ¬ b = -1) (hy : P.mth[a]? = some y) (hao : argsOf (nargs y) S = some (as, rest))
    (hc : (decide (0 < a) && invKind i y.kind && recvOk P H y as && fitsRoom d y rest && decide ((entA as).length ≤ y.maxL)) = true) (E1 : OEnds P a 0 (entL as y.maxL) [] H (v, H1, 0, 0)) (E2 : OEnds P mi (pc + 3) (forget er L) (v.toList ++ rest) H1 r) : OEnds P mi pc L S H r :=
  OEnds.call (r := r) hm hf hi hb hy hao hc E1 E2
theorem OEnds.made (hm : P.mth[mi]? = some d) (hf : fetch d.code pc = some (i, len, er, a, b)) (hi : isNew i = true) (hx : xN P i a S H = some (S', H', ks)) (E : OEnds P mi (pc + len) (forget er L) S' H' r) : OEnds P mi pc L S H (addR r 1 ks) := by
  obtain ⟨n0, E⟩ := E
  refine ⟨n0 + 1, fun n hn => ?_⟩
  obtain ⟨k, rfl⟩ : ∃ k, n = k + 1 := ⟨n - 1, by omega⟩
  have e1 := E k (by omega)
  unfold exe
  rw [hm]
  simp only
  rw [hf]
  simp only
  split
  all_goals first | (simp [isNew] at hi; done) | skip
  have h1 : ¬ isInv i = true := by
    cases i <;> first | (simp [isNew] at hi; done) | simp [isInv]
  rw [if_neg h1, if_pos hi, hx]
  simp only
  rw [e1]
  rfl
end Rules
/-- k plain instructions and jumps in one go -/
def adv (P : PD) (d : MD) : Nat → Nat → List Slot → List Value → AHeap → Option (Nat × List Slot × List Value × AHeap)
  | 0, pc, L, S, H => some (pc, L, S, H)
  | k + 1, pc, L, S, H => match fetch d.code pc with
    | some (i, len, er, a, b) => match i with
      | .goto o => match tgt pc o with
        | some q => adv P d k q (forget er L) S H
        | none => none
      | i => if plainI i = true then match xI P (d.name.name == "<init>") d.cid i a b (forget er L) S H with
          | some (L', S', H') => adv P d k (pc + len) L' S' H'
          | none => none
        else none
    | none => none
theorem OEnds.adv {P : PD} {mi : Nat} {d : MD} (hm : P.mth[mi]? = some d) {r : Res} : ∀ (k : Nat) {pc pc' : Nat} {L L' : List Slot} {S S' : List Value} {H H' : AHeap}, adv P d k pc L S H = some (pc', L', S', H') → OEnds P mi pc' L' S' H' r → OEnds P mi pc L S H r
  | 0, _, _, _, _, _, _, _, _, h, E => by
    unfold Own.adv at h
    cases h
    exact E
  | k + 1, pc, pc', L, L', S, S', H, H', h, E => by
    unfold Own.adv at h
    split at h
    · rename_i it i len er a b hf
      split at h
      · rename_i o
        split at h
        · rename_i q hq
          exact OEnds.goto hm hf hq (OEnds.adv hm k h E)
        · cases h
      · split at h
        · rename_i hp
          split at h
          · rename_i L1 S1 H1 hx
            exact OEnds.plain hm hf hp hx (OEnds.adv hm k h E)
          · cases h
        · cases h
    · cases h
theorem x_iaload {P : PD} {ini : Bool} {cid a o : Nat} {b : Int} {L : List Slot} {S : List Value} {H : AHeap} {A : List Int32} {j x : Int32} (h : H[o]? = some (.inr (.inl (false, A)))) (hx : rdA A j = some x) : xI P ini cid .iaload a b L (.int j :: .ref o :: S) H = some (L, .int x :: S, H) := by simp [xI, h, hx]
theorem x_baload {P : PD} {ini : Bool} {cid a o : Nat} {b : Int} {L : List Slot} {S : List Value} {H : AHeap} {A : List Int32} {j x : Int32} (h : H[o]? = some (.inr (.inl (true, A)))) (hx : rdA A j = some x) : xI P ini cid .baload a b L (.int j :: .ref o :: S) H = some (L, .int x :: S, H) := by simp [xI, h, hx]
theorem x_laload {P : PD} {ini : Bool} {cid a o : Nat} {b : Int} {L : List Slot} {S : List Value} {H : AHeap} {A : List Int64} {j : Int32} {x : Int64} (h : H[o]? = some (.inr (.inr A))) (hx : rdA A j = some x) : xI P ini cid .laload a b L (.int j :: .ref o :: S) H = some (L, .long x :: S, H) := by simp [xI, h, hx]
theorem x_iastore {P : PD} {ini : Bool} {cid a o : Nat} {b : Int} {L : List Slot} {S : List Value} {H : AHeap} {A A' : List Int32} {j x : Int32} (h : H[o]? = some (.inr (.inl (false, A)))) (hn : P.nr ≤ o) (hx : wrA A j x = some A') : xI P ini cid .iastore a b L (.int x :: .int j :: .ref o :: S) H = some (L, S, H.set o (.inr (.inl (false, A')))) := by simp [xI, h, hx, hn]
theorem x_bastore {P : PD} {ini : Bool} {cid a o : Nat} {b : Int} {L : List Slot} {S : List Value} {H : AHeap} {A A' : List Int32} {j x : Int32} (h : H[o]? = some (.inr (.inl (true, A)))) (hn : P.nr ≤ o) (hx : wrA A j (x &&& 1) = some A') : xI P ini cid .bastore a b L (.int x :: .int j :: .ref o :: S) H = some (L, S, H.set o (.inr (.inl (true, A')))) := by simp [xI, h, hx, hn]
theorem x_lastore {P : PD} {ini : Bool} {cid a o : Nat} {b : Int} {L : List Slot} {S : List Value} {H : AHeap} {A A' : List Int64} {j : Int32} {x : Int64} (h : H[o]? = some (.inr (.inr A))) (hn : P.nr ≤ o) (hx : wrA A j x = some A') : xI P ini cid .lastore a b L (.long x :: .int j :: .ref o :: S) H = some (L, S, H.set o (.inr (.inr A'))) := by simp [xI, h, hx, hn]
theorem x_irem {P : PD} {ini : Bool} {cid a : Nat} {b : Int} {L : List Slot} {S : List Value} {H : AHeap} {x y : Int32} (h : ¬ y = 0) : xI P ini cid .irem a b L (.int y :: .int x :: S) H = some (L, .int (x % y) :: S, H) := by simp [xI, h]
theorem x_idiv {P : PD} {ini : Bool} {cid a : Nat} {b : Int} {L : List Slot} {S : List Value} {H : AHeap} {x y : Int32} (h : ¬ y = 0) : xI P ini cid .idiv a b L (.int y :: .int x :: S) H = some (L, .int (x / y) :: S, H) := by simp [xI, h]
theorem x_lrem {P : PD} {ini : Bool} {cid a : Nat} {b : Int} {L : List Slot} {S : List Value} {H : AHeap} {x y : Int64} (h : ¬ y = 0) : xI P ini cid .lrem a b L (.long y :: .long x :: S) H = some (L, .long (x % y) :: S, H) := by simp [xI, h]
theorem x_ldiv {P : PD} {ini : Bool} {cid a : Nat} {b : Int} {L : List Slot} {S : List Value} {H : AHeap} {x y : Int64} (h : ¬ y = 0) : xI P ini cid .ldiv a b L (.long y :: .long x :: S) H = some (L, .long (x / y) :: S, H) := by simp [xI, h]
theorem c_lt {x y : Int64} : XT.cmpL x y < 0 ↔ x < y := by
  unfold XT.cmpL; split <;> (try split) <;> simp_all [Int64.lt_iff_toInt_lt, ← Int64.toInt_inj] <;> omega
theorem c_gt {x y : Int64} : 0 < XT.cmpL x y ↔ y < x := by
  unfold XT.cmpL; split <;> (try split) <;> simp_all [Int64.lt_iff_toInt_lt, ← Int64.toInt_inj] <;> omega
theorem c_eq {x y : Int64} : XT.cmpL x y = 0 ↔ x = y := by
  unfold XT.cmpL; split <;> (try split) <;> simp_all [Int64.lt_iff_toInt_lt, ← Int64.toInt_inj] <;> omega
end Jvm.Own
namespace Jvm.Own
open Jvm Jvm.ClassFile Sem Op Lib Jvm.Free Jvm.Stand Jvm.LawKit Jvm.RoadKit Bundle
theorem bnd {α β : Type} {o : Option α} {f : α → Option β} {b : β} (h : o.bind f = some b) : ∃ a, o = some a ∧ f a = some b := Option.bind_eq_some_iff.mp h
theorem x_putZ {P : PD} {ini : Bool} {k cid a o : Nat} {b : Int} {L : List Slot} {S : List Value} {H : AHeap} {fs : List Value} {nm ds : String} {x : Int32} (h : H[o]? = some (.inl (cid, fs))) (hn : P.nr ≤ o) (hf : ((P.cls[cid]?).bind fun cd => cd.2.2[a]?) = some (nm, ds, .boolean, false)) (hx : x = 0 ∨ x = 1) :
    xI P ini cid (.putfield k) a b L (.int x :: .ref o :: S) H = some (L, S, H.set o (.inl (cid, fs.set a (.int x)))) := by
  rcases hx with rfl | rfl <;> simp [xI, h, hn, hf, putOk]
section Rules
variable {P : PD} {mi pc len a q : Nat} {er : List Bool} {b : Int} {i : Instr} {d y : MD} {L L' : List Slot} {S S' as rest : List Value} {H H' H1 : AHeap} {r : Res} {kc ks : Nat} {v : Option Value}
theorem OEnds.made1 {w : Option Value} {Hf : AHeap} (hm : P.mth[mi]? = some d) (hf : fetch d.code pc = some (i, len, er, a, b)) (hi : isNew i = true) (hx : xN P i a S H = some (S', H', ks)) {c0 s0 c1 s1 : Nat} (hr : (c1, s1) = (c0 + 1, s0 + ks)) (E : OEnds P mi (pc + len) (forget er L) S' H' (w, Hf, c0, s0)) : OEnds P mi pc L S H (w, Hf, c1, s1) := by
  cases hr
  exact OEnds.made (r := (w, Hf, c0, s0)) hm hf hi hx E
/-! The same, of a run whose end is told by a property -/
def OEndsQ (P : PD) (mi pc : Nat) (L : List Slot) (S : List Value) (H : AHeap) (Q : Res → Prop) : Prop := ∃ r, OEnds P mi pc L S H r ∧ Q r
variable {Q : Res → Prop}
theorem OEndsQ.plain (hm : P.mth[mi]? = some d) (hf : fetch d.code pc = some (i, len, er, a, b)) (hp : plainI i = true) (hx : xI P (d.name.name == "<init>") d.cid i a b (forget er L) S H = some (L', S', H')) (E : OEndsQ P mi (pc + len) L' S' H' Q) : OEndsQ P mi pc L S H Q := by
  obtain ⟨r, E, hq⟩ := E; exact ⟨r, OEnds.plain hm hf hp hx E, hq⟩
theorem OEndsQ.icmpT {o : Int} {cd : ClassFile.Cond} {x z : Int32} (hm : P.mth[mi]? = some d) (hf : fetch d.code pc = some (.if_icmp cd o, len, er, a, b)) (ht : tgt pc o = some q) (hc : if_icmp.holds cd x z = true) (E : OEndsQ P mi q (forget er L) S H Q) : OEndsQ P mi pc L (.int z :: .int x :: S) H Q := by
  obtain ⟨r, E, hq⟩ := E; exact ⟨r, OEnds.icmpT hm hf ht hc E, hq⟩
theorem OEndsQ.icmpF {o : Int} {cd : ClassFile.Cond} {x z : Int32} (hm : P.mth[mi]? = some d) (hf : fetch d.code pc = some (.if_icmp cd o, len, er, a, b)) (hc : if_icmp.holds cd x z = false) (E : OEndsQ P mi (pc + 3) (forget er L) S H Q) : OEndsQ P mi pc L (.int z :: .int x :: S) H Q := by
  obtain ⟨r, E, hq⟩ := E; exact ⟨r, OEnds.icmpF hm hf hc E, hq⟩
theorem OEndsQ.ifT {o : Int} {cd : ClassFile.Cond} {x : Int32} (hm : P.mth[mi]? = some d) (hf : fetch d.code pc = some (.ifCond cd o, len, er, a, b)) (ht : tgt pc o = some q) (hc : if_icmp.holds cd x 0 = true) (E : OEndsQ P mi q (forget er L) S H Q) : OEndsQ P mi pc L (.int x :: S) H Q := by
  obtain ⟨r, E, hq⟩ := E; exact ⟨r, OEnds.ifT hm hf ht hc E, hq⟩
theorem OEndsQ.ifF {o : Int} {cd : ClassFile.Cond} {x : Int32} (hm : P.mth[mi]? = some d) (hf : fetch d.code pc = some (.ifCond cd o, len, er, a, b)) (hc : if_icmp.holds cd x 0 = false) (E : OEndsQ P mi (pc + 3) (forget er L) S H Q) : OEndsQ P mi pc L (.int x :: S) H Q := by
  obtain ⟨r, E, hq⟩ := E; exact ⟨r, OEnds.ifF hm hf hc E, hq⟩
theorem OEndsQ.nonnull {o : Int} {x : Nat} (hm : P.mth[mi]? = some d) (hf : fetch d.code pc = some (.ifnonnull o, len, er, a, b)) (ht : tgt pc o = some q) (E : OEndsQ P mi q (forget er L) S H Q) : OEndsQ P mi pc L (.ref x :: S) H Q := by
  obtain ⟨r, E, hq⟩ := E; exact ⟨r, OEnds.nonnull hm hf ht E, hq⟩
theorem OEndsQ.call0 (hm : P.mth[mi]? = some d) (hf : fetch d.code pc = some (i, len, er, a, b)) (hi : isInv i = true) (hb : ¬ b = -1) (hy : P.mth[a]? = some y) (hao : argsOf (nargs y) S = some (as, rest))
    (hc : (decide (0 < a) && invKind i y.kind && recvOk P H y as && fitsRoom d y rest && decide ((entA as).length ≤ y.maxL)) = true) (E1 : OEnds P a 0 (entL as y.maxL) [] H (v, H1, 0, 0)) (E2 : OEndsQ P mi (pc + 3) (forget er L) (v.toList ++ rest) H1 Q) : OEndsQ P mi pc L S H Q := by
  obtain ⟨r, E, hq⟩ := E2; exact ⟨r, OEnds.call0 hm hf hi hb hy hao hc E1 E, hq⟩
theorem OEndsQ.adv (hm : P.mth[mi]? = some d) (k : Nat) {pc' : Nat} (h : adv P d k pc L S H = some (pc', L', S', H')) (E : OEndsQ P mi pc' L' S' H' Q) : OEndsQ P mi pc L S H Q := by
  obtain ⟨r, E, hq⟩ := E; exact ⟨r, OEnds.adv hm k h E, hq⟩
/-- what a law's run ends with: its answer, and at the most so many cells and slots made -/
def LawQ (x : Int32) (kc ks : Nat) (r : Res) : Prop := r.1 = some (.int x) ∧ r.2.2.1 ≤ kc ∧ r.2.2.2 ≤ ks
theorem OEndsQ.iret {x u : Int32} (hm : P.mth[mi]? = some d) (hf : fetch d.code pc = some (.ireturn, len, er, a, b)) (hv : retV d.ret x = some (.int u)) : OEndsQ P mi pc L [.int x] H (LawQ u kc ks) :=
  ⟨_, OEnds.iret hm hf hv, rfl, Nat.zero_le _, Nat.zero_le _⟩
theorem OEndsQ.weak {x : Int32} {c0 s0 : Nat} (h1 : c0 ≤ kc) (h2 : s0 ≤ ks) (E : OEndsQ P mi pc L S H (LawQ x c0 s0)) : OEndsQ P mi pc L S H (LawQ x kc ks) := by
  obtain ⟨r, E, q1, q2, q3⟩ := E; exact ⟨r, E, q1, Nat.le_trans q2 h1, Nat.le_trans q3 h2⟩
theorem OEndsQ.made {x : Int32} {c0 s0 c1 s1 : Nat} (hm : P.mth[mi]? = some d) (hf : fetch d.code pc = some (i, len, er, a, b)) (hi : isNew i = true) (hx : xN P i a S H = some (S', H', ks)) (h1 : c0 + 1 ≤ c1) (h2 : s0 + ks ≤ s1) (E : OEndsQ P mi (pc + len) (forget er L) S' H' (LawQ x c0 s0)) : OEndsQ P mi pc L S H (LawQ x c1 s1) := by
  obtain ⟨⟨v, Hf, k, n⟩, E, q1, q2, q3⟩ := E
  dsimp only at q1 q2 q3
  exact ⟨_, OEnds.made hm hf hi hx E, q1, by show k + 1 ≤ c1; omega, by show n + ks ≤ s1; omega⟩
theorem OEndsQ.callN {x : Int32} {c0 s0 c1 s1 : Nat} (hm : P.mth[mi]? = some d) (hf : fetch d.code pc = some (i, len, er, a, b)) (hi : isInv i = true) (hb : ¬ b = -1) (hy : P.mth[a]? = some y) (hao : argsOf (nargs y) S = some (as, rest))
    (hc : (decide (0 < a) && invKind i y.kind && recvOk P H y as && fitsRoom d y rest && decide ((entA as).length ≤ y.maxL)) = true) (E1 : OEnds P a 0 (entL as y.maxL) [] H (v, H1, kc, ks)) (h1 : c0 + kc ≤ c1) (h2 : s0 + ks ≤ s1) (E2 : OEndsQ P mi (pc + 3) (forget er L) (v.toList ++ rest) H1 (LawQ x c0 s0)) : OEndsQ P mi pc L S H (LawQ x c1 s1) := by
  obtain ⟨⟨v, Hf, k, n⟩, E, q1, q2, q3⟩ := E2
  dsimp only at q1 q2 q3
  exact ⟨_, OEnds.call hm hf hi hb hy hao hc E1 E, q1, by show k + kc ≤ c1; omega, by show n + ks ≤ s1; omega⟩
end Rules
/-! From the machine to the claim -/
theorem law_met {P : PD} {Z : State} {a0 : Array Value} {l : Launch} {y : MD} {as ws : List Value} {H : AHeap} {ρ : List Addr} {n0 kc ks : Nat} {h : Heap} (hP : chk P = true) (hW : ∀ w ∈ wordsOf P, w.before a0 Z = true) (hy : P.mth[0]? = some y)
    (E : OEndsQ P 0 0 (entL as y.maxL) [] H (LawQ 1 kc ks)) (hS : SR ρ as ws) (hlen : (entA as).length ≤ y.maxL) (hH : HR P Z n0 h ρ H) (w0 : List Jvm.Cond) (rm : Room) (r1 : y.rf ≤ rm.frames) (r2 : y.rw ≤ rm.locals) (r3 : kc ≤ rm.cells) (r4 : ks ≤ rm.slots) :
    MetFree l y.name (head1 (Jvm.Cond.code y.name y.bytes y.maxL y.ret :: w0) rm) (fun a U => a = ws.toArray ∧ Z.Warmed39 U.vm ∧ U.heap = h) (fun _ _ _ _ _ => True)
      (fun _ U o U' => ∃ L, o = .returned (some (.int 1)) ∧ Fr n0 L ∧ FrameEnd U o U' L kc ks) := by
  obtain ⟨⟨v, H1, c1, s1⟩, ⟨n, E⟩, q1, q2, q3⟩ := E
  dsimp only at q1 q2 q3
  subst q1
  have hpn : plainName y.name.cls = true := by
    have := mChk_of hP (List.mem_of_getElem? hy)
    simp only [mChk, Bool.and_eq_true] at this
    exact this.1.1.1.1.1.1
  have M := met_of (l := l) (n := n) (sound hP hW n) hy hpn (E n (Nat.le_refl _)) hS hlen hH w0 rm r1 r2 (Nat.le_trans q2 r3) (Nat.le_trans q3 r4)
  intro p e ha hc hk s m args below hf happ hp hK
  obtain ⟨n', o, h1, h2, h3, v', L, rfl, ⟨hF, t, ⟨u, rfl, hu⟩, -⟩, hq⟩ := M p e ha hc hk s m args below hf happ hp hK
  obtain rfl : u = .int 1 := hu
  exact ⟨n', _, h1, h2, h3, L, rfl, hF, hq.1, hq.2.1, hq.2.2.mono q2 q3⟩
end Jvm.Own
namespace Jvm.Own
open Jvm Jvm.ClassFile Sem Op Lib Jvm.Free Jvm.Stand Jvm.LawKit Jvm.RoadKit Bundle
/-- the law's script: an int array of at most 260 -/
theorem script_of {s : State} {ad : Addr} {cl : Cell} (hf : Fit s) (A : Arr s s.heap ad cl .int) (e0 : (Term.arg 0).eval #[.ref ad] s none [] s = some (.ref ad)) (hn : (Jvm.Cond.le (.length (.arg 0)) (.int 260)).value #[.ref ad] s none s [] = some true) :
    ∃ scr : List Int32, cl.slots.size = scr.length ∧ scr.length ≤ 260 ∧ ∀ (i : Nat) x, scr[i]? = some x → cl.slots[i]? = some (.int x) := by
  obtain ⟨u, v, g1, g2, -, -⟩ := cmp_v (Or.inr (Or.inr hn))
  obtain ⟨a', cl', z1, z2, z3⟩ := Term.length_spec g1
  have hat := A.fin (Vm.Alike.refl _)
  rw [e0] at z1
  cases z1
  rw [hat] at z2
  cases z2
  have hsz : cl.slots.size < 2 ^ 31 := by
    rcases Nat.lt_or_ge cl.slots.size (2 ^ 31) with q | q
    · exact q
    · exfalso
      simp [Term.eval, hat] at g1
      omega
  subst z3
  have hv : v = .int 260 := by simpa [Term.eval] using g2.symm
  subst hv
  have hle : cl.slots.size.toInt32 ≤ 260 := by
    simpa [Cond.value, g1, g2] using hn
  have hle' : cl.slots.size ≤ 260 := by
    rw [Int32.le_iff_toInt_le, len_toInt hsz] at hle
    have : (260 : Int32).toInt = 260 := rfl
    rw [this] at hle
    omega
  have key : ∀ i, i < cl.slots.size → ∃ x, cl.slots[i]? = some (.int x) := fun i hi => by
    have hj := idx_in hi hsz
    obtain ⟨v, e1, e2⟩ := elem_fit hf A hj
    have : i.toInt32.toNatClampNeg = i := by
      have h1 : i.toInt32.toInt = i := len_toInt (by omega)
      simp [Int32.toNatClampNeg, h1]
    rw [this] at e1
    obtain ⟨x, rfl⟩ := fit_I e2 (Or.inl rfl)
    exact ⟨x, e1⟩
  refine ⟨cl.slots.toList.map fun v => match v with | .int x => x | _ => 0, by simp, by simpa using hle', fun i x hx => ?_⟩
  rw [List.getElem?_map] at hx
  obtain ⟨v, h1, h2⟩ := Option.map_eq_some_iff.mp hx
  have h1' : cl.slots[i]? = some v := by simpa using h1
  obtain ⟨y, hy⟩ := key i (Array.getElem?_eq_some_iff.mp h1').1
  rw [h1'] at hy
  cases hy
  rw [h1']
  simp at h2
  rw [h2]
theorem hr_script {P : PD} {s : State} {ad : Addr} {cl : Cell} {scr : List Int32} (hnr : P.nr = 1) (A : Arr s s.heap ad cl .int) (h1 : cl.slots.size = scr.length) (h2 : scr.length ≤ 260) (h3 : ∀ (i : Nat) x, scr[i]? = some x → cl.slots[i]? = some (.int x)) : HR P s s.heap.size s.heap [ad] [.inr (.inl (false, scr))] := by
  refine ⟨Nat.le_refl _, rfl, fun i j a g1 g2 => ?_, fun k a g1 g2 => ?_, fun k a c g1 g2 => ?_⟩
  · match i, j, g1, g2 with
    | 0, 0, _, _ => rfl
    | i + 1, _, g1, _ => simp at g1
    | 0, j + 1, _, g2 => simp at g2
  · match k, g1, g2 with
    | 0, _, g2 => rw [hnr] at g2; omega
    | k + 1, g1, _ => simp at g1
  · match k, g1, g2 with
    | 0, g1, g2 =>
      simp at g1 g2
      subst g1 g2
      exact ⟨cl, A, h1, by omega, h3⟩
    | k + 1, g1, _ => simp at g1
end Jvm.Own
namespace Jvm.Own
open Jvm
/-! Ints in range, arrays -/
theorem ilt {a b : Int32} : a < b ↔ a.toInt < b.toInt := Int32.lt_iff_toInt_lt
theorem ile {a b : Int32} : a ≤ b ↔ a.toInt ≤ b.toInt := Int32.le_iff_toInt_le
theorem ieq {a b : Int32} : a = b ↔ a.toInt = b.toInt := Int32.toInt_inj.symm
theorem irng (a : Int32) : -2147483648 ≤ a.toInt ∧ a.toInt < 2147483648 := ⟨Int32.le_toInt a, Int32.toInt_lt a⟩
theorem iadd_i {a b : Int32} (h1 : -2147483648 ≤ a.toInt + b.toInt) (h2 : a.toInt + b.toInt < 2147483648) : (a + b).toInt = a.toInt + b.toInt := by
  rw [Int32.toInt_add]; exact Int.bmod_eq_of_le (by omega) (by omega)
theorem isub_i {a b : Int32} (h1 : -2147483648 ≤ a.toInt - b.toInt) (h2 : a.toInt - b.toInt < 2147483648) : (a - b).toInt = a.toInt - b.toInt := by
  rw [Int32.toInt_sub]; exact Int.bmod_eq_of_le (by omega) (by omega)
theorem imul_i {a b : Int32} (h1 : -2147483648 ≤ a.toInt * b.toInt) (h2 : a.toInt * b.toInt < 2147483648) : (a * b).toInt = a.toInt * b.toInt := by
  rw [Int32.toInt_mul]; exact Int.bmod_eq_of_le (by omega) (by omega)
theorem rdA_nn {α : Type} {L : List α} {j : Int32} (h0 : 0 ≤ j.toInt) : rdA L j = L[j.toInt.toNat]? := by
  unfold rdA
  rw [if_neg (by rw [ilt]; exact Int.not_lt.mpr h0)]
  rfl
theorem rdA_in {α : Type} {L : List α} {j : Int32} (h0 : 0 ≤ j.toInt) (h1 : j.toInt.toNat < L.length) : rdA L j = some L[j.toInt.toNat] := by
  rw [rdA_nn h0, List.getElem?_eq_getElem h1]
theorem wrA_in {α : Type} {L : List α} {j : Int32} {x : α} (h0 : 0 ≤ j.toInt) (h1 : j.toInt.toNat < L.length) : wrA L j x = some (L.set j.toInt.toNat x) := by
  unfold wrA
  rw [if_neg (by rw [ilt]; exact Int.not_lt.mpr h0)]
  exact if_pos h1
theorem rdA_rep {α : Type} {n : Nat} {x : α} {j : Int32} (h0 : 0 ≤ j.toInt) (h1 : j.toInt < n) : rdA (List.replicate n x) j = some x := by
  rw [rdA_nn h0, List.getElem?_replicate, if_pos (by omega)]
end Jvm.Own
namespace Jvm.Own
open Jvm
/-! Sums of ints with their wrap, for omega; runs that answer, and what they answer -/
theorem bmod32 (x : Int) : x.bmod (2 ^ 32) = (x + 2147483648) % 4294967296 - 2147483648 := by
  rw [Int.bmod_def]
  split <;> omega
theorem iadd_e (a b : Int32) : (a + b).toInt = (a.toInt + b.toInt + 2147483648) % 4294967296 - 2147483648 := by
  rw [Int32.toInt_add, bmod32]
theorem isub_e (a b : Int32) : (a - b).toInt = (a.toInt - b.toInt + 2147483648) % 4294967296 - 2147483648 := by
  rw [Int32.toInt_sub, bmod32]
theorem imul_e (a b : Int32) : (a * b).toInt = (a.toInt * b.toInt + 2147483648) % 4294967296 - 2147483648 := by
  rw [Int32.toInt_mul, bmod32]
theorem iscr {n : Nat} (h : n ≤ 260) : (n.toInt32).toInt = n := Int32.toInt_ofNat_of_lt (by omega)
def Tot {α : Type} (x : Option α) (P : α → Prop) : Prop := ∃ r, x = some r ∧ P r
theorem Tot.mk {α : Type} {P : α → Prop} {a : α} (h : P a) : Tot (some a) P := ⟨a, rfl, h⟩
theorem Tot.bind {α β : Type} {x : Option α} {f : α → Option β} {P : α → Prop} {Q : β → Prop} (h : Tot x P) (g : ∀ a, P a → Tot (f a) Q) : Tot (x.bind f) Q := by
  obtain ⟨r, e, p⟩ := h
  rw [e]
  exact g r p
theorem Tot.mono {α : Type} {x : Option α} {P Q : α → Prop} (h : Tot x P) (g : ∀ a, P a → Q a) : Tot x Q := by
  obtain ⟨r, e, p⟩ := h
  exact ⟨r, e, g r p⟩
theorem Tot.ite {α : Type} {c : Prop} [Decidable c] {a b : Option α} {Q : α → Prop} (h1 : c → Tot a Q) (h2 : ¬ c → Tot b Q) : Tot (if c then a else b) Q := by
  by_cases h : c
  · rw [if_pos h]; exact h1 h
  · rw [if_neg h]; exact h2 h
theorem Tot.rd {α β : Type} {L : List α} {j : Int32} {f : α → Option β} {Q : β → Prop} (h0 : 0 ≤ j.toInt) (h1 : j.toInt < L.length) (g : ∀ a, L[j.toInt.toNat]? = some a → Tot (f a) Q) : Tot ((rdA L j).bind f) Q := by
  have h2 : j.toInt.toNat < L.length := by omega
  rw [rdA_in h0 h2]
  exact g _ (List.getElem?_eq_getElem h2)
theorem Tot.wr {α β : Type} {L : List α} {j : Int32} {x : α} {f : List α → Option β} {Q : β → Prop} (h0 : 0 ≤ j.toInt) (h1 : j.toInt < L.length) (g : ∀ L' : List α, L' = L.set j.toInt.toNat x → L'.length = L.length → Tot (f L') Q) : Tot ((wrA L j x).bind f) Q := by
  rw [wrA_in h0 (by omega)]
  exact g _ rfl (by simp)
theorem Tot.eq {α : Type} {x : Option α} {a : α} (h : Tot x (fun r => r = a)) : x = some a := by
  obtain ⟨r, e, p⟩ := h
  rw [e, p]
theorem Tot.of {α : Type} {x : Option α} {a : α} {P : α → Prop} (e : x = some a) (p : P a) : Tot x P := ⟨a, e, p⟩
/-- a bit mask at 15, 31 .. -/
theorem iand_rng (x : Int32) (m : Int32) (h : 0 ≤ m.toInt) : 0 ≤ (x &&& m).toInt ∧ (x &&& m).toInt ≤ m.toInt := by
  have hm : m.toBitVec.msb = false := by
    rw [BitVec.msb_eq_toInt]; simpa using h
  have hx : (x &&& m).toBitVec.msb = false := by
    rw [Int32.toBitVec_and, BitVec.msb_and, hm, Bool.and_false]
  have e1 : m.toInt = (m.toBitVec.toNat : Int) := BitVec.toInt_eq_toNat_of_msb hm
  have e2 : (x &&& m).toInt = (((x &&& m).toBitVec).toNat : Int) := BitVec.toInt_eq_toNat_of_msb hx
  have e3 : ((x &&& m).toBitVec).toNat ≤ m.toBitVec.toNat := by
    rw [Int32.toBitVec_and, BitVec.toNat_and]; exact Nat.and_le_right
  omega
def gI (L : List Int32) (j : Int32) : Int32 := (rdA L j).getD 0
theorem rdg {L : List Int32} {j : Int32} (h0 : 0 ≤ j.toInt) (h1 : j.toInt < L.length) : rdA L j = some (gI L j) := by
  have h2 : j.toInt.toNat < L.length := by omega
  unfold gI
  rw [rdA_in h0 h2]
  (first | done | rfl | simp)
theorem gset {L : List Int32} {i j : Int32} {x : Int32} (hi : 0 ≤ i.toInt) (hl : i.toInt < L.length) (hj : 0 ≤ j.toInt) : gI (L.set i.toInt.toNat x) j = if i = j then x else gI L j := by
  unfold gI
  rw [rdA_nn hj, rdA_nn hj]
  by_cases h : i = j
  · subst h
    rw [if_pos rfl, List.getElem?_set_self (by omega)]
    (first | done | rfl | simp)
  · rw [if_neg h, List.getElem?_set_ne (by rw [ieq] at h; omega)]
theorem gext {A B : List Int32} (hl : A.length < 100000) (ha : A.length = B.length) (h : ∀ i : Int32, 0 ≤ i.toInt → i.toInt < A.length → gI A i = gI B i) : A = B := by
  apply List.ext_getElem ha
  intro k h1 h2
  have e : (Int32.ofNat k).toInt = k := Int32.toInt_ofNat_of_lt (by omega)
  have q := h (Int32.ofNat k) (by omega) (by omega)
  unfold gI at q
  rw [rdA_nn (by omega), rdA_nn (by omega), e] at q
  simpa [h1, h2] using q
theorem Tot.rdI {β : Type} {L : List Int32} {j : Int32} {f : Int32 → Option β} {Q : β → Prop} (h0 : 0 ≤ j.toInt) (h1 : j.toInt < L.length) (g : Tot (f (gI L j)) Q) : Tot ((rdA L j).bind f) Q := by
  rw [rdg h0 h1]
  exact g
theorem gI_rep {n : Nat} {x : Int32} {j : Int32} (h0 : 0 ≤ j.toInt) (h1 : j.toInt < n) : gI (List.replicate n x) j = x := by
  unfold gI
  rw [rdA_rep h0 h1]
  (first | done | rfl | simp)
/-! Longs -/
theorem lltI {a b : Int64} : a < b ↔ a.toInt < b.toInt := Int64.lt_iff_toInt_lt
theorem leqI {a b : Int64} : a = b ↔ a.toInt = b.toInt := Int64.toInt_inj.symm
theorem lrng (a : Int64) : -9223372036854775808 ≤ a.toInt ∧ a.toInt < 9223372036854775808 := ⟨Int64.le_toInt a, Int64.toInt_lt a⟩
theorem ladd_i {a b : Int64} (h1 : -9223372036854775808 ≤ a.toInt + b.toInt) (h2 : a.toInt + b.toInt < 9223372036854775808) : (a + b).toInt = a.toInt + b.toInt := by
  rw [Int64.toInt_add]; exact Int.bmod_eq_of_le (by omega) (by omega)
theorem lsub_i {a b : Int64} (h1 : -9223372036854775808 ≤ a.toInt - b.toInt) (h2 : a.toInt - b.toInt < 9223372036854775808) : (a - b).toInt = a.toInt - b.toInt := by
  rw [Int64.toInt_sub]; exact Int.bmod_eq_of_le (by omega) (by omega)
theorem lmul_i {a b : Int64} (h1 : -9223372036854775808 ≤ a.toInt * b.toInt) (h2 : a.toInt * b.toInt < 9223372036854775808) : (a * b).toInt = a.toInt * b.toInt := by
  rw [Int64.toInt_mul]; exact Int.bmod_eq_of_le (by omega) (by omega)
theorem lmod_i {a b : Int64} (h : 0 ≤ a.toInt) : (a % b).toInt = a.toInt % b.toInt := by
  rw [Int64.toInt_mod, Int.tmod_eq_emod_of_nonneg h]
theorem lback {a : Int64} (h1 : -2147483648 ≤ a.toInt) (h2 : a.toInt < 2147483648) : a.toInt32.toInt64 = a := by
  rw [leqI, Int32.toInt_toInt64, Int64.toInt_toInt32, bmod32]
  omega
theorem mulb {a b M : Int} (h0 : 0 ≤ a) (h1 : a ≤ M) (h2 : 0 ≤ b) (h3 : b ≤ M) : 0 ≤ a * b ∧ a * b ≤ M * M :=
  ⟨Int.mul_nonneg h0 h2, Int.mul_le_mul h1 h3 h2 (by omega)⟩
end Jvm.Own
namespace Jvm.Pilot.@@N@@
open Jvm Jvm.ClassFile Sem Op Lib Jvm.Free Jvm.Stand Jvm.LawKit Jvm.RoadKit Bundle Jvm.Own Jvm.Pilot.@@N@@.Jvm.D
def d_0 : MD := (x, code, maxLocals, ret, 0, 1, 999, 5, 84, [(0, .new 7, 3, [], 0, 0), (3, .dup, 1, [], 0, 0), (4, .aload_n 0, 1, [], 0, 0), (5, .iconst 0, 1, [], 0, 0), (6, .invokestatic 9, 3, [], 1, 0), (9, .invokespecial 15, 3, [], 2, 0), (12, .astore_n 1, 1, [], 0, 0), (13, .aload_n 1, 1, [], 0, 0), (14, .invokevirtual 18, 3, [], 4, 0), (17, .istore_n 2, 1, [], 0, 0), (18, .iload_n 2, 1, [], 0, 0), (19, .ifCond .gt 5, 3, [], 0, 0), (22, .iconst 1, 1, [], 0, 0), (23, .ireturn, 1, [], 0, 0), (24, .iconst 1, 1, [], 0, 0), (25, .istore_n 3, 1, [], 0, 0), (26, .iload_n 3, 1, [false, false, false, false, true, true, true, true, true, true, true, true, true, true, true, true], 0, 0), (27, .aload_n 0, 1, [], 0, 0), (28, .arraylength, 1, [], 0, 0), (29, .if_icmp .ge 467, 3, [], 0, 0), (32, .aload_n 0, 1, [], 0, 0), (33, .iload_n 3, 1, [], 0, 0), (34, .invokestatic 9, 3, [], 1, 0), (37, .bipush 6, 2, [], 0, 0), (39, .invokestatic 22, 3, [], 5, 0), (42, .istore 4, 2, [], 0, 0), (44, .aload_n 0, 1, [], 0, 0), (45, .iload_n 3, 1, [], 0, 0), (46, .iconst 1, 1, [], 0, 0), (47, .iadd, 1, [], 0, 0), (48, .invokestatic 9, 3, [], 1, 0), (51, .iload_n 2, 1, [], 0, 0), (52, .invokestatic 22, 3, [], 5, 0), (55, .istore 5, 2, [], 0, 0), (57, .aload_n 0, 1, [], 0, 0), (58, .iload_n 3, 1, [], 0, 0), (59, .iconst 2, 1, [], 0, 0), (60, .iadd, 1, [], 0, 0), (61, .invokestatic 9, 3, [], 1, 0), (64, .istore 6, 2, [], 0, 0), (66, .aload_n 0, 1, [], 0, 0), (67, .iload_n 3, 1, [], 0, 0), (68, .iconst 3, 1, [], 0, 0), (69, .iadd, 1, [], 0, 0), (70, .invokestatic 9, 3, [], 1, 0), (73, .istore 7, 2, [], 0, 0), (75, .iload 4, 2, [], 0, 0), (77, .ifCond .ne 59, 3, [], 0, 0), (80, .aload_n 1, 1, [], 0, 0), (81, .iload 5, 2, [], 0, 0), (83, .iload 6, 2, [], 0, 0), (85, .iconst 1, 1, [], 0, 0), (86, .invokevirtual 26, 3, [], 27, 0), (89, .pop, 1, [], 0, 0), (90, .iload 7, 2, [], 0, 0), (92, .bipush 7, 2, [], 0, 0), (94, .iand, 1, [], 0, 0), (95, .istore 8, 2, [], 0, 0), (97, .iconst 0, 1, [], 0, 0), (98, .istore 9, 2, [], 0, 0), (100, .iload 9, 2, [false, false, false, false, true, false, false, false, false, false, true, true, true, true, true, true], 0, 0), (102, .iload 8, 2, [], 0, 0), (104, .if_icmp .ge 29, 3, [], 0, 0), (107, .aload_n 1, 1, [], 0, 0), (108, .iload 5, 2, [], 0, 0), (110, .iload 7, 2, [], 0, 0), (112, .iconst 3, 1, [], 0, 0), (113, .iushr, 1, [], 0, 0), (114, .bipush 11, 2, [], 0, 0), (116, .iload 9, 2, [], 0, 0), (118, .imul, 1, [], 0, 0), (119, .iadd, 1, [], 0, 0), (120, .bipush 31, 2, [], 0, 0), (122, .iand, 1, [], 0, 0), (123, .invokevirtual 30, 3, [], 29, 0), (126, .pop, 1, [], 0, 0), (127, .iinc 9 1, 3, [], 0, 0), (130, .goto (-30), 3, [], 0, 0), (133, .goto 132, 3, [], 0, 0), (136, .iload 4, 2, [], 0, 0), (138, .iconst 1, 1, [], 0, 0), (139, .if_icmp .ne 58, 3, [], 0, 0), (142, .aload_n 1, 1, [], 0, 0), (143, .iload 5, 2, [], 0, 0), (145, .iload 6, 2, [], 0, 0), (147, .iconst 2, 1, [], 0, 0), (148, .invokevirtual 26, 3, [], 27, 0), (151, .pop, 1, [], 0, 0), (152, .iload 7, 2, [], 0, 0), (154, .iconst 3, 1, [], 0, 0), (155, .iand, 1, [], 0, 0), (156, .istore 8, 2, [], 0, 0), (158, .iconst 0, 1, [], 0, 0), (159, .istore 9, 2, [], 0, 0), (161, .iload 9, 2, [false, false, false, false, true, false, false, false, false, false, true, true, true, true, true, true], 0, 0), (163, .iload 8, 2, [], 0, 0), (165, .if_icmp .ge 29, 3, [], 0, 0), (168, .aload_n 1, 1, [], 0, 0), (169, .iload 5, 2, [], 0, 0), (171, .iload 7, 2, [], 0, 0), (173, .iconst 3, 1, [], 0, 0), (174, .iushr, 1, [], 0, 0), (175, .bipush 11, 2, [], 0, 0), (177, .iload 9, 2, [], 0, 0), (179, .imul, 1, [], 0, 0), (180, .iadd, 1, [], 0, 0), (181, .bipush 31, 2, [], 0, 0), (183, .iand, 1, [], 0, 0), (184, .invokevirtual 30, 3, [], 29, 0), (187, .pop, 1, [], 0, 0), (188, .iinc 9 1, 3, [], 0, 0), (191, .goto (-30), 3, [], 0, 0), (194, .goto 71, 3, [], 0, 0), (197, .iload 4, 2, [], 0, 0), (199, .iconst 2, 1, [], 0, 0), (200, .if_icmp .ne 15, 3, [], 0, 0), (203, .aload_n 1, 1, [], 0, 0), (204, .iload 5, 2, [], 0, 0), (206, .iload 7, 2, [], 0, 0), (208, .invokevirtual 34, 3, [], 6, 0), (211, .pop, 1, [], 0, 0), (212, .goto 53, 3, [], 0, 0), (215, .iload 4, 2, [], 0, 0), (217, .iconst 3, 1, [], 0, 0), (218, .if_icmp .ne 18, 3, [], 0, 0), (221, .aload_n 1, 1, [], 0, 0), (222, .iload 5, 2, [], 0, 0), (224, .iload 7, 2, [], 0, 0), (226, .bipush 31, 2, [], 0, 0), (228, .iand, 1, [], 0, 0), (229, .invokevirtual 30, 3, [], 29, 0), (232, .pop, 1, [], 0, 0), (233, .goto 32, 3, [], 0, 0), (236, .iload 4, 2, [], 0, 0), (238, .iconst 4, 1, [], 0, 0), (239, .if_icmp .ne 19, 3, [], 0, 0), (242, .aload_n 1, 1, [], 0, 0), (243, .iload 5, 2, [], 0, 0), (245, .iconst 1, 1, [], 0, 0), (246, .iload 7, 2, [], 0, 0), (248, .iconst 1, 1, [], 0, 0), (249, .iand, 1, [], 0, 0), (250, .iadd, 1, [], 0, 0), (251, .invokevirtual 37, 3, [], 30, 0), (254, .pop, 1, [], 0, 0), (255, .goto 10, 3, [], 0, 0), (258, .aload_n 1, 1, [], 0, 0), (259, .iload 5, 2, [], 0, 0), (261, .invokevirtual 40, 3, [], 20, 0), (264, .pop, 1, [], 0, 0), (265, .aload_n 1, 1, [false, false, false, false, true, false, false, true, true, true, true, true, true, true, true, true], 0, 0), (266, .iload 5, 2, [], 0, 0), (268, .invokevirtual 44, 3, [], 8, 0), (271, .istore 8, 2, [], 0, 0), (273, .aload_n 1, 1, [], 0, 0), (274, .iload 5, 2, [], 0, 0), (276, .invokevirtual 47, 3, [], 9, 0), (279, .istore 9, 2, [], 0, 0), (281, .iload 9, 2, [], 0, 0), (283, .ifCond .lt 10, 3, [], 0, 0), (286, .iload 9, 2, [], 0, 0), (288, .bipush 63, 2, [], 0, 0), (290, .if_icmp .le 5, 3, [], 0, 0), (293, .iconst 0, 1, [], 0, 0), (294, .ireturn, 1, [], 0, 0), (295, .aload_n 1, 1, [], 0, 0), (296, .invokevirtual 50, 3, [], 13, 0), (299, .istore 10, 2, [], 0, 0), (301, .iload 10, 2, [], 0, 0), (303, .ifCond .lt 27, 3, [], 0, 0), (306, .iload 10, 2, [], 0, 0), (308, .bipush 16, 2, [], 0, 0), (310, .if_icmp .gt 20, 3, [], 0, 0), (313, .iload 10, 2, [], 0, 0), (315, .iload 8, 2, [], 0, 0), (317, .aload_n 1, 1, [], 0, 0), (318, .iload 9, 2, [], 0, 0), (320, .invokevirtual 53, 3, [], 14, 0), (323, .ixor, 1, [], 0, 0), (324, .invokestatic 56, 3, [], 16, 0), (327, .if_icmp .eq 5, 3, [], 0, 0), (330, .iconst 0, 1, [], 0, 0), (331, .ireturn, 1, [], 0, 0), (332, .iload 8, 2, [], 0, 0), (334, .aload_n 1, 1, [], 0, 0), (335, .iload 6, 2, [], 0, 0), (337, .invokevirtual 53, 3, [], 14, 0), (340, .ixor, 1, [], 0, 0), (341, .invokestatic 56, 3, [], 16, 0), (344, .istore 11, 2, [], 0, 0), (346, .iload 11, 2, [], 0, 0), (348, .bipush 7, 2, [], 0, 0), (350, .if_icmp .gt 38, 3, [], 0, 0), (353, .aload_n 1, 1, [], 0, 0), (354, .iload 5, 2, [], 0, 0), (356, .invokevirtual 47, 3, [], 9, 0), (359, .iload 6, 2, [], 0, 0), (361, .bipush 63, 2, [], 0, 0), (363, .iand, 1, [], 0, 0), (364, .if_icmp .eq 5, 3, [], 0, 0), (367, .iconst 0, 1, [], 0, 0), (368, .ireturn, 1, [], 0, 0), (369, .aload_n 1, 1, [], 0, 0), (370, .invokevirtual 50, 3, [], 13, 0), (373, .iload 11, 2, [], 0, 0), (375, .if_icmp .ne 11, 3, [], 0, 0), (378, .aload_n 1, 1, [], 0, 0), (379, .invokevirtual 59, 3, [], 17, 0), (382, .iconst 1, 1, [], 0, 0), (383, .if_icmp .eq 5, 3, [], 0, 0), (386, .iconst 0, 1, [], 0, 0), (387, .ireturn, 1, [], 0, 0), (388, .iconst 0, 1, [], 0, 0), (389, .istore 12, 2, [], 0, 0), (391, .iload 12, 2, [false, false, false, false, true, false, false, true, false, true, true, true, false, true, true, true], 0, 0), (393, .iconst 2, 1, [], 0, 0), (394, .if_icmp .ge 96, 3, [], 0, 0), (397, .iload 12, 2, [], 0, 0), (399, .ifCond .ne 8, 3, [], 0, 0), (402, .iload 6, 2, [], 0, 0), (404, .goto 8, 3, [], 0, 0), (407, .iload 6, 2, [], 0, 0), (409, .bipush 63, 2, [], 0, 0), (411, .iand, 1, [], 0, 0), (412, .istore 13, 2, [false, false, false, false, true, false, false, true, false, true, true, true, false, true, true, true], 0, 0), (414, .iload 8, 2, [], 0, 0), (416, .aload_n 1, 1, [], 0, 0), (417, .iload 13, 2, [], 0, 0), (419, .invokevirtual 62, 3, [], 18, 0), (422, .ixor, 1, [], 0, 0), (423, .invokestatic 56, 3, [], 16, 0), (426, .istore 14, 2, [], 0, 0), (428, .iload 14, 2, [], 0, 0), (430, .iconst 3, 1, [], 0, 0), (431, .if_icmp .gt 53, 3, [], 0, 0), (434, .aload_n 1, 1, [], 0, 0), (435, .invokevirtual 65, 3, [], 19, 0), (438, .istore 15, 2, [], 0, 0), (440, .aload_n 1, 1, [], 0, 0), (441, .iload 5, 2, [], 0, 0), (443, .invokevirtual 40, 3, [], 20, 0), (446, .iload 13, 2, [], 0, 0), (448, .ldc 68, 2, [], 0, 65535), (450, .iand, 1, [], 0, 0), (451, .if_icmp .eq 5, 3, [], 0, 0), (454, .iconst 0, 1, [], 0, 0), (455, .ireturn, 1, [], 0, 0), (456, .aload_n 1, 1, [], 0, 0), (457, .invokevirtual 50, 3, [], 13, 0), (460, .iload 14, 2, [], 0, 0), (462, .if_icmp .ne 20, 3, [], 0, 0), (465, .aload_n 1, 1, [], 0, 0), (466, .invokevirtual 59, 3, [], 17, 0), (469, .iconst 1, 1, [], 0, 0), (470, .if_icmp .ne 12, 3, [], 0, 0), (473, .aload_n 1, 1, [], 0, 0), (474, .invokevirtual 65, 3, [], 19, 0), (477, .iload 15, 2, [], 0, 0), (479, .if_icmp .eq 5, 3, [], 0, 0), (482, .iconst 0, 1, [], 0, 0), (483, .ireturn, 1, [], 0, 0), (484, .iinc 12 1, 3, [], 0, 0), (487, .goto (-96), 3, [], 0, 0), (490, .iinc 3 4, 3, [], 0, 0), (493, .goto (-467), 3, [], 0, 0), (496, .iconst 1, 1, [], 0, 0), (497, .ireturn, 1, [], 0, 0)])
def d_1 : MD := (⟨"ReedMullerDuoOwnLaw", "cell", "([II)I"⟩, method_2_code, 2, some .int, 0, 2, 999, 0, 0, [(0, .iload_n 1, 1, [], 0, 0), (1, .aload_n 0, 1, [], 0, 0), (2, .arraylength, 1, [], 0, 0), (3, .if_icmp .ge 9, 3, [], 0, 0), (6, .aload_n 0, 1, [], 0, 0), (7, .iload_n 1, 1, [], 0, 0), (8, .iaload, 1, [], 0, 0), (9, .goto 4, 3, [], 0, 0), (12, .iconst 0, 1, [], 0, 0), (13, .ireturn, 1, [], 0, 0)])
def d_2 : MD := (⟨"ReedMullerDuo", "<init>", "(I)V"⟩, prog_1_method_1_code, 3, none, 1, 1, 0, 1, 15, [(0, .aload_n 0, 1, [], 0, 0), (1, .invokespecial 1, 3, [], 0, -1), (4, .aload_n 0, 1, [], 0, 0), (5, .bipush 32, 2, [], 0, 0), (7, .newarray .int, 2, [], 0, 0), (9, .putfield 7, 3, [], 0, 0), (12, .aload_n 0, 1, [], 0, 0), (13, .bipush 16, 2, [], 0, 0), (15, .newarray .int, 2, [], 0, 0), (17, .putfield 13, 3, [], 1, 0), (20, .aload_n 0, 1, [], 0, 0), (21, .bipush 16, 2, [], 0, 0), (23, .newarray .int, 2, [], 0, 0), (25, .putfield 16, 3, [], 2, 0), (28, .aload_n 0, 1, [], 0, 0), (29, .bipush 16, 2, [], 0, 0), (31, .newarray .int, 2, [], 0, 0), (33, .putfield 19, 3, [], 3, 0), (36, .aload_n 0, 1, [], 0, 0), (37, .bipush 32, 2, [], 0, 0), (39, .newarray .int, 2, [], 0, 0), (41, .putfield 22, 3, [], 4, 0), (44, .iload_n 1, 1, [], 0, 0), (45, .istore_n 2, 1, [], 0, 0), (46, .iload_n 2, 1, [], 0, 0), (47, .bipush 8, 2, [], 0, 0), (49, .if_icmp .ge 6, 3, [], 0, 0), (52, .bipush 8, 2, [], 0, 0), (54, .istore_n 2, 1, [], 0, 0), (55, .iload_n 2, 1, [false, true], 0, 0), (56, .bipush 32, 2, [], 0, 0), (58, .if_icmp .le 6, 3, [], 0, 0), (61, .bipush 32, 2, [], 0, 0), (63, .istore_n 2, 1, [], 0, 0), (64, .aload_n 0, 1, [false, true], 0, 0), (65, .iload_n 2, 1, [], 0, 0), (66, .putfield 25, 3, [], 5, 0), (69, .aload_n 0, 1, [], 0, 0), (70, .iconst (-1), 1, [], 0, 0), (71, .putfield 29, 3, [], 6, 0), (74, .aload_n 0, 1, [], 0, 0), (75, .iconst 0, 1, [], 0, 0), (76, .putfield 32, 3, [], 7, 0), (79, .aload_n 0, 1, [], 0, 0), (80, .iconst 0, 1, [], 0, 0), (81, .putfield 35, 3, [], 8, 0), (84, .aload_n 0, 1, [], 0, 0), (85, .invokevirtual 38, 3, [], 3, 0), (88, .return_, 1, [], 0, 0)])
def d_3 : MD := (⟨"ReedMullerDuo", "buildMonomials", "()V"⟩, prog_1_method_2_code, 4, none, 2, 0, 0, 0, 0, [(0, .aload_n 0, 1, [], 0, 0), (1, .getfield 13, 3, [], 1, 0), (4, .iconst 0, 1, [], 0, 0), (5, .iconst (-1), 1, [], 0, 0), (6, .iastore, 1, [], 0, 0), (7, .aload_n 0, 1, [], 0, 0), (8, .getfield 13, 3, [], 1, 0), (11, .iconst 1, 1, [], 0, 0), (12, .ldc 41, 2, [], 0, -1431655766), (14, .iastore, 1, [], 0, 0), (15, .aload_n 0, 1, [], 0, 0), (16, .getfield 13, 3, [], 1, 0), (19, .iconst 2, 1, [], 0, 0), (20, .ldc 42, 2, [], 0, -858993460), (22, .iastore, 1, [], 0, 0), (23, .aload_n 0, 1, [], 0, 0), (24, .getfield 13, 3, [], 1, 0), (27, .iconst 3, 1, [], 0, 0), (28, .ldc 43, 2, [], 0, -252645136), (30, .iastore, 1, [], 0, 0), (31, .aload_n 0, 1, [], 0, 0), (32, .getfield 13, 3, [], 1, 0), (35, .iconst 4, 1, [], 0, 0), (36, .ldc 44, 2, [], 0, -16711936), (38, .iastore, 1, [], 0, 0), (39, .aload_n 0, 1, [], 0, 0), (40, .getfield 13, 3, [], 1, 0), (43, .iconst 5, 1, [], 0, 0), (44, .ldc 45, 2, [], 0, -65536), (46, .iastore, 1, [], 0, 0), (47, .bipush 6, 2, [], 0, 0), (49, .istore_n 1, 1, [], 0, 0), (50, .iconst 0, 1, [], 0, 0), (51, .istore_n 2, 1, [], 0, 0), (52, .iload_n 2, 1, [false, false, false, true], 0, 0), (53, .iconst 5, 1, [], 0, 0), (54, .if_icmp .ge 70, 3, [], 0, 0), (57, .iload_n 2, 1, [], 0, 0), (58, .iconst 1, 1, [], 0, 0), (59, .iadd, 1, [], 0, 0), (60, .istore_n 3, 1, [], 0, 0), (61, .iload_n 3, 1, [], 0, 0), (62, .iconst 5, 1, [], 0, 0), (63, .if_icmp .ge 55, 3, [], 0, 0), (66, .iload_n 1, 1, [], 0, 0), (67, .bipush 16, 2, [], 0, 0), (69, .if_icmp .ge 40, 3, [], 0, 0), (72, .aload_n 0, 1, [], 0, 0), (73, .getfield 16, 3, [], 2, 0), (76, .iload_n 1, 1, [], 0, 0), (77, .iload_n 2, 1, [], 0, 0), (78, .iastore, 1, [], 0, 0), (79, .aload_n 0, 1, [], 0, 0), (80, .getfield 19, 3, [], 3, 0), (83, .iload_n 1, 1, [], 0, 0), (84, .iload_n 3, 1, [], 0, 0), (85, .iastore, 1, [], 0, 0), (86, .aload_n 0, 1, [], 0, 0), (87, .getfield 13, 3, [], 1, 0), (90, .iload_n 1, 1, [], 0, 0), (91, .aload_n 0, 1, [], 0, 0), (92, .getfield 13, 3, [], 1, 0), (95, .iconst 1, 1, [], 0, 0), (96, .iload_n 2, 1, [], 0, 0), (97, .iadd, 1, [], 0, 0), (98, .iaload, 1, [], 0, 0), (99, .aload_n 0, 1, [], 0, 0), (100, .getfield 13, 3, [], 1, 0), (103, .iconst 1, 1, [], 0, 0), (104, .iload_n 3, 1, [], 0, 0), (105, .iadd, 1, [], 0, 0), (106, .iaload, 1, [], 0, 0), (107, .iand, 1, [], 0, 0), (108, .iastore, 1, [], 0, 0), (109, .iinc 1 1, 3, [], 0, 0), (112, .iinc 3 1, 3, [], 0, 0), (115, .goto (-54), 3, [], 0, 0), (118, .iinc 2 1, 3, [], 0, 0), (121, .goto (-69), 3, [], 0, 0), (124, .return_, 1, [], 0, 0)])
def d_4 : MD := (⟨"ReedMullerDuo", "slotCount", "()I"⟩, prog_1_method_3_code, 1, some .int, 3, 0, 0, 0, 0, [(0, .aload_n 0, 1, [], 0, 0), (1, .getfield 25, 3, [], 5, 0), (4, .ireturn, 1, [], 0, 0)])
def d_5 : MD := (⟨"ReedMullerDuoOwnLaw", "mod", "(II)I"⟩, method_4_code, 3, some .int, 0, 2, 999, 0, 0, [(0, .iload_n 0, 1, [], 0, 0), (1, .iload_n 1, 1, [], 0, 0), (2, .irem, 1, [], 0, 0), (3, .istore_n 2, 1, [], 0, 0), (4, .iload_n 2, 1, [], 0, 0), (5, .ifCond .ge 9, 3, [], 0, 0), (8, .iload_n 2, 1, [], 0, 0), (9, .iload_n 1, 1, [], 0, 0), (10, .iadd, 1, [], 0, 0), (11, .goto 4, 3, [], 0, 0), (14, .iload_n 2, 1, [], 0, 0), (15, .ireturn, 1, [], 0, 0)])
def d_6 : MD := (⟨"ReedMullerDuo", "load", "(II)Z"⟩, prog_1_method_9_code, 3, some .boolean, 3, 2, 0, 1, 13, [(0, .aload_n 0, 1, [], 0, 0), (1, .iload_n 1, 1, [], 0, 0), (2, .invokevirtual 51, 3, [], 7, 0), (5, .ifCond .ne 5, 3, [], 0, 0), (8, .iconst 0, 1, [], 0, 0), (9, .ireturn, 1, [], 0, 0), (10, .aload_n 0, 1, [], 0, 0), (11, .getfield 7, 3, [], 0, 0), (14, .iload_n 1, 1, [], 0, 0), (15, .iload_n 2, 1, [], 0, 0), (16, .iastore, 1, [], 0, 0), (17, .iconst 1, 1, [], 0, 0), (18, .ireturn, 1, [], 0, 0)])
def d_7 : MD := (⟨"ReedMullerDuo", "validSlot", "(I)Z"⟩, prog_1_method_7_code, 2, some .boolean, 2, 1, 0, 0, 0, [(0, .iload_n 1, 1, [], 0, 0), (1, .ifCond .lt 15, 3, [], 0, 0), (4, .iload_n 1, 1, [], 0, 0), (5, .aload_n 0, 1, [], 0, 0), (6, .getfield 25, 3, [], 5, 0), (9, .if_icmp .ge 7, 3, [], 0, 0), (12, .iconst 1, 1, [], 0, 0), (13, .goto 4, 3, [], 0, 0), (16, .iconst 0, 1, [], 0, 0), (17, .ireturn, 1, [], 0, 0)])
def d_8 : MD := (⟨"ReedMullerDuo", "getWord", "(I)I"⟩, prog_1_method_12_code, 2, some .int, 3, 1, 0, 1, 13, [(0, .aload_n 0, 1, [], 0, 0), (1, .iload_n 1, 1, [], 0, 0), (2, .invokevirtual 51, 3, [], 7, 0), (5, .ifCond .ne 5, 3, [], 0, 0), (8, .iconst 0, 1, [], 0, 0), (9, .ireturn, 1, [], 0, 0), (10, .aload_n 0, 1, [], 0, 0), (11, .getfield 7, 3, [], 0, 0), (14, .iload_n 1, 1, [], 0, 0), (15, .iaload, 1, [], 0, 0), (16, .ireturn, 1, [], 0, 0)])
def d_9 : MD := (⟨"ReedMullerDuo", "decode1", "(I)I"⟩, prog_1_method_15_code, 2, some .int, 3, 1, 0, 2, 36, [(0, .aload_n 0, 1, [], 0, 0), (1, .iload_n 1, 1, [], 0, 0), (2, .invokevirtual 51, 3, [], 7, 0), (5, .ifCond .ne 5, 3, [], 0, 0), (8, .iconst (-1), 1, [], 0, 0), (9, .ireturn, 1, [], 0, 0), (10, .aload_n 0, 1, [], 0, 0), (11, .aload_n 0, 1, [], 0, 0), (12, .getfield 7, 3, [], 0, 0), (15, .iload_n 1, 1, [], 0, 0), (16, .iaload, 1, [], 0, 0), (17, .invokevirtual 72, 3, [], 10, 0), (20, .ireturn, 1, [], 0, 0)])
def d_10 : MD := (⟨"ReedMullerDuo", "applyRule1", "(I)I"⟩, prog_1_method_21_code, 7, some .int, 2, 1, 0, 1, 18, [(0, .aload_n 0, 1, [], 0, 0), (1, .iload_n 1, 1, [], 0, 0), (2, .invokevirtual 78, 3, [], 11, 0), (5, .iconst 0, 1, [], 0, 0), (6, .istore_n 2, 1, [], 0, 0), (7, .bipush 33, 2, [], 0, 0), (9, .istore_n 3, 1, [], 0, 0), (10, .iconst 0, 1, [], 0, 0), (11, .istore 4, 2, [], 0, 0), (13, .iconst 0, 1, [], 0, 0), (14, .istore 5, 2, [], 0, 0), (16, .iload 5, 2, [false, true, false, false, false, false, true], 0, 0), (18, .bipush 64, 2, [], 0, 0), (20, .if_icmp .ge 44, 3, [], 0, 0), (23, .aload_n 0, 1, [], 0, 0), (24, .iload 5, 2, [], 0, 0), (26, .invokevirtual 82, 3, [], 12, 0), (29, .istore 6, 2, [], 0, 0), (31, .iload 6, 2, [], 0, 0), (33, .iload_n 3, 1, [], 0, 0), (34, .if_icmp .ge 15, 3, [], 0, 0), (37, .iload 6, 2, [], 0, 0), (39, .istore_n 3, 1, [], 0, 0), (40, .iload 5, 2, [], 0, 0), (42, .istore_n 2, 1, [], 0, 0), (43, .iconst 1, 1, [], 0, 0), (44, .istore 4, 2, [], 0, 0), (46, .goto 12, 3, [], 0, 0), (49, .iload 6, 2, [], 0, 0), (51, .iload_n 3, 1, [], 0, 0), (52, .if_icmp .ne 6, 3, [], 0, 0), (55, .iinc 4 1, 3, [], 0, 0), (58, .iinc 5 1, 3, [], 0, 0), (61, .goto (-45), 3, [], 0, 0), (64, .aload_n 0, 1, [], 0, 0), (65, .iload_n 3, 1, [], 0, 0), (66, .putfield 29, 3, [], 6, 0), (69, .aload_n 0, 1, [], 0, 0), (70, .iload 4, 2, [], 0, 0), (72, .putfield 32, 3, [], 7, 0), (75, .iload_n 2, 1, [], 0, 0), (76, .ireturn, 1, [], 0, 0)])
def d_11 : MD := (⟨"ReedMullerDuo", "transform", "(I)V"⟩, prog_1_method_23_code, 7, none, 2, 1, 0, 0, 0, [(0, .iconst 0, 1, [], 0, 0), (1, .istore_n 2, 1, [], 0, 0), (2, .iload_n 2, 1, [false, false, false, true, true, true, true], 0, 0), (3, .bipush 32, 2, [], 0, 0), (5, .if_icmp .ge 34, 3, [], 0, 0), (8, .iload_n 1, 1, [], 0, 0), (9, .iload_n 2, 1, [], 0, 0), (10, .iushr, 1, [], 0, 0), (11, .iconst 1, 1, [], 0, 0), (12, .iand, 1, [], 0, 0), (13, .ifCond .ne 13, 3, [], 0, 0), (16, .aload_n 0, 1, [], 0, 0), (17, .getfield 22, 3, [], 4, 0), (20, .iload_n 2, 1, [], 0, 0), (21, .iconst 1, 1, [], 0, 0), (22, .iastore, 1, [], 0, 0), (23, .goto 10, 3, [], 0, 0), (26, .aload_n 0, 1, [], 0, 0), (27, .getfield 22, 3, [], 4, 0), (30, .iload_n 2, 1, [], 0, 0), (31, .iconst (-1), 1, [], 0, 0), (32, .iastore, 1, [], 0, 0), (33, .iinc 2 1, 3, [], 0, 0), (36, .goto (-34), 3, [], 0, 0), (39, .iconst 0, 1, [], 0, 0), (40, .istore_n 2, 1, [], 0, 0), (41, .iload_n 2, 1, [false, true, false, true, true, true, true], 0, 0), (42, .iconst 5, 1, [], 0, 0), (43, .if_icmp .ge 82, 3, [], 0, 0), (46, .iconst 1, 1, [], 0, 0), (47, .iload_n 2, 1, [], 0, 0), (48, .ishl, 1, [], 0, 0), (49, .istore_n 3, 1, [], 0, 0), (50, .iconst 0, 1, [], 0, 0), (51, .istore 4, 2, [], 0, 0), (53, .iload 4, 2, [false, true, false, false, false, true, true], 0, 0), (55, .bipush 32, 2, [], 0, 0), (57, .if_icmp .ge 62, 3, [], 0, 0), (60, .iload 4, 2, [], 0, 0), (62, .iload_n 3, 1, [], 0, 0), (63, .iand, 1, [], 0, 0), (64, .ifCond .ne 49, 3, [], 0, 0), (67, .aload_n 0, 1, [], 0, 0), (68, .getfield 22, 3, [], 4, 0), (71, .iload 4, 2, [], 0, 0), (73, .iaload, 1, [], 0, 0), (74, .istore 5, 2, [], 0, 0), (76, .aload_n 0, 1, [], 0, 0), (77, .getfield 22, 3, [], 4, 0), (80, .iload 4, 2, [], 0, 0), (82, .iload_n 3, 1, [], 0, 0), (83, .ior, 1, [], 0, 0), (84, .iaload, 1, [], 0, 0), (85, .istore 6, 2, [], 0, 0), (87, .aload_n 0, 1, [], 0, 0), (88, .getfield 22, 3, [], 4, 0), (91, .iload 4, 2, [], 0, 0), (93, .iload 5, 2, [], 0, 0), (95, .iload 6, 2, [], 0, 0), (97, .iadd, 1, [], 0, 0), (98, .iastore, 1, [], 0, 0), (99, .aload_n 0, 1, [], 0, 0), (100, .getfield 22, 3, [], 4, 0), (103, .iload 4, 2, [], 0, 0), (105, .iload_n 3, 1, [], 0, 0), (106, .ior, 1, [], 0, 0), (107, .iload 5, 2, [], 0, 0), (109, .iload 6, 2, [], 0, 0), (111, .isub, 1, [], 0, 0), (112, .iastore, 1, [], 0, 0), (113, .iinc 4 1, 3, [], 0, 0), (116, .goto (-63), 3, [], 0, 0), (119, .iinc 2 1, 3, [], 0, 0), (122, .goto (-81), 3, [], 0, 0), (125, .return_, 1, [], 0, 0)])
def d_12 : MD := (⟨"ReedMullerDuo", "rule1Distance", "(I)I"⟩, prog_1_method_22_code, 4, some .int, 2, 1, 0, 0, 0, [(0, .iload_n 1, 1, [], 0, 0), (1, .iconst 1, 1, [], 0, 0), (2, .iushr, 1, [], 0, 0), (3, .bipush 31, 2, [], 0, 0), (5, .iand, 1, [], 0, 0), (6, .istore_n 2, 1, [], 0, 0), (7, .aload_n 0, 1, [], 0, 0), (8, .getfield 22, 3, [], 4, 0), (11, .iload_n 2, 1, [], 0, 0), (12, .iaload, 1, [], 0, 0), (13, .istore_n 3, 1, [], 0, 0), (14, .iload_n 1, 1, [], 0, 0), (15, .iconst 1, 1, [], 0, 0), (16, .iand, 1, [], 0, 0), (17, .ifCond .ne 10, 3, [], 0, 0), (20, .bipush 32, 2, [], 0, 0), (22, .iload_n 3, 1, [], 0, 0), (23, .isub, 1, [], 0, 0), (24, .iconst 1, 1, [], 0, 0), (25, .ishr, 1, [], 0, 0), (26, .ireturn, 1, [], 0, 0), (27, .bipush 32, 2, [], 0, 0), (29, .iload_n 3, 1, [], 0, 0), (30, .iadd, 1, [], 0, 0), (31, .iconst 1, 1, [], 0, 0), (32, .ishr, 1, [], 0, 0), (33, .ireturn, 1, [], 0, 0)])
def d_13 : MD := (⟨"ReedMullerDuo", "lastDistance", "()I"⟩, prog_1_method_18_code, 1, some .int, 3, 0, 0, 0, 0, [(0, .aload_n 0, 1, [], 0, 0), (1, .getfield 29, 3, [], 6, 0), (4, .ireturn, 1, [], 0, 0)])
def d_14 : MD := (⟨"ReedMullerDuo", "encode1", "(I)I"⟩, prog_1_method_4_code, 2, some .int, 3, 1, 0, 1, 17, [(0, .aload_n 0, 1, [], 0, 0), (1, .iload_n 1, 1, [], 0, 0), (2, .bipush 63, 2, [], 0, 0), (4, .iand, 1, [], 0, 0), (5, .bipush 6, 2, [], 0, 0), (7, .invokevirtual 46, 3, [], 15, 0), (10, .ireturn, 1, [], 0, 0)])
def d_15 : MD := (⟨"ReedMullerDuo", "encodeBits", "(II)I"⟩, prog_1_method_6_code, 6, some .int, 2, 2, 0, 0, 0, [(0, .iconst 0, 1, [], 0, 0), (1, .istore_n 3, 1, [], 0, 0), (2, .iload_n 2, 1, [], 0, 0), (3, .istore 4, 2, [], 0, 0), (5, .iload 4, 2, [], 0, 0), (7, .bipush 16, 2, [], 0, 0), (9, .if_icmp .le 7, 3, [], 0, 0), (12, .bipush 16, 2, [], 0, 0), (14, .istore 4, 2, [], 0, 0), (16, .iconst 0, 1, [], 0, 0), (17, .istore 5, 2, [], 0, 0), (19, .iload 5, 2, [false, false, true], 0, 0), (21, .iload 4, 2, [], 0, 0), (23, .if_icmp .ge 28, 3, [], 0, 0), (26, .iload_n 1, 1, [], 0, 0), (27, .iload 5, 2, [], 0, 0), (29, .iushr, 1, [], 0, 0), (30, .iconst 1, 1, [], 0, 0), (31, .iand, 1, [], 0, 0), (32, .ifCond .eq 13, 3, [], 0, 0), (35, .iload_n 3, 1, [], 0, 0), (36, .aload_n 0, 1, [], 0, 0), (37, .getfield 13, 3, [], 1, 0), (40, .iload 5, 2, [], 0, 0), (42, .iaload, 1, [], 0, 0), (43, .ixor, 1, [], 0, 0), (44, .istore_n 3, 1, [], 0, 0), (45, .iinc 5 1, 3, [], 0, 0), (48, .goto (-29), 3, [], 0, 0), (51, .iload_n 3, 1, [], 0, 0), (52, .ireturn, 1, [], 0, 0)])
def d_16 : MD := (⟨"ReedMullerDuoOwnLaw", "pop", "(I)I"⟩, method_3_code, 3, some .int, 0, 1, 999, 0, 0, [(0, .iconst 0, 1, [], 0, 0), (1, .istore_n 1, 1, [], 0, 0), (2, .iconst 0, 1, [], 0, 0), (3, .istore_n 2, 1, [], 0, 0), (4, .iload_n 2, 1, [], 0, 0), (5, .bipush 32, 2, [], 0, 0), (7, .if_icmp .ge 17, 3, [], 0, 0), (10, .iload_n 1, 1, [], 0, 0), (11, .iload_n 0, 1, [], 0, 0), (12, .iload_n 2, 1, [], 0, 0), (13, .iushr, 1, [], 0, 0), (14, .iconst 1, 1, [], 0, 0), (15, .iand, 1, [], 0, 0), (16, .iadd, 1, [], 0, 0), (17, .istore_n 1, 1, [], 0, 0), (18, .iinc 2 1, 3, [], 0, 0), (21, .goto (-17), 3, [], 0, 0), (24, .iload_n 1, 1, [], 0, 0), (25, .ireturn, 1, [], 0, 0)])
def d_17 : MD := (⟨"ReedMullerDuo", "lastTies", "()I"⟩, prog_1_method_19_code, 1, some .int, 3, 0, 0, 0, 0, [(0, .aload_n 0, 1, [], 0, 0), (1, .getfield 32, 3, [], 7, 0), (4, .ireturn, 1, [], 0, 0)])
def d_18 : MD := (⟨"ReedMullerDuo", "encode2", "(I)I"⟩, prog_1_method_5_code, 2, some .int, 3, 1, 0, 1, 17, [(0, .aload_n 0, 1, [], 0, 0), (1, .iload_n 1, 1, [], 0, 0), (2, .ldc 50, 2, [], 0, 65535), (4, .iand, 1, [], 0, 0), (5, .bipush 16, 2, [], 0, 0), (7, .invokevirtual 46, 3, [], 15, 0), (10, .ireturn, 1, [], 0, 0)])
def d_19 : MD := (⟨"ReedMullerDuo", "failures", "()I"⟩, prog_1_method_20_code, 1, some .int, 3, 0, 0, 0, 0, [(0, .aload_n 0, 1, [], 0, 0), (1, .getfield 35, 3, [], 8, 0), (4, .ireturn, 1, [], 0, 0)])
def d_20 : MD := (⟨"ReedMullerDuo", "decode2", "(I)I"⟩, prog_1_method_16_code, 2, some .int, 3, 1, 0, 4, 69, [(0, .aload_n 0, 1, [], 0, 0), (1, .iload_n 1, 1, [], 0, 0), (2, .invokevirtual 51, 3, [], 7, 0), (5, .ifCond .ne 5, 3, [], 0, 0), (8, .iconst (-1), 1, [], 0, 0), (9, .ireturn, 1, [], 0, 0), (10, .aload_n 0, 1, [], 0, 0), (11, .aload_n 0, 1, [], 0, 0), (12, .getfield 7, 3, [], 0, 0), (15, .iload_n 1, 1, [], 0, 0), (16, .iaload, 1, [], 0, 0), (17, .invokevirtual 75, 3, [], 21, 0), (20, .ireturn, 1, [], 0, 0)])
def d_21 : MD := (⟨"ReedMullerDuo", "applyRule2", "(I)I"⟩, prog_1_method_24_code, 5, some .int, 2, 1, 0, 3, 53, [(0, .aload_n 0, 1, [], 0, 0), (1, .iload_n 1, 1, [], 0, 0), (2, .invokevirtual 85, 3, [], 22, 0), (5, .istore_n 2, 1, [], 0, 0), (6, .aload_n 0, 1, [], 0, 0), (7, .iload_n 2, 1, [], 0, 0), (8, .bipush 16, 2, [], 0, 0), (10, .invokevirtual 46, 3, [], 15, 0), (13, .istore_n 3, 1, [], 0, 0), (14, .aload_n 0, 1, [], 0, 0), (15, .iload_n 3, 1, [], 0, 0), (16, .iload_n 1, 1, [], 0, 0), (17, .ixor, 1, [], 0, 0), (18, .invokevirtual 65, 3, [], 25, 0), (21, .istore 4, 2, [], 0, 0), (23, .iload 4, 2, [], 0, 0), (25, .iconst 3, 1, [], 0, 0), (26, .if_icmp .gt 16, 3, [], 0, 0), (29, .aload_n 0, 1, [], 0, 0), (30, .iload 4, 2, [], 0, 0), (32, .putfield 29, 3, [], 6, 0), (35, .aload_n 0, 1, [], 0, 0), (36, .iconst 1, 1, [], 0, 0), (37, .putfield 32, 3, [], 7, 0), (40, .iload_n 2, 1, [], 0, 0), (41, .ireturn, 1, [], 0, 0), (42, .aload_n 0, 1, [], 0, 0), (43, .iconst (-1), 1, [], 0, 0), (44, .putfield 29, 3, [], 6, 0), (47, .aload_n 0, 1, [], 0, 0), (48, .iconst 0, 1, [], 0, 0), (49, .putfield 32, 3, [], 7, 0), (52, .aload_n 0, 1, [], 0, 0), (53, .dup, 1, [], 0, 0), (54, .getfield 35, 3, [], 8, 0), (57, .iconst 1, 1, [], 0, 0), (58, .iadd, 1, [], 0, 0), (59, .putfield 35, 3, [], 8, 0), (62, .bipush (-2), 2, [], 0, 0), (64, .ireturn, 1, [], 0, 0)])
def d_22 : MD := (⟨"ReedMullerDuo", "reedDecode", "(I)I"⟩, prog_1_method_25_code, 7, some .int, 2, 1, 0, 2, 35, [(0, .iconst 0, 1, [], 0, 0), (1, .istore_n 2, 1, [], 0, 0), (2, .iconst 0, 1, [], 0, 0), (3, .istore_n 3, 1, [], 0, 0), (4, .bipush 6, 2, [], 0, 0), (6, .istore 4, 2, [], 0, 0), (8, .iload 4, 2, [false, false, false, false, false, true, true], 0, 0), (10, .bipush 16, 2, [], 0, 0), (12, .if_icmp .ge 48, 3, [], 0, 0), (15, .aload_n 0, 1, [], 0, 0), (16, .iload_n 1, 1, [], 0, 0), (17, .aload_n 0, 1, [], 0, 0), (18, .getfield 16, 3, [], 2, 0), (21, .iload 4, 2, [], 0, 0), (23, .iaload, 1, [], 0, 0), (24, .aload_n 0, 1, [], 0, 0), (25, .getfield 19, 3, [], 3, 0), (28, .iload 4, 2, [], 0, 0), (30, .iaload, 1, [], 0, 0), (31, .invokevirtual 88, 3, [], 23, 0), (34, .ifCond .eq 20, 3, [], 0, 0), (37, .iload_n 2, 1, [], 0, 0), (38, .iconst 1, 1, [], 0, 0), (39, .iload 4, 2, [], 0, 0), (41, .ishl, 1, [], 0, 0), (42, .ior, 1, [], 0, 0), (43, .istore_n 2, 1, [], 0, 0), (44, .iload_n 3, 1, [], 0, 0), (45, .aload_n 0, 1, [], 0, 0), (46, .getfield 13, 3, [], 1, 0), (49, .iload 4, 2, [], 0, 0), (51, .iaload, 1, [], 0, 0), (52, .ixor, 1, [], 0, 0), (53, .istore_n 3, 1, [], 0, 0), (54, .iinc 4 1, 3, [], 0, 0), (57, .goto (-49), 3, [], 0, 0), (60, .iload_n 1, 1, [false, false, false, false, true, true, true], 0, 0), (61, .iload_n 3, 1, [], 0, 0), (62, .ixor, 1, [], 0, 0), (63, .istore 4, 2, [], 0, 0), (65, .aload_n 0, 1, [], 0, 0), (66, .iload 4, 2, [], 0, 0), (68, .invokevirtual 92, 3, [], 26, 0), (71, .istore 5, 2, [], 0, 0), (73, .iload_n 2, 1, [], 0, 0), (74, .iload 5, 2, [], 0, 0), (76, .iconst 1, 1, [], 0, 0), (77, .ishl, 1, [], 0, 0), (78, .ior, 1, [], 0, 0), (79, .istore_n 2, 1, [], 0, 0), (80, .aload_n 0, 1, [], 0, 0), (81, .iload 5, 2, [], 0, 0), (83, .iconst 1, 1, [], 0, 0), (84, .ishl, 1, [], 0, 0), (85, .bipush 6, 2, [], 0, 0), (87, .invokevirtual 46, 3, [], 15, 0), (90, .istore 6, 2, [], 0, 0), (92, .iload 4, 2, [], 0, 0), (94, .iload 6, 2, [], 0, 0), (96, .ixor, 1, [], 0, 0), (97, .istore 4, 2, [], 0, 0), (99, .aload_n 0, 1, [], 0, 0), (100, .iload 4, 2, [], 0, 0), (102, .invokevirtual 65, 3, [], 25, 0), (105, .bipush 16, 2, [], 0, 0), (107, .if_icmp .le 7, 3, [], 0, 0), (110, .iload_n 2, 1, [], 0, 0), (111, .iconst 1, 1, [], 0, 0), (112, .ior, 1, [], 0, 0), (113, .istore_n 2, 1, [], 0, 0), (114, .iload_n 2, 1, [], 0, 0), (115, .ireturn, 1, [], 0, 0)])
def d_23 : MD := (⟨"ReedMullerDuo", "quadraticVote", "(III)Z"⟩, prog_1_method_26_code, 8, some .boolean, 2, 3, 0, 1, 16, [(0, .aload_n 0, 1, [], 0, 0), (1, .iload_n 1, 1, [], 0, 0), (2, .iload_n 2, 1, [], 0, 0), (3, .invokevirtual 95, 3, [], 24, 0), (6, .istore 4, 2, [], 0, 0), (8, .aload_n 0, 1, [], 0, 0), (9, .iload_n 1, 1, [], 0, 0), (10, .iload_n 3, 1, [], 0, 0), (11, .invokevirtual 95, 3, [], 24, 0), (14, .istore 5, 2, [], 0, 0), (16, .aload_n 0, 1, [], 0, 0), (17, .iload 5, 2, [], 0, 0), (19, .iload_n 2, 1, [], 0, 0), (20, .invokevirtual 95, 3, [], 24, 0), (23, .istore 6, 2, [], 0, 0), (25, .iload_n 1, 1, [], 0, 0), (26, .iload 4, 2, [], 0, 0), (28, .ixor, 1, [], 0, 0), (29, .iload 5, 2, [], 0, 0), (31, .ixor, 1, [], 0, 0), (32, .iload 6, 2, [], 0, 0), (34, .ixor, 1, [], 0, 0), (35, .istore 7, 2, [], 0, 0), (37, .aload_n 0, 1, [], 0, 0), (38, .iload 7, 2, [], 0, 0), (40, .invokevirtual 65, 3, [], 25, 0), (43, .bipush 16, 2, [], 0, 0), (45, .if_icmp .le 7, 3, [], 0, 0), (48, .iconst 1, 1, [], 0, 0), (49, .goto 4, 3, [], 0, 0), (52, .iconst 0, 1, [], 0, 0), (53, .ireturn, 1, [], 0, 0)])
def d_24 : MD := (⟨"ReedMullerDuo", "swap", "(II)I"⟩, prog_1_method_28_code, 5, some .int, 2, 2, 0, 0, 0, [(0, .iload_n 2, 1, [], 0, 0), (1, .ifCond .lt 8, 3, [], 0, 0), (4, .iload_n 2, 1, [], 0, 0), (5, .iconst 4, 1, [], 0, 0), (6, .if_icmp .le 5, 3, [], 0, 0), (9, .iload_n 1, 1, [], 0, 0), (10, .ireturn, 1, [], 0, 0), (11, .iconst 1, 1, [], 0, 0), (12, .iload_n 2, 1, [], 0, 0), (13, .ishl, 1, [], 0, 0), (14, .istore_n 3, 1, [], 0, 0), (15, .aload_n 0, 1, [], 0, 0), (16, .getfield 13, 3, [], 1, 0), (19, .iconst 1, 1, [], 0, 0), (20, .iload_n 2, 1, [], 0, 0), (21, .iadd, 1, [], 0, 0), (22, .iaload, 1, [], 0, 0), (23, .iconst (-1), 1, [], 0, 0), (24, .ixor, 1, [], 0, 0), (25, .istore 4, 2, [], 0, 0), (27, .iload_n 1, 1, [], 0, 0), (28, .iload 4, 2, [], 0, 0), (30, .iand, 1, [], 0, 0), (31, .iload_n 3, 1, [], 0, 0), (32, .ishl, 1, [], 0, 0), (33, .iload_n 1, 1, [], 0, 0), (34, .iload_n 3, 1, [], 0, 0), (35, .iushr, 1, [], 0, 0), (36, .iload 4, 2, [], 0, 0), (38, .iand, 1, [], 0, 0), (39, .ior, 1, [], 0, 0), (40, .ireturn, 1, [], 0, 0)])
def d_25 : MD := (⟨"ReedMullerDuo", "popcount", "(I)I"⟩, prog_1_method_14_code, 3, some .int, 2, 1, 0, 0, 0, [(0, .iload_n 1, 1, [], 0, 0), (1, .iload_n 1, 1, [], 0, 0), (2, .iconst 1, 1, [], 0, 0), (3, .iushr, 1, [], 0, 0), (4, .ldc 68, 2, [], 0, 1431655765), (6, .iand, 1, [], 0, 0), (7, .isub, 1, [], 0, 0), (8, .istore_n 2, 1, [], 0, 0), (9, .iload_n 2, 1, [], 0, 0), (10, .ldc 69, 2, [], 0, 858993459), (12, .iand, 1, [], 0, 0), (13, .iload_n 2, 1, [], 0, 0), (14, .iconst 2, 1, [], 0, 0), (15, .iushr, 1, [], 0, 0), (16, .ldc 69, 2, [], 0, 858993459), (18, .iand, 1, [], 0, 0), (19, .iadd, 1, [], 0, 0), (20, .istore_n 2, 1, [], 0, 0), (21, .iload_n 2, 1, [], 0, 0), (22, .iload_n 2, 1, [], 0, 0), (23, .iconst 4, 1, [], 0, 0), (24, .iushr, 1, [], 0, 0), (25, .iadd, 1, [], 0, 0), (26, .ldc 70, 2, [], 0, 252645135), (28, .iand, 1, [], 0, 0), (29, .istore_n 2, 1, [], 0, 0), (30, .iload_n 2, 1, [], 0, 0), (31, .ldc 71, 2, [], 0, 16843009), (33, .imul, 1, [], 0, 0), (34, .bipush 24, 2, [], 0, 0), (36, .iushr, 1, [], 0, 0), (37, .ireturn, 1, [], 0, 0)])
def d_26 : MD := (⟨"ReedMullerDuo", "linearPart", "(I)I"⟩, prog_1_method_27_code, 5, some .int, 2, 1, 0, 1, 16, [(0, .iconst 0, 1, [], 0, 0), (1, .istore_n 2, 1, [], 0, 0), (2, .iconst 0, 1, [], 0, 0), (3, .istore_n 3, 1, [], 0, 0), (4, .iload_n 3, 1, [false, false, false, false, true], 0, 0), (5, .iconst 5, 1, [], 0, 0), (6, .if_icmp .ge 36, 3, [], 0, 0), (9, .aload_n 0, 1, [], 0, 0), (10, .iload_n 1, 1, [], 0, 0), (11, .iload_n 3, 1, [], 0, 0), (12, .invokevirtual 95, 3, [], 24, 0), (15, .istore 4, 2, [], 0, 0), (17, .aload_n 0, 1, [], 0, 0), (18, .iload_n 1, 1, [], 0, 0), (19, .iload 4, 2, [], 0, 0), (21, .ixor, 1, [], 0, 0), (22, .invokevirtual 65, 3, [], 25, 0), (25, .bipush 16, 2, [], 0, 0), (27, .if_icmp .le 9, 3, [], 0, 0), (30, .iload_n 2, 1, [], 0, 0), (31, .iconst 1, 1, [], 0, 0), (32, .iload_n 3, 1, [], 0, 0), (33, .ishl, 1, [], 0, 0), (34, .ior, 1, [], 0, 0), (35, .istore_n 2, 1, [], 0, 0), (36, .iinc 3 1, 3, [], 0, 0), (39, .goto (-35), 3, [], 0, 0), (42, .iload_n 2, 1, [], 0, 0), (43, .ireturn, 1, [], 0, 0)])
def d_27 : MD := (⟨"ReedMullerDuo", "put", "(III)Z"⟩, prog_1_method_10_code, 4, some .boolean, 3, 3, 0, 2, 32, [(0, .aload_n 0, 1, [], 0, 0), (1, .iload_n 1, 1, [], 0, 0), (2, .invokevirtual 51, 3, [], 7, 0), (5, .ifCond .ne 5, 3, [], 0, 0), (8, .iconst 0, 1, [], 0, 0), (9, .ireturn, 1, [], 0, 0), (10, .aload_n 0, 1, [], 0, 0), (11, .iload_n 3, 1, [], 0, 0), (12, .invokevirtual 55, 3, [], 28, 0), (15, .ifCond .ne 5, 3, [], 0, 0), (18, .iconst 0, 1, [], 0, 0), (19, .ireturn, 1, [], 0, 0), (20, .iload_n 3, 1, [], 0, 0), (21, .iconst 1, 1, [], 0, 0), (22, .if_icmp .ne 17, 3, [], 0, 0), (25, .aload_n 0, 1, [], 0, 0), (26, .getfield 7, 3, [], 0, 0), (29, .iload_n 1, 1, [], 0, 0), (30, .aload_n 0, 1, [], 0, 0), (31, .iload_n 2, 1, [], 0, 0), (32, .invokevirtual 58, 3, [], 14, 0), (35, .iastore, 1, [], 0, 0), (36, .goto 14, 3, [], 0, 0), (39, .aload_n 0, 1, [], 0, 0), (40, .getfield 7, 3, [], 0, 0), (43, .iload_n 1, 1, [], 0, 0), (44, .aload_n 0, 1, [], 0, 0), (45, .iload_n 2, 1, [], 0, 0), (46, .invokevirtual 62, 3, [], 18, 0), (49, .iastore, 1, [], 0, 0), (50, .iconst 1, 1, [], 0, 0), (51, .ireturn, 1, [], 0, 0)])
def d_28 : MD := (⟨"ReedMullerDuo", "validOrder", "(I)Z"⟩, prog_1_method_8_code, 2, some .boolean, 2, 1, 0, 0, 0, [(0, .iload_n 1, 1, [], 0, 0), (1, .iconst 1, 1, [], 0, 0), (2, .if_icmp .eq 8, 3, [], 0, 0), (5, .iload_n 1, 1, [], 0, 0), (6, .iconst 2, 1, [], 0, 0), (7, .if_icmp .ne 7, 3, [], 0, 0), (10, .iconst 1, 1, [], 0, 0), (11, .goto 4, 3, [], 0, 0), (14, .iconst 0, 1, [], 0, 0), (15, .ireturn, 1, [], 0, 0)])
def d_29 : MD := (⟨"ReedMullerDuo", "flip", "(II)Z"⟩, prog_1_method_11_code, 3, some .boolean, 3, 2, 0, 1, 13, [(0, .aload_n 0, 1, [], 0, 0), (1, .iload_n 1, 1, [], 0, 0), (2, .invokevirtual 51, 3, [], 7, 0), (5, .ifCond .ne 5, 3, [], 0, 0), (8, .iconst 0, 1, [], 0, 0), (9, .ireturn, 1, [], 0, 0), (10, .iload_n 2, 1, [], 0, 0), (11, .ifCond .lt 9, 3, [], 0, 0), (14, .iload_n 2, 1, [], 0, 0), (15, .bipush 31, 2, [], 0, 0), (17, .if_icmp .le 5, 3, [], 0, 0), (20, .iconst 0, 1, [], 0, 0), (21, .ireturn, 1, [], 0, 0), (22, .aload_n 0, 1, [], 0, 0), (23, .getfield 7, 3, [], 0, 0), (26, .iload_n 1, 1, [], 0, 0), (27, .aload_n 0, 1, [], 0, 0), (28, .getfield 7, 3, [], 0, 0), (31, .iload_n 1, 1, [], 0, 0), (32, .iaload, 1, [], 0, 0), (33, .iconst 1, 1, [], 0, 0), (34, .iload_n 2, 1, [], 0, 0), (35, .ishl, 1, [], 0, 0), (36, .ixor, 1, [], 0, 0), (37, .iastore, 1, [], 0, 0), (38, .iconst 1, 1, [], 0, 0), (39, .ireturn, 1, [], 0, 0)])
def d_30 : MD := (⟨"ReedMullerDuo", "correct", "(II)Z"⟩, prog_1_method_17_code, 4, some .boolean, 3, 2, 0, 4, 69, [(0, .aload_n 0, 1, [], 0, 0), (1, .iload_n 1, 1, [], 0, 0), (2, .invokevirtual 51, 3, [], 7, 0), (5, .ifCond .ne 5, 3, [], 0, 0), (8, .iconst 0, 1, [], 0, 0), (9, .ireturn, 1, [], 0, 0), (10, .aload_n 0, 1, [], 0, 0), (11, .iload_n 2, 1, [], 0, 0), (12, .invokevirtual 55, 3, [], 28, 0), (15, .ifCond .ne 5, 3, [], 0, 0), (18, .iconst 0, 1, [], 0, 0), (19, .ireturn, 1, [], 0, 0), (20, .iload_n 2, 1, [], 0, 0), (21, .iconst 1, 1, [], 0, 0), (22, .if_icmp .ne 29, 3, [], 0, 0), (25, .aload_n 0, 1, [], 0, 0), (26, .aload_n 0, 1, [], 0, 0), (27, .getfield 7, 3, [], 0, 0), (30, .iload_n 1, 1, [], 0, 0), (31, .iaload, 1, [], 0, 0), (32, .invokevirtual 72, 3, [], 10, 0), (35, .istore_n 3, 1, [], 0, 0), (36, .aload_n 0, 1, [], 0, 0), (37, .getfield 7, 3, [], 0, 0), (40, .iload_n 1, 1, [], 0, 0), (41, .aload_n 0, 1, [], 0, 0), (42, .iload_n 3, 1, [], 0, 0), (43, .bipush 6, 2, [], 0, 0), (45, .invokevirtual 46, 3, [], 15, 0), (48, .iastore, 1, [], 0, 0), (49, .iconst 1, 1, [], 0, 0), (50, .ireturn, 1, [], 0, 0), (51, .aload_n 0, 1, [], 0, 0), (52, .aload_n 0, 1, [], 0, 0), (53, .getfield 7, 3, [], 0, 0), (56, .iload_n 1, 1, [], 0, 0), (57, .iaload, 1, [], 0, 0), (58, .invokevirtual 75, 3, [], 21, 0), (61, .istore_n 3, 1, [], 0, 0), (62, .iload_n 3, 1, [], 0, 0), (63, .bipush (-2), 2, [], 0, 0), (65, .if_icmp .ne 5, 3, [], 0, 0), (68, .iconst 0, 1, [], 0, 0), (69, .ireturn, 1, [], 0, 0), (70, .aload_n 0, 1, [], 0, 0), (71, .getfield 7, 3, [], 0, 0), (74, .iload_n 1, 1, [], 0, 0), (75, .aload_n 0, 1, [], 0, 0), (76, .iload_n 3, 1, [], 0, 0), (77, .bipush 16, 2, [], 0, 0), (79, .invokevirtual 46, 3, [], 15, 0), (82, .iastore, 1, [], 0, 0), (83, .iconst 1, 1, [], 0, 0), (84, .ireturn, 1, [], 0, 0)])
def own_P : PD := ([("ReedMullerDuo", 9, [("words", "[I", (.array .int), false), ("mono", "[I", (.array .int), false), ("pairI", "[I", (.array .int), false), ("pairJ", "[I", (.array .int), false), ("wht", "[I", (.array .int), false), ("n", "I", .int, false), ("lastDist", "I", .int, false), ("lastTie", "I", .int, false), ("failCount", "I", .int, false)])], [d_0, d_1, d_2, d_3, d_4, d_5, d_6, d_7, d_8, d_9, d_10, d_11, d_12, d_13, d_14, d_15, d_16, d_17, d_18, d_19, d_20, d_21, d_22, d_23, d_24, d_25, d_26, d_27, d_28, d_29, d_30], 1)
theorem hm_0 : own_P.mth[0]? = some d_0 := rfl
theorem hm_1 : own_P.mth[1]? = some d_1 := rfl
theorem hm_2 : own_P.mth[2]? = some d_2 := rfl
theorem hm_3 : own_P.mth[3]? = some d_3 := rfl
theorem hm_4 : own_P.mth[4]? = some d_4 := rfl
theorem hm_5 : own_P.mth[5]? = some d_5 := rfl
theorem hm_6 : own_P.mth[6]? = some d_6 := rfl
theorem hm_7 : own_P.mth[7]? = some d_7 := rfl
theorem hm_8 : own_P.mth[8]? = some d_8 := rfl
theorem hm_9 : own_P.mth[9]? = some d_9 := rfl
theorem hm_10 : own_P.mth[10]? = some d_10 := rfl
theorem hm_11 : own_P.mth[11]? = some d_11 := rfl
theorem hm_12 : own_P.mth[12]? = some d_12 := rfl
theorem hm_13 : own_P.mth[13]? = some d_13 := rfl
theorem hm_14 : own_P.mth[14]? = some d_14 := rfl
theorem hm_15 : own_P.mth[15]? = some d_15 := rfl
theorem hm_16 : own_P.mth[16]? = some d_16 := rfl
theorem hm_17 : own_P.mth[17]? = some d_17 := rfl
theorem hm_18 : own_P.mth[18]? = some d_18 := rfl
theorem hm_19 : own_P.mth[19]? = some d_19 := rfl
theorem hm_20 : own_P.mth[20]? = some d_20 := rfl
theorem hm_21 : own_P.mth[21]? = some d_21 := rfl
theorem hm_22 : own_P.mth[22]? = some d_22 := rfl
theorem hm_23 : own_P.mth[23]? = some d_23 := rfl
theorem hm_24 : own_P.mth[24]? = some d_24 := rfl
theorem hm_25 : own_P.mth[25]? = some d_25 := rfl
theorem hm_26 : own_P.mth[26]? = some d_26 := rfl
theorem hm_27 : own_P.mth[27]? = some d_27 := rfl
theorem hm_28 : own_P.mth[28]? = some d_28 := rfl
theorem hm_29 : own_P.mth[29]? = some d_29 := rfl
theorem hm_30 : own_P.mth[30]? = some d_30 := rfl
set_option maxRecDepth 100000 in
theorem own_chk : chk own_P = true := by decide +kernel
def own_ix : List Nat := [1, 2, 15, 17, 19, 21, 23, 25, 27, 29, 31, 6, 5, 4, 9, 2, 8, 35, 2, 33, 34, 45, 2, 42, 44, 43, 48, 5, 47, 53, 2, 50, 52, 51, 57, 2, 55, 56, 62, 2, 59, 61, 60, 67, 2, 64, 66, 65, 71, 2, 69, 70, 75, 2, 73, 74, 79, 2, 77, 78, 84, 2, 81, 83, 82, 89, 2, 86, 88, 87, 93, 2, 91, 92, 96, 5, 95, 101, 2, 98, 100, 99, 106, 2, 103, 105, 104, 112, 2, 109, 111, 110, 117, 2, 114, 116, 115, 121, 2, 119, 120, 125, 2, 123, 124, 129, 2, 127, 128, 133, 2, 131, 132, 137, 2, 135, 136, 145, 2, 143, 144, 151, 2, 148, 150, 149, 155, 2, 153, 154, 161, 2, 158, 160, 159, 167, 2, 164, 166, 165, 0, 3, 7, 41, 3, 46, 3, 46, 3, 3, 147, 157, 147, 157, 49, 157, 163, 113, 58, 63, 80, 85, 94, 85, 94, 63, 80, 97, 102, 94, 108, 113, 146, 80, 97, 108, 10, 11, 12, 13, 14, 13, 16, 13, 18, 13, 20, 13, 22, 24, 26, 28, 30, 32, 16, 16, 36, 16, 37, 16, 38, 16, 39, 16, 40, 18, 20, 16, 16, 16, 24, 54, 14, 24, 54, 14, 54, 14, 68, 72, 76, 26, 28, 22, 22, 22, 22, 22, 22, 22, 26, 90, 16, 28, 107, 90, 30, 54, 14, 118, 122, 90, 134, 26, 28, 26, 28, 30, 30, 18, 20, 126, 16, 142, 90, 134, 130, 130, 130, 134, 16, 138, 139, 139, 140, 141, 130, 134, 54, 152, 14, 156, 14, 162, 54, 14, 14, 54, 152, 14, 68, 14, 90, 14, 118, 14, 90]
set_option maxRecDepth 100000 in
theorem own_words : (wordsOf own_P).map some = own_ix.map fun k => tables_1[k]? := rfl
theorem own_in : ∀ d ∈ wordsOf own_P, d ∈ tables_1 := fun d hd => by
  have h1 : some d ∈ (wordsOf own_P).map some := List.mem_map.mpr ⟨d, hd, rfl⟩
  rw [own_words] at h1
  obtain ⟨k, -, hk⟩ := List.mem_map.mp h1
  exact List.mem_of_getElem? hk
abbrev bk0 (s_words : List Int32) (s_mono : List Int32) (s_pairI : List Int32) (s_pairJ : List Int32) (s_wht : List Int32) (s_n : Int32) (s_lastDist : Int32) (s_lastTie : Int32) (s_failCount : Int32) (po : List ACell) : List ACell := .inl (0, [.ref 2, .ref 3, .ref 4, .ref 5, .ref 6, .int s_n, .int s_lastDist, .int s_lastTie, .int s_failCount]) :: .inr (.inl (false, s_words)) :: .inr (.inl (false, s_mono)) :: .inr (.inl (false, s_pairI)) :: .inr (.inl (false, s_pairJ)) :: .inr (.inl (false, s_wht)) :: po
def f_L_cell (scr : List Int32) (v1 : Int32) : Option (Int32) :=
  if v1 < scr.length.toInt32 then
    (rdA scr v1).bind fun x1 =>
    some x1
  else
    some (0 : Int32)
def f_buildMonomials_61 (k52 : List Int32 → List Int32 → List Int32 → Int32 → Int32 → Option (List Int32 × List Int32 × List Int32)) : Nat → List Int32 → List Int32 → List Int32 → Int32 → Int32 → Int32 → Option (List Int32 × List Int32 × List Int32)
  | 0, _, _, _, _, _, _ => none
  | n + 1, o_mono, o_pairI, o_pairJ, v1, v2, v3 =>
    if v3 < (5 : Int32) then
      if v1 < (16 : Int32) then
        (wrA o_pairI v1 v2).bind fun A8 =>
        (wrA o_pairJ v1 v3).bind fun A9 =>
        (rdA o_mono ((1 : Int32) + v2)).bind fun x10 =>
        (rdA o_mono ((1 : Int32) + v3)).bind fun x11 =>
        (wrA o_mono v1 (x10 &&& x11)).bind fun A12 =>
        f_buildMonomials_61 k52 n A12 A8 A9 (v1 + (1 : Int32)) v2 (v3 + (1 : Int32))
      else
        f_buildMonomials_61 k52 n o_mono o_pairI o_pairJ (v1 + (1 : Int32)) v2 (v3 + (1 : Int32))
    else
      k52 o_mono o_pairI o_pairJ v1 (v2 + (1 : Int32))
def f_buildMonomials_52 : Nat → List Int32 → List Int32 → List Int32 → Int32 → Int32 → Option (List Int32 × List Int32 × List Int32)
  | 0, _, _, _, _, _ => none
  | n + 1, o_mono, o_pairI, o_pairJ, v1, v2 =>
    if v2 < (5 : Int32) then
      f_buildMonomials_61 (f_buildMonomials_52 n) 100000 o_mono o_pairI o_pairJ v1 v2 (v2 + (1 : Int32))
    else
      some (o_mono, o_pairI, o_pairJ)
def f_buildMonomials (o_mono : List Int32) (o_pairI : List Int32) (o_pairJ : List Int32) : Option (List Int32 × List Int32 × List Int32) :=
  (wrA o_mono (0 : Int32) (-1 : Int32)).bind fun A2 =>
  (wrA A2 (1 : Int32) (-1431655766 : Int32)).bind fun A3 =>
  (wrA A3 (2 : Int32) (-858993460 : Int32)).bind fun A4 =>
  (wrA A4 (3 : Int32) (-252645136 : Int32)).bind fun A5 =>
  (wrA A5 (4 : Int32) (-16711936 : Int32)).bind fun A6 =>
  (wrA A6 (5 : Int32) (-65536 : Int32)).bind fun A7 =>
  f_buildMonomials_52 100000 A7 o_pairI o_pairJ (6 : Int32) (0 : Int32)
def f_init_64 (o_words : List Int32) (o_mono : List Int32) (o_pairI : List Int32) (o_pairJ : List Int32) (o_wht : List Int32) (o_n : Int32) (o_lastDist : Int32) (o_lastTie : Int32) (o_failCount : Int32) (v2 : Int32) : Option (List Int32 × List Int32 × List Int32 × List Int32 × List Int32 × Int32 × Int32 × Int32 × Int32) :=
  (f_buildMonomials o_mono o_pairI o_pairJ).bind fun (s13, s14, s15) =>
  some (o_words, s13, s14, s15, o_wht, v2, (-1 : Int32), (0 : Int32), (0 : Int32))
def f_init_55 (o_words : List Int32) (o_mono : List Int32) (o_pairI : List Int32) (o_pairJ : List Int32) (o_wht : List Int32) (o_n : Int32) (o_lastDist : Int32) (o_lastTie : Int32) (o_failCount : Int32) (v2 : Int32) : Option (List Int32 × List Int32 × List Int32 × List Int32 × List Int32 × Int32 × Int32 × Int32 × Int32) :=
  f_init_64 o_words o_mono o_pairI o_pairJ o_wht o_n o_lastDist o_lastTie o_failCount (if (32 : Int32) < v2 then (32 : Int32) else v2)
def f_init (v1 : Int32) : Option (List Int32 × List Int32 × List Int32 × List Int32 × List Int32 × Int32 × Int32 × Int32 × Int32) :=
  f_init_55 (List.replicate 32 0) (List.replicate 16 0) (List.replicate 16 0) (List.replicate 16 0) (List.replicate 32 0) (0 : Int32) (0 : Int32) (0 : Int32) (0 : Int32) (if v1 < (8 : Int32) then (8 : Int32) else v1)
def f_slotCount (o_n : Int32) : Option (Int32) :=
  some o_n
def f_L_mod (v0 : Int32) (v1 : Int32) : Option (Int32) :=
  if v1 = 0 then none else
  some (if (v0 % v1) < (0 : Int32) then ((v0 % v1) + v1) else (v0 % v1))
def f_validSlot (o_n : Int32) (v1 : Int32) : Option (Int32) :=
  some (if v1 < (0 : Int32) then (0 : Int32) else (if v1 < o_n then (1 : Int32) else (0 : Int32)))
def f_validOrder (v1 : Int32) : Option (Int32) :=
  some (if v1 = (1 : Int32) then (1 : Int32) else (if v1 = (2 : Int32) then (1 : Int32) else (0 : Int32)))
def f_encodeBits_19 (o_mono : List Int32) : Nat → Int32 → Int32 → Int32 → Int32 → Option (Int32)
  | 0, _, _, _, _ => none
  | n + 1, v1, v3, v4, v5 =>
    if v5 < v4 then
      if ((XT.ushr v1 v5) &&& (1 : Int32)) = (0 : Int32) then
        f_encodeBits_19 o_mono n v1 v3 v4 (v5 + (1 : Int32))
      else
        (rdA o_mono v5).bind fun x16 =>
        f_encodeBits_19 o_mono n v1 (v3 ^^^ x16) v4 (v5 + (1 : Int32))
    else
      some v3
def f_encodeBits (o_mono : List Int32) (v1 : Int32) (v2 : Int32) : Option (Int32) :=
  f_encodeBits_19 o_mono 100000 v1 (0 : Int32) (if (16 : Int32) < v2 then (16 : Int32) else v2) (0 : Int32)
def f_encode1 (o_mono : List Int32) (v1 : Int32) : Option (Int32) :=
  (f_encodeBits o_mono (v1 &&& (63 : Int32)) (6 : Int32)).bind fun r17 =>
  some r17
def f_encode2 (o_mono : List Int32) (v1 : Int32) : Option (Int32) :=
  (f_encodeBits o_mono (v1 &&& (65535 : Int32)) (16 : Int32)).bind fun r18 =>
  some r18
def f_put (o_mono : List Int32) (o_n : Int32) (o_words : List Int32) (v1 : Int32) (v2 : Int32) (v3 : Int32) : Option (Int32 × List Int32) :=
  (f_validSlot o_n v1).bind fun r19 =>
  if r19 = (0 : Int32) then
    some ((0 : Int32), o_words)
  else
    (f_validOrder v3).bind fun r20 =>
    if r20 = (0 : Int32) then
      some ((0 : Int32), o_words)
    else
      if v3 = (1 : Int32) then
        (f_encode1 o_mono v2).bind fun r23 =>
        (wrA o_words v1 r23).bind fun A24 =>
        some ((1 : Int32), A24)
      else
        (f_encode2 o_mono v2).bind fun r21 =>
        (wrA o_words v1 r21).bind fun A22 =>
        some ((1 : Int32), A22)
def f_flip (o_n : Int32) (o_words : List Int32) (v1 : Int32) (v2 : Int32) : Option (Int32 × List Int32) :=
  (f_validSlot o_n v1).bind fun r25 =>
  if r25 = (0 : Int32) then
    some ((0 : Int32), o_words)
  else
    if v2 < (0 : Int32) then
      some ((0 : Int32), o_words)
    else
      if (31 : Int32) < v2 then
        some ((0 : Int32), o_words)
      else
        (rdA o_words v1).bind fun x26 =>
        (wrA o_words v1 (x26 ^^^ ((1 : Int32) <<< (v2 &&& 31)))).bind fun A27 =>
        some ((1 : Int32), A27)
def f_load (o_n : Int32) (o_words : List Int32) (v1 : Int32) (v2 : Int32) : Option (Int32 × List Int32) :=
  (f_validSlot o_n v1).bind fun r28 =>
  if r28 = (0 : Int32) then
    some ((0 : Int32), o_words)
  else
    (wrA o_words v1 v2).bind fun A29 =>
    some ((1 : Int32), A29)
def f_transform_53 (k41 : List Int32 → Int32 → Option (List Int32)) : Nat → List Int32 → Int32 → Int32 → Int32 → Option (List Int32)
  | 0, _, _, _, _ => none
  | n + 1, o_wht, v2, v3, v4 =>
    if v4 < (32 : Int32) then
      if (v4 &&& v3) = (0 : Int32) then
        (rdA o_wht v4).bind fun x32 =>
        (rdA o_wht (v4 ||| v3)).bind fun x33 =>
        (wrA o_wht v4 (x32 + x33)).bind fun A34 =>
        (wrA A34 (v4 ||| v3) (x32 - x33)).bind fun A35 =>
        f_transform_53 k41 n A35 v2 v3 (v4 + (1 : Int32))
      else
        f_transform_53 k41 n o_wht v2 v3 (v4 + (1 : Int32))
    else
      k41 o_wht (v2 + (1 : Int32))
def f_transform_41 : Nat → List Int32 → Int32 → Option (List Int32)
  | 0, _, _ => none
  | n + 1, o_wht, v2 =>
    if v2 < (5 : Int32) then
      f_transform_53 (f_transform_41 n) 100000 o_wht v2 ((1 : Int32) <<< (v2 &&& 31)) (0 : Int32)
    else
      some o_wht
def f_transform_2 (k41 : List Int32 → Int32 → Option (List Int32)) : Nat → List Int32 → Int32 → Int32 → Option (List Int32)
  | 0, _, _, _ => none
  | n + 1, o_wht, v1, v2 =>
    if v2 < (32 : Int32) then
      if ((XT.ushr v1 v2) &&& (1 : Int32)) = (0 : Int32) then
        (wrA o_wht v2 (1 : Int32)).bind fun A31 =>
        f_transform_2 k41 n A31 v1 (v2 + (1 : Int32))
      else
        (wrA o_wht v2 (-1 : Int32)).bind fun A30 =>
        f_transform_2 k41 n A30 v1 (v2 + (1 : Int32))
    else
      k41 o_wht (0 : Int32)
def f_transform (o_wht : List Int32) (v1 : Int32) : Option (List Int32) :=
  f_transform_2 (f_transform_41 100000) 100000 o_wht v1 (0 : Int32)
def f_rule1Distance (o_wht : List Int32) (v1 : Int32) : Option (Int32) :=
  (rdA o_wht ((XT.ushr v1 (1 : Int32)) &&& (31 : Int32))).bind fun x36 =>
  some (if (v1 &&& (1 : Int32)) = (0 : Int32) then (((32 : Int32) - x36) >>> ((1 : Int32) &&& 31)) else (((32 : Int32) + x36) >>> ((1 : Int32) &&& 31)))
def f_applyRule1_16 : Nat → List Int32 → Int32 → Int32 → Int32 → Int32 → Int32 → Int32 → Option (Int32 × List Int32 × Int32 × Int32)
  | 0, _, _, _, _, _, _, _ => none
  | n + 1, o_wht, o_lastDist, o_lastTie, v2, v3, v4, v5 =>
    if v5 < (64 : Int32) then
      (f_rule1Distance o_wht v5).bind fun r38 =>
      f_applyRule1_16 n o_wht o_lastDist o_lastTie (if r38 < v3 then v5 else v2) (if r38 < v3 then r38 else v3) (if r38 < v3 then (1 : Int32) else (if r38 = v3 then (v4 + (1 : Int32)) else v4)) (v5 + (1 : Int32))
    else
      some (v2, o_wht, v3, v4)
def f_applyRule1 (o_wht : List Int32) (o_lastDist : Int32) (o_lastTie : Int32) (v1 : Int32) : Option (Int32 × List Int32 × Int32 × Int32) :=
  (f_transform o_wht v1).bind fun s37 =>
  f_applyRule1_16 100000 s37 o_lastDist o_lastTie (0 : Int32) (33 : Int32) (0 : Int32) (0 : Int32)
def f_swap (o_mono : List Int32) (v1 : Int32) (v2 : Int32) : Option (Int32) :=
  if v2 < (0 : Int32) then
    some v1
  else
    if (4 : Int32) < v2 then
      some v1
    else
      (rdA o_mono ((1 : Int32) + v2)).bind fun x39 =>
      some (((v1 &&& (x39 ^^^ (-1 : Int32))) <<< (((1 : Int32) <<< (v2 &&& 31)) &&& 31)) ||| ((XT.ushr v1 ((1 : Int32) <<< (v2 &&& 31))) &&& (x39 ^^^ (-1 : Int32))))
def f_popcount (v1 : Int32) : Option (Int32) :=
  some (XT.ushr ((((((v1 - ((XT.ushr v1 (1 : Int32)) &&& (1431655765 : Int32))) &&& (858993459 : Int32)) + ((XT.ushr (v1 - ((XT.ushr v1 (1 : Int32)) &&& (1431655765 : Int32))) (2 : Int32)) &&& (858993459 : Int32))) + (XT.ushr (((v1 - ((XT.ushr v1 (1 : Int32)) &&& (1431655765 : Int32))) &&& (858993459 : Int32)) + ((XT.ushr (v1 - ((XT.ushr v1 (1 : Int32)) &&& (1431655765 : Int32))) (2 : Int32)) &&& (858993459 : Int32))) (4 : Int32))) &&& (252645135 : Int32)) * (16843009 : Int32)) (24 : Int32))
def f_quadraticVote (o_mono : List Int32) (v1 : Int32) (v2 : Int32) (v3 : Int32) : Option (Int32) :=
  (f_swap o_mono v1 v2).bind fun r40 =>
  (f_swap o_mono v1 v3).bind fun r41 =>
  (f_swap o_mono r41 v2).bind fun r42 =>
  (f_popcount (((v1 ^^^ r40) ^^^ r41) ^^^ r42)).bind fun r43 =>
  some (if (16 : Int32) < r43 then (1 : Int32) else (0 : Int32))
def f_linearPart_4 (o_mono : List Int32) : Nat → Int32 → Int32 → Int32 → Option (Int32)
  | 0, _, _, _ => none
  | n + 1, v1, v2, v3 =>
    if v3 < (5 : Int32) then
      (f_swap o_mono v1 v3).bind fun r44 =>
      (f_popcount (v1 ^^^ r44)).bind fun r45 =>
      f_linearPart_4 o_mono n v1 (if (16 : Int32) < r45 then (v2 ||| ((1 : Int32) <<< (v3 &&& 31))) else v2) (v3 + (1 : Int32))
    else
      some v2
def f_linearPart (o_mono : List Int32) (v1 : Int32) : Option (Int32) :=
  f_linearPart_4 o_mono 100000 v1 (0 : Int32) (0 : Int32)
def f_reedDecode_60 (o_mono : List Int32) (o_pairI : List Int32) (o_pairJ : List Int32) (v1 : Int32) (v2 : Int32) (v3 : Int32) : Option (Int32) :=
  (f_linearPart o_mono (v1 ^^^ v3)).bind fun r50 =>
  (f_encodeBits o_mono (r50 <<< ((1 : Int32) &&& 31)) (6 : Int32)).bind fun r51 =>
  (f_popcount ((v1 ^^^ v3) ^^^ r51)).bind fun r52 =>
  some (if (16 : Int32) < r52 then ((v2 ||| (r50 <<< ((1 : Int32) &&& 31))) ||| (1 : Int32)) else (v2 ||| (r50 <<< ((1 : Int32) &&& 31))))
def f_reedDecode_8 (k60 : Int32 → Int32 → Int32 → Option (Int32)) (o_mono : List Int32) (o_pairI : List Int32) (o_pairJ : List Int32) : Nat → Int32 → Int32 → Int32 → Int32 → Option (Int32)
  | 0, _, _, _, _ => none
  | n + 1, v1, v2, v3, v4 =>
    if v4 < (16 : Int32) then
      (rdA o_pairI v4).bind fun x46 =>
      (rdA o_pairJ v4).bind fun x47 =>
      (f_quadraticVote o_mono v1 x46 x47).bind fun r48 =>
      if r48 = (0 : Int32) then
        f_reedDecode_8 k60 o_mono o_pairI o_pairJ n v1 v2 v3 (v4 + (1 : Int32))
      else
        (rdA o_mono v4).bind fun x49 =>
        f_reedDecode_8 k60 o_mono o_pairI o_pairJ n v1 (v2 ||| ((1 : Int32) <<< (v4 &&& 31))) (v3 ^^^ x49) (v4 + (1 : Int32))
    else
      k60 v1 v2 v3
def f_reedDecode (o_mono : List Int32) (o_pairI : List Int32) (o_pairJ : List Int32) (v1 : Int32) : Option (Int32) :=
  f_reedDecode_8 (f_reedDecode_60 o_mono o_pairI o_pairJ) o_mono o_pairI o_pairJ 100000 v1 (0 : Int32) (0 : Int32) (6 : Int32)
def f_applyRule2 (o_mono : List Int32) (o_pairI : List Int32) (o_pairJ : List Int32) (o_lastDist : Int32) (o_lastTie : Int32) (o_failCount : Int32) (v1 : Int32) : Option (Int32 × Int32 × Int32 × Int32) :=
  (f_reedDecode o_mono o_pairI o_pairJ v1).bind fun r53 =>
  (f_encodeBits o_mono r53 (16 : Int32)).bind fun r54 =>
  (f_popcount (r54 ^^^ v1)).bind fun r55 =>
  some ((if (3 : Int32) < r55 then (-2 : Int32) else r53), (if (3 : Int32) < r55 then (-1 : Int32) else r55), (if (3 : Int32) < r55 then (0 : Int32) else (1 : Int32)), (if (3 : Int32) < r55 then (o_failCount + (1 : Int32)) else o_failCount))
def f_correct (o_mono : List Int32) (o_pairI : List Int32) (o_pairJ : List Int32) (o_n : Int32) (o_words : List Int32) (o_wht : List Int32) (o_lastDist : Int32) (o_lastTie : Int32) (o_failCount : Int32) (v1 : Int32) (v2 : Int32) : Option (Int32 × List Int32 × List Int32 × Int32 × Int32 × Int32) :=
  (f_validSlot o_n v1).bind fun r56 =>
  if r56 = (0 : Int32) then
    some ((0 : Int32), o_words, o_wht, o_lastDist, o_lastTie, o_failCount)
  else
    (f_validOrder v2).bind fun r57 =>
    if r57 = (0 : Int32) then
      some ((0 : Int32), o_words, o_wht, o_lastDist, o_lastTie, o_failCount)
    else
      if v2 = (1 : Int32) then
        (rdA o_words v1).bind fun x65 =>
        (f_applyRule1 o_wht o_lastDist o_lastTie x65).bind fun (r66, s67, s68, s69) =>
        (f_encodeBits o_mono r66 (6 : Int32)).bind fun r70 =>
        (wrA o_words v1 r70).bind fun A71 =>
        some ((1 : Int32), A71, s67, s68, s69, o_failCount)
      else
        (rdA o_words v1).bind fun x58 =>
        (f_applyRule2 o_mono o_pairI o_pairJ o_lastDist o_lastTie o_failCount x58).bind fun (r59, s60, s61, s62) =>
        if r59 = (-2 : Int32) then
          some ((0 : Int32), o_words, o_wht, s60, s61, s62)
        else
          (f_encodeBits o_mono r59 (16 : Int32)).bind fun r63 =>
          (wrA o_words v1 r63).bind fun A64 =>
          some ((1 : Int32), A64, o_wht, s60, s61, s62)
def f_decode2 (o_words : List Int32) (o_mono : List Int32) (o_pairI : List Int32) (o_pairJ : List Int32) (o_n : Int32) (o_lastDist : Int32) (o_lastTie : Int32) (o_failCount : Int32) (v1 : Int32) : Option (Int32 × Int32 × Int32 × Int32) :=
  (f_validSlot o_n v1).bind fun r72 =>
  if r72 = (0 : Int32) then
    some ((-1 : Int32), o_lastDist, o_lastTie, o_failCount)
  else
    (rdA o_words v1).bind fun x73 =>
    (f_applyRule2 o_mono o_pairI o_pairJ o_lastDist o_lastTie o_failCount x73).bind fun (r74, s75, s76, s77) =>
    some (r74, s75, s76, s77)
def f_getWord (o_words : List Int32) (o_n : Int32) (v1 : Int32) : Option (Int32) :=
  (f_validSlot o_n v1).bind fun r78 =>
  if r78 = (0 : Int32) then
    some (0 : Int32)
  else
    (rdA o_words v1).bind fun x79 =>
    some x79
def f_decode1 (o_words : List Int32) (o_n : Int32) (o_wht : List Int32) (o_lastDist : Int32) (o_lastTie : Int32) (v1 : Int32) : Option (Int32 × List Int32 × Int32 × Int32) :=
  (f_validSlot o_n v1).bind fun r80 =>
  if r80 = (0 : Int32) then
    some ((-1 : Int32), o_wht, o_lastDist, o_lastTie)
  else
    (rdA o_words v1).bind fun x81 =>
    (f_applyRule1 o_wht o_lastDist o_lastTie x81).bind fun (r82, s83, s84, s85) =>
    some (r82, s83, s84, s85)
def f_lastDistance (o_lastDist : Int32) : Option (Int32) :=
  some o_lastDist
def f_L_pop_4 : Nat → Int32 → Int32 → Int32 → Option (Int32)
  | 0, _, _, _ => none
  | n + 1, v0, v1, v2 =>
    if v2 < (32 : Int32) then
      f_L_pop_4 n v0 (v1 + ((XT.ushr v0 v2) &&& (1 : Int32))) (v2 + (1 : Int32))
    else
      some v1
def f_L_pop (v0 : Int32) : Option (Int32) :=
  f_L_pop_4 100000 v0 (0 : Int32) (0 : Int32)
def f_lastTies (o_lastTie : Int32) : Option (Int32) :=
  some o_lastTie
def f_failures (o_failCount : Int32) : Option (Int32) :=
  some o_failCount
def f_L_law_412 (kb : List Int32 → List Int32 → List Int32 → List Int32 → List Int32 → Int32 → Int32 → Int32 → Int32 → Int32 → Int32 → Int32 → Int32 → Int32 → Int32 → Option (Int32)) (k26 : List Int32 → List Int32 → List Int32 → List Int32 → List Int32 → Int32 → Int32 → Int32 → Int32 → Int32 → Int32 → Option (Int32)) (scr : List Int32) (n0_words : List Int32) (n0_mono : List Int32) (n0_pairI : List Int32) (n0_pairJ : List Int32) (n0_wht : List Int32) (n0_n : Int32) (n0_lastDist : Int32) (n0_lastTie : Int32) (n0_failCount : Int32) (v2 : Int32) (v3 : Int32) (v5 : Int32) (v6 : Int32) (v8 : Int32) (v12 : Int32) (t0 : Int32) : Option (Int32) :=
  (f_encode2 n0_mono t0).bind fun r141 =>
  (f_L_pop (v8 ^^^ r141)).bind fun r142 =>
  if (3 : Int32) < r142 then
    kb n0_words n0_mono n0_pairI n0_pairJ n0_wht n0_n n0_lastDist n0_lastTie n0_failCount v2 v3 v5 v6 v8 (v12 + (1 : Int32))
  else
    (f_failures n0_failCount).bind fun r143 =>
    (f_decode2 n0_words n0_mono n0_pairI n0_pairJ n0_n n0_lastDist n0_lastTie n0_failCount v5).bind fun (r144, s145, s146, s147) =>
    if r144 = (t0 &&& (65535 : Int32)) then
      (f_lastDistance s145).bind fun r148 =>
      if r148 = r142 then
        (f_lastTies s146).bind fun r149 =>
        if r149 = (1 : Int32) then
          (f_failures s147).bind fun r150 =>
          if r150 = r143 then
            kb n0_words n0_mono n0_pairI n0_pairJ n0_wht n0_n s145 s146 s147 v2 v3 v5 v6 v8 (v12 + (1 : Int32))
          else
            some (0 : Int32)
        else
          some (0 : Int32)
      else
        some (0 : Int32)
    else
      some (0 : Int32)
def f_L_law_391 (k26 : List Int32 → List Int32 → List Int32 → List Int32 → List Int32 → Int32 → Int32 → Int32 → Int32 → Int32 → Int32 → Option (Int32)) (scr : List Int32) : Nat → List Int32 → List Int32 → List Int32 → List Int32 → List Int32 → Int32 → Int32 → Int32 → Int32 → Int32 → Int32 → Int32 → Int32 → Int32 → Int32 → Option (Int32)
  | 0, _, _, _, _, _, _, _, _, _, _, _, _, _, _, _ => none
  | n + 1, n0_words, n0_mono, n0_pairI, n0_pairJ, n0_wht, n0_n, n0_lastDist, n0_lastTie, n0_failCount, v2, v3, v5, v6, v8, v12 =>
    if v12 < (2 : Int32) then
      f_L_law_412 (f_L_law_391 k26 scr n) k26 scr n0_words n0_mono n0_pairI n0_pairJ n0_wht n0_n n0_lastDist n0_lastTie n0_failCount v2 v3 v5 v6 v8 v12 (if v12 = (0 : Int32) then v6 else (v6 &&& (63 : Int32)))
    else
      k26 n0_words n0_mono n0_pairI n0_pairJ n0_wht n0_n n0_lastDist n0_lastTie n0_failCount v2 (v3 + (4 : Int32))
def f_L_law_265 (kb : List Int32 → List Int32 → List Int32 → List Int32 → List Int32 → Int32 → Int32 → Int32 → Int32 → Int32 → Int32 → Option (Int32)) (scr : List Int32) (n0_words : List Int32) (n0_mono : List Int32) (n0_pairI : List Int32) (n0_pairJ : List Int32) (n0_wht : List Int32) (n0_n : Int32) (n0_lastDist : Int32) (n0_lastTie : Int32) (n0_failCount : Int32) (v2 : Int32) (v3 : Int32) (v5 : Int32) (v6 : Int32) : Option (Int32) :=
  (f_getWord n0_words n0_n v5).bind fun r125 =>
  (f_decode1 n0_words n0_n n0_wht n0_lastDist n0_lastTie v5).bind fun (r126, s127, s128, s129) =>
  if r126 < (0 : Int32) then
    some (0 : Int32)
  else
    if (63 : Int32) < r126 then
      some (0 : Int32)
    else
      (f_lastDistance s128).bind fun r130 =>
      if r130 < (0 : Int32) then
        some (0 : Int32)
      else
        if (16 : Int32) < r130 then
          some (0 : Int32)
        else
          (f_encode1 n0_mono r126).bind fun r131 =>
          (f_L_pop (r125 ^^^ r131)).bind fun r132 =>
          if r130 = r132 then
            (f_encode1 n0_mono v6).bind fun r133 =>
            (f_L_pop (r125 ^^^ r133)).bind fun r134 =>
            if (7 : Int32) < r134 then
              f_L_law_391 kb scr 100000 n0_words n0_mono n0_pairI n0_pairJ s127 n0_n s128 s129 n0_failCount v2 v3 v5 v6 r125 (0 : Int32)
            else
              (f_decode1 n0_words n0_n s127 s128 s129 v5).bind fun (r135, s136, s137, s138) =>
              if r135 = (v6 &&& (63 : Int32)) then
                (f_lastDistance s137).bind fun r139 =>
                if r139 = r134 then
                  (f_lastTies s138).bind fun r140 =>
                  if r140 = (1 : Int32) then
                    f_L_law_391 kb scr 100000 n0_words n0_mono n0_pairI n0_pairJ s136 n0_n s137 s138 n0_failCount v2 v3 v5 v6 r125 (0 : Int32)
                  else
                    some (0 : Int32)
                else
                  some (0 : Int32)
              else
                some (0 : Int32)
          else
            some (0 : Int32)
def f_L_law_161 (k265 : List Int32 → List Int32 → List Int32 → List Int32 → List Int32 → Int32 → Int32 → Int32 → Int32 → Int32 → Int32 → Int32 → Int32 → Option (Int32)) (scr : List Int32) : Nat → List Int32 → List Int32 → List Int32 → List Int32 → List Int32 → Int32 → Int32 → Int32 → Int32 → Int32 → Int32 → Int32 → Int32 → Int32 → Int32 → Int32 → Option (Int32)
  | 0, _, _, _, _, _, _, _, _, _, _, _, _, _, _, _, _ => none
  | n + 1, n0_words, n0_mono, n0_pairI, n0_pairJ, n0_wht, n0_n, n0_lastDist, n0_lastTie, n0_failCount, v2, v3, v5, v6, v7, v8, v9 =>
    if v9 < v8 then
      (f_flip n0_n n0_words v5 (((XT.ushr v7 (3 : Int32)) + ((11 : Int32) * v9)) &&& (31 : Int32))).bind fun (r123, s124) =>
      f_L_law_161 k265 scr n s124 n0_mono n0_pairI n0_pairJ n0_wht n0_n n0_lastDist n0_lastTie n0_failCount v2 v3 v5 v6 v7 v8 (v9 + (1 : Int32))
    else
      k265 n0_words n0_mono n0_pairI n0_pairJ n0_wht n0_n n0_lastDist n0_lastTie n0_failCount v2 v3 v5 v6
def f_L_law_100 (k265 : List Int32 → List Int32 → List Int32 → List Int32 → List Int32 → Int32 → Int32 → Int32 → Int32 → Int32 → Int32 → Int32 → Int32 → Option (Int32)) (scr : List Int32) : Nat → List Int32 → List Int32 → List Int32 → List Int32 → List Int32 → Int32 → Int32 → Int32 → Int32 → Int32 → Int32 → Int32 → Int32 → Int32 → Int32 → Int32 → Option (Int32)
  | 0, _, _, _, _, _, _, _, _, _, _, _, _, _, _, _, _ => none
  | n + 1, n0_words, n0_mono, n0_pairI, n0_pairJ, n0_wht, n0_n, n0_lastDist, n0_lastTie, n0_failCount, v2, v3, v5, v6, v7, v8, v9 =>
    if v9 < v8 then
      (f_flip n0_n n0_words v5 (((XT.ushr v7 (3 : Int32)) + ((11 : Int32) * v9)) &&& (31 : Int32))).bind fun (r121, s122) =>
      f_L_law_100 k265 scr n s122 n0_mono n0_pairI n0_pairJ n0_wht n0_n n0_lastDist n0_lastTie n0_failCount v2 v3 v5 v6 v7 v8 (v9 + (1 : Int32))
    else
      k265 n0_words n0_mono n0_pairI n0_pairJ n0_wht n0_n n0_lastDist n0_lastTie n0_failCount v2 v3 v5 v6
def f_L_law_26 (scr : List Int32) : Nat → List Int32 → List Int32 → List Int32 → List Int32 → List Int32 → Int32 → Int32 → Int32 → Int32 → Int32 → Int32 → Option (Int32)
  | 0, _, _, _, _, _, _, _, _, _, _, _ => none
  | n + 1, n0_words, n0_mono, n0_pairI, n0_pairJ, n0_wht, n0_n, n0_lastDist, n0_lastTie, n0_failCount, v2, v3 =>
    if v3 < scr.length.toInt32 then
      (f_L_cell scr v3).bind fun r97 =>
      (f_L_mod r97 (6 : Int32)).bind fun r98 =>
      (f_L_cell scr (v3 + (1 : Int32))).bind fun r99 =>
      (f_L_mod r99 v2).bind fun r100 =>
      (f_L_cell scr (v3 + (2 : Int32))).bind fun r101 =>
      (f_L_cell scr (v3 + (3 : Int32))).bind fun r102 =>
      if r98 = (0 : Int32) then
        (f_put n0_mono n0_n n0_words r100 r101 (1 : Int32)).bind fun (r119, s120) =>
        f_L_law_100 (f_L_law_265 (f_L_law_26 scr n) scr) scr 100000 s120 n0_mono n0_pairI n0_pairJ n0_wht n0_n n0_lastDist n0_lastTie n0_failCount v2 v3 r100 r101 r102 (r102 &&& (7 : Int32)) (0 : Int32)
      else
        if r98 = (1 : Int32) then
          (f_put n0_mono n0_n n0_words r100 r101 (2 : Int32)).bind fun (r117, s118) =>
          f_L_law_161 (f_L_law_265 (f_L_law_26 scr n) scr) scr 100000 s118 n0_mono n0_pairI n0_pairJ n0_wht n0_n n0_lastDist n0_lastTie n0_failCount v2 v3 r100 r101 r102 (r102 &&& (3 : Int32)) (0 : Int32)
        else
          if r98 = (2 : Int32) then
            (f_load n0_n n0_words r100 r102).bind fun (r115, s116) =>
            f_L_law_265 (f_L_law_26 scr n) scr s116 n0_mono n0_pairI n0_pairJ n0_wht n0_n n0_lastDist n0_lastTie n0_failCount v2 v3 r100 r101
          else
            if r98 = (3 : Int32) then
              (f_flip n0_n n0_words r100 (r102 &&& (31 : Int32))).bind fun (r113, s114) =>
              f_L_law_265 (f_L_law_26 scr n) scr s114 n0_mono n0_pairI n0_pairJ n0_wht n0_n n0_lastDist n0_lastTie n0_failCount v2 v3 r100 r101
            else
              if r98 = (4 : Int32) then
                (f_correct n0_mono n0_pairI n0_pairJ n0_n n0_words n0_wht n0_lastDist n0_lastTie n0_failCount r100 ((1 : Int32) + (r102 &&& (1 : Int32)))).bind fun (r107, s108, s109, s110, s111, s112) =>
                f_L_law_265 (f_L_law_26 scr n) scr s108 n0_mono n0_pairI n0_pairJ s109 n0_n s110 s111 s112 v2 v3 r100 r101
              else
                (f_decode2 n0_words n0_mono n0_pairI n0_pairJ n0_n n0_lastDist n0_lastTie n0_failCount r100).bind fun (r103, s104, s105, s106) =>
                f_L_law_265 (f_L_law_26 scr n) scr n0_words n0_mono n0_pairI n0_pairJ n0_wht n0_n s104 s105 s106 v2 v3 r100 r101
    else
      some (1 : Int32)
def f_L_law (scr : List Int32) : Option (Int32) :=
  (f_L_cell scr (0 : Int32)).bind fun r86 =>
  (f_init r86).bind fun (s87, s88, s89, s90, s91, s92, s93, s94, s95) =>
  (f_slotCount s92).bind fun r96 =>
  if (0 : Int32) < r96 then
    f_L_law_26 scr 100000 s87 s88 s89 s90 s91 s92 s93 s94 s95 r96 (1 : Int32)
  else
    some (1 : Int32)
set_option maxHeartbeats 4000000
set_option maxRecDepth 10000
theorem ok_L_cell {scr : List Int32} {po : List ACell} {v1 : Int32} {res : Int32} (h : f_L_cell scr v1 = some res) : OEnds own_P 1 0 [.val (.ref 0), .val (.int v1)] [] ((.inr (.inl (false, scr)) : ACell) :: po) (some (.int res), ((.inr (.inl (false, scr)) : ACell) :: po), 0, 0) := by
  unfold f_L_cell at h
  refine OEnds.adv hm_1 3 (pc' := 3) (L' := [.val (.ref 0), .val (.int v1)]) (S' := [.int scr.length.toInt32, .int v1]) (H' := ((.inr (.inl (false, scr)) : ACell) :: po)) rfl ?_
  by_cases hc1 : v1 < scr.length.toInt32
  · simp only [if_pos hc1] at h
    refine OEnds.icmpF hm_1 rfl ((tlt hc1).2.1) ?_
    refine OEnds.adv hm_1 2 (pc' := 8) (L' := [.val (.ref 0), .val (.int v1)]) (S' := [.int v1, .ref 0]) (H' := ((.inr (.inl (false, scr)) : ACell) :: po)) rfl ?_
    obtain ⟨x1, hx1, h⟩ := bnd h
    refine OEnds.plain hm_1 rfl rfl (x_iaload rfl hx1) ?_
    refine OEnds.adv hm_1 1 (pc' := 13) (L' := [.val (.ref 0), .val (.int v1)]) (S' := [.int x1]) (H' := ((.inr (.inl (false, scr)) : ACell) :: po)) rfl ?_
    cases h
    exact OEnds.iret hm_1 rfl rfl
  · simp only [if_neg hc1] at h
    refine OEnds.icmpT hm_1 rfl (q := 12) rfl ((flt hc1).2.1) ?_
    refine OEnds.adv hm_1 1 (pc' := 13) (L' := [.val (.ref 0), .val (.int v1)]) (S' := [.int 0]) (H' := ((.inr (.inl (false, scr)) : ACell) :: po)) rfl ?_
    cases h
    exact OEnds.iret hm_1 rfl rfl
theorem ok_buildMonomials_61 {o_words : List Int32} {o_wht : List Int32} {o_n : Int32} {o_lastDist : Int32} {o_lastTie : Int32} {o_failCount : Int32} {c0 : ACell} {po : List ACell} {k52 : List Int32 → List Int32 → List Int32 → Int32 → Int32 → Option (List Int32 × List Int32 × List Int32)} (hk52 : ∀ {o_mono : List Int32} {o_pairI : List Int32} {o_pairJ : List Int32} {v1 : Int32} {v2 : Int32} {d3 : Slot} {w_o_mono : List Int32} {w_o_pairI : List Int32} {w_o_pairJ : List Int32}, k52 o_mono o_pairI o_pairJ v1 v2 = some (w_o_mono, w_o_pairI, w_o_pairJ) → OEnds own_P 3 52 [.val (.ref 1), .val (.int v1), .val (.int v2), d3] [] (c0 :: bk0 o_words o_mono o_pairI o_pairJ o_wht o_n o_lastDist o_lastTie o_failCount po) (none, (c0 :: bk0 o_words w_o_mono w_o_pairI w_o_pairJ o_wht o_n o_lastDist o_lastTie o_failCount po), 0, 0)) : ∀ (n : Nat), ∀ {o_mono : List Int32} {o_pairI : List Int32} {o_pairJ : List Int32} {v1 : Int32} {v2 : Int32} {v3 : Int32} {w_o_mono : List Int32} {w_o_pairI : List Int32} {w_o_pairJ : List Int32}, f_buildMonomials_61 k52 n o_mono o_pairI o_pairJ v1 v2 v3 = some (w_o_mono, w_o_pairI, w_o_pairJ) → OEnds own_P 3 61 [.val (.ref 1), .val (.int v1), .val (.int v2), .val (.int v3)] [] (c0 :: bk0 o_words o_mono o_pairI o_pairJ o_wht o_n o_lastDist o_lastTie o_failCount po) (none, (c0 :: bk0 o_words w_o_mono w_o_pairI w_o_pairJ o_wht o_n o_lastDist o_lastTie o_failCount po), 0, 0) := by
  intro n
  induction n with
  | zero => intro o_mono o_pairI o_pairJ v1 v2 v3 w_o_mono w_o_pairI w_o_pairJ h; cases h
  | succ n ih =>
    intro o_mono o_pairI o_pairJ v1 v2 v3 w_o_mono w_o_pairI w_o_pairJ h
    unfold f_buildMonomials_61 at h
    refine OEnds.adv hm_3 2 (pc' := 63) (L' := [.val (.ref 1), .val (.int v1), .val (.int v2), .val (.int v3)]) (S' := [.int 5, .int v3]) (H' := (c0 :: bk0 o_words o_mono o_pairI o_pairJ o_wht o_n o_lastDist o_lastTie o_failCount po)) rfl ?_
    by_cases hc2 : v3 < (5 : Int32)
    · simp only [if_pos hc2] at h
      refine OEnds.icmpF hm_3 rfl ((tlt hc2).2.1) ?_
      refine OEnds.adv hm_3 2 (pc' := 69) (L' := [.val (.ref 1), .val (.int v1), .val (.int v2), .val (.int v3)]) (S' := [.int 16, .int v1]) (H' := (c0 :: bk0 o_words o_mono o_pairI o_pairJ o_wht o_n o_lastDist o_lastTie o_failCount po)) rfl ?_
      by_cases hc3 : v1 < (16 : Int32)
      · simp only [if_pos hc3] at h
        refine OEnds.icmpF hm_3 rfl ((tlt hc3).2.1) ?_
        refine OEnds.adv hm_3 4 (pc' := 78) (L' := [.val (.ref 1), .val (.int v1), .val (.int v2), .val (.int v3)]) (S' := [.int v2, .int v1, .ref 4]) (H' := (c0 :: bk0 o_words o_mono o_pairI o_pairJ o_wht o_n o_lastDist o_lastTie o_failCount po)) rfl ?_
        obtain ⟨A8, hA8, h⟩ := bnd h
        refine OEnds.plain hm_3 rfl rfl (x_iastore rfl (Nat.le_of_ble_eq_true rfl) hA8) ?_
        refine OEnds.adv hm_3 4 (pc' := 85) (L' := [.val (.ref 1), .val (.int v1), .val (.int v2), .val (.int v3)]) (S' := [.int v3, .int v1, .ref 5]) (H' := (c0 :: bk0 o_words o_mono A8 o_pairJ o_wht o_n o_lastDist o_lastTie o_failCount po)) rfl ?_
        obtain ⟨A9, hA9, h⟩ := bnd h
        refine OEnds.plain hm_3 rfl rfl (x_iastore rfl (Nat.le_of_ble_eq_true rfl) hA9) ?_
        refine OEnds.adv hm_3 8 (pc' := 98) (L' := [.val (.ref 1), .val (.int v1), .val (.int v2), .val (.int v3)]) (S' := [.int ((1 : Int32) + v2), .ref 3, .int v1, .ref 3]) (H' := (c0 :: bk0 o_words o_mono A8 A9 o_wht o_n o_lastDist o_lastTie o_failCount po)) rfl ?_
        obtain ⟨x10, hx10, h⟩ := bnd h
        refine OEnds.plain hm_3 rfl rfl (x_iaload rfl hx10) ?_
        refine OEnds.adv hm_3 5 (pc' := 106) (L' := [.val (.ref 1), .val (.int v1), .val (.int v2), .val (.int v3)]) (S' := [.int ((1 : Int32) + v3), .ref 3, .int x10, .int v1, .ref 3]) (H' := (c0 :: bk0 o_words o_mono A8 A9 o_wht o_n o_lastDist o_lastTie o_failCount po)) rfl ?_
        obtain ⟨x11, hx11, h⟩ := bnd h
        refine OEnds.plain hm_3 rfl rfl (x_iaload rfl hx11) ?_
        refine OEnds.adv hm_3 1 (pc' := 108) (L' := [.val (.ref 1), .val (.int v1), .val (.int v2), .val (.int v3)]) (S' := [.int (x10 &&& x11), .int v1, .ref 3]) (H' := (c0 :: bk0 o_words o_mono A8 A9 o_wht o_n o_lastDist o_lastTie o_failCount po)) rfl ?_
        obtain ⟨A12, hA12, h⟩ := bnd h
        refine OEnds.plain hm_3 rfl rfl (x_iastore rfl (Nat.le_of_ble_eq_true rfl) hA12) ?_
        refine OEnds.adv hm_3 3 (pc' := 61) (L' := [.val (.ref 1), .val (.int (v1 + (1 : Int32))), .val (.int v2), .val (.int (v3 + (1 : Int32)))]) (S' := []) (H' := (c0 :: bk0 o_words A12 A8 A9 o_wht o_n o_lastDist o_lastTie o_failCount po)) rfl ?_
        exact ih h
      · simp only [if_neg hc3] at h
        refine OEnds.icmpT hm_3 rfl (q := 109) rfl ((flt hc3).2.1) ?_
        refine OEnds.adv hm_3 3 (pc' := 61) (L' := [.val (.ref 1), .val (.int (v1 + (1 : Int32))), .val (.int v2), .val (.int (v3 + (1 : Int32)))]) (S' := []) (H' := (c0 :: bk0 o_words o_mono o_pairI o_pairJ o_wht o_n o_lastDist o_lastTie o_failCount po)) rfl ?_
        exact ih h
    · simp only [if_neg hc2] at h
      refine OEnds.icmpT hm_3 rfl (q := 118) rfl ((flt hc2).2.1) ?_
      refine OEnds.adv hm_3 2 (pc' := 52) (L' := [.val (.ref 1), .val (.int v1), .val (.int (v2 + (1 : Int32))), .val (.int v3)]) (S' := []) (H' := (c0 :: bk0 o_words o_mono o_pairI o_pairJ o_wht o_n o_lastDist o_lastTie o_failCount po)) rfl ?_
      exact hk52 h
theorem ok_buildMonomials_52 {o_words : List Int32} {o_wht : List Int32} {o_n : Int32} {o_lastDist : Int32} {o_lastTie : Int32} {o_failCount : Int32} {c0 : ACell} {po : List ACell} : ∀ (n : Nat), ∀ {o_mono : List Int32} {o_pairI : List Int32} {o_pairJ : List Int32} {v1 : Int32} {v2 : Int32} {d3 : Slot} {w_o_mono : List Int32} {w_o_pairI : List Int32} {w_o_pairJ : List Int32}, f_buildMonomials_52 n o_mono o_pairI o_pairJ v1 v2 = some (w_o_mono, w_o_pairI, w_o_pairJ) → OEnds own_P 3 52 [.val (.ref 1), .val (.int v1), .val (.int v2), d3] [] (c0 :: bk0 o_words o_mono o_pairI o_pairJ o_wht o_n o_lastDist o_lastTie o_failCount po) (none, (c0 :: bk0 o_words w_o_mono w_o_pairI w_o_pairJ o_wht o_n o_lastDist o_lastTie o_failCount po), 0, 0) := by
  intro n
  induction n with
  | zero => intro o_mono o_pairI o_pairJ v1 v2 d3 w_o_mono w_o_pairI w_o_pairJ h; cases h
  | succ n ih =>
    intro o_mono o_pairI o_pairJ v1 v2 d3 w_o_mono w_o_pairI w_o_pairJ h
    unfold f_buildMonomials_52 at h
    refine OEnds.adv hm_3 2 (pc' := 54) (L' := [.val (.ref 1), .val (.int v1), .val (.int v2), .unset]) (S' := [.int 5, .int v2]) (H' := (c0 :: bk0 o_words o_mono o_pairI o_pairJ o_wht o_n o_lastDist o_lastTie o_failCount po)) rfl ?_
    by_cases hc4 : v2 < (5 : Int32)
    · simp only [if_pos hc4] at h
      refine OEnds.icmpF hm_3 rfl ((tlt hc4).2.1) ?_
      refine OEnds.adv hm_3 4 (pc' := 61) (L' := [.val (.ref 1), .val (.int v1), .val (.int v2), .val (.int (v2 + (1 : Int32)))]) (S' := []) (H' := (c0 :: bk0 o_words o_mono o_pairI o_pairJ o_wht o_n o_lastDist o_lastTie o_failCount po)) rfl ?_
      exact ok_buildMonomials_61 (k52 := f_buildMonomials_52 n) ih 100000 h
    · simp only [if_neg hc4] at h
      refine OEnds.icmpT hm_3 rfl (q := 124) rfl ((flt hc4).2.1) ?_
      show OEnds own_P 3 124 [.val (.ref 1), .val (.int v1), .val (.int v2), .unset] [] (c0 :: bk0 o_words o_mono o_pairI o_pairJ o_wht o_n o_lastDist o_lastTie o_failCount po) _
      cases h
      exact OEnds.vret hm_3 rfl rfl
theorem ok_buildMonomials {o_words : List Int32} {o_wht : List Int32} {o_n : Int32} {o_lastDist : Int32} {o_lastTie : Int32} {o_failCount : Int32} {c0 : ACell} {po : List ACell} {o_mono : List Int32} {o_pairI : List Int32} {o_pairJ : List Int32} {w_o_mono : List Int32} {w_o_pairI : List Int32} {w_o_pairJ : List Int32} (h : f_buildMonomials o_mono o_pairI o_pairJ = some (w_o_mono, w_o_pairI, w_o_pairJ)) : OEnds own_P 3 0 [.val (.ref 1), .unset, .unset, .unset] [] (c0 :: bk0 o_words o_mono o_pairI o_pairJ o_wht o_n o_lastDist o_lastTie o_failCount po) (none, (c0 :: bk0 o_words w_o_mono w_o_pairI w_o_pairJ o_wht o_n o_lastDist o_lastTie o_failCount po), 0, 0) := by
  unfold f_buildMonomials at h
  refine OEnds.adv hm_3 4 (pc' := 6) (L' := [.val (.ref 1), .unset, .unset, .unset]) (S' := [.int (-1), .int 0, .ref 3]) (H' := (c0 :: bk0 o_words o_mono o_pairI o_pairJ o_wht o_n o_lastDist o_lastTie o_failCount po)) rfl ?_
  obtain ⟨A2, hA2, h⟩ := bnd h
  refine OEnds.plain hm_3 rfl rfl (x_iastore rfl (Nat.le_of_ble_eq_true rfl) hA2) ?_
  refine OEnds.adv hm_3 4 (pc' := 14) (L' := [.val (.ref 1), .unset, .unset, .unset]) (S' := [.int (-1431655766), .int 1, .ref 3]) (H' := (c0 :: bk0 o_words A2 o_pairI o_pairJ o_wht o_n o_lastDist o_lastTie o_failCount po)) rfl ?_
  obtain ⟨A3, hA3, h⟩ := bnd h
  refine OEnds.plain hm_3 rfl rfl (x_iastore rfl (Nat.le_of_ble_eq_true rfl) hA3) ?_
  refine OEnds.adv hm_3 4 (pc' := 22) (L' := [.val (.ref 1), .unset, .unset, .unset]) (S' := [.int (-858993460), .int 2, .ref 3]) (H' := (c0 :: bk0 o_words A3 o_pairI o_pairJ o_wht o_n o_lastDist o_lastTie o_failCount po)) rfl ?_
  obtain ⟨A4, hA4, h⟩ := bnd h
  refine OEnds.plain hm_3 rfl rfl (x_iastore rfl (Nat.le_of_ble_eq_true rfl) hA4) ?_
  refine OEnds.adv hm_3 4 (pc' := 30) (L' := [.val (.ref 1), .unset, .unset, .unset]) (S' := [.int (-252645136), .int 3, .ref 3]) (H' := (c0 :: bk0 o_words A4 o_pairI o_pairJ o_wht o_n o_lastDist o_lastTie o_failCount po)) rfl ?_
  obtain ⟨A5, hA5, h⟩ := bnd h
  refine OEnds.plain hm_3 rfl rfl (x_iastore rfl (Nat.le_of_ble_eq_true rfl) hA5) ?_
  refine OEnds.adv hm_3 4 (pc' := 38) (L' := [.val (.ref 1), .unset, .unset, .unset]) (S' := [.int (-16711936), .int 4, .ref 3]) (H' := (c0 :: bk0 o_words A5 o_pairI o_pairJ o_wht o_n o_lastDist o_lastTie o_failCount po)) rfl ?_
  obtain ⟨A6, hA6, h⟩ := bnd h
  refine OEnds.plain hm_3 rfl rfl (x_iastore rfl (Nat.le_of_ble_eq_true rfl) hA6) ?_
  refine OEnds.adv hm_3 4 (pc' := 46) (L' := [.val (.ref 1), .unset, .unset, .unset]) (S' := [.int (-65536), .int 5, .ref 3]) (H' := (c0 :: bk0 o_words A6 o_pairI o_pairJ o_wht o_n o_lastDist o_lastTie o_failCount po)) rfl ?_
  obtain ⟨A7, hA7, h⟩ := bnd h
  refine OEnds.plain hm_3 rfl rfl (x_iastore rfl (Nat.le_of_ble_eq_true rfl) hA7) ?_
  refine OEnds.adv hm_3 4 (pc' := 52) (L' := [.val (.ref 1), .val (.int 6), .val (.int 0), .unset]) (S' := []) (H' := (c0 :: bk0 o_words A7 o_pairI o_pairJ o_wht o_n o_lastDist o_lastTie o_failCount po)) rfl ?_
  exact ok_buildMonomials_52 100000 h
theorem ok_init_64 {c0 : ACell} : ∀ {o_words : List Int32} {o_mono : List Int32} {o_pairI : List Int32} {o_pairJ : List Int32} {o_wht : List Int32} {o_n : Int32} {o_lastDist : Int32} {o_lastTie : Int32} {o_failCount : Int32} {v2 : Int32} {d1 : Slot} {w_o_words : List Int32} {w_o_mono : List Int32} {w_o_pairI : List Int32} {w_o_pairJ : List Int32} {w_o_wht : List Int32} {w_o_n : Int32} {w_o_lastDist : Int32} {w_o_lastTie : Int32} {w_o_failCount : Int32}, f_init_64 o_words o_mono o_pairI o_pairJ o_wht o_n o_lastDist o_lastTie o_failCount v2 = some (w_o_words, w_o_mono, w_o_pairI, w_o_pairJ, w_o_wht, w_o_n, w_o_lastDist, w_o_lastTie, w_o_failCount) → OEnds own_P 2 64 [.val (.ref 1), d1, .val (.int v2)] [] (c0 :: bk0 o_words o_mono o_pairI o_pairJ o_wht o_n o_lastDist o_lastTie o_failCount []) (none, (c0 :: bk0 w_o_words w_o_mono w_o_pairI w_o_pairJ w_o_wht w_o_n w_o_lastDist w_o_lastTie w_o_failCount []), 0, 0) := by
  intro o_words o_mono o_pairI o_pairJ o_wht o_n o_lastDist o_lastTie o_failCount v2 d1 w_o_words w_o_mono w_o_pairI w_o_pairJ w_o_wht w_o_n w_o_lastDist w_o_lastTie w_o_failCount h
  unfold f_init_64 at h
  refine OEnds.adv hm_2 13 (pc' := 85) (L' := [.val (.ref 1), .unset, .val (.int v2)]) (S' := [.ref 1]) (H' := (c0 :: bk0 o_words o_mono o_pairI o_pairJ o_wht v2 (-1) 0 0 [])) rfl ?_
  obtain ⟨⟨s13, s14, s15⟩, hq5, h⟩ := bnd h
  refine OEnds.call0 hm_2 rfl rfl (by decide) rfl (as := [.ref 1]) (rest := []) rfl rfl (ok_buildMonomials hq5) ?_
  show OEnds own_P 2 88 [.val (.ref 1), .unset, .val (.int v2)] [] (c0 :: bk0 o_words s13 s14 s15 o_wht v2 (-1) 0 0 []) _
  cases h
  exact OEnds.vret hm_2 rfl rfl
theorem ok_init_55 {c0 : ACell} : ∀ {o_words : List Int32} {o_mono : List Int32} {o_pairI : List Int32} {o_pairJ : List Int32} {o_wht : List Int32} {o_n : Int32} {o_lastDist : Int32} {o_lastTie : Int32} {o_failCount : Int32} {v2 : Int32} {d1 : Slot} {w_o_words : List Int32} {w_o_mono : List Int32} {w_o_pairI : List Int32} {w_o_pairJ : List Int32} {w_o_wht : List Int32} {w_o_n : Int32} {w_o_lastDist : Int32} {w_o_lastTie : Int32} {w_o_failCount : Int32}, f_init_55 o_words o_mono o_pairI o_pairJ o_wht o_n o_lastDist o_lastTie o_failCount v2 = some (w_o_words, w_o_mono, w_o_pairI, w_o_pairJ, w_o_wht, w_o_n, w_o_lastDist, w_o_lastTie, w_o_failCount) → OEnds own_P 2 55 [.val (.ref 1), d1, .val (.int v2)] [] (c0 :: bk0 o_words o_mono o_pairI o_pairJ o_wht o_n o_lastDist o_lastTie o_failCount []) (none, (c0 :: bk0 w_o_words w_o_mono w_o_pairI w_o_pairJ w_o_wht w_o_n w_o_lastDist w_o_lastTie w_o_failCount []), 0, 0) := by
  intro o_words o_mono o_pairI o_pairJ o_wht o_n o_lastDist o_lastTie o_failCount v2 d1 w_o_words w_o_mono w_o_pairI w_o_pairJ w_o_wht w_o_n w_o_lastDist w_o_lastTie w_o_failCount h
  unfold f_init_55 at h
  refine OEnds.adv hm_2 2 (pc' := 58) (L' := [.val (.ref 1), .unset, .val (.int v2)]) (S' := [.int 32, .int v2]) (H' := (c0 :: bk0 o_words o_mono o_pairI o_pairJ o_wht o_n o_lastDist o_lastTie o_failCount [])) rfl ?_
  by_cases hc6 : (32 : Int32) < v2
  · simp only [if_pos hc6] at h
    refine OEnds.icmpF hm_2 rfl ((tlt hc6).2.2.2) ?_
    refine OEnds.adv hm_2 2 (pc' := 64) (L' := [.val (.ref 1), .unset, .val (.int 32)]) (S' := []) (H' := (c0 :: bk0 o_words o_mono o_pairI o_pairJ o_wht o_n o_lastDist o_lastTie o_failCount [])) rfl ?_
    exact ok_init_64 h
  · simp only [if_neg hc6] at h
    refine OEnds.icmpT hm_2 rfl (q := 64) rfl ((flt hc6).2.2.2) ?_
    show OEnds own_P 2 64 [.val (.ref 1), .unset, .val (.int v2)] [] (c0 :: bk0 o_words o_mono o_pairI o_pairJ o_wht o_n o_lastDist o_lastTie o_failCount []) _
    exact ok_init_64 h
theorem ok_init {c0 : ACell} {v1 : Int32} {w_o_words : List Int32} {w_o_mono : List Int32} {w_o_pairI : List Int32} {w_o_pairJ : List Int32} {w_o_wht : List Int32} {w_o_n : Int32} {w_o_lastDist : Int32} {w_o_lastTie : Int32} {w_o_failCount : Int32} (h : f_init v1 = some (w_o_words, w_o_mono, w_o_pairI, w_o_pairJ, w_o_wht, w_o_n, w_o_lastDist, w_o_lastTie, w_o_failCount)) : OEnds own_P 2 0 [.val (.ref 1), .val (.int v1), .unset] [] (c0 :: (.inl (0, [.null, .null, .null, .null, .null, .int 0, .int 0, .int 0, .int 0]) : ACell) :: []) (none, (c0 :: bk0 w_o_words w_o_mono w_o_pairI w_o_pairJ w_o_wht w_o_n w_o_lastDist w_o_lastTie w_o_failCount []), 5, 112) := by
  unfold f_init at h
  refine OEnds.adv hm_2 1 (pc' := 1) (L' := [.val (.ref 1), .val (.int v1), .unset]) (S' := [.ref 1]) (H' := (c0 :: (.inl (0, [.null, .null, .null, .null, .null, .int 0, .int 0, .int 0, .int 0]) : ACell) :: [])) rfl ?_
  refine OEnds.oinit hm_2 rfl ⟨Nat.le_of_ble_eq_true rfl, Nat.le_of_ble_eq_true rfl⟩ ?_
  refine OEnds.adv hm_2 2 (pc' := 7) (L' := [.val (.ref 1), .val (.int v1), .unset]) (S' := [.int 32, .ref 1]) (H' := (c0 :: (.inl (0, [.null, .null, .null, .null, .null, .int 0, .int 0, .int 0, .int 0]) : ACell) :: [])) rfl ?_
  refine OEnds.made1 hm_2 rfl rfl (ks := 32) rfl rfl ?_
  refine OEnds.adv hm_2 3 (pc' := 15) (L' := [.val (.ref 1), .val (.int v1), .unset]) (S' := [.int 16, .ref 1]) (H' := (c0 :: (.inl (0, [.ref 2, .null, .null, .null, .null, .int 0, .int 0, .int 0, .int 0]) : ACell) :: .inr (.inl (false, (List.replicate 32 0))) :: [])) rfl ?_
  refine OEnds.made1 hm_2 rfl rfl (ks := 16) rfl rfl ?_
  refine OEnds.adv hm_2 3 (pc' := 23) (L' := [.val (.ref 1), .val (.int v1), .unset]) (S' := [.int 16, .ref 1]) (H' := (c0 :: (.inl (0, [.ref 2, .ref 3, .null, .null, .null, .int 0, .int 0, .int 0, .int 0]) : ACell) :: .inr (.inl (false, (List.replicate 32 0))) :: .inr (.inl (false, (List.replicate 16 0))) :: [])) rfl ?_
  refine OEnds.made1 hm_2 rfl rfl (ks := 16) rfl rfl ?_
  refine OEnds.adv hm_2 3 (pc' := 31) (L' := [.val (.ref 1), .val (.int v1), .unset]) (S' := [.int 16, .ref 1]) (H' := (c0 :: (.inl (0, [.ref 2, .ref 3, .ref 4, .null, .null, .int 0, .int 0, .int 0, .int 0]) : ACell) :: .inr (.inl (false, (List.replicate 32 0))) :: .inr (.inl (false, (List.replicate 16 0))) :: .inr (.inl (false, (List.replicate 16 0))) :: [])) rfl ?_
  refine OEnds.made1 hm_2 rfl rfl (ks := 16) rfl rfl ?_
  refine OEnds.adv hm_2 3 (pc' := 39) (L' := [.val (.ref 1), .val (.int v1), .unset]) (S' := [.int 32, .ref 1]) (H' := (c0 :: (.inl (0, [.ref 2, .ref 3, .ref 4, .ref 5, .null, .int 0, .int 0, .int 0, .int 0]) : ACell) :: .inr (.inl (false, (List.replicate 32 0))) :: .inr (.inl (false, (List.replicate 16 0))) :: .inr (.inl (false, (List.replicate 16 0))) :: .inr (.inl (false, (List.replicate 16 0))) :: [])) rfl ?_
  refine OEnds.made1 hm_2 rfl rfl (ks := 32) rfl rfl ?_
  refine OEnds.adv hm_2 5 (pc' := 49) (L' := [.val (.ref 1), .val (.int v1), .val (.int v1)]) (S' := [.int 8, .int v1]) (H' := (c0 :: bk0 (List.replicate 32 0) (List.replicate 16 0) (List.replicate 16 0) (List.replicate 16 0) (List.replicate 32 0) 0 0 0 0 [])) rfl ?_
  by_cases hc7 : v1 < (8 : Int32)
  · simp only [if_pos hc7] at h
    refine OEnds.icmpF hm_2 rfl ((tlt hc7).2.1) ?_
    refine OEnds.adv hm_2 2 (pc' := 55) (L' := [.val (.ref 1), .val (.int v1), .val (.int 8)]) (S' := []) (H' := (c0 :: bk0 (List.replicate 32 0) (List.replicate 16 0) (List.replicate 16 0) (List.replicate 16 0) (List.replicate 32 0) 0 0 0 0 [])) rfl ?_
    exact ok_init_55 h
  · simp only [if_neg hc7] at h
    refine OEnds.icmpT hm_2 rfl (q := 55) rfl ((flt hc7).2.1) ?_
    show OEnds own_P 2 55 [.val (.ref 1), .val (.int v1), .val (.int v1)] [] (c0 :: bk0 (List.replicate 32 0) (List.replicate 16 0) (List.replicate 16 0) (List.replicate 16 0) (List.replicate 32 0) 0 0 0 0 []) _
    exact ok_init_55 h
theorem ok_slotCount {o_words : List Int32} {o_mono : List Int32} {o_pairI : List Int32} {o_pairJ : List Int32} {o_wht : List Int32} {o_n : Int32} {o_lastDist : Int32} {o_lastTie : Int32} {o_failCount : Int32} {c0 : ACell} {po : List ACell} {res : Int32} (h : f_slotCount o_n = some res) : OEnds own_P 4 0 [.val (.ref 1)] [] (c0 :: bk0 o_words o_mono o_pairI o_pairJ o_wht o_n o_lastDist o_lastTie o_failCount po) (some (.int res), (c0 :: bk0 o_words o_mono o_pairI o_pairJ o_wht o_n o_lastDist o_lastTie o_failCount po), 0, 0) := by
  unfold f_slotCount at h
  refine OEnds.adv hm_4 2 (pc' := 4) (L' := [.val (.ref 1)]) (S' := [.int o_n]) (H' := (c0 :: bk0 o_words o_mono o_pairI o_pairJ o_wht o_n o_lastDist o_lastTie o_failCount po)) rfl ?_
  cases h
  exact OEnds.iret hm_4 rfl rfl
theorem ok_L_mod {c0 : ACell} {po : List ACell} {v0 : Int32} {v1 : Int32} {res : Int32} (h : f_L_mod v0 v1 = some res) : OEnds own_P 5 0 [.val (.int v0), .val (.int v1), .unset] [] (c0 :: po) (some (.int res), (c0 :: po), 0, 0) := by
  unfold f_L_mod at h
  refine OEnds.adv hm_5 2 (pc' := 2) (L' := [.val (.int v0), .val (.int v1), .unset]) (S' := [.int v1, .int v0]) (H' := (c0 :: po)) rfl ?_
  by_cases hz8 : v1 = 0
  · simp only [if_pos hz8] at h
    cases h
  simp only [if_neg hz8] at h
  refine OEnds.plain hm_5 rfl rfl (x_irem hz8) ?_
  refine OEnds.adv hm_5 2 (pc' := 5) (L' := [.val (.int v0), .val (.int v1), .val (.int (v0 % v1))]) (S' := [.int (v0 % v1)]) (H' := (c0 :: po)) rfl ?_
  by_cases hc9 : (v0 % v1) < (0 : Int32)
  · simp only [if_pos hc9] at h
    refine OEnds.ifF hm_5 rfl ((tlt hc9).2.1) ?_
    refine OEnds.adv hm_5 4 (pc' := 15) (L' := [.val (.int v0), .val (.int v1), .val (.int (v0 % v1))]) (S' := [.int ((v0 % v1) + v1)]) (H' := (c0 :: po)) rfl ?_
    cases h
    exact OEnds.iret hm_5 rfl rfl
  · simp only [if_neg hc9] at h
    refine OEnds.ifT hm_5 rfl (q := 14) rfl ((flt hc9).2.1) ?_
    refine OEnds.adv hm_5 1 (pc' := 15) (L' := [.val (.int v0), .val (.int v1), .val (.int (v0 % v1))]) (S' := [.int (v0 % v1)]) (H' := (c0 :: po)) rfl ?_
    cases h
    exact OEnds.iret hm_5 rfl rfl
theorem ok_validSlot {o_words : List Int32} {o_mono : List Int32} {o_pairI : List Int32} {o_pairJ : List Int32} {o_wht : List Int32} {o_n : Int32} {o_lastDist : Int32} {o_lastTie : Int32} {o_failCount : Int32} {c0 : ACell} {po : List ACell} {v1 : Int32} {res : Int32} (h : f_validSlot o_n v1 = some res) : OEnds own_P 7 0 [.val (.ref 1), .val (.int v1)] [] (c0 :: bk0 o_words o_mono o_pairI o_pairJ o_wht o_n o_lastDist o_lastTie o_failCount po) (some (.int res), (c0 :: bk0 o_words o_mono o_pairI o_pairJ o_wht o_n o_lastDist o_lastTie o_failCount po), 0, 0) := by
  unfold f_validSlot at h
  refine OEnds.adv hm_7 1 (pc' := 1) (L' := [.val (.ref 1), .val (.int v1)]) (S' := [.int v1]) (H' := (c0 :: bk0 o_words o_mono o_pairI o_pairJ o_wht o_n o_lastDist o_lastTie o_failCount po)) rfl ?_
  by_cases hc10 : v1 < (0 : Int32)
  · simp only [if_pos hc10] at h
    refine OEnds.ifT hm_7 rfl (q := 16) rfl ((tlt hc10).1) ?_
    refine OEnds.adv hm_7 1 (pc' := 17) (L' := [.val (.ref 1), .val (.int v1)]) (S' := [.int 0]) (H' := (c0 :: bk0 o_words o_mono o_pairI o_pairJ o_wht o_n o_lastDist o_lastTie o_failCount po)) rfl ?_
    cases h
    exact OEnds.iret hm_7 rfl rfl
  · simp only [if_neg hc10] at h
    refine OEnds.ifF hm_7 rfl ((flt hc10).1) ?_
    refine OEnds.adv hm_7 3 (pc' := 9) (L' := [.val (.ref 1), .val (.int v1)]) (S' := [.int o_n, .int v1]) (H' := (c0 :: bk0 o_words o_mono o_pairI o_pairJ o_wht o_n o_lastDist o_lastTie o_failCount po)) rfl ?_
    by_cases hc11 : v1 < o_n
    · simp only [if_pos hc11] at h
      refine OEnds.icmpF hm_7 rfl ((tlt hc11).2.1) ?_
      refine OEnds.adv hm_7 2 (pc' := 17) (L' := [.val (.ref 1), .val (.int v1)]) (S' := [.int 1]) (H' := (c0 :: bk0 o_words o_mono o_pairI o_pairJ o_wht o_n o_lastDist o_lastTie o_failCount po)) rfl ?_
      cases h
      exact OEnds.iret hm_7 rfl rfl
    · simp only [if_neg hc11] at h
      refine OEnds.icmpT hm_7 rfl (q := 16) rfl ((flt hc11).2.1) ?_
      refine OEnds.adv hm_7 1 (pc' := 17) (L' := [.val (.ref 1), .val (.int v1)]) (S' := [.int 0]) (H' := (c0 :: bk0 o_words o_mono o_pairI o_pairJ o_wht o_n o_lastDist o_lastTie o_failCount po)) rfl ?_
      cases h
      exact OEnds.iret hm_7 rfl rfl
theorem ok_validOrder {o_words : List Int32} {o_mono : List Int32} {o_pairI : List Int32} {o_pairJ : List Int32} {o_wht : List Int32} {o_n : Int32} {o_lastDist : Int32} {o_lastTie : Int32} {o_failCount : Int32} {c0 : ACell} {po : List ACell} {v1 : Int32} {res : Int32} (h : f_validOrder v1 = some res) : OEnds own_P 28 0 [.val (.ref 1), .val (.int v1)] [] (c0 :: bk0 o_words o_mono o_pairI o_pairJ o_wht o_n o_lastDist o_lastTie o_failCount po) (some (.int res), (c0 :: bk0 o_words o_mono o_pairI o_pairJ o_wht o_n o_lastDist o_lastTie o_failCount po), 0, 0) := by
  unfold f_validOrder at h
  refine OEnds.adv hm_28 2 (pc' := 2) (L' := [.val (.ref 1), .val (.int v1)]) (S' := [.int 1, .int v1]) (H' := (c0 :: bk0 o_words o_mono o_pairI o_pairJ o_wht o_n o_lastDist o_lastTie o_failCount po)) rfl ?_
  by_cases hc12 : v1 = (1 : Int32)
  · simp only [if_pos hc12] at h
    refine OEnds.icmpT hm_28 rfl (q := 10) rfl ((teq hc12).1) ?_
    refine OEnds.adv hm_28 2 (pc' := 15) (L' := [.val (.ref 1), .val (.int v1)]) (S' := [.int 1]) (H' := (c0 :: bk0 o_words o_mono o_pairI o_pairJ o_wht o_n o_lastDist o_lastTie o_failCount po)) rfl ?_
    cases h
    exact OEnds.iret hm_28 rfl rfl
  · simp only [if_neg hc12] at h
    refine OEnds.icmpF hm_28 rfl ((feq hc12).1) ?_
    refine OEnds.adv hm_28 2 (pc' := 7) (L' := [.val (.ref 1), .val (.int v1)]) (S' := [.int 2, .int v1]) (H' := (c0 :: bk0 o_words o_mono o_pairI o_pairJ o_wht o_n o_lastDist o_lastTie o_failCount po)) rfl ?_
    by_cases hc13 : v1 = (2 : Int32)
    · simp only [if_pos hc13] at h
      refine OEnds.icmpF hm_28 rfl ((teq hc13).2) ?_
      refine OEnds.adv hm_28 2 (pc' := 15) (L' := [.val (.ref 1), .val (.int v1)]) (S' := [.int 1]) (H' := (c0 :: bk0 o_words o_mono o_pairI o_pairJ o_wht o_n o_lastDist o_lastTie o_failCount po)) rfl ?_
      cases h
      exact OEnds.iret hm_28 rfl rfl
    · simp only [if_neg hc13] at h
      refine OEnds.icmpT hm_28 rfl (q := 14) rfl ((feq hc13).2) ?_
      refine OEnds.adv hm_28 1 (pc' := 15) (L' := [.val (.ref 1), .val (.int v1)]) (S' := [.int 0]) (H' := (c0 :: bk0 o_words o_mono o_pairI o_pairJ o_wht o_n o_lastDist o_lastTie o_failCount po)) rfl ?_
      cases h
      exact OEnds.iret hm_28 rfl rfl
theorem ok_encodeBits_19 {o_words : List Int32} {o_mono : List Int32} {o_pairI : List Int32} {o_pairJ : List Int32} {o_wht : List Int32} {o_n : Int32} {o_lastDist : Int32} {o_lastTie : Int32} {o_failCount : Int32} {c0 : ACell} {po : List ACell} : ∀ (n : Nat), ∀ {v1 : Int32} {v3 : Int32} {v4 : Int32} {v5 : Int32} {d2 : Slot} {res : Int32}, f_encodeBits_19 o_mono n v1 v3 v4 v5 = some res → OEnds own_P 15 19 [.val (.ref 1), .val (.int v1), d2, .val (.int v3), .val (.int v4), .val (.int v5)] [] (c0 :: bk0 o_words o_mono o_pairI o_pairJ o_wht o_n o_lastDist o_lastTie o_failCount po) (some (.int res), (c0 :: bk0 o_words o_mono o_pairI o_pairJ o_wht o_n o_lastDist o_lastTie o_failCount po), 0, 0) := by
  intro n
  induction n with
  | zero => intro v1 v3 v4 v5 d2 res h; cases h
  | succ n ih =>
    intro v1 v3 v4 v5 d2 res h
    unfold f_encodeBits_19 at h
    refine OEnds.adv hm_15 2 (pc' := 23) (L' := [.val (.ref 1), .val (.int v1), .unset, .val (.int v3), .val (.int v4), .val (.int v5)]) (S' := [.int v4, .int v5]) (H' := (c0 :: bk0 o_words o_mono o_pairI o_pairJ o_wht o_n o_lastDist o_lastTie o_failCount po)) rfl ?_
    by_cases hc14 : v5 < v4
    · simp only [if_pos hc14] at h
      refine OEnds.icmpF hm_15 rfl ((tlt hc14).2.1) ?_
      refine OEnds.adv hm_15 5 (pc' := 32) (L' := [.val (.ref 1), .val (.int v1), .unset, .val (.int v3), .val (.int v4), .val (.int v5)]) (S' := [.int ((XT.ushr v1 v5) &&& (1 : Int32))]) (H' := (c0 :: bk0 o_words o_mono o_pairI o_pairJ o_wht o_n o_lastDist o_lastTie o_failCount po)) rfl ?_
      by_cases hc15 : ((XT.ushr v1 v5) &&& (1 : Int32)) = (0 : Int32)
      · simp only [if_pos hc15] at h
        refine OEnds.ifT hm_15 rfl (q := 45) rfl ((teq hc15).1) ?_
        refine OEnds.adv hm_15 2 (pc' := 19) (L' := [.val (.ref 1), .val (.int v1), .unset, .val (.int v3), .val (.int v4), .val (.int (v5 + (1 : Int32)))]) (S' := []) (H' := (c0 :: bk0 o_words o_mono o_pairI o_pairJ o_wht o_n o_lastDist o_lastTie o_failCount po)) rfl ?_
        exact ih h
      · simp only [if_neg hc15] at h
        refine OEnds.ifF hm_15 rfl ((feq hc15).1) ?_
        refine OEnds.adv hm_15 4 (pc' := 42) (L' := [.val (.ref 1), .val (.int v1), .unset, .val (.int v3), .val (.int v4), .val (.int v5)]) (S' := [.int v5, .ref 3, .int v3]) (H' := (c0 :: bk0 o_words o_mono o_pairI o_pairJ o_wht o_n o_lastDist o_lastTie o_failCount po)) rfl ?_
        obtain ⟨x16, hx16, h⟩ := bnd h
        refine OEnds.plain hm_15 rfl rfl (x_iaload rfl hx16) ?_
        refine OEnds.adv hm_15 4 (pc' := 19) (L' := [.val (.ref 1), .val (.int v1), .unset, .val (.int (v3 ^^^ x16)), .val (.int v4), .val (.int (v5 + (1 : Int32)))]) (S' := []) (H' := (c0 :: bk0 o_words o_mono o_pairI o_pairJ o_wht o_n o_lastDist o_lastTie o_failCount po)) rfl ?_
        exact ih h
    · simp only [if_neg hc14] at h
      refine OEnds.icmpT hm_15 rfl (q := 51) rfl ((flt hc14).2.1) ?_
      refine OEnds.adv hm_15 1 (pc' := 52) (L' := [.val (.ref 1), .val (.int v1), .unset, .val (.int v3), .val (.int v4), .val (.int v5)]) (S' := [.int v3]) (H' := (c0 :: bk0 o_words o_mono o_pairI o_pairJ o_wht o_n o_lastDist o_lastTie o_failCount po)) rfl ?_
      cases h
      exact OEnds.iret hm_15 rfl rfl
theorem ok_encodeBits {o_words : List Int32} {o_mono : List Int32} {o_pairI : List Int32} {o_pairJ : List Int32} {o_wht : List Int32} {o_n : Int32} {o_lastDist : Int32} {o_lastTie : Int32} {o_failCount : Int32} {c0 : ACell} {po : List ACell} {v1 : Int32} {v2 : Int32} {res : Int32} (h : f_encodeBits o_mono v1 v2 = some res) : OEnds own_P 15 0 [.val (.ref 1), .val (.int v1), .val (.int v2), .unset, .unset, .unset] [] (c0 :: bk0 o_words o_mono o_pairI o_pairJ o_wht o_n o_lastDist o_lastTie o_failCount po) (some (.int res), (c0 :: bk0 o_words o_mono o_pairI o_pairJ o_wht o_n o_lastDist o_lastTie o_failCount po), 0, 0) := by
  unfold f_encodeBits at h
  refine OEnds.adv hm_15 6 (pc' := 9) (L' := [.val (.ref 1), .val (.int v1), .val (.int v2), .val (.int 0), .val (.int v2), .unset]) (S' := [.int 16, .int v2]) (H' := (c0 :: bk0 o_words o_mono o_pairI o_pairJ o_wht o_n o_lastDist o_lastTie o_failCount po)) rfl ?_
  by_cases hc16 : (16 : Int32) < v2
  · simp only [if_pos hc16] at h
    refine OEnds.icmpF hm_15 rfl ((tlt hc16).2.2.2) ?_
    refine OEnds.adv hm_15 4 (pc' := 19) (L' := [.val (.ref 1), .val (.int v1), .val (.int v2), .val (.int 0), .val (.int 16), .val (.int 0)]) (S' := []) (H' := (c0 :: bk0 o_words o_mono o_pairI o_pairJ o_wht o_n o_lastDist o_lastTie o_failCount po)) rfl ?_
    exact ok_encodeBits_19 100000 h
  · simp only [if_neg hc16] at h
    refine OEnds.icmpT hm_15 rfl (q := 16) rfl ((flt hc16).2.2.2) ?_
    refine OEnds.adv hm_15 2 (pc' := 19) (L' := [.val (.ref 1), .val (.int v1), .val (.int v2), .val (.int 0), .val (.int v2), .val (.int 0)]) (S' := []) (H' := (c0 :: bk0 o_words o_mono o_pairI o_pairJ o_wht o_n o_lastDist o_lastTie o_failCount po)) rfl ?_
    exact ok_encodeBits_19 100000 h
theorem ok_encode1 {o_words : List Int32} {o_mono : List Int32} {o_pairI : List Int32} {o_pairJ : List Int32} {o_wht : List Int32} {o_n : Int32} {o_lastDist : Int32} {o_lastTie : Int32} {o_failCount : Int32} {c0 : ACell} {po : List ACell} {v1 : Int32} {res : Int32} (h : f_encode1 o_mono v1 = some res) : OEnds own_P 14 0 [.val (.ref 1), .val (.int v1)] [] (c0 :: bk0 o_words o_mono o_pairI o_pairJ o_wht o_n o_lastDist o_lastTie o_failCount po) (some (.int res), (c0 :: bk0 o_words o_mono o_pairI o_pairJ o_wht o_n o_lastDist o_lastTie o_failCount po), 0, 0) := by
  unfold f_encode1 at h
  refine OEnds.adv hm_14 5 (pc' := 7) (L' := [.val (.ref 1), .val (.int v1)]) (S' := [.int 6, .int (v1 &&& (63 : Int32)), .ref 1]) (H' := (c0 :: bk0 o_words o_mono o_pairI o_pairJ o_wht o_n o_lastDist o_lastTie o_failCount po)) rfl ?_
  obtain ⟨r17, hq17, h⟩ := bnd h
  refine OEnds.call0 hm_14 rfl rfl (by decide) rfl (as := [.ref 1, .int (v1 &&& (63 : Int32)), .int 6]) (rest := []) rfl rfl (ok_encodeBits hq17) ?_
  show OEnds own_P 14 10 [.val (.ref 1), .val (.int v1)] [.int r17] (c0 :: bk0 o_words o_mono o_pairI o_pairJ o_wht o_n o_lastDist o_lastTie o_failCount po) _
  cases h
  exact OEnds.iret hm_14 rfl rfl
theorem ok_encode2 {o_words : List Int32} {o_mono : List Int32} {o_pairI : List Int32} {o_pairJ : List Int32} {o_wht : List Int32} {o_n : Int32} {o_lastDist : Int32} {o_lastTie : Int32} {o_failCount : Int32} {c0 : ACell} {po : List ACell} {v1 : Int32} {res : Int32} (h : f_encode2 o_mono v1 = some res) : OEnds own_P 18 0 [.val (.ref 1), .val (.int v1)] [] (c0 :: bk0 o_words o_mono o_pairI o_pairJ o_wht o_n o_lastDist o_lastTie o_failCount po) (some (.int res), (c0 :: bk0 o_words o_mono o_pairI o_pairJ o_wht o_n o_lastDist o_lastTie o_failCount po), 0, 0) := by
  unfold f_encode2 at h
  refine OEnds.adv hm_18 5 (pc' := 7) (L' := [.val (.ref 1), .val (.int v1)]) (S' := [.int 16, .int (v1 &&& (65535 : Int32)), .ref 1]) (H' := (c0 :: bk0 o_words o_mono o_pairI o_pairJ o_wht o_n o_lastDist o_lastTie o_failCount po)) rfl ?_
  obtain ⟨r18, hq18, h⟩ := bnd h
  refine OEnds.call0 hm_18 rfl rfl (by decide) rfl (as := [.ref 1, .int (v1 &&& (65535 : Int32)), .int 16]) (rest := []) rfl rfl (ok_encodeBits hq18) ?_
  show OEnds own_P 18 10 [.val (.ref 1), .val (.int v1)] [.int r18] (c0 :: bk0 o_words o_mono o_pairI o_pairJ o_wht o_n o_lastDist o_lastTie o_failCount po) _
  cases h
  exact OEnds.iret hm_18 rfl rfl
theorem ok_put {o_mono : List Int32} {o_pairI : List Int32} {o_pairJ : List Int32} {o_wht : List Int32} {o_n : Int32} {o_lastDist : Int32} {o_lastTie : Int32} {o_failCount : Int32} {c0 : ACell} {po : List ACell} {o_words : List Int32} {v1 : Int32} {v2 : Int32} {v3 : Int32} {res : Int32} {w_o_words : List Int32} (h : f_put o_mono o_n o_words v1 v2 v3 = some (res, w_o_words)) : OEnds own_P 27 0 [.val (.ref 1), .val (.int v1), .val (.int v2), .val (.int v3)] [] (c0 :: bk0 o_words o_mono o_pairI o_pairJ o_wht o_n o_lastDist o_lastTie o_failCount po) (some (.int res), (c0 :: bk0 w_o_words o_mono o_pairI o_pairJ o_wht o_n o_lastDist o_lastTie o_failCount po), 0, 0) := by
  unfold f_put at h
  refine OEnds.adv hm_27 2 (pc' := 2) (L' := [.val (.ref 1), .val (.int v1), .val (.int v2), .val (.int v3)]) (S' := [.int v1, .ref 1]) (H' := (c0 :: bk0 o_words o_mono o_pairI o_pairJ o_wht o_n o_lastDist o_lastTie o_failCount po)) rfl ?_
  obtain ⟨r19, hq19, h⟩ := bnd h
  refine OEnds.call0 hm_27 rfl rfl (by decide) rfl (as := [.ref 1, .int v1]) (rest := []) rfl rfl (ok_validSlot hq19) ?_
  show OEnds own_P 27 5 [.val (.ref 1), .val (.int v1), .val (.int v2), .val (.int v3)] [.int r19] (c0 :: bk0 o_words o_mono o_pairI o_pairJ o_wht o_n o_lastDist o_lastTie o_failCount po) _
  by_cases hc20 : r19 = (0 : Int32)
  · simp only [if_pos hc20] at h
    refine OEnds.ifF hm_27 rfl ((teq hc20).2) ?_
    refine OEnds.adv hm_27 1 (pc' := 9) (L' := [.val (.ref 1), .val (.int v1), .val (.int v2), .val (.int v3)]) (S' := [.int 0]) (H' := (c0 :: bk0 o_words o_mono o_pairI o_pairJ o_wht o_n o_lastDist o_lastTie o_failCount po)) rfl ?_
    cases h
    exact OEnds.iret hm_27 rfl rfl
  · simp only [if_neg hc20] at h
    refine OEnds.ifT hm_27 rfl (q := 10) rfl ((feq hc20).2) ?_
    refine OEnds.adv hm_27 2 (pc' := 12) (L' := [.val (.ref 1), .val (.int v1), .val (.int v2), .val (.int v3)]) (S' := [.int v3, .ref 1]) (H' := (c0 :: bk0 o_words o_mono o_pairI o_pairJ o_wht o_n o_lastDist o_lastTie o_failCount po)) rfl ?_
    obtain ⟨r20, hq21, h⟩ := bnd h
    refine OEnds.call0 hm_27 rfl rfl (by decide) rfl (as := [.ref 1, .int v3]) (rest := []) rfl rfl (ok_validOrder hq21) ?_
    show OEnds own_P 27 15 [.val (.ref 1), .val (.int v1), .val (.int v2), .val (.int v3)] [.int r20] (c0 :: bk0 o_words o_mono o_pairI o_pairJ o_wht o_n o_lastDist o_lastTie o_failCount po) _
    by_cases hc22 : r20 = (0 : Int32)
    · simp only [if_pos hc22] at h
      refine OEnds.ifF hm_27 rfl ((teq hc22).2) ?_
      refine OEnds.adv hm_27 1 (pc' := 19) (L' := [.val (.ref 1), .val (.int v1), .val (.int v2), .val (.int v3)]) (S' := [.int 0]) (H' := (c0 :: bk0 o_words o_mono o_pairI o_pairJ o_wht o_n o_lastDist o_lastTie o_failCount po)) rfl ?_
      cases h
      exact OEnds.iret hm_27 rfl rfl
    · simp only [if_neg hc22] at h
      refine OEnds.ifT hm_27 rfl (q := 20) rfl ((feq hc22).2) ?_
      refine OEnds.adv hm_27 2 (pc' := 22) (L' := [.val (.ref 1), .val (.int v1), .val (.int v2), .val (.int v3)]) (S' := [.int 1, .int v3]) (H' := (c0 :: bk0 o_words o_mono o_pairI o_pairJ o_wht o_n o_lastDist o_lastTie o_failCount po)) rfl ?_
      by_cases hc23 : v3 = (1 : Int32)
      · simp only [if_pos hc23] at h
        refine OEnds.icmpF hm_27 rfl ((teq hc23).2) ?_
        refine OEnds.adv hm_27 5 (pc' := 32) (L' := [.val (.ref 1), .val (.int v1), .val (.int v2), .val (.int v3)]) (S' := [.int v2, .ref 1, .int v1, .ref 2]) (H' := (c0 :: bk0 o_words o_mono o_pairI o_pairJ o_wht o_n o_lastDist o_lastTie o_failCount po)) rfl ?_
        obtain ⟨r23, hq24, h⟩ := bnd h
        refine OEnds.call0 hm_27 rfl rfl (by decide) rfl (as := [.ref 1, .int v2]) (rest := [.int v1, .ref 2]) rfl rfl (ok_encode1 hq24) ?_
        show OEnds own_P 27 35 [.val (.ref 1), .val (.int v1), .val (.int v2), .val (.int v3)] [.int r23, .int v1, .ref 2] (c0 :: bk0 o_words o_mono o_pairI o_pairJ o_wht o_n o_lastDist o_lastTie o_failCount po) _
        obtain ⟨A24, hA24, h⟩ := bnd h
        refine OEnds.plain hm_27 rfl rfl (x_iastore rfl (Nat.le_of_ble_eq_true rfl) hA24) ?_
        refine OEnds.adv hm_27 2 (pc' := 51) (L' := [.val (.ref 1), .val (.int v1), .val (.int v2), .val (.int v3)]) (S' := [.int 1]) (H' := (c0 :: bk0 A24 o_mono o_pairI o_pairJ o_wht o_n o_lastDist o_lastTie o_failCount po)) rfl ?_
        cases h
        exact OEnds.iret hm_27 rfl rfl
      · simp only [if_neg hc23] at h
        refine OEnds.icmpT hm_27 rfl (q := 39) rfl ((feq hc23).2) ?_
        refine OEnds.adv hm_27 5 (pc' := 46) (L' := [.val (.ref 1), .val (.int v1), .val (.int v2), .val (.int v3)]) (S' := [.int v2, .ref 1, .int v1, .ref 2]) (H' := (c0 :: bk0 o_words o_mono o_pairI o_pairJ o_wht o_n o_lastDist o_lastTie o_failCount po)) rfl ?_
        obtain ⟨r21, hq25, h⟩ := bnd h
        refine OEnds.call0 hm_27 rfl rfl (by decide) rfl (as := [.ref 1, .int v2]) (rest := [.int v1, .ref 2]) rfl rfl (ok_encode2 hq25) ?_
        show OEnds own_P 27 49 [.val (.ref 1), .val (.int v1), .val (.int v2), .val (.int v3)] [.int r21, .int v1, .ref 2] (c0 :: bk0 o_words o_mono o_pairI o_pairJ o_wht o_n o_lastDist o_lastTie o_failCount po) _
        obtain ⟨A22, hA22, h⟩ := bnd h
        refine OEnds.plain hm_27 rfl rfl (x_iastore rfl (Nat.le_of_ble_eq_true rfl) hA22) ?_
        refine OEnds.adv hm_27 1 (pc' := 51) (L' := [.val (.ref 1), .val (.int v1), .val (.int v2), .val (.int v3)]) (S' := [.int 1]) (H' := (c0 :: bk0 A22 o_mono o_pairI o_pairJ o_wht o_n o_lastDist o_lastTie o_failCount po)) rfl ?_
        cases h
        exact OEnds.iret hm_27 rfl rfl
theorem ok_load {o_mono : List Int32} {o_pairI : List Int32} {o_pairJ : List Int32} {o_wht : List Int32} {o_n : Int32} {o_lastDist : Int32} {o_lastTie : Int32} {o_failCount : Int32} {c0 : ACell} {po : List ACell} {o_words : List Int32} {v1 : Int32} {v2 : Int32} {res : Int32} {w_o_words : List Int32} (h : f_load o_n o_words v1 v2 = some (res, w_o_words)) : OEnds own_P 6 0 [.val (.ref 1), .val (.int v1), .val (.int v2)] [] (c0 :: bk0 o_words o_mono o_pairI o_pairJ o_wht o_n o_lastDist o_lastTie o_failCount po) (some (.int res), (c0 :: bk0 w_o_words o_mono o_pairI o_pairJ o_wht o_n o_lastDist o_lastTie o_failCount po), 0, 0) := by
  unfold f_load at h
  refine OEnds.adv hm_6 2 (pc' := 2) (L' := [.val (.ref 1), .val (.int v1), .val (.int v2)]) (S' := [.int v1, .ref 1]) (H' := (c0 :: bk0 o_words o_mono o_pairI o_pairJ o_wht o_n o_lastDist o_lastTie o_failCount po)) rfl ?_
  obtain ⟨r28, hq26, h⟩ := bnd h
  refine OEnds.call0 hm_6 rfl rfl (by decide) rfl (as := [.ref 1, .int v1]) (rest := []) rfl rfl (ok_validSlot hq26) ?_
  show OEnds own_P 6 5 [.val (.ref 1), .val (.int v1), .val (.int v2)] [.int r28] (c0 :: bk0 o_words o_mono o_pairI o_pairJ o_wht o_n o_lastDist o_lastTie o_failCount po) _
  by_cases hc27 : r28 = (0 : Int32)
  · simp only [if_pos hc27] at h
    refine OEnds.ifF hm_6 rfl ((teq hc27).2) ?_
    refine OEnds.adv hm_6 1 (pc' := 9) (L' := [.val (.ref 1), .val (.int v1), .val (.int v2)]) (S' := [.int 0]) (H' := (c0 :: bk0 o_words o_mono o_pairI o_pairJ o_wht o_n o_lastDist o_lastTie o_failCount po)) rfl ?_
    cases h
    exact OEnds.iret hm_6 rfl rfl
  · simp only [if_neg hc27] at h
    refine OEnds.ifT hm_6 rfl (q := 10) rfl ((feq hc27).2) ?_
    refine OEnds.adv hm_6 4 (pc' := 16) (L' := [.val (.ref 1), .val (.int v1), .val (.int v2)]) (S' := [.int v2, .int v1, .ref 2]) (H' := (c0 :: bk0 o_words o_mono o_pairI o_pairJ o_wht o_n o_lastDist o_lastTie o_failCount po)) rfl ?_
    obtain ⟨A29, hA29, h⟩ := bnd h
    refine OEnds.plain hm_6 rfl rfl (x_iastore rfl (Nat.le_of_ble_eq_true rfl) hA29) ?_
    refine OEnds.adv hm_6 1 (pc' := 18) (L' := [.val (.ref 1), .val (.int v1), .val (.int v2)]) (S' := [.int 1]) (H' := (c0 :: bk0 A29 o_mono o_pairI o_pairJ o_wht o_n o_lastDist o_lastTie o_failCount po)) rfl ?_
    cases h
    exact OEnds.iret hm_6 rfl rfl
theorem ok_flip {o_mono : List Int32} {o_pairI : List Int32} {o_pairJ : List Int32} {o_wht : List Int32} {o_n : Int32} {o_lastDist : Int32} {o_lastTie : Int32} {o_failCount : Int32} {c0 : ACell} {po : List ACell} {o_words : List Int32} {v1 : Int32} {v2 : Int32} {res : Int32} {w_o_words : List Int32} (h : f_flip o_n o_words v1 v2 = some (res, w_o_words)) : OEnds own_P 29 0 [.val (.ref 1), .val (.int v1), .val (.int v2)] [] (c0 :: bk0 o_words o_mono o_pairI o_pairJ o_wht o_n o_lastDist o_lastTie o_failCount po) (some (.int res), (c0 :: bk0 w_o_words o_mono o_pairI o_pairJ o_wht o_n o_lastDist o_lastTie o_failCount po), 0, 0) := by
  unfold f_flip at h
  refine OEnds.adv hm_29 2 (pc' := 2) (L' := [.val (.ref 1), .val (.int v1), .val (.int v2)]) (S' := [.int v1, .ref 1]) (H' := (c0 :: bk0 o_words o_mono o_pairI o_pairJ o_wht o_n o_lastDist o_lastTie o_failCount po)) rfl ?_
  obtain ⟨r25, hq28, h⟩ := bnd h
  refine OEnds.call0 hm_29 rfl rfl (by decide) rfl (as := [.ref 1, .int v1]) (rest := []) rfl rfl (ok_validSlot hq28) ?_
  show OEnds own_P 29 5 [.val (.ref 1), .val (.int v1), .val (.int v2)] [.int r25] (c0 :: bk0 o_words o_mono o_pairI o_pairJ o_wht o_n o_lastDist o_lastTie o_failCount po) _
  by_cases hc29 : r25 = (0 : Int32)
  · simp only [if_pos hc29] at h
    refine OEnds.ifF hm_29 rfl ((teq hc29).2) ?_
    refine OEnds.adv hm_29 1 (pc' := 9) (L' := [.val (.ref 1), .val (.int v1), .val (.int v2)]) (S' := [.int 0]) (H' := (c0 :: bk0 o_words o_mono o_pairI o_pairJ o_wht o_n o_lastDist o_lastTie o_failCount po)) rfl ?_
    cases h
    exact OEnds.iret hm_29 rfl rfl
  · simp only [if_neg hc29] at h
    refine OEnds.ifT hm_29 rfl (q := 10) rfl ((feq hc29).2) ?_
    refine OEnds.adv hm_29 1 (pc' := 11) (L' := [.val (.ref 1), .val (.int v1), .val (.int v2)]) (S' := [.int v2]) (H' := (c0 :: bk0 o_words o_mono o_pairI o_pairJ o_wht o_n o_lastDist o_lastTie o_failCount po)) rfl ?_
    by_cases hc30 : v2 < (0 : Int32)
    · simp only [if_pos hc30] at h
      refine OEnds.ifT hm_29 rfl (q := 20) rfl ((tlt hc30).1) ?_
      refine OEnds.adv hm_29 1 (pc' := 21) (L' := [.val (.ref 1), .val (.int v1), .val (.int v2)]) (S' := [.int 0]) (H' := (c0 :: bk0 o_words o_mono o_pairI o_pairJ o_wht o_n o_lastDist o_lastTie o_failCount po)) rfl ?_
      cases h
      exact OEnds.iret hm_29 rfl rfl
    · simp only [if_neg hc30] at h
      refine OEnds.ifF hm_29 rfl ((flt hc30).1) ?_
      refine OEnds.adv hm_29 2 (pc' := 17) (L' := [.val (.ref 1), .val (.int v1), .val (.int v2)]) (S' := [.int 31, .int v2]) (H' := (c0 :: bk0 o_words o_mono o_pairI o_pairJ o_wht o_n o_lastDist o_lastTie o_failCount po)) rfl ?_
      by_cases hc31 : (31 : Int32) < v2
      · simp only [if_pos hc31] at h
        refine OEnds.icmpF hm_29 rfl ((tlt hc31).2.2.2) ?_
        refine OEnds.adv hm_29 1 (pc' := 21) (L' := [.val (.ref 1), .val (.int v1), .val (.int v2)]) (S' := [.int 0]) (H' := (c0 :: bk0 o_words o_mono o_pairI o_pairJ o_wht o_n o_lastDist o_lastTie o_failCount po)) rfl ?_
        cases h
        exact OEnds.iret hm_29 rfl rfl
      · simp only [if_neg hc31] at h
        refine OEnds.icmpT hm_29 rfl (q := 22) rfl ((flt hc31).2.2.2) ?_
        refine OEnds.adv hm_29 6 (pc' := 32) (L' := [.val (.ref 1), .val (.int v1), .val (.int v2)]) (S' := [.int v1, .ref 2, .int v1, .ref 2]) (H' := (c0 :: bk0 o_words o_mono o_pairI o_pairJ o_wht o_n o_lastDist o_lastTie o_failCount po)) rfl ?_
        obtain ⟨x26, hx26, h⟩ := bnd h
        refine OEnds.plain hm_29 rfl rfl (x_iaload rfl hx26) ?_
        refine OEnds.adv hm_29 4 (pc' := 37) (L' := [.val (.ref 1), .val (.int v1), .val (.int v2)]) (S' := [.int (x26 ^^^ ((1 : Int32) <<< (v2 &&& 31))), .int v1, .ref 2]) (H' := (c0 :: bk0 o_words o_mono o_pairI o_pairJ o_wht o_n o_lastDist o_lastTie o_failCount po)) rfl ?_
        obtain ⟨A27, hA27, h⟩ := bnd h
        refine OEnds.plain hm_29 rfl rfl (x_iastore rfl (Nat.le_of_ble_eq_true rfl) hA27) ?_
        refine OEnds.adv hm_29 1 (pc' := 39) (L' := [.val (.ref 1), .val (.int v1), .val (.int v2)]) (S' := [.int 1]) (H' := (c0 :: bk0 A27 o_mono o_pairI o_pairJ o_wht o_n o_lastDist o_lastTie o_failCount po)) rfl ?_
        cases h
        exact OEnds.iret hm_29 rfl rfl
theorem ok_transform_53 {o_words : List Int32} {o_mono : List Int32} {o_pairI : List Int32} {o_pairJ : List Int32} {o_n : Int32} {o_lastDist : Int32} {o_lastTie : Int32} {o_failCount : Int32} {c0 : ACell} {po : List ACell} {k41 : List Int32 → Int32 → Option (List Int32)} (hk41 : ∀ {o_wht : List Int32} {v2 : Int32} {d1 d3 d4 d5 d6 : Slot} {w_o_wht : List Int32}, k41 o_wht v2 = some w_o_wht → OEnds own_P 11 41 [.val (.ref 1), d1, .val (.int v2), d3, d4, d5, d6] [] (c0 :: bk0 o_words o_mono o_pairI o_pairJ o_wht o_n o_lastDist o_lastTie o_failCount po) (none, (c0 :: bk0 o_words o_mono o_pairI o_pairJ w_o_wht o_n o_lastDist o_lastTie o_failCount po), 0, 0)) : ∀ (n : Nat), ∀ {o_wht : List Int32} {v2 : Int32} {v3 : Int32} {v4 : Int32} {d1 d5 d6 : Slot} {w_o_wht : List Int32}, f_transform_53 k41 n o_wht v2 v3 v4 = some w_o_wht → OEnds own_P 11 53 [.val (.ref 1), d1, .val (.int v2), .val (.int v3), .val (.int v4), d5, d6] [] (c0 :: bk0 o_words o_mono o_pairI o_pairJ o_wht o_n o_lastDist o_lastTie o_failCount po) (none, (c0 :: bk0 o_words o_mono o_pairI o_pairJ w_o_wht o_n o_lastDist o_lastTie o_failCount po), 0, 0) := by
  intro n
  induction n with
  | zero => intro o_wht v2 v3 v4 d1 d5 d6 w_o_wht h; cases h
  | succ n ih =>
    intro o_wht v2 v3 v4 d1 d5 d6 w_o_wht h
    unfold f_transform_53 at h
    refine OEnds.adv hm_11 2 (pc' := 57) (L' := [.val (.ref 1), .unset, .val (.int v2), .val (.int v3), .val (.int v4), .unset, .unset]) (S' := [.int 32, .int v4]) (H' := (c0 :: bk0 o_words o_mono o_pairI o_pairJ o_wht o_n o_lastDist o_lastTie o_failCount po)) rfl ?_
    by_cases hc32 : v4 < (32 : Int32)
    · simp only [if_pos hc32] at h
      refine OEnds.icmpF hm_11 rfl ((tlt hc32).2.1) ?_
      refine OEnds.adv hm_11 3 (pc' := 64) (L' := [.val (.ref 1), .unset, .val (.int v2), .val (.int v3), .val (.int v4), .unset, .unset]) (S' := [.int (v4 &&& v3)]) (H' := (c0 :: bk0 o_words o_mono o_pairI o_pairJ o_wht o_n o_lastDist o_lastTie o_failCount po)) rfl ?_
      by_cases hc33 : (v4 &&& v3) = (0 : Int32)
      · simp only [if_pos hc33] at h
        refine OEnds.ifF hm_11 rfl ((teq hc33).2) ?_
        refine OEnds.adv hm_11 3 (pc' := 73) (L' := [.val (.ref 1), .unset, .val (.int v2), .val (.int v3), .val (.int v4), .unset, .unset]) (S' := [.int v4, .ref 6]) (H' := (c0 :: bk0 o_words o_mono o_pairI o_pairJ o_wht o_n o_lastDist o_lastTie o_failCount po)) rfl ?_
        obtain ⟨x32, hx32, h⟩ := bnd h
        refine OEnds.plain hm_11 rfl rfl (x_iaload rfl hx32) ?_
        refine OEnds.adv hm_11 6 (pc' := 84) (L' := [.val (.ref 1), .unset, .val (.int v2), .val (.int v3), .val (.int v4), .val (.int x32), .unset]) (S' := [.int (v4 ||| v3), .ref 6]) (H' := (c0 :: bk0 o_words o_mono o_pairI o_pairJ o_wht o_n o_lastDist o_lastTie o_failCount po)) rfl ?_
        obtain ⟨x33, hx33, h⟩ := bnd h
        refine OEnds.plain hm_11 rfl rfl (x_iaload rfl hx33) ?_
        refine OEnds.adv hm_11 7 (pc' := 98) (L' := [.val (.ref 1), .unset, .val (.int v2), .val (.int v3), .val (.int v4), .val (.int x32), .val (.int x33)]) (S' := [.int (x32 + x33), .int v4, .ref 6]) (H' := (c0 :: bk0 o_words o_mono o_pairI o_pairJ o_wht o_n o_lastDist o_lastTie o_failCount po)) rfl ?_
        obtain ⟨A34, hA34, h⟩ := bnd h
        refine OEnds.plain hm_11 rfl rfl (x_iastore rfl (Nat.le_of_ble_eq_true rfl) hA34) ?_
        refine OEnds.adv hm_11 8 (pc' := 112) (L' := [.val (.ref 1), .unset, .val (.int v2), .val (.int v3), .val (.int v4), .val (.int x32), .val (.int x33)]) (S' := [.int (x32 - x33), .int (v4 ||| v3), .ref 6]) (H' := (c0 :: bk0 o_words o_mono o_pairI o_pairJ A34 o_n o_lastDist o_lastTie o_failCount po)) rfl ?_
        obtain ⟨A35, hA35, h⟩ := bnd h
        refine OEnds.plain hm_11 rfl rfl (x_iastore rfl (Nat.le_of_ble_eq_true rfl) hA35) ?_
        refine OEnds.adv hm_11 2 (pc' := 53) (L' := [.val (.ref 1), .unset, .val (.int v2), .val (.int v3), .val (.int (v4 + (1 : Int32))), .val (.int x32), .val (.int x33)]) (S' := []) (H' := (c0 :: bk0 o_words o_mono o_pairI o_pairJ A35 o_n o_lastDist o_lastTie o_failCount po)) rfl ?_
        exact ih h
      · simp only [if_neg hc33] at h
        refine OEnds.ifT hm_11 rfl (q := 113) rfl ((feq hc33).2) ?_
        refine OEnds.adv hm_11 2 (pc' := 53) (L' := [.val (.ref 1), .unset, .val (.int v2), .val (.int v3), .val (.int (v4 + (1 : Int32))), .unset, .unset]) (S' := []) (H' := (c0 :: bk0 o_words o_mono o_pairI o_pairJ o_wht o_n o_lastDist o_lastTie o_failCount po)) rfl ?_
        exact ih h
    · simp only [if_neg hc32] at h
      refine OEnds.icmpT hm_11 rfl (q := 119) rfl ((flt hc32).2.1) ?_
      refine OEnds.adv hm_11 2 (pc' := 41) (L' := [.val (.ref 1), .unset, .val (.int (v2 + (1 : Int32))), .val (.int v3), .val (.int v4), .unset, .unset]) (S' := []) (H' := (c0 :: bk0 o_words o_mono o_pairI o_pairJ o_wht o_n o_lastDist o_lastTie o_failCount po)) rfl ?_
      exact hk41 h
theorem ok_transform_41 {o_words : List Int32} {o_mono : List Int32} {o_pairI : List Int32} {o_pairJ : List Int32} {o_n : Int32} {o_lastDist : Int32} {o_lastTie : Int32} {o_failCount : Int32} {c0 : ACell} {po : List ACell} : ∀ (n : Nat), ∀ {o_wht : List Int32} {v2 : Int32} {d1 d3 d4 d5 d6 : Slot} {w_o_wht : List Int32}, f_transform_41 n o_wht v2 = some w_o_wht → OEnds own_P 11 41 [.val (.ref 1), d1, .val (.int v2), d3, d4, d5, d6] [] (c0 :: bk0 o_words o_mono o_pairI o_pairJ o_wht o_n o_lastDist o_lastTie o_failCount po) (none, (c0 :: bk0 o_words o_mono o_pairI o_pairJ w_o_wht o_n o_lastDist o_lastTie o_failCount po), 0, 0) := by
  intro n
  induction n with
  | zero => intro o_wht v2 d1 d3 d4 d5 d6 w_o_wht h; cases h
  | succ n ih =>
    intro o_wht v2 d1 d3 d4 d5 d6 w_o_wht h
    unfold f_transform_41 at h
    refine OEnds.adv hm_11 2 (pc' := 43) (L' := [.val (.ref 1), .unset, .val (.int v2), .unset, .unset, .unset, .unset]) (S' := [.int 5, .int v2]) (H' := (c0 :: bk0 o_words o_mono o_pairI o_pairJ o_wht o_n o_lastDist o_lastTie o_failCount po)) rfl ?_
    by_cases hc34 : v2 < (5 : Int32)
    · simp only [if_pos hc34] at h
      refine OEnds.icmpF hm_11 rfl ((tlt hc34).2.1) ?_
      refine OEnds.adv hm_11 6 (pc' := 53) (L' := [.val (.ref 1), .unset, .val (.int v2), .val (.int ((1 : Int32) <<< (v2 &&& 31))), .val (.int 0), .unset, .unset]) (S' := []) (H' := (c0 :: bk0 o_words o_mono o_pairI o_pairJ o_wht o_n o_lastDist o_lastTie o_failCount po)) rfl ?_
      exact ok_transform_53 (k41 := f_transform_41 n) ih 100000 h
    · simp only [if_neg hc34] at h
      refine OEnds.icmpT hm_11 rfl (q := 125) rfl ((flt hc34).2.1) ?_
      show OEnds own_P 11 125 [.val (.ref 1), .unset, .val (.int v2), .unset, .unset, .unset, .unset] [] (c0 :: bk0 o_words o_mono o_pairI o_pairJ o_wht o_n o_lastDist o_lastTie o_failCount po) _
      cases h
      exact OEnds.vret hm_11 rfl rfl
theorem ok_transform_2 {o_words : List Int32} {o_mono : List Int32} {o_pairI : List Int32} {o_pairJ : List Int32} {o_n : Int32} {o_lastDist : Int32} {o_lastTie : Int32} {o_failCount : Int32} {c0 : ACell} {po : List ACell} {k41 : List Int32 → Int32 → Option (List Int32)} (hk41 : ∀ {o_wht : List Int32} {v2 : Int32} {d1 d3 d4 d5 d6 : Slot} {w_o_wht : List Int32}, k41 o_wht v2 = some w_o_wht → OEnds own_P 11 41 [.val (.ref 1), d1, .val (.int v2), d3, d4, d5, d6] [] (c0 :: bk0 o_words o_mono o_pairI o_pairJ o_wht o_n o_lastDist o_lastTie o_failCount po) (none, (c0 :: bk0 o_words o_mono o_pairI o_pairJ w_o_wht o_n o_lastDist o_lastTie o_failCount po), 0, 0)) : ∀ (n : Nat), ∀ {o_wht : List Int32} {v1 : Int32} {v2 : Int32} {d3 d4 d5 d6 : Slot} {w_o_wht : List Int32}, f_transform_2 k41 n o_wht v1 v2 = some w_o_wht → OEnds own_P 11 2 [.val (.ref 1), .val (.int v1), .val (.int v2), d3, d4, d5, d6] [] (c0 :: bk0 o_words o_mono o_pairI o_pairJ o_wht o_n o_lastDist o_lastTie o_failCount po) (none, (c0 :: bk0 o_words o_mono o_pairI o_pairJ w_o_wht o_n o_lastDist o_lastTie o_failCount po), 0, 0) := by
  intro n
  induction n with
  | zero => intro o_wht v1 v2 d3 d4 d5 d6 w_o_wht h; cases h
  | succ n ih =>
    intro o_wht v1 v2 d3 d4 d5 d6 w_o_wht h
    unfold f_transform_2 at h
    refine OEnds.adv hm_11 2 (pc' := 5) (L' := [.val (.ref 1), .val (.int v1), .val (.int v2), .unset, .unset, .unset, .unset]) (S' := [.int 32, .int v2]) (H' := (c0 :: bk0 o_words o_mono o_pairI o_pairJ o_wht o_n o_lastDist o_lastTie o_failCount po)) rfl ?_
    by_cases hc35 : v2 < (32 : Int32)
    · simp only [if_pos hc35] at h
      refine OEnds.icmpF hm_11 rfl ((tlt hc35).2.1) ?_
      refine OEnds.adv hm_11 5 (pc' := 13) (L' := [.val (.ref 1), .val (.int v1), .val (.int v2), .unset, .unset, .unset, .unset]) (S' := [.int ((XT.ushr v1 v2) &&& (1 : Int32))]) (H' := (c0 :: bk0 o_words o_mono o_pairI o_pairJ o_wht o_n o_lastDist o_lastTie o_failCount po)) rfl ?_
      by_cases hc36 : ((XT.ushr v1 v2) &&& (1 : Int32)) = (0 : Int32)
      · simp only [if_pos hc36] at h
        refine OEnds.ifF hm_11 rfl ((teq hc36).2) ?_
        refine OEnds.adv hm_11 4 (pc' := 22) (L' := [.val (.ref 1), .val (.int v1), .val (.int v2), .unset, .unset, .unset, .unset]) (S' := [.int 1, .int v2, .ref 6]) (H' := (c0 :: bk0 o_words o_mono o_pairI o_pairJ o_wht o_n o_lastDist o_lastTie o_failCount po)) rfl ?_
        obtain ⟨A31, hA31, h⟩ := bnd h
        refine OEnds.plain hm_11 rfl rfl (x_iastore rfl (Nat.le_of_ble_eq_true rfl) hA31) ?_
        refine OEnds.adv hm_11 3 (pc' := 2) (L' := [.val (.ref 1), .val (.int v1), .val (.int (v2 + (1 : Int32))), .unset, .unset, .unset, .unset]) (S' := []) (H' := (c0 :: bk0 o_words o_mono o_pairI o_pairJ A31 o_n o_lastDist o_lastTie o_failCount po)) rfl ?_
        exact ih h
      · simp only [if_neg hc36] at h
        refine OEnds.ifT hm_11 rfl (q := 26) rfl ((feq hc36).2) ?_
        refine OEnds.adv hm_11 4 (pc' := 32) (L' := [.val (.ref 1), .val (.int v1), .val (.int v2), .unset, .unset, .unset, .unset]) (S' := [.int (-1), .int v2, .ref 6]) (H' := (c0 :: bk0 o_words o_mono o_pairI o_pairJ o_wht o_n o_lastDist o_lastTie o_failCount po)) rfl ?_
        obtain ⟨A30, hA30, h⟩ := bnd h
        refine OEnds.plain hm_11 rfl rfl (x_iastore rfl (Nat.le_of_ble_eq_true rfl) hA30) ?_
        refine OEnds.adv hm_11 2 (pc' := 2) (L' := [.val (.ref 1), .val (.int v1), .val (.int (v2 + (1 : Int32))), .unset, .unset, .unset, .unset]) (S' := []) (H' := (c0 :: bk0 o_words o_mono o_pairI o_pairJ A30 o_n o_lastDist o_lastTie o_failCount po)) rfl ?_
        exact ih h
    · simp only [if_neg hc35] at h
      refine OEnds.icmpT hm_11 rfl (q := 39) rfl ((flt hc35).2.1) ?_
      refine OEnds.adv hm_11 2 (pc' := 41) (L' := [.val (.ref 1), .val (.int v1), .val (.int 0), .unset, .unset, .unset, .unset]) (S' := []) (H' := (c0 :: bk0 o_words o_mono o_pairI o_pairJ o_wht o_n o_lastDist o_lastTie o_failCount po)) rfl ?_
      exact hk41 h
theorem ok_transform {o_words : List Int32} {o_mono : List Int32} {o_pairI : List Int32} {o_pairJ : List Int32} {o_n : Int32} {o_lastDist : Int32} {o_lastTie : Int32} {o_failCount : Int32} {c0 : ACell} {po : List ACell} {o_wht : List Int32} {v1 : Int32} {w_o_wht : List Int32} (h : f_transform o_wht v1 = some w_o_wht) : OEnds own_P 11 0 [.val (.ref 1), .val (.int v1), .unset, .unset, .unset, .unset, .unset] [] (c0 :: bk0 o_words o_mono o_pairI o_pairJ o_wht o_n o_lastDist o_lastTie o_failCount po) (none, (c0 :: bk0 o_words o_mono o_pairI o_pairJ w_o_wht o_n o_lastDist o_lastTie o_failCount po), 0, 0) := by
  unfold f_transform at h
  refine OEnds.adv hm_11 2 (pc' := 2) (L' := [.val (.ref 1), .val (.int v1), .val (.int 0), .unset, .unset, .unset, .unset]) (S' := []) (H' := (c0 :: bk0 o_words o_mono o_pairI o_pairJ o_wht o_n o_lastDist o_lastTie o_failCount po)) rfl ?_
  exact ok_transform_2 (k41 := f_transform_41 100000) (ok_transform_41 100000) 100000 h
theorem ok_rule1Distance {o_words : List Int32} {o_mono : List Int32} {o_pairI : List Int32} {o_pairJ : List Int32} {o_wht : List Int32} {o_n : Int32} {o_lastDist : Int32} {o_lastTie : Int32} {o_failCount : Int32} {c0 : ACell} {po : List ACell} {v1 : Int32} {res : Int32} (h : f_rule1Distance o_wht v1 = some res) : OEnds own_P 12 0 [.val (.ref 1), .val (.int v1), .unset, .unset] [] (c0 :: bk0 o_words o_mono o_pairI o_pairJ o_wht o_n o_lastDist o_lastTie o_failCount po) (some (.int res), (c0 :: bk0 o_words o_mono o_pairI o_pairJ o_wht o_n o_lastDist o_lastTie o_failCount po), 0, 0) := by
  unfold f_rule1Distance at h
  refine OEnds.adv hm_12 9 (pc' := 12) (L' := [.val (.ref 1), .val (.int v1), .val (.int ((XT.ushr v1 (1 : Int32)) &&& (31 : Int32))), .unset]) (S' := [.int ((XT.ushr v1 (1 : Int32)) &&& (31 : Int32)), .ref 6]) (H' := (c0 :: bk0 o_words o_mono o_pairI o_pairJ o_wht o_n o_lastDist o_lastTie o_failCount po)) rfl ?_
  obtain ⟨x36, hx36, h⟩ := bnd h
  refine OEnds.plain hm_12 rfl rfl (x_iaload rfl hx36) ?_
  refine OEnds.adv hm_12 4 (pc' := 17) (L' := [.val (.ref 1), .val (.int v1), .val (.int ((XT.ushr v1 (1 : Int32)) &&& (31 : Int32))), .val (.int x36)]) (S' := [.int (v1 &&& (1 : Int32))]) (H' := (c0 :: bk0 o_words o_mono o_pairI o_pairJ o_wht o_n o_lastDist o_lastTie o_failCount po)) rfl ?_
  by_cases hc37 : (v1 &&& (1 : Int32)) = (0 : Int32)
  · simp only [if_pos hc37] at h
    refine OEnds.ifF hm_12 rfl ((teq hc37).2) ?_
    refine OEnds.adv hm_12 5 (pc' := 26) (L' := [.val (.ref 1), .val (.int v1), .val (.int ((XT.ushr v1 (1 : Int32)) &&& (31 : Int32))), .val (.int x36)]) (S' := [.int (((32 : Int32) - x36) >>> ((1 : Int32) &&& 31))]) (H' := (c0 :: bk0 o_words o_mono o_pairI o_pairJ o_wht o_n o_lastDist o_lastTie o_failCount po)) rfl ?_
    cases h
    exact OEnds.iret hm_12 rfl rfl
  · simp only [if_neg hc37] at h
    refine OEnds.ifT hm_12 rfl (q := 27) rfl ((feq hc37).2) ?_
    refine OEnds.adv hm_12 5 (pc' := 33) (L' := [.val (.ref 1), .val (.int v1), .val (.int ((XT.ushr v1 (1 : Int32)) &&& (31 : Int32))), .val (.int x36)]) (S' := [.int (((32 : Int32) + x36) >>> ((1 : Int32) &&& 31))]) (H' := (c0 :: bk0 o_words o_mono o_pairI o_pairJ o_wht o_n o_lastDist o_lastTie o_failCount po)) rfl ?_
    cases h
    exact OEnds.iret hm_12 rfl rfl
theorem ok_applyRule1_16 {o_words : List Int32} {o_mono : List Int32} {o_pairI : List Int32} {o_pairJ : List Int32} {o_n : Int32} {o_failCount : Int32} {c0 : ACell} {po : List ACell} : ∀ (n : Nat), ∀ {o_wht : List Int32} {o_lastDist : Int32} {o_lastTie : Int32} {v2 : Int32} {v3 : Int32} {v4 : Int32} {v5 : Int32} {d1 d6 : Slot} {res : Int32} {w_o_wht : List Int32} {w_o_lastDist : Int32} {w_o_lastTie : Int32}, f_applyRule1_16 n o_wht o_lastDist o_lastTie v2 v3 v4 v5 = some (res, w_o_wht, w_o_lastDist, w_o_lastTie) → OEnds own_P 10 16 [.val (.ref 1), d1, .val (.int v2), .val (.int v3), .val (.int v4), .val (.int v5), d6] [] (c0 :: bk0 o_words o_mono o_pairI o_pairJ o_wht o_n o_lastDist o_lastTie o_failCount po) (some (.int res), (c0 :: bk0 o_words o_mono o_pairI o_pairJ w_o_wht o_n w_o_lastDist w_o_lastTie o_failCount po), 0, 0) := by
  intro n
  induction n with
  | zero => intro o_wht o_lastDist o_lastTie v2 v3 v4 v5 d1 d6 res w_o_wht w_o_lastDist w_o_lastTie h; cases h
  | succ n ih =>
    intro o_wht o_lastDist o_lastTie v2 v3 v4 v5 d1 d6 res w_o_wht w_o_lastDist w_o_lastTie h
    unfold f_applyRule1_16 at h
    refine OEnds.adv hm_10 2 (pc' := 20) (L' := [.val (.ref 1), .unset, .val (.int v2), .val (.int v3), .val (.int v4), .val (.int v5), .unset]) (S' := [.int 64, .int v5]) (H' := (c0 :: bk0 o_words o_mono o_pairI o_pairJ o_wht o_n o_lastDist o_lastTie o_failCount po)) rfl ?_
    by_cases hc38 : v5 < (64 : Int32)
    · simp only [if_pos hc38] at h
      refine OEnds.icmpF hm_10 rfl ((tlt hc38).2.1) ?_
      refine OEnds.adv hm_10 2 (pc' := 26) (L' := [.val (.ref 1), .unset, .val (.int v2), .val (.int v3), .val (.int v4), .val (.int v5), .unset]) (S' := [.int v5, .ref 1]) (H' := (c0 :: bk0 o_words o_mono o_pairI o_pairJ o_wht o_n o_lastDist o_lastTie o_failCount po)) rfl ?_
      obtain ⟨r38, hq39, h⟩ := bnd h
      refine OEnds.call0 hm_10 rfl rfl (by decide) rfl (as := [.ref 1, .int v5]) (rest := []) rfl rfl (ok_rule1Distance hq39) ?_
      refine OEnds.adv hm_10 3 (pc' := 34) (L' := [.val (.ref 1), .unset, .val (.int v2), .val (.int v3), .val (.int v4), .val (.int v5), .val (.int r38)]) (S' := [.int v3, .int r38]) (H' := (c0 :: bk0 o_words o_mono o_pairI o_pairJ o_wht o_n o_lastDist o_lastTie o_failCount po)) rfl ?_
      by_cases hc40 : r38 < v3
      · simp only [if_pos hc40] at h
        refine OEnds.icmpF hm_10 rfl ((tlt hc40).2.1) ?_
        refine OEnds.adv hm_10 9 (pc' := 16) (L' := [.val (.ref 1), .unset, .val (.int v5), .val (.int r38), .val (.int 1), .val (.int (v5 + (1 : Int32))), .val (.int r38)]) (S' := []) (H' := (c0 :: bk0 o_words o_mono o_pairI o_pairJ o_wht o_n o_lastDist o_lastTie o_failCount po)) rfl ?_
        exact ih h
      · simp only [if_neg hc40] at h
        refine OEnds.icmpT hm_10 rfl (q := 49) rfl ((flt hc40).2.1) ?_
        refine OEnds.adv hm_10 2 (pc' := 52) (L' := [.val (.ref 1), .unset, .val (.int v2), .val (.int v3), .val (.int v4), .val (.int v5), .val (.int r38)]) (S' := [.int v3, .int r38]) (H' := (c0 :: bk0 o_words o_mono o_pairI o_pairJ o_wht o_n o_lastDist o_lastTie o_failCount po)) rfl ?_
        by_cases hc41 : r38 = v3
        · simp only [if_pos hc41] at h
          refine OEnds.icmpF hm_10 rfl ((teq hc41).2) ?_
          refine OEnds.adv hm_10 3 (pc' := 16) (L' := [.val (.ref 1), .unset, .val (.int v2), .val (.int v3), .val (.int (v4 + (1 : Int32))), .val (.int (v5 + (1 : Int32))), .val (.int r38)]) (S' := []) (H' := (c0 :: bk0 o_words o_mono o_pairI o_pairJ o_wht o_n o_lastDist o_lastTie o_failCount po)) rfl ?_
          exact ih h
        · simp only [if_neg hc41] at h
          refine OEnds.icmpT hm_10 rfl (q := 58) rfl ((feq hc41).2) ?_
          refine OEnds.adv hm_10 2 (pc' := 16) (L' := [.val (.ref 1), .unset, .val (.int v2), .val (.int v3), .val (.int v4), .val (.int (v5 + (1 : Int32))), .val (.int r38)]) (S' := []) (H' := (c0 :: bk0 o_words o_mono o_pairI o_pairJ o_wht o_n o_lastDist o_lastTie o_failCount po)) rfl ?_
          exact ih h
    · simp only [if_neg hc38] at h
      refine OEnds.icmpT hm_10 rfl (q := 64) rfl ((flt hc38).2.1) ?_
      refine OEnds.adv hm_10 7 (pc' := 76) (L' := [.val (.ref 1), .unset, .val (.int v2), .val (.int v3), .val (.int v4), .val (.int v5), .unset]) (S' := [.int v2]) (H' := (c0 :: bk0 o_words o_mono o_pairI o_pairJ o_wht o_n v3 v4 o_failCount po)) rfl ?_
      cases h
      exact OEnds.iret hm_10 rfl rfl
theorem ok_applyRule1 {o_words : List Int32} {o_mono : List Int32} {o_pairI : List Int32} {o_pairJ : List Int32} {o_n : Int32} {o_failCount : Int32} {c0 : ACell} {po : List ACell} {o_wht : List Int32} {o_lastDist : Int32} {o_lastTie : Int32} {v1 : Int32} {res : Int32} {w_o_wht : List Int32} {w_o_lastDist : Int32} {w_o_lastTie : Int32} (h : f_applyRule1 o_wht o_lastDist o_lastTie v1 = some (res, w_o_wht, w_o_lastDist, w_o_lastTie)) : OEnds own_P 10 0 [.val (.ref 1), .val (.int v1), .unset, .unset, .unset, .unset, .unset] [] (c0 :: bk0 o_words o_mono o_pairI o_pairJ o_wht o_n o_lastDist o_lastTie o_failCount po) (some (.int res), (c0 :: bk0 o_words o_mono o_pairI o_pairJ w_o_wht o_n w_o_lastDist w_o_lastTie o_failCount po), 0, 0) := by
  unfold f_applyRule1 at h
  refine OEnds.adv hm_10 2 (pc' := 2) (L' := [.val (.ref 1), .val (.int v1), .unset, .unset, .unset, .unset, .unset]) (S' := [.int v1, .ref 1]) (H' := (c0 :: bk0 o_words o_mono o_pairI o_pairJ o_wht o_n o_lastDist o_lastTie o_failCount po)) rfl ?_
  obtain ⟨s37, hq42, h⟩ := bnd h
  refine OEnds.call0 hm_10 rfl rfl (by decide) rfl (as := [.ref 1, .int v1]) (rest := []) rfl rfl (ok_transform hq42) ?_
  refine OEnds.adv hm_10 8 (pc' := 16) (L' := [.val (.ref 1), .val (.int v1), .val (.int 0), .val (.int 33), .val (.int 0), .val (.int 0), .unset]) (S' := []) (H' := (c0 :: bk0 o_words o_mono o_pairI o_pairJ s37 o_n o_lastDist o_lastTie o_failCount po)) rfl ?_
  exact ok_applyRule1_16 100000 h
theorem ok_swap {o_words : List Int32} {o_mono : List Int32} {o_pairI : List Int32} {o_pairJ : List Int32} {o_wht : List Int32} {o_n : Int32} {o_lastDist : Int32} {o_lastTie : Int32} {o_failCount : Int32} {c0 : ACell} {po : List ACell} {v1 : Int32} {v2 : Int32} {res : Int32} (h : f_swap o_mono v1 v2 = some res) : OEnds own_P 24 0 [.val (.ref 1), .val (.int v1), .val (.int v2), .unset, .unset] [] (c0 :: bk0 o_words o_mono o_pairI o_pairJ o_wht o_n o_lastDist o_lastTie o_failCount po) (some (.int res), (c0 :: bk0 o_words o_mono o_pairI o_pairJ o_wht o_n o_lastDist o_lastTie o_failCount po), 0, 0) := by
  unfold f_swap at h
  refine OEnds.adv hm_24 1 (pc' := 1) (L' := [.val (.ref 1), .val (.int v1), .val (.int v2), .unset, .unset]) (S' := [.int v2]) (H' := (c0 :: bk0 o_words o_mono o_pairI o_pairJ o_wht o_n o_lastDist o_lastTie o_failCount po)) rfl ?_
  by_cases hc43 : v2 < (0 : Int32)
  · simp only [if_pos hc43] at h
    refine OEnds.ifT hm_24 rfl (q := 9) rfl ((tlt hc43).1) ?_
    refine OEnds.adv hm_24 1 (pc' := 10) (L' := [.val (.ref 1), .val (.int v1), .val (.int v2), .unset, .unset]) (S' := [.int v1]) (H' := (c0 :: bk0 o_words o_mono o_pairI o_pairJ o_wht o_n o_lastDist o_lastTie o_failCount po)) rfl ?_
    cases h
    exact OEnds.iret hm_24 rfl rfl
  · simp only [if_neg hc43] at h
    refine OEnds.ifF hm_24 rfl ((flt hc43).1) ?_
    refine OEnds.adv hm_24 2 (pc' := 6) (L' := [.val (.ref 1), .val (.int v1), .val (.int v2), .unset, .unset]) (S' := [.int 4, .int v2]) (H' := (c0 :: bk0 o_words o_mono o_pairI o_pairJ o_wht o_n o_lastDist o_lastTie o_failCount po)) rfl ?_
    by_cases hc44 : (4 : Int32) < v2
    · simp only [if_pos hc44] at h
      refine OEnds.icmpF hm_24 rfl ((tlt hc44).2.2.2) ?_
      refine OEnds.adv hm_24 1 (pc' := 10) (L' := [.val (.ref 1), .val (.int v1), .val (.int v2), .unset, .unset]) (S' := [.int v1]) (H' := (c0 :: bk0 o_words o_mono o_pairI o_pairJ o_wht o_n o_lastDist o_lastTie o_failCount po)) rfl ?_
      cases h
      exact OEnds.iret hm_24 rfl rfl
    · simp only [if_neg hc44] at h
      refine OEnds.icmpT hm_24 rfl (q := 11) rfl ((flt hc44).2.2.2) ?_
      refine OEnds.adv hm_24 9 (pc' := 22) (L' := [.val (.ref 1), .val (.int v1), .val (.int v2), .val (.int ((1 : Int32) <<< (v2 &&& 31))), .unset]) (S' := [.int ((1 : Int32) + v2), .ref 3]) (H' := (c0 :: bk0 o_words o_mono o_pairI o_pairJ o_wht o_n o_lastDist o_lastTie o_failCount po)) rfl ?_
      obtain ⟨x39, hx39, h⟩ := bnd h
      refine OEnds.plain hm_24 rfl rfl (x_iaload rfl hx39) ?_
      refine OEnds.adv hm_24 14 (pc' := 40) (L' := [.val (.ref 1), .val (.int v1), .val (.int v2), .val (.int ((1 : Int32) <<< (v2 &&& 31))), .val (.int (x39 ^^^ (-1 : Int32)))]) (S' := [.int (((v1 &&& (x39 ^^^ (-1 : Int32))) <<< (((1 : Int32) <<< (v2 &&& 31)) &&& 31)) ||| ((XT.ushr v1 ((1 : Int32) <<< (v2 &&& 31))) &&& (x39 ^^^ (-1 : Int32))))]) (H' := (c0 :: bk0 o_words o_mono o_pairI o_pairJ o_wht o_n o_lastDist o_lastTie o_failCount po)) rfl ?_
      cases h
      exact OEnds.iret hm_24 rfl rfl
theorem ok_popcount {o_words : List Int32} {o_mono : List Int32} {o_pairI : List Int32} {o_pairJ : List Int32} {o_wht : List Int32} {o_n : Int32} {o_lastDist : Int32} {o_lastTie : Int32} {o_failCount : Int32} {c0 : ACell} {po : List ACell} {v1 : Int32} {res : Int32} (h : f_popcount v1 = some res) : OEnds own_P 25 0 [.val (.ref 1), .val (.int v1), .unset] [] (c0 :: bk0 o_words o_mono o_pairI o_pairJ o_wht o_n o_lastDist o_lastTie o_failCount po) (some (.int res), (c0 :: bk0 o_words o_mono o_pairI o_pairJ o_wht o_n o_lastDist o_lastTie o_failCount po), 0, 0) := by
  unfold f_popcount at h
  refine OEnds.adv hm_25 31 (pc' := 37) (L' := [.val (.ref 1), .val (.int v1), .val (.int (((((v1 - ((XT.ushr v1 (1 : Int32)) &&& (1431655765 : Int32))) &&& (858993459 : Int32)) + ((XT.ushr (v1 - ((XT.ushr v1 (1 : Int32)) &&& (1431655765 : Int32))) (2 : Int32)) &&& (858993459 : Int32))) + (XT.ushr (((v1 - ((XT.ushr v1 (1 : Int32)) &&& (1431655765 : Int32))) &&& (858993459 : Int32)) + ((XT.ushr (v1 - ((XT.ushr v1 (1 : Int32)) &&& (1431655765 : Int32))) (2 : Int32)) &&& (858993459 : Int32))) (4 : Int32))) &&& (252645135 : Int32)))]) (S' := [.int (XT.ushr ((((((v1 - ((XT.ushr v1 (1 : Int32)) &&& (1431655765 : Int32))) &&& (858993459 : Int32)) + ((XT.ushr (v1 - ((XT.ushr v1 (1 : Int32)) &&& (1431655765 : Int32))) (2 : Int32)) &&& (858993459 : Int32))) + (XT.ushr (((v1 - ((XT.ushr v1 (1 : Int32)) &&& (1431655765 : Int32))) &&& (858993459 : Int32)) + ((XT.ushr (v1 - ((XT.ushr v1 (1 : Int32)) &&& (1431655765 : Int32))) (2 : Int32)) &&& (858993459 : Int32))) (4 : Int32))) &&& (252645135 : Int32)) * (16843009 : Int32)) (24 : Int32))]) (H' := (c0 :: bk0 o_words o_mono o_pairI o_pairJ o_wht o_n o_lastDist o_lastTie o_failCount po)) rfl ?_
  cases h
  exact OEnds.iret hm_25 rfl rfl
theorem ok_quadraticVote {o_words : List Int32} {o_mono : List Int32} {o_pairI : List Int32} {o_pairJ : List Int32} {o_wht : List Int32} {o_n : Int32} {o_lastDist : Int32} {o_lastTie : Int32} {o_failCount : Int32} {c0 : ACell} {po : List ACell} {v1 : Int32} {v2 : Int32} {v3 : Int32} {res : Int32} (h : f_quadraticVote o_mono v1 v2 v3 = some res) : OEnds own_P 23 0 [.val (.ref 1), .val (.int v1), .val (.int v2), .val (.int v3), .unset, .unset, .unset, .unset] [] (c0 :: bk0 o_words o_mono o_pairI o_pairJ o_wht o_n o_lastDist o_lastTie o_failCount po) (some (.int res), (c0 :: bk0 o_words o_mono o_pairI o_pairJ o_wht o_n o_lastDist o_lastTie o_failCount po), 0, 0) := by
  unfold f_quadraticVote at h
  refine OEnds.adv hm_23 3 (pc' := 3) (L' := [.val (.ref 1), .val (.int v1), .val (.int v2), .val (.int v3), .unset, .unset, .unset, .unset]) (S' := [.int v2, .int v1, .ref 1]) (H' := (c0 :: bk0 o_words o_mono o_pairI o_pairJ o_wht o_n o_lastDist o_lastTie o_failCount po)) rfl ?_
  obtain ⟨r40, hq45, h⟩ := bnd h
  refine OEnds.call0 hm_23 rfl rfl (by decide) rfl (as := [.ref 1, .int v1, .int v2]) (rest := []) rfl rfl (ok_swap hq45) ?_
  refine OEnds.adv hm_23 4 (pc' := 11) (L' := [.val (.ref 1), .val (.int v1), .val (.int v2), .val (.int v3), .val (.int r40), .unset, .unset, .unset]) (S' := [.int v3, .int v1, .ref 1]) (H' := (c0 :: bk0 o_words o_mono o_pairI o_pairJ o_wht o_n o_lastDist o_lastTie o_failCount po)) rfl ?_
  obtain ⟨r41, hq46, h⟩ := bnd h
  refine OEnds.call0 hm_23 rfl rfl (by decide) rfl (as := [.ref 1, .int v1, .int v3]) (rest := []) rfl rfl (ok_swap hq46) ?_
  refine OEnds.adv hm_23 4 (pc' := 20) (L' := [.val (.ref 1), .val (.int v1), .val (.int v2), .val (.int v3), .val (.int r40), .val (.int r41), .unset, .unset]) (S' := [.int v2, .int r41, .ref 1]) (H' := (c0 :: bk0 o_words o_mono o_pairI o_pairJ o_wht o_n o_lastDist o_lastTie o_failCount po)) rfl ?_
  obtain ⟨r42, hq47, h⟩ := bnd h
  refine OEnds.call0 hm_23 rfl rfl (by decide) rfl (as := [.ref 1, .int r41, .int v2]) (rest := []) rfl rfl (ok_swap hq47) ?_
  refine OEnds.adv hm_23 11 (pc' := 40) (L' := [.val (.ref 1), .val (.int v1), .val (.int v2), .val (.int v3), .val (.int r40), .val (.int r41), .val (.int r42), .val (.int (((v1 ^^^ r40) ^^^ r41) ^^^ r42))]) (S' := [.int (((v1 ^^^ r40) ^^^ r41) ^^^ r42), .ref 1]) (H' := (c0 :: bk0 o_words o_mono o_pairI o_pairJ o_wht o_n o_lastDist o_lastTie o_failCount po)) rfl ?_
  obtain ⟨r43, hq48, h⟩ := bnd h
  refine OEnds.call0 hm_23 rfl rfl (by decide) rfl (as := [.ref 1, .int (((v1 ^^^ r40) ^^^ r41) ^^^ r42)]) (rest := []) rfl rfl (ok_popcount hq48) ?_
  refine OEnds.adv hm_23 1 (pc' := 45) (L' := [.val (.ref 1), .val (.int v1), .val (.int v2), .val (.int v3), .val (.int r40), .val (.int r41), .val (.int r42), .val (.int (((v1 ^^^ r40) ^^^ r41) ^^^ r42))]) (S' := [.int 16, .int r43]) (H' := (c0 :: bk0 o_words o_mono o_pairI o_pairJ o_wht o_n o_lastDist o_lastTie o_failCount po)) rfl ?_
  by_cases hc49 : (16 : Int32) < r43
  · simp only [if_pos hc49] at h
    refine OEnds.icmpF hm_23 rfl ((tlt hc49).2.2.2) ?_
    refine OEnds.adv hm_23 2 (pc' := 53) (L' := [.val (.ref 1), .val (.int v1), .val (.int v2), .val (.int v3), .val (.int r40), .val (.int r41), .val (.int r42), .val (.int (((v1 ^^^ r40) ^^^ r41) ^^^ r42))]) (S' := [.int 1]) (H' := (c0 :: bk0 o_words o_mono o_pairI o_pairJ o_wht o_n o_lastDist o_lastTie o_failCount po)) rfl ?_
    cases h
    exact OEnds.iret hm_23 rfl rfl
  · simp only [if_neg hc49] at h
    refine OEnds.icmpT hm_23 rfl (q := 52) rfl ((flt hc49).2.2.2) ?_
    refine OEnds.adv hm_23 1 (pc' := 53) (L' := [.val (.ref 1), .val (.int v1), .val (.int v2), .val (.int v3), .val (.int r40), .val (.int r41), .val (.int r42), .val (.int (((v1 ^^^ r40) ^^^ r41) ^^^ r42))]) (S' := [.int 0]) (H' := (c0 :: bk0 o_words o_mono o_pairI o_pairJ o_wht o_n o_lastDist o_lastTie o_failCount po)) rfl ?_
    cases h
    exact OEnds.iret hm_23 rfl rfl
theorem ok_linearPart_4 {o_words : List Int32} {o_mono : List Int32} {o_pairI : List Int32} {o_pairJ : List Int32} {o_wht : List Int32} {o_n : Int32} {o_lastDist : Int32} {o_lastTie : Int32} {o_failCount : Int32} {c0 : ACell} {po : List ACell} : ∀ (n : Nat), ∀ {v1 : Int32} {v2 : Int32} {v3 : Int32} {d4 : Slot} {res : Int32}, f_linearPart_4 o_mono n v1 v2 v3 = some res → OEnds own_P 26 4 [.val (.ref 1), .val (.int v1), .val (.int v2), .val (.int v3), d4] [] (c0 :: bk0 o_words o_mono o_pairI o_pairJ o_wht o_n o_lastDist o_lastTie o_failCount po) (some (.int res), (c0 :: bk0 o_words o_mono o_pairI o_pairJ o_wht o_n o_lastDist o_lastTie o_failCount po), 0, 0) := by
  intro n
  induction n with
  | zero => intro v1 v2 v3 d4 res h; cases h
  | succ n ih =>
    intro v1 v2 v3 d4 res h
    unfold f_linearPart_4 at h
    refine OEnds.adv hm_26 2 (pc' := 6) (L' := [.val (.ref 1), .val (.int v1), .val (.int v2), .val (.int v3), .unset]) (S' := [.int 5, .int v3]) (H' := (c0 :: bk0 o_words o_mono o_pairI o_pairJ o_wht o_n o_lastDist o_lastTie o_failCount po)) rfl ?_
    by_cases hc50 : v3 < (5 : Int32)
    · simp only [if_pos hc50] at h
      refine OEnds.icmpF hm_26 rfl ((tlt hc50).2.1) ?_
      refine OEnds.adv hm_26 3 (pc' := 12) (L' := [.val (.ref 1), .val (.int v1), .val (.int v2), .val (.int v3), .unset]) (S' := [.int v3, .int v1, .ref 1]) (H' := (c0 :: bk0 o_words o_mono o_pairI o_pairJ o_wht o_n o_lastDist o_lastTie o_failCount po)) rfl ?_
      obtain ⟨r44, hq51, h⟩ := bnd h
      refine OEnds.call0 hm_26 rfl rfl (by decide) rfl (as := [.ref 1, .int v1, .int v3]) (rest := []) rfl rfl (ok_swap hq51) ?_
      refine OEnds.adv hm_26 5 (pc' := 22) (L' := [.val (.ref 1), .val (.int v1), .val (.int v2), .val (.int v3), .val (.int r44)]) (S' := [.int (v1 ^^^ r44), .ref 1]) (H' := (c0 :: bk0 o_words o_mono o_pairI o_pairJ o_wht o_n o_lastDist o_lastTie o_failCount po)) rfl ?_
      obtain ⟨r45, hq52, h⟩ := bnd h
      refine OEnds.call0 hm_26 rfl rfl (by decide) rfl (as := [.ref 1, .int (v1 ^^^ r44)]) (rest := []) rfl rfl (ok_popcount hq52) ?_
      refine OEnds.adv hm_26 1 (pc' := 27) (L' := [.val (.ref 1), .val (.int v1), .val (.int v2), .val (.int v3), .val (.int r44)]) (S' := [.int 16, .int r45]) (H' := (c0 :: bk0 o_words o_mono o_pairI o_pairJ o_wht o_n o_lastDist o_lastTie o_failCount po)) rfl ?_
      by_cases hc53 : (16 : Int32) < r45
      · simp only [if_pos hc53] at h
        refine OEnds.icmpF hm_26 rfl ((tlt hc53).2.2.2) ?_
        refine OEnds.adv hm_26 8 (pc' := 4) (L' := [.val (.ref 1), .val (.int v1), .val (.int (v2 ||| ((1 : Int32) <<< (v3 &&& 31)))), .val (.int (v3 + (1 : Int32))), .val (.int r44)]) (S' := []) (H' := (c0 :: bk0 o_words o_mono o_pairI o_pairJ o_wht o_n o_lastDist o_lastTie o_failCount po)) rfl ?_
        exact ih h
      · simp only [if_neg hc53] at h
        refine OEnds.icmpT hm_26 rfl (q := 36) rfl ((flt hc53).2.2.2) ?_
        refine OEnds.adv hm_26 2 (pc' := 4) (L' := [.val (.ref 1), .val (.int v1), .val (.int v2), .val (.int (v3 + (1 : Int32))), .val (.int r44)]) (S' := []) (H' := (c0 :: bk0 o_words o_mono o_pairI o_pairJ o_wht o_n o_lastDist o_lastTie o_failCount po)) rfl ?_
        exact ih h
    · simp only [if_neg hc50] at h
      refine OEnds.icmpT hm_26 rfl (q := 42) rfl ((flt hc50).2.1) ?_
      refine OEnds.adv hm_26 1 (pc' := 43) (L' := [.val (.ref 1), .val (.int v1), .val (.int v2), .val (.int v3), .unset]) (S' := [.int v2]) (H' := (c0 :: bk0 o_words o_mono o_pairI o_pairJ o_wht o_n o_lastDist o_lastTie o_failCount po)) rfl ?_
      cases h
      exact OEnds.iret hm_26 rfl rfl
theorem ok_linearPart {o_words : List Int32} {o_mono : List Int32} {o_pairI : List Int32} {o_pairJ : List Int32} {o_wht : List Int32} {o_n : Int32} {o_lastDist : Int32} {o_lastTie : Int32} {o_failCount : Int32} {c0 : ACell} {po : List ACell} {v1 : Int32} {res : Int32} (h : f_linearPart o_mono v1 = some res) : OEnds own_P 26 0 [.val (.ref 1), .val (.int v1), .unset, .unset, .unset] [] (c0 :: bk0 o_words o_mono o_pairI o_pairJ o_wht o_n o_lastDist o_lastTie o_failCount po) (some (.int res), (c0 :: bk0 o_words o_mono o_pairI o_pairJ o_wht o_n o_lastDist o_lastTie o_failCount po), 0, 0) := by
  unfold f_linearPart at h
  refine OEnds.adv hm_26 4 (pc' := 4) (L' := [.val (.ref 1), .val (.int v1), .val (.int 0), .val (.int 0), .unset]) (S' := []) (H' := (c0 :: bk0 o_words o_mono o_pairI o_pairJ o_wht o_n o_lastDist o_lastTie o_failCount po)) rfl ?_
  exact ok_linearPart_4 100000 h
theorem ok_reedDecode_60 {o_words : List Int32} {o_mono : List Int32} {o_pairI : List Int32} {o_pairJ : List Int32} {o_wht : List Int32} {o_n : Int32} {o_lastDist : Int32} {o_lastTie : Int32} {o_failCount : Int32} {c0 : ACell} {po : List ACell} : ∀ {v1 : Int32} {v2 : Int32} {v3 : Int32} {d4 d5 d6 : Slot} {res : Int32}, f_reedDecode_60 o_mono o_pairI o_pairJ v1 v2 v3 = some res → OEnds own_P 22 60 [.val (.ref 1), .val (.int v1), .val (.int v2), .val (.int v3), d4, d5, d6] [] (c0 :: bk0 o_words o_mono o_pairI o_pairJ o_wht o_n o_lastDist o_lastTie o_failCount po) (some (.int res), (c0 :: bk0 o_words o_mono o_pairI o_pairJ o_wht o_n o_lastDist o_lastTie o_failCount po), 0, 0) := by
  intro v1 v2 v3 d4 d5 d6 res h
  unfold f_reedDecode_60 at h
  refine OEnds.adv hm_22 6 (pc' := 68) (L' := [.val (.ref 1), .val (.int v1), .val (.int v2), .val (.int v3), .val (.int (v1 ^^^ v3)), .unset, .unset]) (S' := [.int (v1 ^^^ v3), .ref 1]) (H' := (c0 :: bk0 o_words o_mono o_pairI o_pairJ o_wht o_n o_lastDist o_lastTie o_failCount po)) rfl ?_
  obtain ⟨r50, hq54, h⟩ := bnd h
  refine OEnds.call0 hm_22 rfl rfl (by decide) rfl (as := [.ref 1, .int (v1 ^^^ v3)]) (rest := []) rfl rfl (ok_linearPart hq54) ?_
  refine OEnds.adv hm_22 12 (pc' := 87) (L' := [.val (.ref 1), .val (.int v1), .val (.int (v2 ||| (r50 <<< ((1 : Int32) &&& 31)))), .val (.int v3), .val (.int (v1 ^^^ v3)), .val (.int r50), .unset]) (S' := [.int 6, .int (r50 <<< ((1 : Int32) &&& 31)), .ref 1]) (H' := (c0 :: bk0 o_words o_mono o_pairI o_pairJ o_wht o_n o_lastDist o_lastTie o_failCount po)) rfl ?_
  obtain ⟨r51, hq55, h⟩ := bnd h
  refine OEnds.call0 hm_22 rfl rfl (by decide) rfl (as := [.ref 1, .int (r50 <<< ((1 : Int32) &&& 31)), .int 6]) (rest := []) rfl rfl (ok_encodeBits hq55) ?_
  refine OEnds.adv hm_22 7 (pc' := 102) (L' := [.val (.ref 1), .val (.int v1), .val (.int (v2 ||| (r50 <<< ((1 : Int32) &&& 31)))), .val (.int v3), .val (.int ((v1 ^^^ v3) ^^^ r51)), .val (.int r50), .val (.int r51)]) (S' := [.int ((v1 ^^^ v3) ^^^ r51), .ref 1]) (H' := (c0 :: bk0 o_words o_mono o_pairI o_pairJ o_wht o_n o_lastDist o_lastTie o_failCount po)) rfl ?_
  obtain ⟨r52, hq56, h⟩ := bnd h
  refine OEnds.call0 hm_22 rfl rfl (by decide) rfl (as := [.ref 1, .int ((v1 ^^^ v3) ^^^ r51)]) (rest := []) rfl rfl (ok_popcount hq56) ?_
  refine OEnds.adv hm_22 1 (pc' := 107) (L' := [.val (.ref 1), .val (.int v1), .val (.int (v2 ||| (r50 <<< ((1 : Int32) &&& 31)))), .val (.int v3), .val (.int ((v1 ^^^ v3) ^^^ r51)), .val (.int r50), .val (.int r51)]) (S' := [.int 16, .int r52]) (H' := (c0 :: bk0 o_words o_mono o_pairI o_pairJ o_wht o_n o_lastDist o_lastTie o_failCount po)) rfl ?_
  by_cases hc57 : (16 : Int32) < r52
  · simp only [if_pos hc57] at h
    refine OEnds.icmpF hm_22 rfl ((tlt hc57).2.2.2) ?_
    refine OEnds.adv hm_22 5 (pc' := 115) (L' := [.val (.ref 1), .val (.int v1), .val (.int ((v2 ||| (r50 <<< ((1 : Int32) &&& 31))) ||| (1 : Int32))), .val (.int v3), .val (.int ((v1 ^^^ v3) ^^^ r51)), .val (.int r50), .val (.int r51)]) (S' := [.int ((v2 ||| (r50 <<< ((1 : Int32) &&& 31))) ||| (1 : Int32))]) (H' := (c0 :: bk0 o_words o_mono o_pairI o_pairJ o_wht o_n o_lastDist o_lastTie o_failCount po)) rfl ?_
    cases h
    exact OEnds.iret hm_22 rfl rfl
  · simp only [if_neg hc57] at h
    refine OEnds.icmpT hm_22 rfl (q := 114) rfl ((flt hc57).2.2.2) ?_
    refine OEnds.adv hm_22 1 (pc' := 115) (L' := [.val (.ref 1), .val (.int v1), .val (.int (v2 ||| (r50 <<< ((1 : Int32) &&& 31)))), .val (.int v3), .val (.int ((v1 ^^^ v3) ^^^ r51)), .val (.int r50), .val (.int r51)]) (S' := [.int (v2 ||| (r50 <<< ((1 : Int32) &&& 31)))]) (H' := (c0 :: bk0 o_words o_mono o_pairI o_pairJ o_wht o_n o_lastDist o_lastTie o_failCount po)) rfl ?_
    cases h
    exact OEnds.iret hm_22 rfl rfl
theorem ok_reedDecode_8 {o_words : List Int32} {o_mono : List Int32} {o_pairI : List Int32} {o_pairJ : List Int32} {o_wht : List Int32} {o_n : Int32} {o_lastDist : Int32} {o_lastTie : Int32} {o_failCount : Int32} {c0 : ACell} {po : List ACell} {k60 : Int32 → Int32 → Int32 → Option (Int32)} (hk60 : ∀ {v1 : Int32} {v2 : Int32} {v3 : Int32} {d4 d5 d6 : Slot} {res : Int32}, k60 v1 v2 v3 = some res → OEnds own_P 22 60 [.val (.ref 1), .val (.int v1), .val (.int v2), .val (.int v3), d4, d5, d6] [] (c0 :: bk0 o_words o_mono o_pairI o_pairJ o_wht o_n o_lastDist o_lastTie o_failCount po) (some (.int res), (c0 :: bk0 o_words o_mono o_pairI o_pairJ o_wht o_n o_lastDist o_lastTie o_failCount po), 0, 0)) : ∀ (n : Nat), ∀ {v1 : Int32} {v2 : Int32} {v3 : Int32} {v4 : Int32} {d5 d6 : Slot} {res : Int32}, f_reedDecode_8 k60 o_mono o_pairI o_pairJ n v1 v2 v3 v4 = some res → OEnds own_P 22 8 [.val (.ref 1), .val (.int v1), .val (.int v2), .val (.int v3), .val (.int v4), d5, d6] [] (c0 :: bk0 o_words o_mono o_pairI o_pairJ o_wht o_n o_lastDist o_lastTie o_failCount po) (some (.int res), (c0 :: bk0 o_words o_mono o_pairI o_pairJ o_wht o_n o_lastDist o_lastTie o_failCount po), 0, 0) := by
  intro n
  induction n with
  | zero => intro v1 v2 v3 v4 d5 d6 res h; cases h
  | succ n ih =>
    intro v1 v2 v3 v4 d5 d6 res h
    unfold f_reedDecode_8 at h
    refine OEnds.adv hm_22 2 (pc' := 12) (L' := [.val (.ref 1), .val (.int v1), .val (.int v2), .val (.int v3), .val (.int v4), .unset, .unset]) (S' := [.int 16, .int v4]) (H' := (c0 :: bk0 o_words o_mono o_pairI o_pairJ o_wht o_n o_lastDist o_lastTie o_failCount po)) rfl ?_
    by_cases hc58 : v4 < (16 : Int32)
    · simp only [if_pos hc58] at h
      refine OEnds.icmpF hm_22 rfl ((tlt hc58).2.1) ?_
      refine OEnds.adv hm_22 5 (pc' := 23) (L' := [.val (.ref 1), .val (.int v1), .val (.int v2), .val (.int v3), .val (.int v4), .unset, .unset]) (S' := [.int v4, .ref 4, .int v1, .ref 1]) (H' := (c0 :: bk0 o_words o_mono o_pairI o_pairJ o_wht o_n o_lastDist o_lastTie o_failCount po)) rfl ?_
      obtain ⟨x46, hx46, h⟩ := bnd h
      refine OEnds.plain hm_22 rfl rfl (x_iaload rfl hx46) ?_
      refine OEnds.adv hm_22 3 (pc' := 30) (L' := [.val (.ref 1), .val (.int v1), .val (.int v2), .val (.int v3), .val (.int v4), .unset, .unset]) (S' := [.int v4, .ref 5, .int x46, .int v1, .ref 1]) (H' := (c0 :: bk0 o_words o_mono o_pairI o_pairJ o_wht o_n o_lastDist o_lastTie o_failCount po)) rfl ?_
      obtain ⟨x47, hx47, h⟩ := bnd h
      refine OEnds.plain hm_22 rfl rfl (x_iaload rfl hx47) ?_
      show OEnds own_P 22 31 [.val (.ref 1), .val (.int v1), .val (.int v2), .val (.int v3), .val (.int v4), .unset, .unset] [.int x47, .int x46, .int v1, .ref 1] (c0 :: bk0 o_words o_mono o_pairI o_pairJ o_wht o_n o_lastDist o_lastTie o_failCount po) _
      obtain ⟨r48, hq59, h⟩ := bnd h
      refine OEnds.call0 hm_22 rfl rfl (by decide) rfl (as := [.ref 1, .int v1, .int x46, .int x47]) (rest := []) rfl rfl (ok_quadraticVote hq59) ?_
      show OEnds own_P 22 34 [.val (.ref 1), .val (.int v1), .val (.int v2), .val (.int v3), .val (.int v4), .unset, .unset] [.int r48] (c0 :: bk0 o_words o_mono o_pairI o_pairJ o_wht o_n o_lastDist o_lastTie o_failCount po) _
      by_cases hc60 : r48 = (0 : Int32)
      · simp only [if_pos hc60] at h
        refine OEnds.ifT hm_22 rfl (q := 54) rfl ((teq hc60).1) ?_
        refine OEnds.adv hm_22 2 (pc' := 8) (L' := [.val (.ref 1), .val (.int v1), .val (.int v2), .val (.int v3), .val (.int (v4 + (1 : Int32))), .unset, .unset]) (S' := []) (H' := (c0 :: bk0 o_words o_mono o_pairI o_pairJ o_wht o_n o_lastDist o_lastTie o_failCount po)) rfl ?_
        exact ih h
      · simp only [if_neg hc60] at h
        refine OEnds.ifF hm_22 rfl ((feq hc60).1) ?_
        refine OEnds.adv hm_22 10 (pc' := 51) (L' := [.val (.ref 1), .val (.int v1), .val (.int (v2 ||| ((1 : Int32) <<< (v4 &&& 31)))), .val (.int v3), .val (.int v4), .unset, .unset]) (S' := [.int v4, .ref 3, .int v3]) (H' := (c0 :: bk0 o_words o_mono o_pairI o_pairJ o_wht o_n o_lastDist o_lastTie o_failCount po)) rfl ?_
        obtain ⟨x49, hx49, h⟩ := bnd h
        refine OEnds.plain hm_22 rfl rfl (x_iaload rfl hx49) ?_
        refine OEnds.adv hm_22 4 (pc' := 8) (L' := [.val (.ref 1), .val (.int v1), .val (.int (v2 ||| ((1 : Int32) <<< (v4 &&& 31)))), .val (.int (v3 ^^^ x49)), .val (.int (v4 + (1 : Int32))), .unset, .unset]) (S' := []) (H' := (c0 :: bk0 o_words o_mono o_pairI o_pairJ o_wht o_n o_lastDist o_lastTie o_failCount po)) rfl ?_
        exact ih h
    · simp only [if_neg hc58] at h
      refine OEnds.icmpT hm_22 rfl (q := 60) rfl ((flt hc58).2.1) ?_
      show OEnds own_P 22 60 [.val (.ref 1), .val (.int v1), .val (.int v2), .val (.int v3), .val (.int v4), .unset, .unset] [] (c0 :: bk0 o_words o_mono o_pairI o_pairJ o_wht o_n o_lastDist o_lastTie o_failCount po) _
      exact hk60 h
theorem ok_reedDecode {o_words : List Int32} {o_mono : List Int32} {o_pairI : List Int32} {o_pairJ : List Int32} {o_wht : List Int32} {o_n : Int32} {o_lastDist : Int32} {o_lastTie : Int32} {o_failCount : Int32} {c0 : ACell} {po : List ACell} {v1 : Int32} {res : Int32} (h : f_reedDecode o_mono o_pairI o_pairJ v1 = some res) : OEnds own_P 22 0 [.val (.ref 1), .val (.int v1), .unset, .unset, .unset, .unset, .unset] [] (c0 :: bk0 o_words o_mono o_pairI o_pairJ o_wht o_n o_lastDist o_lastTie o_failCount po) (some (.int res), (c0 :: bk0 o_words o_mono o_pairI o_pairJ o_wht o_n o_lastDist o_lastTie o_failCount po), 0, 0) := by
  unfold f_reedDecode at h
  refine OEnds.adv hm_22 6 (pc' := 8) (L' := [.val (.ref 1), .val (.int v1), .val (.int 0), .val (.int 0), .val (.int 6), .unset, .unset]) (S' := []) (H' := (c0 :: bk0 o_words o_mono o_pairI o_pairJ o_wht o_n o_lastDist o_lastTie o_failCount po)) rfl ?_
  exact ok_reedDecode_8 (k60 := f_reedDecode_60 o_mono o_pairI o_pairJ) ok_reedDecode_60 100000 h
theorem ok_applyRule2 {o_words : List Int32} {o_mono : List Int32} {o_pairI : List Int32} {o_pairJ : List Int32} {o_wht : List Int32} {o_n : Int32} {c0 : ACell} {po : List ACell} {o_lastDist : Int32} {o_lastTie : Int32} {o_failCount : Int32} {v1 : Int32} {res : Int32} {w_o_lastDist : Int32} {w_o_lastTie : Int32} {w_o_failCount : Int32} (h : f_applyRule2 o_mono o_pairI o_pairJ o_lastDist o_lastTie o_failCount v1 = some (res, w_o_lastDist, w_o_lastTie, w_o_failCount)) : OEnds own_P 21 0 [.val (.ref 1), .val (.int v1), .unset, .unset, .unset] [] (c0 :: bk0 o_words o_mono o_pairI o_pairJ o_wht o_n o_lastDist o_lastTie o_failCount po) (some (.int res), (c0 :: bk0 o_words o_mono o_pairI o_pairJ o_wht o_n w_o_lastDist w_o_lastTie w_o_failCount po), 0, 0) := by
  unfold f_applyRule2 at h
  refine OEnds.adv hm_21 2 (pc' := 2) (L' := [.val (.ref 1), .val (.int v1), .unset, .unset, .unset]) (S' := [.int v1, .ref 1]) (H' := (c0 :: bk0 o_words o_mono o_pairI o_pairJ o_wht o_n o_lastDist o_lastTie o_failCount po)) rfl ?_
  obtain ⟨r53, hq61, h⟩ := bnd h
  refine OEnds.call0 hm_21 rfl rfl (by decide) rfl (as := [.ref 1, .int v1]) (rest := []) rfl rfl (ok_reedDecode hq61) ?_
  refine OEnds.adv hm_21 4 (pc' := 10) (L' := [.val (.ref 1), .val (.int v1), .val (.int r53), .unset, .unset]) (S' := [.int 16, .int r53, .ref 1]) (H' := (c0 :: bk0 o_words o_mono o_pairI o_pairJ o_wht o_n o_lastDist o_lastTie o_failCount po)) rfl ?_
  obtain ⟨r54, hq62, h⟩ := bnd h
  refine OEnds.call0 hm_21 rfl rfl (by decide) rfl (as := [.ref 1, .int r53, .int 16]) (rest := []) rfl rfl (ok_encodeBits hq62) ?_
  refine OEnds.adv hm_21 5 (pc' := 18) (L' := [.val (.ref 1), .val (.int v1), .val (.int r53), .val (.int r54), .unset]) (S' := [.int (r54 ^^^ v1), .ref 1]) (H' := (c0 :: bk0 o_words o_mono o_pairI o_pairJ o_wht o_n o_lastDist o_lastTie o_failCount po)) rfl ?_
  obtain ⟨r55, hq63, h⟩ := bnd h
  refine OEnds.call0 hm_21 rfl rfl (by decide) rfl (as := [.ref 1, .int (r54 ^^^ v1)]) (rest := []) rfl rfl (ok_popcount hq63) ?_
  refine OEnds.adv hm_21 3 (pc' := 26) (L' := [.val (.ref 1), .val (.int v1), .val (.int r53), .val (.int r54), .val (.int r55)]) (S' := [.int 3, .int r55]) (H' := (c0 :: bk0 o_words o_mono o_pairI o_pairJ o_wht o_n o_lastDist o_lastTie o_failCount po)) rfl ?_
  by_cases hc64 : (3 : Int32) < r55
  · simp only [if_pos hc64] at h
    refine OEnds.icmpT hm_21 rfl (q := 42) rfl ((tlt hc64).2.2.1) ?_
    refine OEnds.adv hm_21 13 (pc' := 64) (L' := [.val (.ref 1), .val (.int v1), .val (.int r53), .val (.int r54), .val (.int r55)]) (S' := [.int (-2)]) (H' := (c0 :: bk0 o_words o_mono o_pairI o_pairJ o_wht o_n (-1) 0 (o_failCount + (1 : Int32)) po)) rfl ?_
    cases h
    exact OEnds.iret hm_21 rfl rfl
  · simp only [if_neg hc64] at h
    refine OEnds.icmpF hm_21 rfl ((flt hc64).2.2.1) ?_
    refine OEnds.adv hm_21 7 (pc' := 41) (L' := [.val (.ref 1), .val (.int v1), .val (.int r53), .val (.int r54), .val (.int r55)]) (S' := [.int r53]) (H' := (c0 :: bk0 o_words o_mono o_pairI o_pairJ o_wht o_n r55 1 o_failCount po)) rfl ?_
    cases h
    exact OEnds.iret hm_21 rfl rfl
theorem ok_correct {o_mono : List Int32} {o_pairI : List Int32} {o_pairJ : List Int32} {o_n : Int32} {c0 : ACell} {po : List ACell} {o_words : List Int32} {o_wht : List Int32} {o_lastDist : Int32} {o_lastTie : Int32} {o_failCount : Int32} {v1 : Int32} {v2 : Int32} {res : Int32} {w_o_words : List Int32} {w_o_wht : List Int32} {w_o_lastDist : Int32} {w_o_lastTie : Int32} {w_o_failCount : Int32} (h : f_correct o_mono o_pairI o_pairJ o_n o_words o_wht o_lastDist o_lastTie o_failCount v1 v2 = some (res, w_o_words, w_o_wht, w_o_lastDist, w_o_lastTie, w_o_failCount)) : OEnds own_P 30 0 [.val (.ref 1), .val (.int v1), .val (.int v2), .unset] [] (c0 :: bk0 o_words o_mono o_pairI o_pairJ o_wht o_n o_lastDist o_lastTie o_failCount po) (some (.int res), (c0 :: bk0 w_o_words o_mono o_pairI o_pairJ w_o_wht o_n w_o_lastDist w_o_lastTie w_o_failCount po), 0, 0) := by
  unfold f_correct at h
  refine OEnds.adv hm_30 2 (pc' := 2) (L' := [.val (.ref 1), .val (.int v1), .val (.int v2), .unset]) (S' := [.int v1, .ref 1]) (H' := (c0 :: bk0 o_words o_mono o_pairI o_pairJ o_wht o_n o_lastDist o_lastTie o_failCount po)) rfl ?_
  obtain ⟨r56, hq65, h⟩ := bnd h
  refine OEnds.call0 hm_30 rfl rfl (by decide) rfl (as := [.ref 1, .int v1]) (rest := []) rfl rfl (ok_validSlot hq65) ?_
  show OEnds own_P 30 5 [.val (.ref 1), .val (.int v1), .val (.int v2), .unset] [.int r56] (c0 :: bk0 o_words o_mono o_pairI o_pairJ o_wht o_n o_lastDist o_lastTie o_failCount po) _
  by_cases hc66 : r56 = (0 : Int32)
  · simp only [if_pos hc66] at h
    refine OEnds.ifF hm_30 rfl ((teq hc66).2) ?_
    refine OEnds.adv hm_30 1 (pc' := 9) (L' := [.val (.ref 1), .val (.int v1), .val (.int v2), .unset]) (S' := [.int 0]) (H' := (c0 :: bk0 o_words o_mono o_pairI o_pairJ o_wht o_n o_lastDist o_lastTie o_failCount po)) rfl ?_
    cases h
    exact OEnds.iret hm_30 rfl rfl
  · simp only [if_neg hc66] at h
    refine OEnds.ifT hm_30 rfl (q := 10) rfl ((feq hc66).2) ?_
    refine OEnds.adv hm_30 2 (pc' := 12) (L' := [.val (.ref 1), .val (.int v1), .val (.int v2), .unset]) (S' := [.int v2, .ref 1]) (H' := (c0 :: bk0 o_words o_mono o_pairI o_pairJ o_wht o_n o_lastDist o_lastTie o_failCount po)) rfl ?_
    obtain ⟨r57, hq67, h⟩ := bnd h
    refine OEnds.call0 hm_30 rfl rfl (by decide) rfl (as := [.ref 1, .int v2]) (rest := []) rfl rfl (ok_validOrder hq67) ?_
    show OEnds own_P 30 15 [.val (.ref 1), .val (.int v1), .val (.int v2), .unset] [.int r57] (c0 :: bk0 o_words o_mono o_pairI o_pairJ o_wht o_n o_lastDist o_lastTie o_failCount po) _
    by_cases hc68 : r57 = (0 : Int32)
    · simp only [if_pos hc68] at h
      refine OEnds.ifF hm_30 rfl ((teq hc68).2) ?_
      refine OEnds.adv hm_30 1 (pc' := 19) (L' := [.val (.ref 1), .val (.int v1), .val (.int v2), .unset]) (S' := [.int 0]) (H' := (c0 :: bk0 o_words o_mono o_pairI o_pairJ o_wht o_n o_lastDist o_lastTie o_failCount po)) rfl ?_
      cases h
      exact OEnds.iret hm_30 rfl rfl
    · simp only [if_neg hc68] at h
      refine OEnds.ifT hm_30 rfl (q := 20) rfl ((feq hc68).2) ?_
      refine OEnds.adv hm_30 2 (pc' := 22) (L' := [.val (.ref 1), .val (.int v1), .val (.int v2), .unset]) (S' := [.int 1, .int v2]) (H' := (c0 :: bk0 o_words o_mono o_pairI o_pairJ o_wht o_n o_lastDist o_lastTie o_failCount po)) rfl ?_
      by_cases hc69 : v2 = (1 : Int32)
      · simp only [if_pos hc69] at h
        refine OEnds.icmpF hm_30 rfl ((teq hc69).2) ?_
        refine OEnds.adv hm_30 4 (pc' := 31) (L' := [.val (.ref 1), .val (.int v1), .val (.int v2), .unset]) (S' := [.int v1, .ref 2, .ref 1]) (H' := (c0 :: bk0 o_words o_mono o_pairI o_pairJ o_wht o_n o_lastDist o_lastTie o_failCount po)) rfl ?_
        obtain ⟨x65, hx65, h⟩ := bnd h
        refine OEnds.plain hm_30 rfl rfl (x_iaload rfl hx65) ?_
        show OEnds own_P 30 32 [.val (.ref 1), .val (.int v1), .val (.int v2), .unset] [.int x65, .ref 1] (c0 :: bk0 o_words o_mono o_pairI o_pairJ o_wht o_n o_lastDist o_lastTie o_failCount po) _
        obtain ⟨⟨r66, s67, s68, s69⟩, hq70, h⟩ := bnd h
        refine OEnds.call0 hm_30 rfl rfl (by decide) rfl (as := [.ref 1, .int x65]) (rest := []) rfl rfl (ok_applyRule1 hq70) ?_
        refine OEnds.adv hm_30 7 (pc' := 45) (L' := [.val (.ref 1), .val (.int v1), .val (.int v2), .val (.int r66)]) (S' := [.int 6, .int r66, .ref 1, .int v1, .ref 2]) (H' := (c0 :: bk0 o_words o_mono o_pairI o_pairJ s67 o_n s68 s69 o_failCount po)) rfl ?_
        obtain ⟨r70, hq71, h⟩ := bnd h
        refine OEnds.call0 hm_30 rfl rfl (by decide) rfl (as := [.ref 1, .int r66, .int 6]) (rest := [.int v1, .ref 2]) rfl rfl (ok_encodeBits hq71) ?_
        show OEnds own_P 30 48 [.val (.ref 1), .val (.int v1), .val (.int v2), .val (.int r66)] [.int r70, .int v1, .ref 2] (c0 :: bk0 o_words o_mono o_pairI o_pairJ s67 o_n s68 s69 o_failCount po) _
        obtain ⟨A71, hA71, h⟩ := bnd h
        refine OEnds.plain hm_30 rfl rfl (x_iastore rfl (Nat.le_of_ble_eq_true rfl) hA71) ?_
        refine OEnds.adv hm_30 1 (pc' := 50) (L' := [.val (.ref 1), .val (.int v1), .val (.int v2), .val (.int r66)]) (S' := [.int 1]) (H' := (c0 :: bk0 A71 o_mono o_pairI o_pairJ s67 o_n s68 s69 o_failCount po)) rfl ?_
        cases h
        exact OEnds.iret hm_30 rfl rfl
      · simp only [if_neg hc69] at h
        refine OEnds.icmpT hm_30 rfl (q := 51) rfl ((feq hc69).2) ?_
        refine OEnds.adv hm_30 4 (pc' := 57) (L' := [.val (.ref 1), .val (.int v1), .val (.int v2), .unset]) (S' := [.int v1, .ref 2, .ref 1]) (H' := (c0 :: bk0 o_words o_mono o_pairI o_pairJ o_wht o_n o_lastDist o_lastTie o_failCount po)) rfl ?_
        obtain ⟨x58, hx58, h⟩ := bnd h
        refine OEnds.plain hm_30 rfl rfl (x_iaload rfl hx58) ?_
        show OEnds own_P 30 58 [.val (.ref 1), .val (.int v1), .val (.int v2), .unset] [.int x58, .ref 1] (c0 :: bk0 o_words o_mono o_pairI o_pairJ o_wht o_n o_lastDist o_lastTie o_failCount po) _
        obtain ⟨⟨r59, s60, s61, s62⟩, hq72, h⟩ := bnd h
        refine OEnds.call0 hm_30 rfl rfl (by decide) rfl (as := [.ref 1, .int x58]) (rest := []) rfl rfl (ok_applyRule2 hq72) ?_
        refine OEnds.adv hm_30 3 (pc' := 65) (L' := [.val (.ref 1), .val (.int v1), .val (.int v2), .val (.int r59)]) (S' := [.int (-2), .int r59]) (H' := (c0 :: bk0 o_words o_mono o_pairI o_pairJ o_wht o_n s60 s61 s62 po)) rfl ?_
        by_cases hc73 : r59 = (-2 : Int32)
        · simp only [if_pos hc73] at h
          refine OEnds.icmpF hm_30 rfl ((teq hc73).2) ?_
          refine OEnds.adv hm_30 1 (pc' := 69) (L' := [.val (.ref 1), .val (.int v1), .val (.int v2), .val (.int r59)]) (S' := [.int 0]) (H' := (c0 :: bk0 o_words o_mono o_pairI o_pairJ o_wht o_n s60 s61 s62 po)) rfl ?_
          cases h
          exact OEnds.iret hm_30 rfl rfl
        · simp only [if_neg hc73] at h
          refine OEnds.icmpT hm_30 rfl (q := 70) rfl ((feq hc73).2) ?_
          refine OEnds.adv hm_30 6 (pc' := 79) (L' := [.val (.ref 1), .val (.int v1), .val (.int v2), .val (.int r59)]) (S' := [.int 16, .int r59, .ref 1, .int v1, .ref 2]) (H' := (c0 :: bk0 o_words o_mono o_pairI o_pairJ o_wht o_n s60 s61 s62 po)) rfl ?_
          obtain ⟨r63, hq74, h⟩ := bnd h
          refine OEnds.call0 hm_30 rfl rfl (by decide) rfl (as := [.ref 1, .int r59, .int 16]) (rest := [.int v1, .ref 2]) rfl rfl (ok_encodeBits hq74) ?_
          show OEnds own_P 30 82 [.val (.ref 1), .val (.int v1), .val (.int v2), .val (.int r59)] [.int r63, .int v1, .ref 2] (c0 :: bk0 o_words o_mono o_pairI o_pairJ o_wht o_n s60 s61 s62 po) _
          obtain ⟨A64, hA64, h⟩ := bnd h
          refine OEnds.plain hm_30 rfl rfl (x_iastore rfl (Nat.le_of_ble_eq_true rfl) hA64) ?_
          refine OEnds.adv hm_30 1 (pc' := 84) (L' := [.val (.ref 1), .val (.int v1), .val (.int v2), .val (.int r59)]) (S' := [.int 1]) (H' := (c0 :: bk0 A64 o_mono o_pairI o_pairJ o_wht o_n s60 s61 s62 po)) rfl ?_
          cases h
          exact OEnds.iret hm_30 rfl rfl
theorem ok_decode2 {o_words : List Int32} {o_mono : List Int32} {o_pairI : List Int32} {o_pairJ : List Int32} {o_wht : List Int32} {o_n : Int32} {c0 : ACell} {po : List ACell} {o_lastDist : Int32} {o_lastTie : Int32} {o_failCount : Int32} {v1 : Int32} {res : Int32} {w_o_lastDist : Int32} {w_o_lastTie : Int32} {w_o_failCount : Int32} (h : f_decode2 o_words o_mono o_pairI o_pairJ o_n o_lastDist o_lastTie o_failCount v1 = some (res, w_o_lastDist, w_o_lastTie, w_o_failCount)) : OEnds own_P 20 0 [.val (.ref 1), .val (.int v1)] [] (c0 :: bk0 o_words o_mono o_pairI o_pairJ o_wht o_n o_lastDist o_lastTie o_failCount po) (some (.int res), (c0 :: bk0 o_words o_mono o_pairI o_pairJ o_wht o_n w_o_lastDist w_o_lastTie w_o_failCount po), 0, 0) := by
  unfold f_decode2 at h
  refine OEnds.adv hm_20 2 (pc' := 2) (L' := [.val (.ref 1), .val (.int v1)]) (S' := [.int v1, .ref 1]) (H' := (c0 :: bk0 o_words o_mono o_pairI o_pairJ o_wht o_n o_lastDist o_lastTie o_failCount po)) rfl ?_
  obtain ⟨r72, hq75, h⟩ := bnd h
  refine OEnds.call0 hm_20 rfl rfl (by decide) rfl (as := [.ref 1, .int v1]) (rest := []) rfl rfl (ok_validSlot hq75) ?_
  show OEnds own_P 20 5 [.val (.ref 1), .val (.int v1)] [.int r72] (c0 :: bk0 o_words o_mono o_pairI o_pairJ o_wht o_n o_lastDist o_lastTie o_failCount po) _
  by_cases hc76 : r72 = (0 : Int32)
  · simp only [if_pos hc76] at h
    refine OEnds.ifF hm_20 rfl ((teq hc76).2) ?_
    refine OEnds.adv hm_20 1 (pc' := 9) (L' := [.val (.ref 1), .val (.int v1)]) (S' := [.int (-1)]) (H' := (c0 :: bk0 o_words o_mono o_pairI o_pairJ o_wht o_n o_lastDist o_lastTie o_failCount po)) rfl ?_
    cases h
    exact OEnds.iret hm_20 rfl rfl
  · simp only [if_neg hc76] at h
    refine OEnds.ifT hm_20 rfl (q := 10) rfl ((feq hc76).2) ?_
    refine OEnds.adv hm_20 4 (pc' := 16) (L' := [.val (.ref 1), .val (.int v1)]) (S' := [.int v1, .ref 2, .ref 1]) (H' := (c0 :: bk0 o_words o_mono o_pairI o_pairJ o_wht o_n o_lastDist o_lastTie o_failCount po)) rfl ?_
    obtain ⟨x73, hx73, h⟩ := bnd h
    refine OEnds.plain hm_20 rfl rfl (x_iaload rfl hx73) ?_
    show OEnds own_P 20 17 [.val (.ref 1), .val (.int v1)] [.int x73, .ref 1] (c0 :: bk0 o_words o_mono o_pairI o_pairJ o_wht o_n o_lastDist o_lastTie o_failCount po) _
    obtain ⟨⟨r74, s75, s76, s77⟩, hq77, h⟩ := bnd h
    refine OEnds.call0 hm_20 rfl rfl (by decide) rfl (as := [.ref 1, .int x73]) (rest := []) rfl rfl (ok_applyRule2 hq77) ?_
    show OEnds own_P 20 20 [.val (.ref 1), .val (.int v1)] [.int r74] (c0 :: bk0 o_words o_mono o_pairI o_pairJ o_wht o_n s75 s76 s77 po) _
    cases h
    exact OEnds.iret hm_20 rfl rfl
theorem ok_getWord {o_words : List Int32} {o_mono : List Int32} {o_pairI : List Int32} {o_pairJ : List Int32} {o_wht : List Int32} {o_n : Int32} {o_lastDist : Int32} {o_lastTie : Int32} {o_failCount : Int32} {c0 : ACell} {po : List ACell} {v1 : Int32} {res : Int32} (h : f_getWord o_words o_n v1 = some res) : OEnds own_P 8 0 [.val (.ref 1), .val (.int v1)] [] (c0 :: bk0 o_words o_mono o_pairI o_pairJ o_wht o_n o_lastDist o_lastTie o_failCount po) (some (.int res), (c0 :: bk0 o_words o_mono o_pairI o_pairJ o_wht o_n o_lastDist o_lastTie o_failCount po), 0, 0) := by
  unfold f_getWord at h
  refine OEnds.adv hm_8 2 (pc' := 2) (L' := [.val (.ref 1), .val (.int v1)]) (S' := [.int v1, .ref 1]) (H' := (c0 :: bk0 o_words o_mono o_pairI o_pairJ o_wht o_n o_lastDist o_lastTie o_failCount po)) rfl ?_
  obtain ⟨r78, hq78, h⟩ := bnd h
  refine OEnds.call0 hm_8 rfl rfl (by decide) rfl (as := [.ref 1, .int v1]) (rest := []) rfl rfl (ok_validSlot hq78) ?_
  show OEnds own_P 8 5 [.val (.ref 1), .val (.int v1)] [.int r78] (c0 :: bk0 o_words o_mono o_pairI o_pairJ o_wht o_n o_lastDist o_lastTie o_failCount po) _
  by_cases hc79 : r78 = (0 : Int32)
  · simp only [if_pos hc79] at h
    refine OEnds.ifF hm_8 rfl ((teq hc79).2) ?_
    refine OEnds.adv hm_8 1 (pc' := 9) (L' := [.val (.ref 1), .val (.int v1)]) (S' := [.int 0]) (H' := (c0 :: bk0 o_words o_mono o_pairI o_pairJ o_wht o_n o_lastDist o_lastTie o_failCount po)) rfl ?_
    cases h
    exact OEnds.iret hm_8 rfl rfl
  · simp only [if_neg hc79] at h
    refine OEnds.ifT hm_8 rfl (q := 10) rfl ((feq hc79).2) ?_
    refine OEnds.adv hm_8 3 (pc' := 15) (L' := [.val (.ref 1), .val (.int v1)]) (S' := [.int v1, .ref 2]) (H' := (c0 :: bk0 o_words o_mono o_pairI o_pairJ o_wht o_n o_lastDist o_lastTie o_failCount po)) rfl ?_
    obtain ⟨x79, hx79, h⟩ := bnd h
    refine OEnds.plain hm_8 rfl rfl (x_iaload rfl hx79) ?_
    show OEnds own_P 8 16 [.val (.ref 1), .val (.int v1)] [.int x79] (c0 :: bk0 o_words o_mono o_pairI o_pairJ o_wht o_n o_lastDist o_lastTie o_failCount po) _
    cases h
    exact OEnds.iret hm_8 rfl rfl
theorem ok_decode1 {o_words : List Int32} {o_mono : List Int32} {o_pairI : List Int32} {o_pairJ : List Int32} {o_n : Int32} {o_failCount : Int32} {c0 : ACell} {po : List ACell} {o_wht : List Int32} {o_lastDist : Int32} {o_lastTie : Int32} {v1 : Int32} {res : Int32} {w_o_wht : List Int32} {w_o_lastDist : Int32} {w_o_lastTie : Int32} (h : f_decode1 o_words o_n o_wht o_lastDist o_lastTie v1 = some (res, w_o_wht, w_o_lastDist, w_o_lastTie)) : OEnds own_P 9 0 [.val (.ref 1), .val (.int v1)] [] (c0 :: bk0 o_words o_mono o_pairI o_pairJ o_wht o_n o_lastDist o_lastTie o_failCount po) (some (.int res), (c0 :: bk0 o_words o_mono o_pairI o_pairJ w_o_wht o_n w_o_lastDist w_o_lastTie o_failCount po), 0, 0) := by
  unfold f_decode1 at h
  refine OEnds.adv hm_9 2 (pc' := 2) (L' := [.val (.ref 1), .val (.int v1)]) (S' := [.int v1, .ref 1]) (H' := (c0 :: bk0 o_words o_mono o_pairI o_pairJ o_wht o_n o_lastDist o_lastTie o_failCount po)) rfl ?_
  obtain ⟨r80, hq80, h⟩ := bnd h
  refine OEnds.call0 hm_9 rfl rfl (by decide) rfl (as := [.ref 1, .int v1]) (rest := []) rfl rfl (ok_validSlot hq80) ?_
  show OEnds own_P 9 5 [.val (.ref 1), .val (.int v1)] [.int r80] (c0 :: bk0 o_words o_mono o_pairI o_pairJ o_wht o_n o_lastDist o_lastTie o_failCount po) _
  by_cases hc81 : r80 = (0 : Int32)
  · simp only [if_pos hc81] at h
    refine OEnds.ifF hm_9 rfl ((teq hc81).2) ?_
    refine OEnds.adv hm_9 1 (pc' := 9) (L' := [.val (.ref 1), .val (.int v1)]) (S' := [.int (-1)]) (H' := (c0 :: bk0 o_words o_mono o_pairI o_pairJ o_wht o_n o_lastDist o_lastTie o_failCount po)) rfl ?_
    cases h
    exact OEnds.iret hm_9 rfl rfl
  · simp only [if_neg hc81] at h
    refine OEnds.ifT hm_9 rfl (q := 10) rfl ((feq hc81).2) ?_
    refine OEnds.adv hm_9 4 (pc' := 16) (L' := [.val (.ref 1), .val (.int v1)]) (S' := [.int v1, .ref 2, .ref 1]) (H' := (c0 :: bk0 o_words o_mono o_pairI o_pairJ o_wht o_n o_lastDist o_lastTie o_failCount po)) rfl ?_
    obtain ⟨x81, hx81, h⟩ := bnd h
    refine OEnds.plain hm_9 rfl rfl (x_iaload rfl hx81) ?_
    show OEnds own_P 9 17 [.val (.ref 1), .val (.int v1)] [.int x81, .ref 1] (c0 :: bk0 o_words o_mono o_pairI o_pairJ o_wht o_n o_lastDist o_lastTie o_failCount po) _
    obtain ⟨⟨r82, s83, s84, s85⟩, hq82, h⟩ := bnd h
    refine OEnds.call0 hm_9 rfl rfl (by decide) rfl (as := [.ref 1, .int x81]) (rest := []) rfl rfl (ok_applyRule1 hq82) ?_
    show OEnds own_P 9 20 [.val (.ref 1), .val (.int v1)] [.int r82] (c0 :: bk0 o_words o_mono o_pairI o_pairJ s83 o_n s84 s85 o_failCount po) _
    cases h
    exact OEnds.iret hm_9 rfl rfl
theorem ok_lastDistance {o_words : List Int32} {o_mono : List Int32} {o_pairI : List Int32} {o_pairJ : List Int32} {o_wht : List Int32} {o_n : Int32} {o_lastDist : Int32} {o_lastTie : Int32} {o_failCount : Int32} {c0 : ACell} {po : List ACell} {res : Int32} (h : f_lastDistance o_lastDist = some res) : OEnds own_P 13 0 [.val (.ref 1)] [] (c0 :: bk0 o_words o_mono o_pairI o_pairJ o_wht o_n o_lastDist o_lastTie o_failCount po) (some (.int res), (c0 :: bk0 o_words o_mono o_pairI o_pairJ o_wht o_n o_lastDist o_lastTie o_failCount po), 0, 0) := by
  unfold f_lastDistance at h
  refine OEnds.adv hm_13 2 (pc' := 4) (L' := [.val (.ref 1)]) (S' := [.int o_lastDist]) (H' := (c0 :: bk0 o_words o_mono o_pairI o_pairJ o_wht o_n o_lastDist o_lastTie o_failCount po)) rfl ?_
  cases h
  exact OEnds.iret hm_13 rfl rfl
theorem ok_L_pop_4 {c0 : ACell} {po : List ACell} : ∀ (n : Nat), ∀ {v0 : Int32} {v1 : Int32} {v2 : Int32} {res : Int32}, f_L_pop_4 n v0 v1 v2 = some res → OEnds own_P 16 4 [.val (.int v0), .val (.int v1), .val (.int v2)] [] (c0 :: po) (some (.int res), (c0 :: po), 0, 0) := by
  intro n
  induction n with
  | zero => intro v0 v1 v2 res h; cases h
  | succ n ih =>
    intro v0 v1 v2 res h
    unfold f_L_pop_4 at h
    refine OEnds.adv hm_16 2 (pc' := 7) (L' := [.val (.int v0), .val (.int v1), .val (.int v2)]) (S' := [.int 32, .int v2]) (H' := (c0 :: po)) rfl ?_
    by_cases hc83 : v2 < (32 : Int32)
    · simp only [if_pos hc83] at h
      refine OEnds.icmpF hm_16 rfl ((tlt hc83).2.1) ?_
      refine OEnds.adv hm_16 10 (pc' := 4) (L' := [.val (.int v0), .val (.int (v1 + ((XT.ushr v0 v2) &&& (1 : Int32)))), .val (.int (v2 + (1 : Int32)))]) (S' := []) (H' := (c0 :: po)) rfl ?_
      exact ih h
    · simp only [if_neg hc83] at h
      refine OEnds.icmpT hm_16 rfl (q := 24) rfl ((flt hc83).2.1) ?_
      refine OEnds.adv hm_16 1 (pc' := 25) (L' := [.val (.int v0), .val (.int v1), .val (.int v2)]) (S' := [.int v1]) (H' := (c0 :: po)) rfl ?_
      cases h
      exact OEnds.iret hm_16 rfl rfl
theorem ok_L_pop {c0 : ACell} {po : List ACell} {v0 : Int32} {res : Int32} (h : f_L_pop v0 = some res) : OEnds own_P 16 0 [.val (.int v0), .unset, .unset] [] (c0 :: po) (some (.int res), (c0 :: po), 0, 0) := by
  unfold f_L_pop at h
  refine OEnds.adv hm_16 4 (pc' := 4) (L' := [.val (.int v0), .val (.int 0), .val (.int 0)]) (S' := []) (H' := (c0 :: po)) rfl ?_
  exact ok_L_pop_4 100000 h
theorem ok_lastTies {o_words : List Int32} {o_mono : List Int32} {o_pairI : List Int32} {o_pairJ : List Int32} {o_wht : List Int32} {o_n : Int32} {o_lastDist : Int32} {o_lastTie : Int32} {o_failCount : Int32} {c0 : ACell} {po : List ACell} {res : Int32} (h : f_lastTies o_lastTie = some res) : OEnds own_P 17 0 [.val (.ref 1)] [] (c0 :: bk0 o_words o_mono o_pairI o_pairJ o_wht o_n o_lastDist o_lastTie o_failCount po) (some (.int res), (c0 :: bk0 o_words o_mono o_pairI o_pairJ o_wht o_n o_lastDist o_lastTie o_failCount po), 0, 0) := by
  unfold f_lastTies at h
  refine OEnds.adv hm_17 2 (pc' := 4) (L' := [.val (.ref 1)]) (S' := [.int o_lastTie]) (H' := (c0 :: bk0 o_words o_mono o_pairI o_pairJ o_wht o_n o_lastDist o_lastTie o_failCount po)) rfl ?_
  cases h
  exact OEnds.iret hm_17 rfl rfl
theorem ok_failures {o_words : List Int32} {o_mono : List Int32} {o_pairI : List Int32} {o_pairJ : List Int32} {o_wht : List Int32} {o_n : Int32} {o_lastDist : Int32} {o_lastTie : Int32} {o_failCount : Int32} {c0 : ACell} {po : List ACell} {res : Int32} (h : f_failures o_failCount = some res) : OEnds own_P 19 0 [.val (.ref 1)] [] (c0 :: bk0 o_words o_mono o_pairI o_pairJ o_wht o_n o_lastDist o_lastTie o_failCount po) (some (.int res), (c0 :: bk0 o_words o_mono o_pairI o_pairJ o_wht o_n o_lastDist o_lastTie o_failCount po), 0, 0) := by
  unfold f_failures at h
  refine OEnds.adv hm_19 2 (pc' := 4) (L' := [.val (.ref 1)]) (S' := [.int o_failCount]) (H' := (c0 :: bk0 o_words o_mono o_pairI o_pairJ o_wht o_n o_lastDist o_lastTie o_failCount po)) rfl ?_
  cases h
  exact OEnds.iret hm_19 rfl rfl
theorem ok_L_law_412 {scr : List Int32} {kb : List Int32 → List Int32 → List Int32 → List Int32 → List Int32 → Int32 → Int32 → Int32 → Int32 → Int32 → Int32 → Int32 → Int32 → Int32 → Int32 → Option (Int32)} {k26 : List Int32 → List Int32 → List Int32 → List Int32 → List Int32 → Int32 → Int32 → Int32 → Int32 → Int32 → Int32 → Option (Int32)} (hkb : ∀ {n0_words : List Int32} {n0_mono : List Int32} {n0_pairI : List Int32} {n0_pairJ : List Int32} {n0_wht : List Int32} {n0_n : Int32} {n0_lastDist : Int32} {n0_lastTie : Int32} {n0_failCount : Int32} {v2 : Int32} {v3 : Int32} {v5 : Int32} {v6 : Int32} {v8 : Int32} {v12 : Int32} {d4 d7 d9 d10 d11 d13 d14 d15 : Slot} {res : Int32}, kb n0_words n0_mono n0_pairI n0_pairJ n0_wht n0_n n0_lastDist n0_lastTie n0_failCount v2 v3 v5 v6 v8 v12 = some res → OEndsQ own_P 0 391 [.val (.ref 0), .val (.ref 1), .val (.int v2), .val (.int v3), d4, .val (.int v5), .val (.int v6), d7, .val (.int v8), d9, d10, d11, .val (.int v12), d13, d14, d15] [] ((.inr (.inl (false, scr)) : ACell) :: bk0 n0_words n0_mono n0_pairI n0_pairJ n0_wht n0_n n0_lastDist n0_lastTie n0_failCount []) (LawQ res 0 0)) (hk26 : ∀ {n0_words : List Int32} {n0_mono : List Int32} {n0_pairI : List Int32} {n0_pairJ : List Int32} {n0_wht : List Int32} {n0_n : Int32} {n0_lastDist : Int32} {n0_lastTie : Int32} {n0_failCount : Int32} {v2 : Int32} {v3 : Int32} {d4 d5 d6 d7 d8 d9 d10 d11 d12 d13 d14 d15 : Slot} {res : Int32}, k26 n0_words n0_mono n0_pairI n0_pairJ n0_wht n0_n n0_lastDist n0_lastTie n0_failCount v2 v3 = some res → OEndsQ own_P 0 26 [.val (.ref 0), .val (.ref 1), .val (.int v2), .val (.int v3), d4, d5, d6, d7, d8, d9, d10, d11, d12, d13, d14, d15] [] ((.inr (.inl (false, scr)) : ACell) :: bk0 n0_words n0_mono n0_pairI n0_pairJ n0_wht n0_n n0_lastDist n0_lastTie n0_failCount []) (LawQ res 0 0)) : ∀ {n0_words : List Int32} {n0_mono : List Int32} {n0_pairI : List Int32} {n0_pairJ : List Int32} {n0_wht : List Int32} {n0_n : Int32} {n0_lastDist : Int32} {n0_lastTie : Int32} {n0_failCount : Int32} {v2 : Int32} {v3 : Int32} {v5 : Int32} {v6 : Int32} {v8 : Int32} {v12 : Int32} {t0 : Int32} {d4 d7 d9 d10 d11 d13 d14 d15 : Slot} {res : Int32}, f_L_law_412 kb k26 scr n0_words n0_mono n0_pairI n0_pairJ n0_wht n0_n n0_lastDist n0_lastTie n0_failCount v2 v3 v5 v6 v8 v12 t0 = some res → OEndsQ own_P 0 412 [.val (.ref 0), .val (.ref 1), .val (.int v2), .val (.int v3), d4, .val (.int v5), .val (.int v6), d7, .val (.int v8), d9, d10, d11, .val (.int v12), d13, d14, d15] [.int t0] ((.inr (.inl (false, scr)) : ACell) :: bk0 n0_words n0_mono n0_pairI n0_pairJ n0_wht n0_n n0_lastDist n0_lastTie n0_failCount []) (LawQ res 0 0) := by
  intro n0_words n0_mono n0_pairI n0_pairJ n0_wht n0_n n0_lastDist n0_lastTie n0_failCount v2 v3 v5 v6 v8 v12 t0 d4 d7 d9 d10 d11 d13 d14 d15 res h
  unfold f_L_law_412 at h
  refine OEndsQ.adv hm_0 4 (pc' := 419) (L' := [.val (.ref 0), .val (.ref 1), .val (.int v2), .val (.int v3), .unset, .val (.int v5), .val (.int v6), .unset, .val (.int v8), .unset, .unset, .unset, .val (.int v12), .val (.int t0), .unset, .unset]) (S' := [.int t0, .ref 1, .int v8]) (H' := ((.inr (.inl (false, scr)) : ACell) :: bk0 n0_words n0_mono n0_pairI n0_pairJ n0_wht n0_n n0_lastDist n0_lastTie n0_failCount [])) rfl ?_
  obtain ⟨r141, hq84, h⟩ := bnd h
  refine OEndsQ.call0 hm_0 rfl rfl (by decide) rfl (as := [.ref 1, .int t0]) (rest := [.int v8]) rfl rfl (ok_encode2 hq84) ?_
  refine OEndsQ.adv hm_0 1 (pc' := 423) (L' := [.val (.ref 0), .val (.ref 1), .val (.int v2), .val (.int v3), .unset, .val (.int v5), .val (.int v6), .unset, .val (.int v8), .unset, .unset, .unset, .val (.int v12), .val (.int t0), .unset, .unset]) (S' := [.int (v8 ^^^ r141)]) (H' := ((.inr (.inl (false, scr)) : ACell) :: bk0 n0_words n0_mono n0_pairI n0_pairJ n0_wht n0_n n0_lastDist n0_lastTie n0_failCount [])) rfl ?_
  obtain ⟨r142, hq85, h⟩ := bnd h
  refine OEndsQ.call0 hm_0 rfl rfl (by decide) rfl (as := [.int (v8 ^^^ r141)]) (rest := []) rfl rfl (ok_L_pop hq85) ?_
  refine OEndsQ.adv hm_0 3 (pc' := 431) (L' := [.val (.ref 0), .val (.ref 1), .val (.int v2), .val (.int v3), .unset, .val (.int v5), .val (.int v6), .unset, .val (.int v8), .unset, .unset, .unset, .val (.int v12), .val (.int t0), .val (.int r142), .unset]) (S' := [.int 3, .int r142]) (H' := ((.inr (.inl (false, scr)) : ACell) :: bk0 n0_words n0_mono n0_pairI n0_pairJ n0_wht n0_n n0_lastDist n0_lastTie n0_failCount [])) rfl ?_
  by_cases hc86 : (3 : Int32) < r142
  · simp only [if_pos hc86] at h
    refine OEndsQ.icmpT hm_0 rfl (q := 484) rfl ((tlt hc86).2.2.1) ?_
    refine OEndsQ.adv hm_0 2 (pc' := 391) (L' := [.val (.ref 0), .val (.ref 1), .val (.int v2), .val (.int v3), .unset, .val (.int v5), .val (.int v6), .unset, .val (.int v8), .unset, .unset, .unset, .val (.int (v12 + (1 : Int32))), .val (.int t0), .val (.int r142), .unset]) (S' := []) (H' := ((.inr (.inl (false, scr)) : ACell) :: bk0 n0_words n0_mono n0_pairI n0_pairJ n0_wht n0_n n0_lastDist n0_lastTie n0_failCount [])) rfl ?_
    exact hkb h
  · simp only [if_neg hc86] at h
    refine OEndsQ.icmpF hm_0 rfl ((flt hc86).2.2.1) ?_
    refine OEndsQ.adv hm_0 1 (pc' := 435) (L' := [.val (.ref 0), .val (.ref 1), .val (.int v2), .val (.int v3), .unset, .val (.int v5), .val (.int v6), .unset, .val (.int v8), .unset, .unset, .unset, .val (.int v12), .val (.int t0), .val (.int r142), .unset]) (S' := [.ref 1]) (H' := ((.inr (.inl (false, scr)) : ACell) :: bk0 n0_words n0_mono n0_pairI n0_pairJ n0_wht n0_n n0_lastDist n0_lastTie n0_failCount [])) rfl ?_
    obtain ⟨r143, hq87, h⟩ := bnd h
    refine OEndsQ.call0 hm_0 rfl rfl (by decide) rfl (as := [.ref 1]) (rest := []) rfl rfl (ok_failures hq87) ?_
    refine OEndsQ.adv hm_0 3 (pc' := 443) (L' := [.val (.ref 0), .val (.ref 1), .val (.int v2), .val (.int v3), .unset, .val (.int v5), .val (.int v6), .unset, .val (.int v8), .unset, .unset, .unset, .val (.int v12), .val (.int t0), .val (.int r142), .val (.int r143)]) (S' := [.int v5, .ref 1]) (H' := ((.inr (.inl (false, scr)) : ACell) :: bk0 n0_words n0_mono n0_pairI n0_pairJ n0_wht n0_n n0_lastDist n0_lastTie n0_failCount [])) rfl ?_
    obtain ⟨⟨r144, s145, s146, s147⟩, hq88, h⟩ := bnd h
    refine OEndsQ.call0 hm_0 rfl rfl (by decide) rfl (as := [.ref 1, .int v5]) (rest := []) rfl rfl (ok_decode2 hq88) ?_
    refine OEndsQ.adv hm_0 3 (pc' := 451) (L' := [.val (.ref 0), .val (.ref 1), .val (.int v2), .val (.int v3), .unset, .val (.int v5), .val (.int v6), .unset, .val (.int v8), .unset, .unset, .unset, .val (.int v12), .val (.int t0), .val (.int r142), .val (.int r143)]) (S' := [.int (t0 &&& (65535 : Int32)), .int r144]) (H' := ((.inr (.inl (false, scr)) : ACell) :: bk0 n0_words n0_mono n0_pairI n0_pairJ n0_wht n0_n s145 s146 s147 [])) rfl ?_
    by_cases hc89 : r144 = (t0 &&& (65535 : Int32))
    · simp only [if_pos hc89] at h
      refine OEndsQ.icmpT hm_0 rfl (q := 456) rfl ((teq hc89).1) ?_
      refine OEndsQ.adv hm_0 1 (pc' := 457) (L' := [.val (.ref 0), .val (.ref 1), .val (.int v2), .val (.int v3), .unset, .val (.int v5), .val (.int v6), .unset, .val (.int v8), .unset, .unset, .unset, .val (.int v12), .val (.int t0), .val (.int r142), .val (.int r143)]) (S' := [.ref 1]) (H' := ((.inr (.inl (false, scr)) : ACell) :: bk0 n0_words n0_mono n0_pairI n0_pairJ n0_wht n0_n s145 s146 s147 [])) rfl ?_
      obtain ⟨r148, hq90, h⟩ := bnd h
      refine OEndsQ.call0 hm_0 rfl rfl (by decide) rfl (as := [.ref 1]) (rest := []) rfl rfl (ok_lastDistance hq90) ?_
      refine OEndsQ.adv hm_0 1 (pc' := 462) (L' := [.val (.ref 0), .val (.ref 1), .val (.int v2), .val (.int v3), .unset, .val (.int v5), .val (.int v6), .unset, .val (.int v8), .unset, .unset, .unset, .val (.int v12), .val (.int t0), .val (.int r142), .val (.int r143)]) (S' := [.int r142, .int r148]) (H' := ((.inr (.inl (false, scr)) : ACell) :: bk0 n0_words n0_mono n0_pairI n0_pairJ n0_wht n0_n s145 s146 s147 [])) rfl ?_
      by_cases hc91 : r148 = r142
      · simp only [if_pos hc91] at h
        refine OEndsQ.icmpF hm_0 rfl ((teq hc91).2) ?_
        refine OEndsQ.adv hm_0 1 (pc' := 466) (L' := [.val (.ref 0), .val (.ref 1), .val (.int v2), .val (.int v3), .unset, .val (.int v5), .val (.int v6), .unset, .val (.int v8), .unset, .unset, .unset, .val (.int v12), .val (.int t0), .val (.int r142), .val (.int r143)]) (S' := [.ref 1]) (H' := ((.inr (.inl (false, scr)) : ACell) :: bk0 n0_words n0_mono n0_pairI n0_pairJ n0_wht n0_n s145 s146 s147 [])) rfl ?_
        obtain ⟨r149, hq92, h⟩ := bnd h
        refine OEndsQ.call0 hm_0 rfl rfl (by decide) rfl (as := [.ref 1]) (rest := []) rfl rfl (ok_lastTies hq92) ?_
        refine OEndsQ.adv hm_0 1 (pc' := 470) (L' := [.val (.ref 0), .val (.ref 1), .val (.int v2), .val (.int v3), .unset, .val (.int v5), .val (.int v6), .unset, .val (.int v8), .unset, .unset, .unset, .val (.int v12), .val (.int t0), .val (.int r142), .val (.int r143)]) (S' := [.int 1, .int r149]) (H' := ((.inr (.inl (false, scr)) : ACell) :: bk0 n0_words n0_mono n0_pairI n0_pairJ n0_wht n0_n s145 s146 s147 [])) rfl ?_
        by_cases hc93 : r149 = (1 : Int32)
        · simp only [if_pos hc93] at h
          refine OEndsQ.icmpF hm_0 rfl ((teq hc93).2) ?_
          refine OEndsQ.adv hm_0 1 (pc' := 474) (L' := [.val (.ref 0), .val (.ref 1), .val (.int v2), .val (.int v3), .unset, .val (.int v5), .val (.int v6), .unset, .val (.int v8), .unset, .unset, .unset, .val (.int v12), .val (.int t0), .val (.int r142), .val (.int r143)]) (S' := [.ref 1]) (H' := ((.inr (.inl (false, scr)) : ACell) :: bk0 n0_words n0_mono n0_pairI n0_pairJ n0_wht n0_n s145 s146 s147 [])) rfl ?_
          obtain ⟨r150, hq94, h⟩ := bnd h
          refine OEndsQ.call0 hm_0 rfl rfl (by decide) rfl (as := [.ref 1]) (rest := []) rfl rfl (ok_failures hq94) ?_
          refine OEndsQ.adv hm_0 1 (pc' := 479) (L' := [.val (.ref 0), .val (.ref 1), .val (.int v2), .val (.int v3), .unset, .val (.int v5), .val (.int v6), .unset, .val (.int v8), .unset, .unset, .unset, .val (.int v12), .val (.int t0), .val (.int r142), .val (.int r143)]) (S' := [.int r143, .int r150]) (H' := ((.inr (.inl (false, scr)) : ACell) :: bk0 n0_words n0_mono n0_pairI n0_pairJ n0_wht n0_n s145 s146 s147 [])) rfl ?_
          by_cases hc95 : r150 = r143
          · simp only [if_pos hc95] at h
            refine OEndsQ.icmpT hm_0 rfl (q := 484) rfl ((teq hc95).1) ?_
            refine OEndsQ.adv hm_0 2 (pc' := 391) (L' := [.val (.ref 0), .val (.ref 1), .val (.int v2), .val (.int v3), .unset, .val (.int v5), .val (.int v6), .unset, .val (.int v8), .unset, .unset, .unset, .val (.int (v12 + (1 : Int32))), .val (.int t0), .val (.int r142), .val (.int r143)]) (S' := []) (H' := ((.inr (.inl (false, scr)) : ACell) :: bk0 n0_words n0_mono n0_pairI n0_pairJ n0_wht n0_n s145 s146 s147 [])) rfl ?_
            exact hkb h
          · simp only [if_neg hc95] at h
            refine OEndsQ.icmpF hm_0 rfl ((feq hc95).1) ?_
            refine OEndsQ.adv hm_0 1 (pc' := 483) (L' := [.val (.ref 0), .val (.ref 1), .val (.int v2), .val (.int v3), .unset, .val (.int v5), .val (.int v6), .unset, .val (.int v8), .unset, .unset, .unset, .val (.int v12), .val (.int t0), .val (.int r142), .val (.int r143)]) (S' := [.int 0]) (H' := ((.inr (.inl (false, scr)) : ACell) :: bk0 n0_words n0_mono n0_pairI n0_pairJ n0_wht n0_n s145 s146 s147 [])) rfl ?_
            cases h
            exact OEndsQ.iret hm_0 rfl rfl
        · simp only [if_neg hc93] at h
          refine OEndsQ.icmpT hm_0 rfl (q := 482) rfl ((feq hc93).2) ?_
          refine OEndsQ.adv hm_0 1 (pc' := 483) (L' := [.val (.ref 0), .val (.ref 1), .val (.int v2), .val (.int v3), .unset, .val (.int v5), .val (.int v6), .unset, .val (.int v8), .unset, .unset, .unset, .val (.int v12), .val (.int t0), .val (.int r142), .val (.int r143)]) (S' := [.int 0]) (H' := ((.inr (.inl (false, scr)) : ACell) :: bk0 n0_words n0_mono n0_pairI n0_pairJ n0_wht n0_n s145 s146 s147 [])) rfl ?_
          cases h
          exact OEndsQ.iret hm_0 rfl rfl
      · simp only [if_neg hc91] at h
        refine OEndsQ.icmpT hm_0 rfl (q := 482) rfl ((feq hc91).2) ?_
        refine OEndsQ.adv hm_0 1 (pc' := 483) (L' := [.val (.ref 0), .val (.ref 1), .val (.int v2), .val (.int v3), .unset, .val (.int v5), .val (.int v6), .unset, .val (.int v8), .unset, .unset, .unset, .val (.int v12), .val (.int t0), .val (.int r142), .val (.int r143)]) (S' := [.int 0]) (H' := ((.inr (.inl (false, scr)) : ACell) :: bk0 n0_words n0_mono n0_pairI n0_pairJ n0_wht n0_n s145 s146 s147 [])) rfl ?_
        cases h
        exact OEndsQ.iret hm_0 rfl rfl
    · simp only [if_neg hc89] at h
      refine OEndsQ.icmpF hm_0 rfl ((feq hc89).1) ?_
      refine OEndsQ.adv hm_0 1 (pc' := 455) (L' := [.val (.ref 0), .val (.ref 1), .val (.int v2), .val (.int v3), .unset, .val (.int v5), .val (.int v6), .unset, .val (.int v8), .unset, .unset, .unset, .val (.int v12), .val (.int t0), .val (.int r142), .val (.int r143)]) (S' := [.int 0]) (H' := ((.inr (.inl (false, scr)) : ACell) :: bk0 n0_words n0_mono n0_pairI n0_pairJ n0_wht n0_n s145 s146 s147 [])) rfl ?_
      cases h
      exact OEndsQ.iret hm_0 rfl rfl
theorem ok_L_law_391 {scr : List Int32} {k26 : List Int32 → List Int32 → List Int32 → List Int32 → List Int32 → Int32 → Int32 → Int32 → Int32 → Int32 → Int32 → Option (Int32)} (hk26 : ∀ {n0_words : List Int32} {n0_mono : List Int32} {n0_pairI : List Int32} {n0_pairJ : List Int32} {n0_wht : List Int32} {n0_n : Int32} {n0_lastDist : Int32} {n0_lastTie : Int32} {n0_failCount : Int32} {v2 : Int32} {v3 : Int32} {d4 d5 d6 d7 d8 d9 d10 d11 d12 d13 d14 d15 : Slot} {res : Int32}, k26 n0_words n0_mono n0_pairI n0_pairJ n0_wht n0_n n0_lastDist n0_lastTie n0_failCount v2 v3 = some res → OEndsQ own_P 0 26 [.val (.ref 0), .val (.ref 1), .val (.int v2), .val (.int v3), d4, d5, d6, d7, d8, d9, d10, d11, d12, d13, d14, d15] [] ((.inr (.inl (false, scr)) : ACell) :: bk0 n0_words n0_mono n0_pairI n0_pairJ n0_wht n0_n n0_lastDist n0_lastTie n0_failCount []) (LawQ res 0 0)) : ∀ (n : Nat), ∀ {n0_words : List Int32} {n0_mono : List Int32} {n0_pairI : List Int32} {n0_pairJ : List Int32} {n0_wht : List Int32} {n0_n : Int32} {n0_lastDist : Int32} {n0_lastTie : Int32} {n0_failCount : Int32} {v2 : Int32} {v3 : Int32} {v5 : Int32} {v6 : Int32} {v8 : Int32} {v12 : Int32} {d4 d7 d9 d10 d11 d13 d14 d15 : Slot} {res : Int32}, f_L_law_391 k26 scr n n0_words n0_mono n0_pairI n0_pairJ n0_wht n0_n n0_lastDist n0_lastTie n0_failCount v2 v3 v5 v6 v8 v12 = some res → OEndsQ own_P 0 391 [.val (.ref 0), .val (.ref 1), .val (.int v2), .val (.int v3), d4, .val (.int v5), .val (.int v6), d7, .val (.int v8), d9, d10, d11, .val (.int v12), d13, d14, d15] [] ((.inr (.inl (false, scr)) : ACell) :: bk0 n0_words n0_mono n0_pairI n0_pairJ n0_wht n0_n n0_lastDist n0_lastTie n0_failCount []) (LawQ res 0 0) := by
  intro n
  induction n with
  | zero => intro n0_words n0_mono n0_pairI n0_pairJ n0_wht n0_n n0_lastDist n0_lastTie n0_failCount v2 v3 v5 v6 v8 v12 d4 d7 d9 d10 d11 d13 d14 d15 res h; cases h
  | succ n ih =>
    intro n0_words n0_mono n0_pairI n0_pairJ n0_wht n0_n n0_lastDist n0_lastTie n0_failCount v2 v3 v5 v6 v8 v12 d4 d7 d9 d10 d11 d13 d14 d15 res h
    unfold f_L_law_391 at h
    refine OEndsQ.adv hm_0 2 (pc' := 394) (L' := [.val (.ref 0), .val (.ref 1), .val (.int v2), .val (.int v3), .unset, .val (.int v5), .val (.int v6), .unset, .val (.int v8), .unset, .unset, .unset, .val (.int v12), .unset, .unset, .unset]) (S' := [.int 2, .int v12]) (H' := ((.inr (.inl (false, scr)) : ACell) :: bk0 n0_words n0_mono n0_pairI n0_pairJ n0_wht n0_n n0_lastDist n0_lastTie n0_failCount [])) rfl ?_
    by_cases hc96 : v12 < (2 : Int32)
    · simp only [if_pos hc96] at h
      refine OEndsQ.icmpF hm_0 rfl ((tlt hc96).2.1) ?_
      refine OEndsQ.adv hm_0 1 (pc' := 399) (L' := [.val (.ref 0), .val (.ref 1), .val (.int v2), .val (.int v3), .unset, .val (.int v5), .val (.int v6), .unset, .val (.int v8), .unset, .unset, .unset, .val (.int v12), .unset, .unset, .unset]) (S' := [.int v12]) (H' := ((.inr (.inl (false, scr)) : ACell) :: bk0 n0_words n0_mono n0_pairI n0_pairJ n0_wht n0_n n0_lastDist n0_lastTie n0_failCount [])) rfl ?_
      by_cases hc97 : v12 = (0 : Int32)
      · simp only [if_pos hc97] at h
        refine OEndsQ.ifF hm_0 rfl ((teq hc97).2) ?_
        refine OEndsQ.adv hm_0 2 (pc' := 412) (L' := [.val (.ref 0), .val (.ref 1), .val (.int v2), .val (.int v3), .unset, .val (.int v5), .val (.int v6), .unset, .val (.int v8), .unset, .unset, .unset, .val (.int v12), .unset, .unset, .unset]) (S' := [.int v6]) (H' := ((.inr (.inl (false, scr)) : ACell) :: bk0 n0_words n0_mono n0_pairI n0_pairJ n0_wht n0_n n0_lastDist n0_lastTie n0_failCount [])) rfl ?_
        exact ok_L_law_412 ih hk26 h
      · simp only [if_neg hc97] at h
        refine OEndsQ.ifT hm_0 rfl (q := 407) rfl ((feq hc97).2) ?_
        refine OEndsQ.adv hm_0 3 (pc' := 412) (L' := [.val (.ref 0), .val (.ref 1), .val (.int v2), .val (.int v3), .unset, .val (.int v5), .val (.int v6), .unset, .val (.int v8), .unset, .unset, .unset, .val (.int v12), .unset, .unset, .unset]) (S' := [.int (v6 &&& (63 : Int32))]) (H' := ((.inr (.inl (false, scr)) : ACell) :: bk0 n0_words n0_mono n0_pairI n0_pairJ n0_wht n0_n n0_lastDist n0_lastTie n0_failCount [])) rfl ?_
        exact ok_L_law_412 ih hk26 h
    · simp only [if_neg hc96] at h
      refine OEndsQ.icmpT hm_0 rfl (q := 490) rfl ((flt hc96).2.1) ?_
      refine OEndsQ.adv hm_0 2 (pc' := 26) (L' := [.val (.ref 0), .val (.ref 1), .val (.int v2), .val (.int (v3 + (4 : Int32))), .unset, .val (.int v5), .val (.int v6), .unset, .val (.int v8), .unset, .unset, .unset, .val (.int v12), .unset, .unset, .unset]) (S' := []) (H' := ((.inr (.inl (false, scr)) : ACell) :: bk0 n0_words n0_mono n0_pairI n0_pairJ n0_wht n0_n n0_lastDist n0_lastTie n0_failCount [])) rfl ?_
      exact hk26 h
theorem ok_L_law_265 {scr : List Int32} {kb : List Int32 → List Int32 → List Int32 → List Int32 → List Int32 → Int32 → Int32 → Int32 → Int32 → Int32 → Int32 → Option (Int32)} (hkb : ∀ {n0_words : List Int32} {n0_mono : List Int32} {n0_pairI : List Int32} {n0_pairJ : List Int32} {n0_wht : List Int32} {n0_n : Int32} {n0_lastDist : Int32} {n0_lastTie : Int32} {n0_failCount : Int32} {v2 : Int32} {v3 : Int32} {d4 d5 d6 d7 d8 d9 d10 d11 d12 d13 d14 d15 : Slot} {res : Int32}, kb n0_words n0_mono n0_pairI n0_pairJ n0_wht n0_n n0_lastDist n0_lastTie n0_failCount v2 v3 = some res → OEndsQ own_P 0 26 [.val (.ref 0), .val (.ref 1), .val (.int v2), .val (.int v3), d4, d5, d6, d7, d8, d9, d10, d11, d12, d13, d14, d15] [] ((.inr (.inl (false, scr)) : ACell) :: bk0 n0_words n0_mono n0_pairI n0_pairJ n0_wht n0_n n0_lastDist n0_lastTie n0_failCount []) (LawQ res 0 0)) : ∀ {n0_words : List Int32} {n0_mono : List Int32} {n0_pairI : List Int32} {n0_pairJ : List Int32} {n0_wht : List Int32} {n0_n : Int32} {n0_lastDist : Int32} {n0_lastTie : Int32} {n0_failCount : Int32} {v2 : Int32} {v3 : Int32} {v5 : Int32} {v6 : Int32} {d4 d7 d8 d9 d10 d11 d12 d13 d14 d15 : Slot} {res : Int32}, f_L_law_265 kb scr n0_words n0_mono n0_pairI n0_pairJ n0_wht n0_n n0_lastDist n0_lastTie n0_failCount v2 v3 v5 v6 = some res → OEndsQ own_P 0 265 [.val (.ref 0), .val (.ref 1), .val (.int v2), .val (.int v3), d4, .val (.int v5), .val (.int v6), d7, d8, d9, d10, d11, d12, d13, d14, d15] [] ((.inr (.inl (false, scr)) : ACell) :: bk0 n0_words n0_mono n0_pairI n0_pairJ n0_wht n0_n n0_lastDist n0_lastTie n0_failCount []) (LawQ res 0 0) := by
  intro n0_words n0_mono n0_pairI n0_pairJ n0_wht n0_n n0_lastDist n0_lastTie n0_failCount v2 v3 v5 v6 d4 d7 d8 d9 d10 d11 d12 d13 d14 d15 res h
  unfold f_L_law_265 at h
  refine OEndsQ.adv hm_0 2 (pc' := 268) (L' := [.val (.ref 0), .val (.ref 1), .val (.int v2), .val (.int v3), .unset, .val (.int v5), .val (.int v6), .unset, .unset, .unset, .unset, .unset, .unset, .unset, .unset, .unset]) (S' := [.int v5, .ref 1]) (H' := ((.inr (.inl (false, scr)) : ACell) :: bk0 n0_words n0_mono n0_pairI n0_pairJ n0_wht n0_n n0_lastDist n0_lastTie n0_failCount [])) rfl ?_
  obtain ⟨r125, hq98, h⟩ := bnd h
  refine OEndsQ.call0 hm_0 rfl rfl (by decide) rfl (as := [.ref 1, .int v5]) (rest := []) rfl rfl (ok_getWord hq98) ?_
  refine OEndsQ.adv hm_0 3 (pc' := 276) (L' := [.val (.ref 0), .val (.ref 1), .val (.int v2), .val (.int v3), .unset, .val (.int v5), .val (.int v6), .unset, .val (.int r125), .unset, .unset, .unset, .unset, .unset, .unset, .unset]) (S' := [.int v5, .ref 1]) (H' := ((.inr (.inl (false, scr)) : ACell) :: bk0 n0_words n0_mono n0_pairI n0_pairJ n0_wht n0_n n0_lastDist n0_lastTie n0_failCount [])) rfl ?_
  obtain ⟨⟨r126, s127, s128, s129⟩, hq99, h⟩ := bnd h
  refine OEndsQ.call0 hm_0 rfl rfl (by decide) rfl (as := [.ref 1, .int v5]) (rest := []) rfl rfl (ok_decode1 hq99) ?_
  refine OEndsQ.adv hm_0 2 (pc' := 283) (L' := [.val (.ref 0), .val (.ref 1), .val (.int v2), .val (.int v3), .unset, .val (.int v5), .val (.int v6), .unset, .val (.int r125), .val (.int r126), .unset, .unset, .unset, .unset, .unset, .unset]) (S' := [.int r126]) (H' := ((.inr (.inl (false, scr)) : ACell) :: bk0 n0_words n0_mono n0_pairI n0_pairJ s127 n0_n s128 s129 n0_failCount [])) rfl ?_
  by_cases hc100 : r126 < (0 : Int32)
  · simp only [if_pos hc100] at h
    refine OEndsQ.ifT hm_0 rfl (q := 293) rfl ((tlt hc100).1) ?_
    refine OEndsQ.adv hm_0 1 (pc' := 294) (L' := [.val (.ref 0), .val (.ref 1), .val (.int v2), .val (.int v3), .unset, .val (.int v5), .val (.int v6), .unset, .val (.int r125), .val (.int r126), .unset, .unset, .unset, .unset, .unset, .unset]) (S' := [.int 0]) (H' := ((.inr (.inl (false, scr)) : ACell) :: bk0 n0_words n0_mono n0_pairI n0_pairJ s127 n0_n s128 s129 n0_failCount [])) rfl ?_
    cases h
    exact OEndsQ.iret hm_0 rfl rfl
  · simp only [if_neg hc100] at h
    refine OEndsQ.ifF hm_0 rfl ((flt hc100).1) ?_
    refine OEndsQ.adv hm_0 2 (pc' := 290) (L' := [.val (.ref 0), .val (.ref 1), .val (.int v2), .val (.int v3), .unset, .val (.int v5), .val (.int v6), .unset, .val (.int r125), .val (.int r126), .unset, .unset, .unset, .unset, .unset, .unset]) (S' := [.int 63, .int r126]) (H' := ((.inr (.inl (false, scr)) : ACell) :: bk0 n0_words n0_mono n0_pairI n0_pairJ s127 n0_n s128 s129 n0_failCount [])) rfl ?_
    by_cases hc101 : (63 : Int32) < r126
    · simp only [if_pos hc101] at h
      refine OEndsQ.icmpF hm_0 rfl ((tlt hc101).2.2.2) ?_
      refine OEndsQ.adv hm_0 1 (pc' := 294) (L' := [.val (.ref 0), .val (.ref 1), .val (.int v2), .val (.int v3), .unset, .val (.int v5), .val (.int v6), .unset, .val (.int r125), .val (.int r126), .unset, .unset, .unset, .unset, .unset, .unset]) (S' := [.int 0]) (H' := ((.inr (.inl (false, scr)) : ACell) :: bk0 n0_words n0_mono n0_pairI n0_pairJ s127 n0_n s128 s129 n0_failCount [])) rfl ?_
      cases h
      exact OEndsQ.iret hm_0 rfl rfl
    · simp only [if_neg hc101] at h
      refine OEndsQ.icmpT hm_0 rfl (q := 295) rfl ((flt hc101).2.2.2) ?_
      refine OEndsQ.adv hm_0 1 (pc' := 296) (L' := [.val (.ref 0), .val (.ref 1), .val (.int v2), .val (.int v3), .unset, .val (.int v5), .val (.int v6), .unset, .val (.int r125), .val (.int r126), .unset, .unset, .unset, .unset, .unset, .unset]) (S' := [.ref 1]) (H' := ((.inr (.inl (false, scr)) : ACell) :: bk0 n0_words n0_mono n0_pairI n0_pairJ s127 n0_n s128 s129 n0_failCount [])) rfl ?_
      obtain ⟨r130, hq102, h⟩ := bnd h
      refine OEndsQ.call0 hm_0 rfl rfl (by decide) rfl (as := [.ref 1]) (rest := []) rfl rfl (ok_lastDistance hq102) ?_
      refine OEndsQ.adv hm_0 2 (pc' := 303) (L' := [.val (.ref 0), .val (.ref 1), .val (.int v2), .val (.int v3), .unset, .val (.int v5), .val (.int v6), .unset, .val (.int r125), .val (.int r126), .val (.int r130), .unset, .unset, .unset, .unset, .unset]) (S' := [.int r130]) (H' := ((.inr (.inl (false, scr)) : ACell) :: bk0 n0_words n0_mono n0_pairI n0_pairJ s127 n0_n s128 s129 n0_failCount [])) rfl ?_
      by_cases hc103 : r130 < (0 : Int32)
      · simp only [if_pos hc103] at h
        refine OEndsQ.ifT hm_0 rfl (q := 330) rfl ((tlt hc103).1) ?_
        refine OEndsQ.adv hm_0 1 (pc' := 331) (L' := [.val (.ref 0), .val (.ref 1), .val (.int v2), .val (.int v3), .unset, .val (.int v5), .val (.int v6), .unset, .val (.int r125), .val (.int r126), .val (.int r130), .unset, .unset, .unset, .unset, .unset]) (S' := [.int 0]) (H' := ((.inr (.inl (false, scr)) : ACell) :: bk0 n0_words n0_mono n0_pairI n0_pairJ s127 n0_n s128 s129 n0_failCount [])) rfl ?_
        cases h
        exact OEndsQ.iret hm_0 rfl rfl
      · simp only [if_neg hc103] at h
        refine OEndsQ.ifF hm_0 rfl ((flt hc103).1) ?_
        refine OEndsQ.adv hm_0 2 (pc' := 310) (L' := [.val (.ref 0), .val (.ref 1), .val (.int v2), .val (.int v3), .unset, .val (.int v5), .val (.int v6), .unset, .val (.int r125), .val (.int r126), .val (.int r130), .unset, .unset, .unset, .unset, .unset]) (S' := [.int 16, .int r130]) (H' := ((.inr (.inl (false, scr)) : ACell) :: bk0 n0_words n0_mono n0_pairI n0_pairJ s127 n0_n s128 s129 n0_failCount [])) rfl ?_
        by_cases hc104 : (16 : Int32) < r130
        · simp only [if_pos hc104] at h
          refine OEndsQ.icmpT hm_0 rfl (q := 330) rfl ((tlt hc104).2.2.1) ?_
          refine OEndsQ.adv hm_0 1 (pc' := 331) (L' := [.val (.ref 0), .val (.ref 1), .val (.int v2), .val (.int v3), .unset, .val (.int v5), .val (.int v6), .unset, .val (.int r125), .val (.int r126), .val (.int r130), .unset, .unset, .unset, .unset, .unset]) (S' := [.int 0]) (H' := ((.inr (.inl (false, scr)) : ACell) :: bk0 n0_words n0_mono n0_pairI n0_pairJ s127 n0_n s128 s129 n0_failCount [])) rfl ?_
          cases h
          exact OEndsQ.iret hm_0 rfl rfl
        · simp only [if_neg hc104] at h
          refine OEndsQ.icmpF hm_0 rfl ((flt hc104).2.2.1) ?_
          refine OEndsQ.adv hm_0 4 (pc' := 320) (L' := [.val (.ref 0), .val (.ref 1), .val (.int v2), .val (.int v3), .unset, .val (.int v5), .val (.int v6), .unset, .val (.int r125), .val (.int r126), .val (.int r130), .unset, .unset, .unset, .unset, .unset]) (S' := [.int r126, .ref 1, .int r125, .int r130]) (H' := ((.inr (.inl (false, scr)) : ACell) :: bk0 n0_words n0_mono n0_pairI n0_pairJ s127 n0_n s128 s129 n0_failCount [])) rfl ?_
          obtain ⟨r131, hq105, h⟩ := bnd h
          refine OEndsQ.call0 hm_0 rfl rfl (by decide) rfl (as := [.ref 1, .int r126]) (rest := [.int r125, .int r130]) rfl rfl (ok_encode1 hq105) ?_
          refine OEndsQ.adv hm_0 1 (pc' := 324) (L' := [.val (.ref 0), .val (.ref 1), .val (.int v2), .val (.int v3), .unset, .val (.int v5), .val (.int v6), .unset, .val (.int r125), .val (.int r126), .val (.int r130), .unset, .unset, .unset, .unset, .unset]) (S' := [.int (r125 ^^^ r131), .int r130]) (H' := ((.inr (.inl (false, scr)) : ACell) :: bk0 n0_words n0_mono n0_pairI n0_pairJ s127 n0_n s128 s129 n0_failCount [])) rfl ?_
          obtain ⟨r132, hq106, h⟩ := bnd h
          refine OEndsQ.call0 hm_0 rfl rfl (by decide) rfl (as := [.int (r125 ^^^ r131)]) (rest := [.int r130]) rfl rfl (ok_L_pop hq106) ?_
          show OEndsQ own_P 0 327 [.val (.ref 0), .val (.ref 1), .val (.int v2), .val (.int v3), .unset, .val (.int v5), .val (.int v6), .unset, .val (.int r125), .val (.int r126), .val (.int r130), .unset, .unset, .unset, .unset, .unset] [.int r132, .int r130] ((.inr (.inl (false, scr)) : ACell) :: bk0 n0_words n0_mono n0_pairI n0_pairJ s127 n0_n s128 s129 n0_failCount []) _
          by_cases hc107 : r130 = r132
          · simp only [if_pos hc107] at h
            refine OEndsQ.icmpT hm_0 rfl (q := 332) rfl ((teq hc107).1) ?_
            refine OEndsQ.adv hm_0 3 (pc' := 337) (L' := [.val (.ref 0), .val (.ref 1), .val (.int v2), .val (.int v3), .unset, .val (.int v5), .val (.int v6), .unset, .val (.int r125), .val (.int r126), .val (.int r130), .unset, .unset, .unset, .unset, .unset]) (S' := [.int v6, .ref 1, .int r125]) (H' := ((.inr (.inl (false, scr)) : ACell) :: bk0 n0_words n0_mono n0_pairI n0_pairJ s127 n0_n s128 s129 n0_failCount [])) rfl ?_
            obtain ⟨r133, hq108, h⟩ := bnd h
            refine OEndsQ.call0 hm_0 rfl rfl (by decide) rfl (as := [.ref 1, .int v6]) (rest := [.int r125]) rfl rfl (ok_encode1 hq108) ?_
            refine OEndsQ.adv hm_0 1 (pc' := 341) (L' := [.val (.ref 0), .val (.ref 1), .val (.int v2), .val (.int v3), .unset, .val (.int v5), .val (.int v6), .unset, .val (.int r125), .val (.int r126), .val (.int r130), .unset, .unset, .unset, .unset, .unset]) (S' := [.int (r125 ^^^ r133)]) (H' := ((.inr (.inl (false, scr)) : ACell) :: bk0 n0_words n0_mono n0_pairI n0_pairJ s127 n0_n s128 s129 n0_failCount [])) rfl ?_
            obtain ⟨r134, hq109, h⟩ := bnd h
            refine OEndsQ.call0 hm_0 rfl rfl (by decide) rfl (as := [.int (r125 ^^^ r133)]) (rest := []) rfl rfl (ok_L_pop hq109) ?_
            refine OEndsQ.adv hm_0 3 (pc' := 350) (L' := [.val (.ref 0), .val (.ref 1), .val (.int v2), .val (.int v3), .unset, .val (.int v5), .val (.int v6), .unset, .val (.int r125), .val (.int r126), .val (.int r130), .val (.int r134), .unset, .unset, .unset, .unset]) (S' := [.int 7, .int r134]) (H' := ((.inr (.inl (false, scr)) : ACell) :: bk0 n0_words n0_mono n0_pairI n0_pairJ s127 n0_n s128 s129 n0_failCount [])) rfl ?_
            by_cases hc110 : (7 : Int32) < r134
            · simp only [if_pos hc110] at h
              refine OEndsQ.icmpT hm_0 rfl (q := 388) rfl ((tlt hc110).2.2.1) ?_
              refine OEndsQ.adv hm_0 2 (pc' := 391) (L' := [.val (.ref 0), .val (.ref 1), .val (.int v2), .val (.int v3), .unset, .val (.int v5), .val (.int v6), .unset, .val (.int r125), .val (.int r126), .val (.int r130), .val (.int r134), .val (.int 0), .unset, .unset, .unset]) (S' := []) (H' := ((.inr (.inl (false, scr)) : ACell) :: bk0 n0_words n0_mono n0_pairI n0_pairJ s127 n0_n s128 s129 n0_failCount [])) rfl ?_
              exact ok_L_law_391 (k26 := kb) hkb 100000 h
            · simp only [if_neg hc110] at h
              refine OEndsQ.icmpF hm_0 rfl ((flt hc110).2.2.1) ?_
              refine OEndsQ.adv hm_0 2 (pc' := 356) (L' := [.val (.ref 0), .val (.ref 1), .val (.int v2), .val (.int v3), .unset, .val (.int v5), .val (.int v6), .unset, .val (.int r125), .val (.int r126), .val (.int r130), .val (.int r134), .unset, .unset, .unset, .unset]) (S' := [.int v5, .ref 1]) (H' := ((.inr (.inl (false, scr)) : ACell) :: bk0 n0_words n0_mono n0_pairI n0_pairJ s127 n0_n s128 s129 n0_failCount [])) rfl ?_
              obtain ⟨⟨r135, s136, s137, s138⟩, hq111, h⟩ := bnd h
              refine OEndsQ.call0 hm_0 rfl rfl (by decide) rfl (as := [.ref 1, .int v5]) (rest := []) rfl rfl (ok_decode1 hq111) ?_
              refine OEndsQ.adv hm_0 3 (pc' := 364) (L' := [.val (.ref 0), .val (.ref 1), .val (.int v2), .val (.int v3), .unset, .val (.int v5), .val (.int v6), .unset, .val (.int r125), .val (.int r126), .val (.int r130), .val (.int r134), .unset, .unset, .unset, .unset]) (S' := [.int (v6 &&& (63 : Int32)), .int r135]) (H' := ((.inr (.inl (false, scr)) : ACell) :: bk0 n0_words n0_mono n0_pairI n0_pairJ s136 n0_n s137 s138 n0_failCount [])) rfl ?_
              by_cases hc112 : r135 = (v6 &&& (63 : Int32))
              · simp only [if_pos hc112] at h
                refine OEndsQ.icmpT hm_0 rfl (q := 369) rfl ((teq hc112).1) ?_
                refine OEndsQ.adv hm_0 1 (pc' := 370) (L' := [.val (.ref 0), .val (.ref 1), .val (.int v2), .val (.int v3), .unset, .val (.int v5), .val (.int v6), .unset, .val (.int r125), .val (.int r126), .val (.int r130), .val (.int r134), .unset, .unset, .unset, .unset]) (S' := [.ref 1]) (H' := ((.inr (.inl (false, scr)) : ACell) :: bk0 n0_words n0_mono n0_pairI n0_pairJ s136 n0_n s137 s138 n0_failCount [])) rfl ?_
                obtain ⟨r139, hq113, h⟩ := bnd h
                refine OEndsQ.call0 hm_0 rfl rfl (by decide) rfl (as := [.ref 1]) (rest := []) rfl rfl (ok_lastDistance hq113) ?_
                refine OEndsQ.adv hm_0 1 (pc' := 375) (L' := [.val (.ref 0), .val (.ref 1), .val (.int v2), .val (.int v3), .unset, .val (.int v5), .val (.int v6), .unset, .val (.int r125), .val (.int r126), .val (.int r130), .val (.int r134), .unset, .unset, .unset, .unset]) (S' := [.int r134, .int r139]) (H' := ((.inr (.inl (false, scr)) : ACell) :: bk0 n0_words n0_mono n0_pairI n0_pairJ s136 n0_n s137 s138 n0_failCount [])) rfl ?_
                by_cases hc114 : r139 = r134
                · simp only [if_pos hc114] at h
                  refine OEndsQ.icmpF hm_0 rfl ((teq hc114).2) ?_
                  refine OEndsQ.adv hm_0 1 (pc' := 379) (L' := [.val (.ref 0), .val (.ref 1), .val (.int v2), .val (.int v3), .unset, .val (.int v5), .val (.int v6), .unset, .val (.int r125), .val (.int r126), .val (.int r130), .val (.int r134), .unset, .unset, .unset, .unset]) (S' := [.ref 1]) (H' := ((.inr (.inl (false, scr)) : ACell) :: bk0 n0_words n0_mono n0_pairI n0_pairJ s136 n0_n s137 s138 n0_failCount [])) rfl ?_
                  obtain ⟨r140, hq115, h⟩ := bnd h
                  refine OEndsQ.call0 hm_0 rfl rfl (by decide) rfl (as := [.ref 1]) (rest := []) rfl rfl (ok_lastTies hq115) ?_
                  refine OEndsQ.adv hm_0 1 (pc' := 383) (L' := [.val (.ref 0), .val (.ref 1), .val (.int v2), .val (.int v3), .unset, .val (.int v5), .val (.int v6), .unset, .val (.int r125), .val (.int r126), .val (.int r130), .val (.int r134), .unset, .unset, .unset, .unset]) (S' := [.int 1, .int r140]) (H' := ((.inr (.inl (false, scr)) : ACell) :: bk0 n0_words n0_mono n0_pairI n0_pairJ s136 n0_n s137 s138 n0_failCount [])) rfl ?_
                  by_cases hc116 : r140 = (1 : Int32)
                  · simp only [if_pos hc116] at h
                    refine OEndsQ.icmpT hm_0 rfl (q := 388) rfl ((teq hc116).1) ?_
                    refine OEndsQ.adv hm_0 2 (pc' := 391) (L' := [.val (.ref 0), .val (.ref 1), .val (.int v2), .val (.int v3), .unset, .val (.int v5), .val (.int v6), .unset, .val (.int r125), .val (.int r126), .val (.int r130), .val (.int r134), .val (.int 0), .unset, .unset, .unset]) (S' := []) (H' := ((.inr (.inl (false, scr)) : ACell) :: bk0 n0_words n0_mono n0_pairI n0_pairJ s136 n0_n s137 s138 n0_failCount [])) rfl ?_
                    exact ok_L_law_391 (k26 := kb) hkb 100000 h
                  · simp only [if_neg hc116] at h
                    refine OEndsQ.icmpF hm_0 rfl ((feq hc116).1) ?_
                    refine OEndsQ.adv hm_0 1 (pc' := 387) (L' := [.val (.ref 0), .val (.ref 1), .val (.int v2), .val (.int v3), .unset, .val (.int v5), .val (.int v6), .unset, .val (.int r125), .val (.int r126), .val (.int r130), .val (.int r134), .unset, .unset, .unset, .unset]) (S' := [.int 0]) (H' := ((.inr (.inl (false, scr)) : ACell) :: bk0 n0_words n0_mono n0_pairI n0_pairJ s136 n0_n s137 s138 n0_failCount [])) rfl ?_
                    cases h
                    exact OEndsQ.iret hm_0 rfl rfl
                · simp only [if_neg hc114] at h
                  refine OEndsQ.icmpT hm_0 rfl (q := 386) rfl ((feq hc114).2) ?_
                  refine OEndsQ.adv hm_0 1 (pc' := 387) (L' := [.val (.ref 0), .val (.ref 1), .val (.int v2), .val (.int v3), .unset, .val (.int v5), .val (.int v6), .unset, .val (.int r125), .val (.int r126), .val (.int r130), .val (.int r134), .unset, .unset, .unset, .unset]) (S' := [.int 0]) (H' := ((.inr (.inl (false, scr)) : ACell) :: bk0 n0_words n0_mono n0_pairI n0_pairJ s136 n0_n s137 s138 n0_failCount [])) rfl ?_
                  cases h
                  exact OEndsQ.iret hm_0 rfl rfl
              · simp only [if_neg hc112] at h
                refine OEndsQ.icmpF hm_0 rfl ((feq hc112).1) ?_
                refine OEndsQ.adv hm_0 1 (pc' := 368) (L' := [.val (.ref 0), .val (.ref 1), .val (.int v2), .val (.int v3), .unset, .val (.int v5), .val (.int v6), .unset, .val (.int r125), .val (.int r126), .val (.int r130), .val (.int r134), .unset, .unset, .unset, .unset]) (S' := [.int 0]) (H' := ((.inr (.inl (false, scr)) : ACell) :: bk0 n0_words n0_mono n0_pairI n0_pairJ s136 n0_n s137 s138 n0_failCount [])) rfl ?_
                cases h
                exact OEndsQ.iret hm_0 rfl rfl
          · simp only [if_neg hc107] at h
            refine OEndsQ.icmpF hm_0 rfl ((feq hc107).1) ?_
            refine OEndsQ.adv hm_0 1 (pc' := 331) (L' := [.val (.ref 0), .val (.ref 1), .val (.int v2), .val (.int v3), .unset, .val (.int v5), .val (.int v6), .unset, .val (.int r125), .val (.int r126), .val (.int r130), .unset, .unset, .unset, .unset, .unset]) (S' := [.int 0]) (H' := ((.inr (.inl (false, scr)) : ACell) :: bk0 n0_words n0_mono n0_pairI n0_pairJ s127 n0_n s128 s129 n0_failCount [])) rfl ?_
            cases h
            exact OEndsQ.iret hm_0 rfl rfl
theorem ok_L_law_161 {scr : List Int32} {k265 : List Int32 → List Int32 → List Int32 → List Int32 → List Int32 → Int32 → Int32 → Int32 → Int32 → Int32 → Int32 → Int32 → Int32 → Option (Int32)} (hk265 : ∀ {n0_words : List Int32} {n0_mono : List Int32} {n0_pairI : List Int32} {n0_pairJ : List Int32} {n0_wht : List Int32} {n0_n : Int32} {n0_lastDist : Int32} {n0_lastTie : Int32} {n0_failCount : Int32} {v2 : Int32} {v3 : Int32} {v5 : Int32} {v6 : Int32} {d4 d7 d8 d9 d10 d11 d12 d13 d14 d15 : Slot} {res : Int32}, k265 n0_words n0_mono n0_pairI n0_pairJ n0_wht n0_n n0_lastDist n0_lastTie n0_failCount v2 v3 v5 v6 = some res → OEndsQ own_P 0 265 [.val (.ref 0), .val (.ref 1), .val (.int v2), .val (.int v3), d4, .val (.int v5), .val (.int v6), d7, d8, d9, d10, d11, d12, d13, d14, d15] [] ((.inr (.inl (false, scr)) : ACell) :: bk0 n0_words n0_mono n0_pairI n0_pairJ n0_wht n0_n n0_lastDist n0_lastTie n0_failCount []) (LawQ res 0 0)) : ∀ (n : Nat), ∀ {n0_words : List Int32} {n0_mono : List Int32} {n0_pairI : List Int32} {n0_pairJ : List Int32} {n0_wht : List Int32} {n0_n : Int32} {n0_lastDist : Int32} {n0_lastTie : Int32} {n0_failCount : Int32} {v2 : Int32} {v3 : Int32} {v5 : Int32} {v6 : Int32} {v7 : Int32} {v8 : Int32} {v9 : Int32} {d4 d10 d11 d12 d13 d14 d15 : Slot} {res : Int32}, f_L_law_161 k265 scr n n0_words n0_mono n0_pairI n0_pairJ n0_wht n0_n n0_lastDist n0_lastTie n0_failCount v2 v3 v5 v6 v7 v8 v9 = some res → OEndsQ own_P 0 161 [.val (.ref 0), .val (.ref 1), .val (.int v2), .val (.int v3), d4, .val (.int v5), .val (.int v6), .val (.int v7), .val (.int v8), .val (.int v9), d10, d11, d12, d13, d14, d15] [] ((.inr (.inl (false, scr)) : ACell) :: bk0 n0_words n0_mono n0_pairI n0_pairJ n0_wht n0_n n0_lastDist n0_lastTie n0_failCount []) (LawQ res 0 0) := by
  intro n
  induction n with
  | zero => intro n0_words n0_mono n0_pairI n0_pairJ n0_wht n0_n n0_lastDist n0_lastTie n0_failCount v2 v3 v5 v6 v7 v8 v9 d4 d10 d11 d12 d13 d14 d15 res h; cases h
  | succ n ih =>
    intro n0_words n0_mono n0_pairI n0_pairJ n0_wht n0_n n0_lastDist n0_lastTie n0_failCount v2 v3 v5 v6 v7 v8 v9 d4 d10 d11 d12 d13 d14 d15 res h
    unfold f_L_law_161 at h
    refine OEndsQ.adv hm_0 2 (pc' := 165) (L' := [.val (.ref 0), .val (.ref 1), .val (.int v2), .val (.int v3), .unset, .val (.int v5), .val (.int v6), .val (.int v7), .val (.int v8), .val (.int v9), .unset, .unset, .unset, .unset, .unset, .unset]) (S' := [.int v8, .int v9]) (H' := ((.inr (.inl (false, scr)) : ACell) :: bk0 n0_words n0_mono n0_pairI n0_pairJ n0_wht n0_n n0_lastDist n0_lastTie n0_failCount [])) rfl ?_
    by_cases hc117 : v9 < v8
    · simp only [if_pos hc117] at h
      refine OEndsQ.icmpF hm_0 rfl ((tlt hc117).2.1) ?_
      refine OEndsQ.adv hm_0 11 (pc' := 184) (L' := [.val (.ref 0), .val (.ref 1), .val (.int v2), .val (.int v3), .unset, .val (.int v5), .val (.int v6), .val (.int v7), .val (.int v8), .val (.int v9), .unset, .unset, .unset, .unset, .unset, .unset]) (S' := [.int (((XT.ushr v7 (3 : Int32)) + ((11 : Int32) * v9)) &&& (31 : Int32)), .int v5, .ref 1]) (H' := ((.inr (.inl (false, scr)) : ACell) :: bk0 n0_words n0_mono n0_pairI n0_pairJ n0_wht n0_n n0_lastDist n0_lastTie n0_failCount [])) rfl ?_
      obtain ⟨⟨r123, s124⟩, hq118, h⟩ := bnd h
      refine OEndsQ.call0 hm_0 rfl rfl (by decide) rfl (as := [.ref 1, .int v5, .int (((XT.ushr v7 (3 : Int32)) + ((11 : Int32) * v9)) &&& (31 : Int32))]) (rest := []) rfl rfl (ok_flip hq118) ?_
      refine OEndsQ.adv hm_0 3 (pc' := 161) (L' := [.val (.ref 0), .val (.ref 1), .val (.int v2), .val (.int v3), .unset, .val (.int v5), .val (.int v6), .val (.int v7), .val (.int v8), .val (.int (v9 + (1 : Int32))), .unset, .unset, .unset, .unset, .unset, .unset]) (S' := []) (H' := ((.inr (.inl (false, scr)) : ACell) :: bk0 s124 n0_mono n0_pairI n0_pairJ n0_wht n0_n n0_lastDist n0_lastTie n0_failCount [])) rfl ?_
      exact ih h
    · simp only [if_neg hc117] at h
      refine OEndsQ.icmpT hm_0 rfl (q := 194) rfl ((flt hc117).2.1) ?_
      refine OEndsQ.adv hm_0 1 (pc' := 265) (L' := [.val (.ref 0), .val (.ref 1), .val (.int v2), .val (.int v3), .unset, .val (.int v5), .val (.int v6), .val (.int v7), .val (.int v8), .val (.int v9), .unset, .unset, .unset, .unset, .unset, .unset]) (S' := []) (H' := ((.inr (.inl (false, scr)) : ACell) :: bk0 n0_words n0_mono n0_pairI n0_pairJ n0_wht n0_n n0_lastDist n0_lastTie n0_failCount [])) rfl ?_
      exact hk265 h
theorem ok_L_law_100 {scr : List Int32} {k265 : List Int32 → List Int32 → List Int32 → List Int32 → List Int32 → Int32 → Int32 → Int32 → Int32 → Int32 → Int32 → Int32 → Int32 → Option (Int32)} (hk265 : ∀ {n0_words : List Int32} {n0_mono : List Int32} {n0_pairI : List Int32} {n0_pairJ : List Int32} {n0_wht : List Int32} {n0_n : Int32} {n0_lastDist : Int32} {n0_lastTie : Int32} {n0_failCount : Int32} {v2 : Int32} {v3 : Int32} {v5 : Int32} {v6 : Int32} {d4 d7 d8 d9 d10 d11 d12 d13 d14 d15 : Slot} {res : Int32}, k265 n0_words n0_mono n0_pairI n0_pairJ n0_wht n0_n n0_lastDist n0_lastTie n0_failCount v2 v3 v5 v6 = some res → OEndsQ own_P 0 265 [.val (.ref 0), .val (.ref 1), .val (.int v2), .val (.int v3), d4, .val (.int v5), .val (.int v6), d7, d8, d9, d10, d11, d12, d13, d14, d15] [] ((.inr (.inl (false, scr)) : ACell) :: bk0 n0_words n0_mono n0_pairI n0_pairJ n0_wht n0_n n0_lastDist n0_lastTie n0_failCount []) (LawQ res 0 0)) : ∀ (n : Nat), ∀ {n0_words : List Int32} {n0_mono : List Int32} {n0_pairI : List Int32} {n0_pairJ : List Int32} {n0_wht : List Int32} {n0_n : Int32} {n0_lastDist : Int32} {n0_lastTie : Int32} {n0_failCount : Int32} {v2 : Int32} {v3 : Int32} {v5 : Int32} {v6 : Int32} {v7 : Int32} {v8 : Int32} {v9 : Int32} {d4 d10 d11 d12 d13 d14 d15 : Slot} {res : Int32}, f_L_law_100 k265 scr n n0_words n0_mono n0_pairI n0_pairJ n0_wht n0_n n0_lastDist n0_lastTie n0_failCount v2 v3 v5 v6 v7 v8 v9 = some res → OEndsQ own_P 0 100 [.val (.ref 0), .val (.ref 1), .val (.int v2), .val (.int v3), d4, .val (.int v5), .val (.int v6), .val (.int v7), .val (.int v8), .val (.int v9), d10, d11, d12, d13, d14, d15] [] ((.inr (.inl (false, scr)) : ACell) :: bk0 n0_words n0_mono n0_pairI n0_pairJ n0_wht n0_n n0_lastDist n0_lastTie n0_failCount []) (LawQ res 0 0) := by
  intro n
  induction n with
  | zero => intro n0_words n0_mono n0_pairI n0_pairJ n0_wht n0_n n0_lastDist n0_lastTie n0_failCount v2 v3 v5 v6 v7 v8 v9 d4 d10 d11 d12 d13 d14 d15 res h; cases h
  | succ n ih =>
    intro n0_words n0_mono n0_pairI n0_pairJ n0_wht n0_n n0_lastDist n0_lastTie n0_failCount v2 v3 v5 v6 v7 v8 v9 d4 d10 d11 d12 d13 d14 d15 res h
    unfold f_L_law_100 at h
    refine OEndsQ.adv hm_0 2 (pc' := 104) (L' := [.val (.ref 0), .val (.ref 1), .val (.int v2), .val (.int v3), .unset, .val (.int v5), .val (.int v6), .val (.int v7), .val (.int v8), .val (.int v9), .unset, .unset, .unset, .unset, .unset, .unset]) (S' := [.int v8, .int v9]) (H' := ((.inr (.inl (false, scr)) : ACell) :: bk0 n0_words n0_mono n0_pairI n0_pairJ n0_wht n0_n n0_lastDist n0_lastTie n0_failCount [])) rfl ?_
    by_cases hc119 : v9 < v8
    · simp only [if_pos hc119] at h
      refine OEndsQ.icmpF hm_0 rfl ((tlt hc119).2.1) ?_
      refine OEndsQ.adv hm_0 11 (pc' := 123) (L' := [.val (.ref 0), .val (.ref 1), .val (.int v2), .val (.int v3), .unset, .val (.int v5), .val (.int v6), .val (.int v7), .val (.int v8), .val (.int v9), .unset, .unset, .unset, .unset, .unset, .unset]) (S' := [.int (((XT.ushr v7 (3 : Int32)) + ((11 : Int32) * v9)) &&& (31 : Int32)), .int v5, .ref 1]) (H' := ((.inr (.inl (false, scr)) : ACell) :: bk0 n0_words n0_mono n0_pairI n0_pairJ n0_wht n0_n n0_lastDist n0_lastTie n0_failCount [])) rfl ?_
      obtain ⟨⟨r121, s122⟩, hq120, h⟩ := bnd h
      refine OEndsQ.call0 hm_0 rfl rfl (by decide) rfl (as := [.ref 1, .int v5, .int (((XT.ushr v7 (3 : Int32)) + ((11 : Int32) * v9)) &&& (31 : Int32))]) (rest := []) rfl rfl (ok_flip hq120) ?_
      refine OEndsQ.adv hm_0 3 (pc' := 100) (L' := [.val (.ref 0), .val (.ref 1), .val (.int v2), .val (.int v3), .unset, .val (.int v5), .val (.int v6), .val (.int v7), .val (.int v8), .val (.int (v9 + (1 : Int32))), .unset, .unset, .unset, .unset, .unset, .unset]) (S' := []) (H' := ((.inr (.inl (false, scr)) : ACell) :: bk0 s122 n0_mono n0_pairI n0_pairJ n0_wht n0_n n0_lastDist n0_lastTie n0_failCount [])) rfl ?_
      exact ih h
    · simp only [if_neg hc119] at h
      refine OEndsQ.icmpT hm_0 rfl (q := 133) rfl ((flt hc119).2.1) ?_
      refine OEndsQ.adv hm_0 1 (pc' := 265) (L' := [.val (.ref 0), .val (.ref 1), .val (.int v2), .val (.int v3), .unset, .val (.int v5), .val (.int v6), .val (.int v7), .val (.int v8), .val (.int v9), .unset, .unset, .unset, .unset, .unset, .unset]) (S' := []) (H' := ((.inr (.inl (false, scr)) : ACell) :: bk0 n0_words n0_mono n0_pairI n0_pairJ n0_wht n0_n n0_lastDist n0_lastTie n0_failCount [])) rfl ?_
      exact hk265 h
theorem ok_L_law_26 {scr : List Int32} : ∀ (n : Nat), ∀ {n0_words : List Int32} {n0_mono : List Int32} {n0_pairI : List Int32} {n0_pairJ : List Int32} {n0_wht : List Int32} {n0_n : Int32} {n0_lastDist : Int32} {n0_lastTie : Int32} {n0_failCount : Int32} {v2 : Int32} {v3 : Int32} {d4 d5 d6 d7 d8 d9 d10 d11 d12 d13 d14 d15 : Slot} {res : Int32}, f_L_law_26 scr n n0_words n0_mono n0_pairI n0_pairJ n0_wht n0_n n0_lastDist n0_lastTie n0_failCount v2 v3 = some res → OEndsQ own_P 0 26 [.val (.ref 0), .val (.ref 1), .val (.int v2), .val (.int v3), d4, d5, d6, d7, d8, d9, d10, d11, d12, d13, d14, d15] [] ((.inr (.inl (false, scr)) : ACell) :: bk0 n0_words n0_mono n0_pairI n0_pairJ n0_wht n0_n n0_lastDist n0_lastTie n0_failCount []) (LawQ res 0 0) := by
  intro n
  induction n with
  | zero => intro n0_words n0_mono n0_pairI n0_pairJ n0_wht n0_n n0_lastDist n0_lastTie n0_failCount v2 v3 d4 d5 d6 d7 d8 d9 d10 d11 d12 d13 d14 d15 res h; cases h
  | succ n ih =>
    intro n0_words n0_mono n0_pairI n0_pairJ n0_wht n0_n n0_lastDist n0_lastTie n0_failCount v2 v3 d4 d5 d6 d7 d8 d9 d10 d11 d12 d13 d14 d15 res h
    unfold f_L_law_26 at h
    refine OEndsQ.adv hm_0 3 (pc' := 29) (L' := [.val (.ref 0), .val (.ref 1), .val (.int v2), .val (.int v3), .unset, .unset, .unset, .unset, .unset, .unset, .unset, .unset, .unset, .unset, .unset, .unset]) (S' := [.int scr.length.toInt32, .int v3]) (H' := ((.inr (.inl (false, scr)) : ACell) :: bk0 n0_words n0_mono n0_pairI n0_pairJ n0_wht n0_n n0_lastDist n0_lastTie n0_failCount [])) rfl ?_
    by_cases hc121 : v3 < scr.length.toInt32
    · simp only [if_pos hc121] at h
      refine OEndsQ.icmpF hm_0 rfl ((tlt hc121).2.1) ?_
      refine OEndsQ.adv hm_0 2 (pc' := 34) (L' := [.val (.ref 0), .val (.ref 1), .val (.int v2), .val (.int v3), .unset, .unset, .unset, .unset, .unset, .unset, .unset, .unset, .unset, .unset, .unset, .unset]) (S' := [.int v3, .ref 0]) (H' := ((.inr (.inl (false, scr)) : ACell) :: bk0 n0_words n0_mono n0_pairI n0_pairJ n0_wht n0_n n0_lastDist n0_lastTie n0_failCount [])) rfl ?_
      obtain ⟨r97, hq122, h⟩ := bnd h
      refine OEndsQ.call0 hm_0 rfl rfl (by decide) rfl (as := [.ref 0, .int v3]) (rest := []) rfl rfl (ok_L_cell hq122) ?_
      refine OEndsQ.adv hm_0 1 (pc' := 39) (L' := [.val (.ref 0), .val (.ref 1), .val (.int v2), .val (.int v3), .unset, .unset, .unset, .unset, .unset, .unset, .unset, .unset, .unset, .unset, .unset, .unset]) (S' := [.int 6, .int r97]) (H' := ((.inr (.inl (false, scr)) : ACell) :: bk0 n0_words n0_mono n0_pairI n0_pairJ n0_wht n0_n n0_lastDist n0_lastTie n0_failCount [])) rfl ?_
      obtain ⟨r98, hq123, h⟩ := bnd h
      refine OEndsQ.call0 hm_0 rfl rfl (by decide) rfl (as := [.int r97, .int 6]) (rest := []) rfl rfl (ok_L_mod hq123) ?_
      refine OEndsQ.adv hm_0 5 (pc' := 48) (L' := [.val (.ref 0), .val (.ref 1), .val (.int v2), .val (.int v3), .val (.int r98), .unset, .unset, .unset, .unset, .unset, .unset, .unset, .unset, .unset, .unset, .unset]) (S' := [.int (v3 + (1 : Int32)), .ref 0]) (H' := ((.inr (.inl (false, scr)) : ACell) :: bk0 n0_words n0_mono n0_pairI n0_pairJ n0_wht n0_n n0_lastDist n0_lastTie n0_failCount [])) rfl ?_
      obtain ⟨r99, hq124, h⟩ := bnd h
      refine OEndsQ.call0 hm_0 rfl rfl (by decide) rfl (as := [.ref 0, .int (v3 + (1 : Int32))]) (rest := []) rfl rfl (ok_L_cell hq124) ?_
      refine OEndsQ.adv hm_0 1 (pc' := 52) (L' := [.val (.ref 0), .val (.ref 1), .val (.int v2), .val (.int v3), .val (.int r98), .unset, .unset, .unset, .unset, .unset, .unset, .unset, .unset, .unset, .unset, .unset]) (S' := [.int v2, .int r99]) (H' := ((.inr (.inl (false, scr)) : ACell) :: bk0 n0_words n0_mono n0_pairI n0_pairJ n0_wht n0_n n0_lastDist n0_lastTie n0_failCount [])) rfl ?_
      obtain ⟨r100, hq125, h⟩ := bnd h
      refine OEndsQ.call0 hm_0 rfl rfl (by decide) rfl (as := [.int r99, .int v2]) (rest := []) rfl rfl (ok_L_mod hq125) ?_
      refine OEndsQ.adv hm_0 5 (pc' := 61) (L' := [.val (.ref 0), .val (.ref 1), .val (.int v2), .val (.int v3), .val (.int r98), .val (.int r100), .unset, .unset, .unset, .unset, .unset, .unset, .unset, .unset, .unset, .unset]) (S' := [.int (v3 + (2 : Int32)), .ref 0]) (H' := ((.inr (.inl (false, scr)) : ACell) :: bk0 n0_words n0_mono n0_pairI n0_pairJ n0_wht n0_n n0_lastDist n0_lastTie n0_failCount [])) rfl ?_
      obtain ⟨r101, hq126, h⟩ := bnd h
      refine OEndsQ.call0 hm_0 rfl rfl (by decide) rfl (as := [.ref 0, .int (v3 + (2 : Int32))]) (rest := []) rfl rfl (ok_L_cell hq126) ?_
      refine OEndsQ.adv hm_0 5 (pc' := 70) (L' := [.val (.ref 0), .val (.ref 1), .val (.int v2), .val (.int v3), .val (.int r98), .val (.int r100), .val (.int r101), .unset, .unset, .unset, .unset, .unset, .unset, .unset, .unset, .unset]) (S' := [.int (v3 + (3 : Int32)), .ref 0]) (H' := ((.inr (.inl (false, scr)) : ACell) :: bk0 n0_words n0_mono n0_pairI n0_pairJ n0_wht n0_n n0_lastDist n0_lastTie n0_failCount [])) rfl ?_
      obtain ⟨r102, hq127, h⟩ := bnd h
      refine OEndsQ.call0 hm_0 rfl rfl (by decide) rfl (as := [.ref 0, .int (v3 + (3 : Int32))]) (rest := []) rfl rfl (ok_L_cell hq127) ?_
      refine OEndsQ.adv hm_0 2 (pc' := 77) (L' := [.val (.ref 0), .val (.ref 1), .val (.int v2), .val (.int v3), .val (.int r98), .val (.int r100), .val (.int r101), .val (.int r102), .unset, .unset, .unset, .unset, .unset, .unset, .unset, .unset]) (S' := [.int r98]) (H' := ((.inr (.inl (false, scr)) : ACell) :: bk0 n0_words n0_mono n0_pairI n0_pairJ n0_wht n0_n n0_lastDist n0_lastTie n0_failCount [])) rfl ?_
      by_cases hc128 : r98 = (0 : Int32)
      · simp only [if_pos hc128] at h
        refine OEndsQ.ifF hm_0 rfl ((teq hc128).2) ?_
        refine OEndsQ.adv hm_0 4 (pc' := 86) (L' := [.val (.ref 0), .val (.ref 1), .val (.int v2), .val (.int v3), .val (.int r98), .val (.int r100), .val (.int r101), .val (.int r102), .unset, .unset, .unset, .unset, .unset, .unset, .unset, .unset]) (S' := [.int 1, .int r101, .int r100, .ref 1]) (H' := ((.inr (.inl (false, scr)) : ACell) :: bk0 n0_words n0_mono n0_pairI n0_pairJ n0_wht n0_n n0_lastDist n0_lastTie n0_failCount [])) rfl ?_
        obtain ⟨⟨r119, s120⟩, hq129, h⟩ := bnd h
        refine OEndsQ.call0 hm_0 rfl rfl (by decide) rfl (as := [.ref 1, .int r100, .int r101, .int 1]) (rest := []) rfl rfl (ok_put hq129) ?_
        refine OEndsQ.adv hm_0 7 (pc' := 100) (L' := [.val (.ref 0), .val (.ref 1), .val (.int v2), .val (.int v3), .val (.int r98), .val (.int r100), .val (.int r101), .val (.int r102), .val (.int (r102 &&& (7 : Int32))), .val (.int 0), .unset, .unset, .unset, .unset, .unset, .unset]) (S' := []) (H' := ((.inr (.inl (false, scr)) : ACell) :: bk0 s120 n0_mono n0_pairI n0_pairJ n0_wht n0_n n0_lastDist n0_lastTie n0_failCount [])) rfl ?_
        exact ok_L_law_100 (k265 := f_L_law_265 (f_L_law_26 scr n) scr) (ok_L_law_265 ih) 100000 h
      · simp only [if_neg hc128] at h
        refine OEndsQ.ifT hm_0 rfl (q := 136) rfl ((feq hc128).2) ?_
        refine OEndsQ.adv hm_0 2 (pc' := 139) (L' := [.val (.ref 0), .val (.ref 1), .val (.int v2), .val (.int v3), .val (.int r98), .val (.int r100), .val (.int r101), .val (.int r102), .unset, .unset, .unset, .unset, .unset, .unset, .unset, .unset]) (S' := [.int 1, .int r98]) (H' := ((.inr (.inl (false, scr)) : ACell) :: bk0 n0_words n0_mono n0_pairI n0_pairJ n0_wht n0_n n0_lastDist n0_lastTie n0_failCount [])) rfl ?_
        by_cases hc130 : r98 = (1 : Int32)
        · simp only [if_pos hc130] at h
          refine OEndsQ.icmpF hm_0 rfl ((teq hc130).2) ?_
          refine OEndsQ.adv hm_0 4 (pc' := 148) (L' := [.val (.ref 0), .val (.ref 1), .val (.int v2), .val (.int v3), .val (.int r98), .val (.int r100), .val (.int r101), .val (.int r102), .unset, .unset, .unset, .unset, .unset, .unset, .unset, .unset]) (S' := [.int 2, .int r101, .int r100, .ref 1]) (H' := ((.inr (.inl (false, scr)) : ACell) :: bk0 n0_words n0_mono n0_pairI n0_pairJ n0_wht n0_n n0_lastDist n0_lastTie n0_failCount [])) rfl ?_
          obtain ⟨⟨r117, s118⟩, hq131, h⟩ := bnd h
          refine OEndsQ.call0 hm_0 rfl rfl (by decide) rfl (as := [.ref 1, .int r100, .int r101, .int 2]) (rest := []) rfl rfl (ok_put hq131) ?_
          refine OEndsQ.adv hm_0 7 (pc' := 161) (L' := [.val (.ref 0), .val (.ref 1), .val (.int v2), .val (.int v3), .val (.int r98), .val (.int r100), .val (.int r101), .val (.int r102), .val (.int (r102 &&& (3 : Int32))), .val (.int 0), .unset, .unset, .unset, .unset, .unset, .unset]) (S' := []) (H' := ((.inr (.inl (false, scr)) : ACell) :: bk0 s118 n0_mono n0_pairI n0_pairJ n0_wht n0_n n0_lastDist n0_lastTie n0_failCount [])) rfl ?_
          exact ok_L_law_161 (k265 := f_L_law_265 (f_L_law_26 scr n) scr) (ok_L_law_265 ih) 100000 h
        · simp only [if_neg hc130] at h
          refine OEndsQ.icmpT hm_0 rfl (q := 197) rfl ((feq hc130).2) ?_
          refine OEndsQ.adv hm_0 2 (pc' := 200) (L' := [.val (.ref 0), .val (.ref 1), .val (.int v2), .val (.int v3), .val (.int r98), .val (.int r100), .val (.int r101), .val (.int r102), .unset, .unset, .unset, .unset, .unset, .unset, .unset, .unset]) (S' := [.int 2, .int r98]) (H' := ((.inr (.inl (false, scr)) : ACell) :: bk0 n0_words n0_mono n0_pairI n0_pairJ n0_wht n0_n n0_lastDist n0_lastTie n0_failCount [])) rfl ?_
          by_cases hc132 : r98 = (2 : Int32)
          · simp only [if_pos hc132] at h
            refine OEndsQ.icmpF hm_0 rfl ((teq hc132).2) ?_
            refine OEndsQ.adv hm_0 3 (pc' := 208) (L' := [.val (.ref 0), .val (.ref 1), .val (.int v2), .val (.int v3), .val (.int r98), .val (.int r100), .val (.int r101), .val (.int r102), .unset, .unset, .unset, .unset, .unset, .unset, .unset, .unset]) (S' := [.int r102, .int r100, .ref 1]) (H' := ((.inr (.inl (false, scr)) : ACell) :: bk0 n0_words n0_mono n0_pairI n0_pairJ n0_wht n0_n n0_lastDist n0_lastTie n0_failCount [])) rfl ?_
            obtain ⟨⟨r115, s116⟩, hq133, h⟩ := bnd h
            refine OEndsQ.call0 hm_0 rfl rfl (by decide) rfl (as := [.ref 1, .int r100, .int r102]) (rest := []) rfl rfl (ok_load hq133) ?_
            refine OEndsQ.adv hm_0 2 (pc' := 265) (L' := [.val (.ref 0), .val (.ref 1), .val (.int v2), .val (.int v3), .val (.int r98), .val (.int r100), .val (.int r101), .val (.int r102), .unset, .unset, .unset, .unset, .unset, .unset, .unset, .unset]) (S' := []) (H' := ((.inr (.inl (false, scr)) : ACell) :: bk0 s116 n0_mono n0_pairI n0_pairJ n0_wht n0_n n0_lastDist n0_lastTie n0_failCount [])) rfl ?_
            exact ok_L_law_265 ih h
          · simp only [if_neg hc132] at h
            refine OEndsQ.icmpT hm_0 rfl (q := 215) rfl ((feq hc132).2) ?_
            refine OEndsQ.adv hm_0 2 (pc' := 218) (L' := [.val (.ref 0), .val (.ref 1), .val (.int v2), .val (.int v3), .val (.int r98), .val (.int r100), .val (.int r101), .val (.int r102), .unset, .unset, .unset, .unset, .unset, .unset, .unset, .unset]) (S' := [.int 3, .int r98]) (H' := ((.inr (.inl (false, scr)) : ACell) :: bk0 n0_words n0_mono n0_pairI n0_pairJ n0_wht n0_n n0_lastDist n0_lastTie n0_failCount [])) rfl ?_
            by_cases hc134 : r98 = (3 : Int32)
            · simp only [if_pos hc134] at h
              refine OEndsQ.icmpF hm_0 rfl ((teq hc134).2) ?_
              refine OEndsQ.adv hm_0 5 (pc' := 229) (L' := [.val (.ref 0), .val (.ref 1), .val (.int v2), .val (.int v3), .val (.int r98), .val (.int r100), .val (.int r101), .val (.int r102), .unset, .unset, .unset, .unset, .unset, .unset, .unset, .unset]) (S' := [.int (r102 &&& (31 : Int32)), .int r100, .ref 1]) (H' := ((.inr (.inl (false, scr)) : ACell) :: bk0 n0_words n0_mono n0_pairI n0_pairJ n0_wht n0_n n0_lastDist n0_lastTie n0_failCount [])) rfl ?_
              obtain ⟨⟨r113, s114⟩, hq135, h⟩ := bnd h
              refine OEndsQ.call0 hm_0 rfl rfl (by decide) rfl (as := [.ref 1, .int r100, .int (r102 &&& (31 : Int32))]) (rest := []) rfl rfl (ok_flip hq135) ?_
              refine OEndsQ.adv hm_0 2 (pc' := 265) (L' := [.val (.ref 0), .val (.ref 1), .val (.int v2), .val (.int v3), .val (.int r98), .val (.int r100), .val (.int r101), .val (.int r102), .unset, .unset, .unset, .unset, .unset, .unset, .unset, .unset]) (S' := []) (H' := ((.inr (.inl (false, scr)) : ACell) :: bk0 s114 n0_mono n0_pairI n0_pairJ n0_wht n0_n n0_lastDist n0_lastTie n0_failCount [])) rfl ?_
              exact ok_L_law_265 ih h
            · simp only [if_neg hc134] at h
              refine OEndsQ.icmpT hm_0 rfl (q := 236) rfl ((feq hc134).2) ?_
              refine OEndsQ.adv hm_0 2 (pc' := 239) (L' := [.val (.ref 0), .val (.ref 1), .val (.int v2), .val (.int v3), .val (.int r98), .val (.int r100), .val (.int r101), .val (.int r102), .unset, .unset, .unset, .unset, .unset, .unset, .unset, .unset]) (S' := [.int 4, .int r98]) (H' := ((.inr (.inl (false, scr)) : ACell) :: bk0 n0_words n0_mono n0_pairI n0_pairJ n0_wht n0_n n0_lastDist n0_lastTie n0_failCount [])) rfl ?_
              by_cases hc136 : r98 = (4 : Int32)
              · simp only [if_pos hc136] at h
                refine OEndsQ.icmpF hm_0 rfl ((teq hc136).2) ?_
                refine OEndsQ.adv hm_0 7 (pc' := 251) (L' := [.val (.ref 0), .val (.ref 1), .val (.int v2), .val (.int v3), .val (.int r98), .val (.int r100), .val (.int r101), .val (.int r102), .unset, .unset, .unset, .unset, .unset, .unset, .unset, .unset]) (S' := [.int ((1 : Int32) + (r102 &&& (1 : Int32))), .int r100, .ref 1]) (H' := ((.inr (.inl (false, scr)) : ACell) :: bk0 n0_words n0_mono n0_pairI n0_pairJ n0_wht n0_n n0_lastDist n0_lastTie n0_failCount [])) rfl ?_
                obtain ⟨⟨r107, s108, s109, s110, s111, s112⟩, hq137, h⟩ := bnd h
                refine OEndsQ.call0 hm_0 rfl rfl (by decide) rfl (as := [.ref 1, .int r100, .int ((1 : Int32) + (r102 &&& (1 : Int32)))]) (rest := []) rfl rfl (ok_correct hq137) ?_
                refine OEndsQ.adv hm_0 2 (pc' := 265) (L' := [.val (.ref 0), .val (.ref 1), .val (.int v2), .val (.int v3), .val (.int r98), .val (.int r100), .val (.int r101), .val (.int r102), .unset, .unset, .unset, .unset, .unset, .unset, .unset, .unset]) (S' := []) (H' := ((.inr (.inl (false, scr)) : ACell) :: bk0 s108 n0_mono n0_pairI n0_pairJ s109 n0_n s110 s111 s112 [])) rfl ?_
                exact ok_L_law_265 ih h
              · simp only [if_neg hc136] at h
                refine OEndsQ.icmpT hm_0 rfl (q := 258) rfl ((feq hc136).2) ?_
                refine OEndsQ.adv hm_0 2 (pc' := 261) (L' := [.val (.ref 0), .val (.ref 1), .val (.int v2), .val (.int v3), .val (.int r98), .val (.int r100), .val (.int r101), .val (.int r102), .unset, .unset, .unset, .unset, .unset, .unset, .unset, .unset]) (S' := [.int r100, .ref 1]) (H' := ((.inr (.inl (false, scr)) : ACell) :: bk0 n0_words n0_mono n0_pairI n0_pairJ n0_wht n0_n n0_lastDist n0_lastTie n0_failCount [])) rfl ?_
                obtain ⟨⟨r103, s104, s105, s106⟩, hq138, h⟩ := bnd h
                refine OEndsQ.call0 hm_0 rfl rfl (by decide) rfl (as := [.ref 1, .int r100]) (rest := []) rfl rfl (ok_decode2 hq138) ?_
                refine OEndsQ.adv hm_0 1 (pc' := 265) (L' := [.val (.ref 0), .val (.ref 1), .val (.int v2), .val (.int v3), .val (.int r98), .val (.int r100), .val (.int r101), .val (.int r102), .unset, .unset, .unset, .unset, .unset, .unset, .unset, .unset]) (S' := []) (H' := ((.inr (.inl (false, scr)) : ACell) :: bk0 n0_words n0_mono n0_pairI n0_pairJ n0_wht n0_n s104 s105 s106 [])) rfl ?_
                exact ok_L_law_265 ih h
    · simp only [if_neg hc121] at h
      refine OEndsQ.icmpT hm_0 rfl (q := 496) rfl ((flt hc121).2.1) ?_
      refine OEndsQ.adv hm_0 1 (pc' := 497) (L' := [.val (.ref 0), .val (.ref 1), .val (.int v2), .val (.int v3), .unset, .unset, .unset, .unset, .unset, .unset, .unset, .unset, .unset, .unset, .unset, .unset]) (S' := [.int 1]) (H' := ((.inr (.inl (false, scr)) : ACell) :: bk0 n0_words n0_mono n0_pairI n0_pairJ n0_wht n0_n n0_lastDist n0_lastTie n0_failCount [])) rfl ?_
      cases h
      exact OEndsQ.iret hm_0 rfl rfl
theorem ok_L_law {scr : List Int32} {res : Int32} (h : f_L_law scr = some res) : OEndsQ own_P 0 0 [.val (.ref 0), .unset, .unset, .unset, .unset, .unset, .unset, .unset, .unset, .unset, .unset, .unset, .unset, .unset, .unset, .unset] [] ((.inr (.inl (false, scr)) : ACell) :: []) (LawQ res 6 121) := by
  unfold f_L_law at h
  refine OEndsQ.made hm_0 rfl rfl (ks := 9) (c0 := 5) (s0 := 112) rfl (Nat.le_of_ble_eq_true rfl) (Nat.le_of_ble_eq_true rfl) ?_
  refine OEndsQ.adv hm_0 3 (pc' := 6) (L' := [.val (.ref 0), .unset, .unset, .unset, .unset, .unset, .unset, .unset, .unset, .unset, .unset, .unset, .unset, .unset, .unset, .unset]) (S' := [.int 0, .ref 0, .ref 1, .ref 1]) (H' := ((.inr (.inl (false, scr)) : ACell) :: (.inl (0, [.null, .null, .null, .null, .null, .int 0, .int 0, .int 0, .int 0]) : ACell) :: [])) rfl ?_
  obtain ⟨r86, hq139, h⟩ := bnd h
  refine OEndsQ.call0 hm_0 rfl rfl (by decide) rfl (as := [.ref 0, .int 0]) (rest := [.ref 1, .ref 1]) rfl rfl (ok_L_cell hq139) ?_
  show OEndsQ own_P 0 9 [.val (.ref 0), .unset, .unset, .unset, .unset, .unset, .unset, .unset, .unset, .unset, .unset, .unset, .unset, .unset, .unset, .unset] [.int r86, .ref 1, .ref 1] ((.inr (.inl (false, scr)) : ACell) :: (.inl (0, [.null, .null, .null, .null, .null, .int 0, .int 0, .int 0, .int 0]) : ACell) :: []) _
  obtain ⟨⟨s87, s88, s89, s90, s91, s92, s93, s94, s95⟩, hq140, h⟩ := bnd h
  refine OEndsQ.callN hm_0 rfl rfl (by decide) rfl (as := [.ref 1, .int r86]) (rest := [.ref 1]) rfl rfl (c0 := 0) (s0 := 0) (ok_init hq140) (Nat.le_of_ble_eq_true rfl) (Nat.le_of_ble_eq_true rfl) ?_
  refine OEndsQ.adv hm_0 2 (pc' := 14) (L' := [.val (.ref 0), .val (.ref 1), .unset, .unset, .unset, .unset, .unset, .unset, .unset, .unset, .unset, .unset, .unset, .unset, .unset, .unset]) (S' := [.ref 1]) (H' := ((.inr (.inl (false, scr)) : ACell) :: bk0 s87 s88 s89 s90 s91 s92 s93 s94 s95 [])) rfl ?_
  obtain ⟨r96, hq141, h⟩ := bnd h
  refine OEndsQ.call0 hm_0 rfl rfl (by decide) rfl (as := [.ref 1]) (rest := []) rfl rfl (ok_slotCount hq141) ?_
  refine OEndsQ.adv hm_0 2 (pc' := 19) (L' := [.val (.ref 0), .val (.ref 1), .val (.int r96), .unset, .unset, .unset, .unset, .unset, .unset, .unset, .unset, .unset, .unset, .unset, .unset, .unset]) (S' := [.int r96]) (H' := ((.inr (.inl (false, scr)) : ACell) :: bk0 s87 s88 s89 s90 s91 s92 s93 s94 s95 [])) rfl ?_
  by_cases hc142 : (0 : Int32) < r96
  · simp only [if_pos hc142] at h
    refine OEndsQ.ifT hm_0 rfl (q := 24) rfl ((tlt hc142).2.2.1) ?_
    refine OEndsQ.adv hm_0 2 (pc' := 26) (L' := [.val (.ref 0), .val (.ref 1), .val (.int r96), .val (.int 1), .unset, .unset, .unset, .unset, .unset, .unset, .unset, .unset, .unset, .unset, .unset, .unset]) (S' := []) (H' := ((.inr (.inl (false, scr)) : ACell) :: bk0 s87 s88 s89 s90 s91 s92 s93 s94 s95 [])) rfl ?_
    exact ok_L_law_26 100000 h
  · simp only [if_neg hc142] at h
    refine OEndsQ.ifF hm_0 rfl ((flt hc142).2.2.1) ?_
    refine OEndsQ.adv hm_0 1 (pc' := 23) (L' := [.val (.ref 0), .val (.ref 1), .val (.int r96), .unset, .unset, .unset, .unset, .unset, .unset, .unset, .unset, .unset, .unset, .unset, .unset, .unset]) (S' := [.int 1]) (H' := ((.inr (.inl (false, scr)) : ACell) :: bk0 s87 s88 s89 s90 s91 s92 s93 s94 s95 [])) rfl ?_
    cases h
    exact OEndsQ.iret hm_0 rfl rfl
/-! The code: what its methods compute -/
def own_M : List Int32 := [-1, -1431655766, -858993460, -252645136, -16711936, -65536, -2004318072, -1600085856, -1442797056, -1431699456, -1061109568, -872363008, -859045888, -268374016, -252706816, -16777216]
def own_PI : List Int32 := [0, 0, 0, 0, 0, 0, 0, 0, 0, 0, 1, 1, 1, 2, 2, 3]
def own_PJ : List Int32 := [0, 0, 0, 0, 0, 0, 1, 2, 3, 4, 2, 3, 4, 3, 4, 4]
theorem own_build : f_buildMonomials (List.replicate 16 0) (List.replicate 16 0) (List.replicate 16 0) = some (own_M, own_PI, own_PJ) := by decide +kernel
theorem own_enc19 (v k : Int32) (hk : k.toInt ≤ 16) : ∀ (n : Nat) (a i : Int32), 0 ≤ i.toInt → i.toInt ≤ 16 → 16 - i.toInt < n → ∃ r, f_encodeBits_19 own_M n v a k i = some r := by
  intro n
  induction n with
  | zero => intro a i h0 h1 h2; exfalso; omega
  | succ n ih =>
    intro a i h0 h1 h2
    unfold f_encodeBits_19
    by_cases g : i < k
    · have g' := ilt.mp g
      have ei : (i + 1).toInt = i.toInt + 1 := by clear ih; ((try simp only [ilt, ile, ieq, iadd_e, isub_e, imul_e, Int32.reduceToInt] at *) <;> omega)
      rw [if_pos g]
      by_cases g2 : XT.ushr v i &&& 1 = 0
      · rw [if_pos g2]
        exact ih _ _ (by omega) (by omega) (by omega)
      · rw [if_neg g2, rdg h0 (show i.toInt < (own_M.length : Int) by show i.toInt < 16; omega), Option.bind_some]
        exact ih _ _ (by omega) (by omega) (by omega)
    · rw [if_neg g]; exact ⟨_, rfl⟩
def own_enc (v k : Int32) : Int32 := (f_encodeBits own_M v k).getD 0
theorem own_encode (v k : Int32) : f_encodeBits own_M v k = some (own_enc v k) := by
  have h : ∃ r, f_encodeBits own_M v k = some r := by
    unfold f_encodeBits
    refine own_enc19 v _ ?_ 100000 0 0 (by decide) (by decide) (by decide)
    split
    · decide
    · rename_i g
      have e : (16 : Int32).toInt = 16 := rfl
      rw [ilt] at g
      omega
  obtain ⟨r, e⟩ := h
  simp [own_enc, e]
/-- the sign of a bit -/
def own_sg (w i : Int32) : Int32 := if (XT.ushr w i &&& 1) = 0 then 1 else -1
def own_S (w : Int32) : List Int32 := (List.range 32).map (fun i => own_sg w (Int32.ofNat i))
theorem own_S_len (w : Int32) : (own_S w).length = 32 := by simp [own_S]
theorem own_of {q : Int32} (h0 : 0 ≤ q.toInt) : Int32.ofNat q.toInt.toNat = q := by
  have := irng q
  rw [ieq, Int32.toInt_ofNat_of_lt (by omega)]
  omega
theorem own_S_g (w : Int32) {i : Int32} (h0 : 0 ≤ i.toInt) (h1 : i.toInt < 32) : gI (own_S w) i = own_sg w i := by
  have hl : i.toInt.toNat < 32 := by omega
  unfold gI
  rw [rdA_nn h0]
  unfold own_S
  rw [List.getElem?_map, List.getElem?_range hl, Option.map_some, own_of h0]
  rfl
theorem own_tr2 (k41 : List Int32 → Int32 → Option (List Int32)) (w : Int32) : ∀ (n : Nat) (W : List Int32) (j : Int32), W.length = 32 → 0 ≤ j.toInt → j.toInt ≤ 32 → 32 - j.toInt < n → (∀ c : Int32, 0 ≤ c.toInt → c.toInt < j.toInt → gI W c = own_sg w c) → f_transform_2 k41 n W w j = k41 (own_S w) 0 := by
  intro n
  induction n with
  | zero => intro W j h1 h2 h3 h4; exfalso; omega
  | succ n ih =>
    intro W j h1 h2 h3 h4 h5
    unfold f_transform_2
    by_cases g : j < 32
    · have g' : j.toInt < 32 := ilt.mp g
      have ej : (j + 1).toInt = j.toInt + 1 := by clear ih h5; ((try simp only [ilt, ile, ieq, iadd_e, isub_e, imul_e, Int32.reduceToInt] at *) <;> omega)
      rw [if_pos g]
      have key : ∀ x : Int32, x = own_sg w j → f_transform_2 k41 n (W.set j.toInt.toNat x) w (j + 1) = k41 (own_S w) 0 := by
        intro x hx
        refine ih _ (j + 1) (by simpa using h1) (by omega) (by omega) (by omega) (fun c a b => ?_)
        rw [gset h2 (by omega) a]
        by_cases hc : c = j
        · subst hc; rw [if_pos rfl, hx]
        · rw [ieq] at hc
          rw [if_neg (by rw [ieq]; omega)]
          exact h5 c a (by omega)
      by_cases g2 : XT.ushr w j &&& 1 = 0
      · rw [if_pos g2, wrA_in h2 (by omega), Option.bind_some]
        exact key 1 (by unfold own_sg; rw [if_pos g2])
      · rw [if_neg g2, wrA_in h2 (by omega), Option.bind_some]
        exact key (-1) (by unfold own_sg; rw [if_neg g2])
    · have g' : ¬ j.toInt < 32 := fun k => g (ilt.mpr k)
      rw [if_neg g]
      have e : W = own_S w := by
        have hl := own_S_len w
        refine gext (by omega) (by omega) (fun i a b => ?_)
        rw [h5 i a (by omega), own_S_g w a (by omega)]
      rw [e]
theorem own_or_all : ∀ i : Fin 32, ∀ v : Fin 5, 0 ≤ (Int32.ofNat i.val ||| ((1 : Int32) <<< (Int32.ofNat v.val &&& 31))).toInt ∧ (Int32.ofNat i.val ||| ((1 : Int32) <<< (Int32.ofNat v.val &&& 31))).toInt < 32 := by decide +kernel
theorem own_or {i v : Int32} (h0 : 0 ≤ i.toInt) (h1 : i.toInt < 32) (h2 : 0 ≤ v.toInt) (h3 : v.toInt < 5) : 0 ≤ (i ||| ((1 : Int32) <<< (v &&& 31))).toInt ∧ (i ||| ((1 : Int32) <<< (v &&& 31))).toInt < 32 := by
  have k := own_or_all ⟨i.toInt.toNat, by omega⟩ ⟨v.toInt.toNat, by omega⟩
  rw [own_of h0, own_of h2] at k
  exact k
theorem own_tr53 {Q : List Int32 → Prop} (k41 : List Int32 → Int32 → Option (List Int32)) (v : Int32) (hv0 : 0 ≤ v.toInt) (hv5 : v.toInt < 5) (hk : ∀ W : List Int32, W.length = 32 → Tot (k41 W (v + 1)) Q) : ∀ (n : Nat) (W : List Int32) (j : Int32), W.length = 32 → 0 ≤ j.toInt → j.toInt ≤ 32 → 32 - j.toInt < n → Tot (f_transform_53 k41 n W v ((1 : Int32) <<< (v &&& 31)) j) Q := by
  intro n
  induction n with
  | zero => intro W j h1 h2 h3 h4; exfalso; omega
  | succ n ih =>
    intro W j h1 h2 h3 h4
    unfold f_transform_53
    refine Tot.ite (fun g => Tot.ite (fun g2 => ?_) (fun g2 => ?_)) (fun g => ?_)
    · have g' : j.toInt < 32 := ilt.mp g
      have ej : (j + 1).toInt = j.toInt + 1 := by clear ih hk; ((try simp only [ilt, ile, ieq, iadd_e, isub_e, imul_e, Int32.reduceToInt] at *) <;> omega)
      have ho := own_or h2 g' hv0 hv5
      refine Tot.rdI h2 (by omega) (Tot.rdI ho.1 (by omega) (Tot.wr h2 (by omega) (fun A q1 q2 => Tot.wr ho.1 (by omega) (fun B q3 q4 => ?_))))
      exact ih B (j + 1) (by omega) (by omega) (by omega) (by omega)
    · have g' : j.toInt < 32 := ilt.mp g
      have ej : (j + 1).toInt = j.toInt + 1 := by clear ih hk; ((try simp only [ilt, ile, ieq, iadd_e, isub_e, imul_e, Int32.reduceToInt] at *) <;> omega)
      exact ih W (j + 1) h1 (by omega) (by omega) (by omega)
    · exact hk W h1
theorem own_tr41 : ∀ (n : Nat) (W : List Int32) (v : Int32), W.length = 32 → 0 ≤ v.toInt → v.toInt ≤ 5 → 5 - v.toInt < n → Tot (f_transform_41 n W v) (fun r => r.length = 32) := by
  intro n
  induction n with
  | zero => intro W v h1 h2 h3 h4; exfalso; omega
  | succ n ih =>
    intro W v h1 h2 h3 h4
    unfold f_transform_41
    refine Tot.ite (fun g => ?_) (fun g => Tot.mk h1)
    have g' : v.toInt < 5 := ilt.mp g
    have ev : (v + 1).toInt = v.toInt + 1 := by clear ih; ((try simp only [ilt, ile, ieq, iadd_e, isub_e, imul_e, Int32.reduceToInt] at *) <;> omega)
    exact own_tr53 _ v h2 g' (fun W' l => ih W' (v + 1) l (by omega) (by omega) (by omega)) 100000 W 0 h1 (by decide) (by decide) (by decide)
def own_tr (w : Int32) : List Int32 := (f_transform_41 100000 (own_S w) 0).getD []
theorem own_trans {W : List Int32} (hW : W.length = 32) (w : Int32) : f_transform W w = some (own_tr w) ∧ (own_tr w).length = 32 := by
  obtain ⟨r, e, l⟩ := own_tr41 100000 (own_S w) 0 (own_S_len w) (by decide) (by decide) (by decide)
  have e2 : own_tr w = r := by simp [own_tr, e]
  unfold f_transform
  rw [own_tr2 _ w 100000 W 0 hW (by decide) (by decide) (by decide) (fun c a b => by exfalso; have e0 : (0 : Int32).toInt = 0 := rfl; omega), e, e2]
  exact ⟨rfl, l⟩
theorem own_r1d {W : List Int32} (hW : W.length = 32) (i : Int32) : f_rule1Distance W i = some (if (i &&& (1 : Int32)) = (0 : Int32) then (((32 : Int32) - gI W (XT.ushr i 1 &&& 31)) >>> ((1 : Int32) &&& 31)) else (((32 : Int32) + gI W (XT.ushr i 1 &&& 31)) >>> ((1 : Int32) &&& 31))) := by
  have h := iand_rng (XT.ushr i 1) 31 (by decide)
  have e : (31 : Int32).toInt = 31 := rfl
  unfold f_rule1Distance
  rw [rdg h.1 (by omega), Option.bind_some]
theorem own_ar16 {W : List Int32} (hW : W.length = 32) : ∀ (n : Nat) (a b c i : Int32), 0 ≤ i.toInt → i.toInt ≤ 64 → 64 - i.toInt < n → ∃ r d t, ∀ ld lt, f_applyRule1_16 n W ld lt a b c i = some (r, W, d, t) := by
  intro n
  induction n with
  | zero => intro a b c i h0 h1 h2; exfalso; omega
  | succ n ih =>
    intro a b c i h0 h1 h2
    by_cases g : i < 64
    · have g' : i.toInt < 64 := ilt.mp g
      have ei : (i + 1).toInt = i.toInt + 1 := by clear ih; ((try simp only [ilt, ile, ieq, iadd_e, isub_e, imul_e, Int32.reduceToInt] at *) <;> omega)
      obtain ⟨r, d, t, e⟩ := ih _ _ _ (i + 1) (by omega) (by omega) (by omega)
      refine ⟨r, d, t, fun ld lt => ?_⟩
      unfold f_applyRule1_16
      rw [if_pos g, own_r1d hW, Option.bind_some]
      exact e ld lt
    · exact ⟨a, b, c, fun ld lt => by unfold f_applyRule1_16; rw [if_neg g]⟩
/-- rule 1 answers by the word alone -/
theorem own_ar1 (w : Int32) : ∃ r d t, ∀ (W : List Int32) (ld lt : Int32), W.length = 32 → f_applyRule1 W ld lt w = some (r, own_tr w, d, t) := by
  obtain ⟨r, d, t, e⟩ := own_ar16 (own_trans (W := List.replicate 32 0) (by simp) w).2 100000 0 33 0 0 (by decide) (by decide) (by decide)
  refine ⟨r, d, t, fun W ld lt hW => ?_⟩
  unfold f_applyRule1
  rw [(own_trans hW w).1, Option.bind_some]
  exact e ld lt
theorem own_swap (w v : Int32) : ∃ r, f_swap own_M w v = some r := by
  unfold f_swap
  by_cases a : v < 0
  · rw [if_pos a]; exact ⟨_, rfl⟩
  · rw [if_neg a]
    by_cases b : (4 : Int32) < v
    · rw [if_pos b]; exact ⟨_, rfl⟩
    · rw [ilt] at a b
      have e0 : (0 : Int32).toInt = 0 := rfl
      have e4 : (4 : Int32).toInt = 4 := rfl
      have e1 : (1 + v).toInt = 1 + v.toInt := by ((try simp only [ilt, ile, ieq, iadd_e, isub_e, imul_e, Int32.reduceToInt] at *) <;> omega)
      rw [if_neg (by rw [ilt]; omega), rdg (by omega) (show (1 + v).toInt < (own_M.length : Int) by show (1 + v).toInt < 16; omega), Option.bind_some]
      exact ⟨_, rfl⟩
theorem own_qv (w a b : Int32) : ∃ r, f_quadraticVote own_M w a b = some r := by
  obtain ⟨x, e1⟩ := own_swap w a
  obtain ⟨y, e2⟩ := own_swap w b
  obtain ⟨z, e3⟩ := own_swap y a
  unfold f_quadraticVote f_popcount
  rw [e1, Option.bind_some, e2, Option.bind_some, e3, Option.bind_some, Option.bind_some]
  exact ⟨_, rfl⟩
theorem own_lin4 (w : Int32) : ∀ (n : Nat) (a i : Int32), 0 ≤ a.toInt → a.toInt < 32 → 0 ≤ i.toInt → i.toInt ≤ 5 → 5 - i.toInt < n → Tot (f_linearPart_4 own_M n w a i) (fun r => 0 ≤ r.toInt ∧ r.toInt < 32) := by
  intro n
  induction n with
  | zero => intro a i h0 h1 h2 h3 h4; exfalso; omega
  | succ n ih =>
    intro a i h0 h1 h2 h3 h4
    unfold f_linearPart_4
    refine Tot.ite (fun g => ?_) (fun g => Tot.mk ⟨h0, h1⟩)
    have g' : i.toInt < 5 := ilt.mp g
    have ei : (i + 1).toInt = i.toInt + 1 := by clear ih; ((try simp only [ilt, ile, ieq, iadd_e, isub_e, imul_e, Int32.reduceToInt] at *) <;> omega)
    obtain ⟨x, e1⟩ := own_swap w i
    have ho := own_or h0 h1 h2 g'
    unfold f_popcount
    rw [e1, Option.bind_some, Option.bind_some]
    split
    · exact ih _ _ ho.1 ho.2 (by omega) (by omega) (by omega)
    · exact ih _ _ h0 h1 (by omega) (by omega) (by omega)
theorem own_nn_or {a b : Int32} (ha : 0 ≤ a.toInt) (hb : 0 ≤ b.toInt) : 0 ≤ (a ||| b).toInt := by
  have h1 : a.toBitVec.msb = false := by rw [BitVec.msb_eq_toInt]; simpa using ha
  have h2 : b.toBitVec.msb = false := by rw [BitVec.msb_eq_toInt]; simpa using hb
  have h3 : (a ||| b).toBitVec.msb = false := by rw [Int32.toBitVec_or, BitVec.msb_or, h1, h2]; rfl
  have e : (a ||| b).toInt = (((a ||| b).toBitVec).toNat : Int) := BitVec.toInt_eq_toNat_of_msb h3
  omega
theorem own_sh_all : ∀ i : Fin 16, 0 ≤ ((1 : Int32) <<< (Int32.ofNat i.val &&& 31)).toInt := by decide +kernel
theorem own_sh1_all : ∀ i : Fin 32, 0 ≤ (Int32.ofNat i.val <<< ((1 : Int32) &&& 31)).toInt := by decide +kernel
theorem own_rd8 {Q : Int32 → Prop} (k60 : Int32 → Int32 → Int32 → Option Int32) (w : Int32) (hk : ∀ a b : Int32, 0 ≤ a.toInt → Tot (k60 w a b) Q) : ∀ (n : Nat) (a b i : Int32), 0 ≤ a.toInt → 0 ≤ i.toInt → i.toInt ≤ 16 → 16 - i.toInt < n → Tot (f_reedDecode_8 k60 own_M own_PI own_PJ n w a b i) Q := by
  intro n
  induction n with
  | zero => intro a b i h0 h1 h2 h3; exfalso; omega
  | succ n ih =>
    intro a b i h0 h1 h2 h3
    unfold f_reedDecode_8
    refine Tot.ite (fun g => ?_) (fun g => hk _ _ h0)
    have g' : i.toInt < 16 := ilt.mp g
    have ei : (i + 1).toInt = i.toInt + 1 := by clear ih hk; ((try simp only [ilt, ile, ieq, iadd_e, isub_e, imul_e, Int32.reduceToInt] at *) <;> omega)
    refine Tot.rdI h1 (show i.toInt < (own_PI.length : Int) from g') (Tot.rdI h1 (show i.toInt < (own_PJ.length : Int) from g') ?_)
    obtain ⟨x, e1⟩ := own_qv w (gI own_PI i) (gI own_PJ i)
    rw [e1, Option.bind_some]
    refine Tot.ite (fun g2 => ?_) (fun g2 => ?_)
    · exact ih _ _ _ h0 (by omega) (by omega) (by omega)
    · refine Tot.rdI h1 (show i.toInt < (own_M.length : Int) from g') ?_
      have hs := own_sh_all ⟨i.toInt.toNat, by omega⟩
      rw [own_of h1] at hs
      exact ih _ _ _ (own_nn_or h0 hs) (by omega) (by omega) (by omega)
/-- the message that rule 2 finds -/
theorem own_reed (w : Int32) : ∃ r, f_reedDecode own_M own_PI own_PJ w = some r ∧ 0 ≤ r.toInt := by
  unfold f_reedDecode
  refine own_rd8 _ w (fun a b h => ?_) 100000 0 0 6 (by decide) (by decide) (by decide) (by decide)
  unfold f_reedDecode_60 f_linearPart
  refine Tot.bind (own_lin4 (w ^^^ b) 100000 0 0 (by decide) (by decide) (by decide) (by decide) (by decide)) ?_
  rintro r ⟨h0, h1⟩
  have hs := own_sh1_all ⟨r.toInt.toNat, by omega⟩
  rw [own_of h0] at hs
  unfold f_popcount
  rw [own_encode, Option.bind_some, Option.bind_some]
  refine Tot.mk ?_
  split
  · exact own_nn_or (own_nn_or h hs) (by decide)
  · exact own_nn_or h hs
def own_mg (w : Int32) : Int32 := (f_reedDecode own_M own_PI own_PJ w).getD 0
theorem own_reedD (w : Int32) : f_reedDecode own_M own_PI own_PJ w = some (own_mg w) ∧ 0 ≤ (own_mg w).toInt := by
  obtain ⟨r, e, h⟩ := own_reed w
  have e2 : own_mg w = r := by simp [own_mg, e]
  rw [e2]
  exact ⟨e, h⟩
/-- how far rule 2's word lies -/
def own_far (w : Int32) : Int32 := (f_popcount (own_enc (own_mg w) 16 ^^^ w)).getD 0
theorem own_ar2 (w ld lt fc : Int32) : f_applyRule2 own_M own_PI own_PJ ld lt fc w = some ((if (3 : Int32) < own_far w then (-2 : Int32) else own_mg w), (if (3 : Int32) < own_far w then (-1 : Int32) else own_far w), (if (3 : Int32) < own_far w then (0 : Int32) else (1 : Int32)), (if (3 : Int32) < own_far w then (fc + (1 : Int32)) else fc)) := by
  have e : f_popcount (own_enc (own_mg w) 16 ^^^ w) = some (own_far w) := rfl
  unfold f_applyRule2
  rw [(own_reedD w).1, Option.bind_some, own_encode, Option.bind_some, e, Option.bind_some]
theorem own_mg_ne (w : Int32) : ¬ own_mg w = -2 := by
  have h := (own_reedD w).2
  have e : (-2 : Int32).toInt = -2 := rfl
  rw [ieq]
  omega
theorem own_init8 : f_init 8 = some (List.replicate 32 0, own_M, own_PI, own_PJ, List.replicate 32 0, 8, -1, 0, 0) := by
  have e : f_init 8 = f_init_64 (List.replicate 32 0) (List.replicate 16 0) (List.replicate 16 0) (List.replicate 16 0) (List.replicate 32 0) 0 0 0 0 8 := rfl
  rw [e]
  unfold f_init_64
  rw [own_build, Option.bind_some]
theorem own_vs (v : Int32) : (f_validSlot 8 v = some 0) ∨ (f_validSlot 8 v = some 1 ∧ 0 ≤ v.toInt ∧ v.toInt < 8) := by
  unfold f_validSlot
  by_cases a : v < 0
  · rw [if_pos a]; exact Or.inl rfl
  · by_cases b : v < 8
    · have a' := a
      have e0 : (0 : Int32).toInt = 0 := rfl
      rw [ilt] at a'
      rw [if_neg a, if_pos b]
      exact Or.inr ⟨rfl, by omega, ilt.mp b⟩
    · rw [if_neg a, if_neg b]; exact Or.inl rfl
/-! The transform, level by level -/
def own_i32 (i : Int32) : Prop := 0 ≤ i.toInt ∧ i.toInt < 32
def own_lvl (b : Int32) (A A' : List Int32) : Prop := A'.length = 32 ∧ ∀ p : Int32, own_i32 p → p &&& b = 0 → gI A' p = gI A p + gI A (p ||| b) ∧ gI A' (p ||| b) = gI A p - gI A (p ||| b)
theorem own_f1 : ∀ v : Fin 5, ∀ p : Fin 32, ∀ q : Fin 32, (Int32.ofNat p.val &&& ((1 : Int32) <<< (Int32.ofNat v.val &&& 31)) = 0 → Int32.ofNat q.val &&& ((1 : Int32) <<< (Int32.ofNat v.val &&& 31)) = 0 → ¬ (Int32.ofNat p.val ||| ((1 : Int32) <<< (Int32.ofNat v.val &&& 31))) = Int32.ofNat q.val ∧ ((Int32.ofNat p.val ||| ((1 : Int32) <<< (Int32.ofNat v.val &&& 31))) = (Int32.ofNat q.val ||| ((1 : Int32) <<< (Int32.ofNat v.val &&& 31))) → Int32.ofNat p.val = Int32.ofNat q.val)) := by decide +kernel
theorem own_f1' {v p q : Int32} (hv0 : 0 ≤ v.toInt) (hv5 : v.toInt < 5) (hp : own_i32 p) (hq : own_i32 q) (h1 : p &&& ((1 : Int32) <<< (v &&& 31)) = 0) (h2 : q &&& ((1 : Int32) <<< (v &&& 31)) = 0) : ¬ (p ||| ((1 : Int32) <<< (v &&& 31))) = q ∧ ((p ||| ((1 : Int32) <<< (v &&& 31))) = (q ||| ((1 : Int32) <<< (v &&& 31))) → p = q) := by
  obtain ⟨p0, p1⟩ := hp
  obtain ⟨q0, q1⟩ := hq
  have k := own_f1 ⟨v.toInt.toNat, by omega⟩ ⟨p.toInt.toNat, by omega⟩ ⟨q.toInt.toNat, by omega⟩
  simp only [own_of hv0, own_of p0, own_of q0] at k
  exact k h1 h2
theorem own_l53 {Q : List Int32 → Prop} (k41 : List Int32 → Int32 → Option (List Int32)) (v : Int32) (hv0 : 0 ≤ v.toInt) (hv5 : v.toInt < 5) (A : List Int32) (hk : ∀ W : List Int32, own_lvl ((1 : Int32) <<< (v &&& 31)) A W → Tot (k41 W (v + 1)) Q) :
    ∀ (n : Nat) (W : List Int32) (j : Int32), W.length = 32 → 0 ≤ j.toInt → j.toInt ≤ 32 → 32 - j.toInt < n →
    (∀ p : Int32, own_i32 p → p &&& ((1 : Int32) <<< (v &&& 31)) = 0 → (p.toInt < j.toInt → gI W p = gI A p + gI A (p ||| ((1 : Int32) <<< (v &&& 31))) ∧ gI W (p ||| ((1 : Int32) <<< (v &&& 31))) = gI A p - gI A (p ||| ((1 : Int32) <<< (v &&& 31)))) ∧ (j.toInt ≤ p.toInt → gI W p = gI A p ∧ gI W (p ||| ((1 : Int32) <<< (v &&& 31))) = gI A (p ||| ((1 : Int32) <<< (v &&& 31))))) →
    Tot (f_transform_53 k41 n W v ((1 : Int32) <<< (v &&& 31)) j) Q := by
  intro n
  induction n with
  | zero => intro W j h1 h2 h3 h4; exfalso; omega
  | succ n ih =>
    intro W j h1 h2 h3 h4 h5
    unfold f_transform_53
    refine Tot.ite (fun g => Tot.ite (fun g2 => ?_) (fun g2 => ?_)) (fun g => ?_)
    · have g' : j.toInt < 32 := ilt.mp g
      have ej : (j + 1).toInt = j.toInt + 1 := by clear ih hk h5; ((try simp only [ilt, ile, ieq, iadd_e, isub_e, imul_e, Int32.reduceToInt] at *) <;> omega)
      have ho := own_or h2 g' hv0 hv5
      have hj : own_i32 j := ⟨h2, g'⟩
      refine Tot.rdI h2 (by omega) (Tot.rdI ho.1 (by omega) (Tot.wr h2 (by omega) (fun B q1 q2 => Tot.wr ho.1 (by omega) (fun D q3 q4 => ?_))))
      obtain ⟨o1, o2⟩ := (h5 j hj g2).2 (by omega)
      refine ih D (j + 1) (by omega) (by omega) (by omega) (by omega) (fun p hp hb => ?_)
      have hp' := hp
      obtain ⟨p0, p1⟩ := hp'
      have po := own_or p0 p1 hv0 hv5
      have f1 := own_f1' hv0 hv5 hj hp g2 hb
      have f2 := own_f1' hv0 hv5 hp hj hb g2
      by_cases e : p = j
      · subst e
        refine ⟨fun _ => ⟨?_, ?_⟩, fun k => by exfalso; omega⟩
        · rw [q3, gset ho.1 (by omega) p0, if_neg f1.1, q1, gset h2 (by omega) p0, if_pos rfl, o1, o2]
        · rw [q3, gset ho.1 (by omega) ho.1, if_pos rfl, o1, o2]
      · have e' : ¬ p.toInt = j.toInt := fun z => e (ieq.mpr z)
        have s1 : gI D p = gI W p := by
          rw [q3, gset ho.1 (by omega) p0, if_neg f1.1, q1, gset h2 (by omega) p0, if_neg (fun z => e z.symm)]
        have s2 : gI D (p ||| ((1 : Int32) <<< (v &&& 31))) = gI W (p ||| ((1 : Int32) <<< (v &&& 31))) := by
          rw [q3, gset ho.1 (by omega) po.1, if_neg (fun z => e (f1.2 z).symm), q1, gset h2 (by omega) po.1, if_neg (fun z => f2.1 z.symm)]
        rw [s1, s2]
        have k := h5 p hp hb
        exact ⟨fun z => k.1 (by omega), fun z => k.2 (by omega)⟩
    · have g' : j.toInt < 32 := ilt.mp g
      have ej : (j + 1).toInt = j.toInt + 1 := by clear ih hk h5; ((try simp only [ilt, ile, ieq, iadd_e, isub_e, imul_e, Int32.reduceToInt] at *) <;> omega)
      refine ih W (j + 1) h1 (by omega) (by omega) (by omega) (fun p hp hb => ?_)
      have k := h5 p hp hb
      have e : ¬ p.toInt = j.toInt := fun z => g2 (by rw [← ieq.mpr z]; exact hb)
      exact ⟨fun z => k.1 (by omega), fun z => k.2 (by omega)⟩
    · have g' : ¬ j.toInt < 32 := fun k => g (ilt.mpr k)
      exact hk W ⟨h1, fun p hp hb => (h5 p hp hb).1 (by have := hp.2; omega)⟩
/-- one level of the transform -/
theorem own_level {Q : List Int32 → Prop} (k41 : List Int32 → Int32 → Option (List Int32)) {v : Int32} (hv0 : 0 ≤ v.toInt) (hv5 : v.toInt < 5) {A : List Int32} (hA : A.length = 32) (hk : ∀ W : List Int32, own_lvl ((1 : Int32) <<< (v &&& 31)) A W → Tot (k41 W (v + 1)) Q) : Tot (f_transform_53 k41 100000 A v ((1 : Int32) <<< (v &&& 31)) 0) Q := by
  refine own_l53 k41 v hv0 hv5 A hk 100000 A 0 hA (by decide) (by decide) (by decide) (fun p hp hb => ⟨fun z => ?_, fun _ => ⟨rfl, rfl⟩⟩)
  exfalso
  have e0 : (0 : Int32).toInt = 0 := rfl
  have := hp.1
  omega
/-- bounds: a level's block of m entries -/
def own_bd (v : Int32) (m : Int) (A : List Int32) : Prop := A.length = 32 ∧ (∀ i : Int32, own_i32 i → -m ≤ (gI A i).toInt ∧ (gI A i).toInt ≤ m) ∧
  (∀ i j : Int32, own_i32 i → own_i32 j → ¬ i = j → XT.ushr i v = XT.ushr j v → (gI A i).toInt + (gI A j).toInt ≤ m ∧ (gI A i).toInt - (gI A j).toInt ≤ m ∧ (gI A j).toInt - (gI A i).toInt ≤ m ∧ -(gI A i).toInt - (gI A j).toInt ≤ m)
def own_g2 (v i j : Int32) : Prop :=
  (i &&& (((1 : Int32) <<< (v &&& 31)) ^^^ (-1))) &&& ((1 : Int32) <<< (v &&& 31)) = 0 ∧
  (i = i &&& (((1 : Int32) <<< (v &&& 31)) ^^^ (-1)) ∨ i = (i &&& (((1 : Int32) <<< (v &&& 31)) ^^^ (-1))) ||| ((1 : Int32) <<< (v &&& 31))) ∧
  0 ≤ (i &&& (((1 : Int32) <<< (v &&& 31)) ^^^ (-1))).toInt ∧ (i &&& (((1 : Int32) <<< (v &&& 31)) ^^^ (-1))).toInt < 32 ∧
  (XT.ushr i (v + 1) = XT.ushr j (v + 1) → XT.ushr (i &&& (((1 : Int32) <<< (v &&& 31)) ^^^ (-1))) v = XT.ushr (j &&& (((1 : Int32) <<< (v &&& 31)) ^^^ (-1))) v ∧ XT.ushr ((i &&& (((1 : Int32) <<< (v &&& 31)) ^^^ (-1))) ||| ((1 : Int32) <<< (v &&& 31))) v = XT.ushr ((j &&& (((1 : Int32) <<< (v &&& 31)) ^^^ (-1))) ||| ((1 : Int32) <<< (v &&& 31))) v)
instance (v i j : Int32) : Decidable (own_g2 v i j) := by unfold own_g2; infer_instance
theorem own_g2_all : ∀ v : Fin 5, ∀ i : Fin 32, ∀ j : Fin 32, own_g2 (Int32.ofNat v.val) (Int32.ofNat i.val) (Int32.ofNat j.val) := by decide +kernel
theorem own_g2' {v i j : Int32} (hv0 : 0 ≤ v.toInt) (hv5 : v.toInt < 5) (hi : own_i32 i) (hj : own_i32 j) : own_g2 v i j := by
  obtain ⟨p0, p1⟩ := hi
  obtain ⟨q0, q1⟩ := hj
  have k := own_g2_all ⟨v.toInt.toNat, by omega⟩ ⟨i.toInt.toNat, by omega⟩ ⟨j.toInt.toNat, by omega⟩
  simp only [own_of hv0, own_of p0, own_of q0] at k
  exact k
theorem own_bd_step {v : Int32} {m : Int} {A B : List Int32} (hv0 : 0 ≤ v.toInt) (hv5 : v.toInt < 5) (hm0 : 0 ≤ m) (hm : m ≤ 16) (h : own_bd v m A) (hl : own_lvl ((1 : Int32) <<< (v &&& 31)) A B) : own_bd (v + 1) (2 * m) B := by
  obtain ⟨a0, a1, a2⟩ := h
  obtain ⟨b0, b1⟩ := hl
  -- an entry out of its two
  have one : ∀ i : Int32, own_i32 i → ∃ p q : Int32, p = i &&& (((1 : Int32) <<< (v &&& 31)) ^^^ (-1)) ∧ q = p ||| ((1 : Int32) <<< (v &&& 31)) ∧ own_i32 p ∧ own_i32 q ∧ p &&& ((1 : Int32) <<< (v &&& 31)) = 0 ∧ ((i = p ∧ (gI B i).toInt = (gI A p).toInt + (gI A q).toInt) ∨ (i = q ∧ (gI B i).toInt = (gI A p).toInt - (gI A q).toInt)) := by
    intro i hi
    obtain ⟨k1, k2, k3, k4, -⟩ := own_g2' hv0 hv5 hi hi
    have hp : own_i32 (i &&& (((1 : Int32) <<< (v &&& 31)) ^^^ (-1))) := ⟨k3, k4⟩
    have hq : own_i32 ((i &&& (((1 : Int32) <<< (v &&& 31)) ^^^ (-1))) ||| ((1 : Int32) <<< (v &&& 31))) := own_or k3 k4 hv0 hv5
    refine ⟨_, _, rfl, rfl, hp, hq, k1, ?_⟩
    have c := b1 _ hp k1
    have r1 := a1 _ hp
    have r2 := a1 _ hq
    rcases k2 with e | e
    · left
      refine ⟨e, ?_⟩
      have s : gI B i = gI A (i &&& (((1 : Int32) <<< (v &&& 31)) ^^^ (-1))) + gI A ((i &&& (((1 : Int32) <<< (v &&& 31)) ^^^ (-1))) ||| ((1 : Int32) <<< (v &&& 31))) := by
        rw [← c.1, ← e]
      rw [s, iadd_i (by omega) (by omega)]
    · right
      refine ⟨e, ?_⟩
      have s : gI B i = gI A (i &&& (((1 : Int32) <<< (v &&& 31)) ^^^ (-1))) - gI A ((i &&& (((1 : Int32) <<< (v &&& 31)) ^^^ (-1))) ||| ((1 : Int32) <<< (v &&& 31))) := by
        rw [← c.2, ← e]
      rw [s, isub_i (by omega) (by omega)]
  refine ⟨b0, fun i hi => ?_, fun i j hi hj hne hu => ?_⟩
  · obtain ⟨p, q, -, -, hp, hq, -, c⟩ := one i hi
    have r1 := a1 p hp
    have r2 := a1 q hq
    rcases c with ⟨-, e⟩ | ⟨-, e⟩ <;> omega
  · obtain ⟨p, q, ep, eq, hp, hq, hb, c⟩ := one i hi
    obtain ⟨p', q', ep', eq', hp', hq', hb', c'⟩ := one j hj
    obtain ⟨-, -, -, -, k5⟩ := own_g2' hv0 hv5 hi hj
    have k5 := k5 hu
    rw [← ep, ← ep', ← eq, ← eq'] at k5
    have r1 := a1 p hp
    have r2 := a1 q hq
    have r1' := a1 p' hp'
    have r2' := a1 q' hq'
    by_cases e : p = p'
    · have e2 : q = q' := by rw [eq, eq', e]
      subst e
      subst e2
      rcases c with ⟨i1, e1⟩ | ⟨i1, e1⟩ <;> rcases c' with ⟨j1, e1'⟩ | ⟨j1, e1'⟩
      · exact absurd (i1.trans j1.symm) hne
      · omega
      · omega
      · exact absurd (i1.trans j1.symm) hne
    · have e2 : ¬ q = q' := by
        rw [eq, eq']
        intro z
        exact e ((own_f1' hv0 hv5 hp hp' hb hb').2 z)
      have s1 := a2 p p' hp hp' e k5.1
      have s2 := a2 q q' hq hq' e2 k5.2
      rcases c with ⟨-, e1⟩ | ⟨-, e1⟩ <;> rcases c' with ⟨-, e1'⟩ | ⟨-, e1'⟩ <;> omega
theorem own_sh0_all : ∀ i : Fin 32, XT.ushr (Int32.ofNat i.val) 0 = Int32.ofNat i.val := by decide +kernel
theorem own_bd0 (w : Int32) : own_bd 0 1 (own_S w) := by
  have sg : ∀ i : Int32, own_i32 i → -1 ≤ (gI (own_S w) i).toInt ∧ (gI (own_S w) i).toInt ≤ 1 := by
    intro i hi
    rw [own_S_g w hi.1 hi.2]
    unfold own_sg
    split <;> decide
  refine ⟨own_S_len w, sg, fun i j hi hj hne hu => ?_⟩
  exfalso
  apply hne
  have k1 := own_sh0_all ⟨i.toInt.toNat, by have := hi.2; have := hi.1; omega⟩
  have k2 := own_sh0_all ⟨j.toInt.toNat, by have := hj.2; have := hj.1; omega⟩
  rw [own_of hi.1] at k1
  rw [own_of hj.1] at k2
  rw [← k1, ← k2]
  exact hu
theorem own_bd41 : ∀ (k n : Nat) (A : List Int32) (v : Int32) (m : Int), v.toInt + k = 5 → 0 ≤ v.toInt → k < n → 0 ≤ m → m * 2 ^ k = 32 → own_bd v m A → Tot (f_transform_41 n A v) (fun r => own_bd 5 32 r) := by
  intro k
  induction k with
  | zero =>
    intro n A v m h1 h2 h3 h4 h5 h6
    obtain ⟨n, rfl⟩ : ∃ n', n = n' + 1 := ⟨n - 1, by omega⟩
    have ev : v = 5 := by rw [ieq]; have e5 : (5 : Int32).toInt = 5 := rfl; omega
    have em : m = 32 := by simpa using h5
    subst ev
    subst em
    unfold f_transform_41
    rw [if_neg (by decide)]
    exact Tot.mk h6
  | succ k ih =>
    intro n A v m h1 h2 h3 h4 h5 h6
    obtain ⟨n, rfl⟩ : ∃ n', n = n' + 1 := ⟨n - 1, by omega⟩
    have ev : (v + 1).toInt = v.toInt + 1 := by clear ih h5 h6; ((try simp only [ilt, ile, ieq, iadd_e, isub_e, imul_e, Int32.reduceToInt] at *) <;> omega)
    have hm : m ≤ 16 := by
      have p : (1 : Int) ≤ 2 ^ k := by
        have : (0 : Int) < 2 ^ k := Int.pow_pos (by decide)
        omega
      rw [Int.pow_succ] at h5
      have q : m * 1 ≤ m * 2 ^ k := Int.mul_le_mul_of_nonneg_left p h4
      have r : m * (2 ^ k * 2) = (m * 2 ^ k) * 2 := by rw [Int.mul_assoc]
      omega
    unfold f_transform_41
    rw [if_pos (by rw [ilt]; have e5 : (5 : Int32).toInt = 5 := rfl; omega)]
    refine own_level _ h2 (by omega) h6.1 (fun W hl => ?_)
    refine ih n W (v + 1) (2 * m) (by omega) (by omega) (by omega) (by omega) ?_ (own_bd_step h2 (by omega) h4 hm h6 hl)
    rw [← h5, Int.pow_succ, Int.mul_comm 2 m, Int.mul_assoc, Int.mul_comm 2]
theorem own_tr_bd (w : Int32) : own_bd 5 32 (own_tr w) := by
  obtain ⟨r, e, h⟩ := own_bd41 5 100000 (own_S w) 0 1 rfl (by decide) (by decide) (by decide) (by decide) (own_bd0 w)
  have e2 : own_tr w = r := by simp [own_tr, e]
  rw [e2]
  exact h
/-- the distance that rule 1 reckons -/
def own_ds (W : List Int32) (i : Int32) : Int32 := if (i &&& (1 : Int32)) = (0 : Int32) then (((32 : Int32) - gI W (XT.ushr i 1 &&& 31)) >>> ((1 : Int32) &&& 31)) else (((32 : Int32) + gI W (XT.ushr i 1 &&& 31)) >>> ((1 : Int32) &&& 31))
theorem own_half : ∀ k : Fin 65, (Int32.ofNat k.val >>> ((1 : Int32) &&& 31)).toInt = (k.val / 2 : Nat) := by decide +kernel
theorem own_half' {x : Int32} (h0 : 0 ≤ x.toInt) (h1 : x.toInt ≤ 64) : (x >>> ((1 : Int32) &&& 31)).toInt = x.toInt / 2 := by
  have k := own_half ⟨x.toInt.toNat, by omega⟩
  simp only [own_of h0] at k
  rw [k]
  omega
theorem own_ds_v {W : List Int32} (h : own_bd 5 32 W) (i : Int32) : (own_ds W i).toInt = if i &&& 1 = 0 then (32 - (gI W (XT.ushr i 1 &&& 31)).toInt) / 2 else (32 + (gI W (XT.ushr i 1 &&& 31)).toInt) / 2 := by
  have r := iand_rng (XT.ushr i 1) 31 (by decide)
  have e31 : (31 : Int32).toInt = 31 := rfl
  have e32 : (32 : Int32).toInt = 32 := rfl
  have b := h.2.1 _ (show own_i32 (XT.ushr i 1 &&& 31) from ⟨r.1, by omega⟩)
  have s1 : (32 - gI W (XT.ushr i 1 &&& 31)).toInt = 32 - (gI W (XT.ushr i 1 &&& 31)).toInt := by rw [isub_i (by omega) (by omega), e32]
  have s2 : (32 + gI W (XT.ushr i 1 &&& 31)).toInt = 32 + (gI W (XT.ushr i 1 &&& 31)).toInt := by rw [iadd_i (by omega) (by omega), e32]
  unfold own_ds
  split
  · rw [own_half' (by omega) (by omega), s1]
  · rw [own_half' (by omega) (by omega), s2]
def own_ix2 (i j : Int32) : Prop := XT.ushr i 1 &&& 31 = XT.ushr j 1 &&& 31 → i = j ∨ (i &&& 1 = 0 ∧ ¬ j &&& 1 = 0) ∨ (¬ i &&& 1 = 0 ∧ j &&& 1 = 0)
instance (i j : Int32) : Decidable (own_ix2 i j) := by unfold own_ix2; infer_instance
theorem own_ix2_all : ∀ i : Fin 64, ∀ j : Fin 64, own_ix2 (Int32.ofNat i.val) (Int32.ofNat j.val) := by decide +kernel
theorem own_sh5_all : ∀ i : Fin 32, XT.ushr (Int32.ofNat i.val) 5 = 0 := by decide +kernel
/-- two codewords cannot both be near -/
theorem own_two {W : List Int32} (h : own_bd 5 32 W) {i j : Int32} (hi0 : 0 ≤ i.toInt) (hi1 : i.toInt < 64) (hj0 : 0 ≤ j.toInt) (hj1 : j.toInt < 64) (hne : ¬ i = j) : 15 ≤ (own_ds W i).toInt + (own_ds W j).toInt := by
  have e31 : (31 : Int32).toInt = 31 := rfl
  have ri := iand_rng (XT.ushr i 1) 31 (by decide)
  have rj := iand_rng (XT.ushr j 1) 31 (by decide)
  have bi := h.2.1 _ (show own_i32 (XT.ushr i 1 &&& 31) from ⟨ri.1, by omega⟩)
  have bj := h.2.1 _ (show own_i32 (XT.ushr j 1 &&& 31) from ⟨rj.1, by omega⟩)
  have k := own_ix2_all ⟨i.toInt.toNat, by omega⟩ ⟨j.toInt.toNat, by omega⟩
  simp only [own_of hi0, own_of hj0] at k
  rw [own_ds_v h i, own_ds_v h j]
  by_cases e : XT.ushr i 1 &&& 31 = XT.ushr j 1 &&& 31
  · rcases k e with z | ⟨z1, z2⟩ | ⟨z1, z2⟩
    · exact absurd z hne
    · rw [if_pos z1, if_neg z2, e]
      rw [e] at bi
      omega
    · rw [if_neg z1, if_pos z2, e]
      rw [e] at bi
      omega
  · have u1 := own_sh5_all ⟨(XT.ushr i 1 &&& 31).toInt.toNat, by omega⟩
    have u2 := own_sh5_all ⟨(XT.ushr j 1 &&& 31).toInt.toNat, by omega⟩
    rw [own_of ri.1] at u1
    rw [own_of rj.1] at u2
    have b := h.2.2 _ _ (show own_i32 (XT.ushr i 1 &&& 31) from ⟨ri.1, by omega⟩) (show own_i32 (XT.ushr j 1 &&& 31) from ⟨rj.1, by omega⟩) e (by rw [u1, u2])
    split <;> split <;> omega
theorem own_ds_nn {W : List Int32} (h : own_bd 5 32 W) (i : Int32) : 0 ≤ (own_ds W i).toInt ∧ (own_ds W i).toInt ≤ 32 := by
  have e31 : (31 : Int32).toInt = 31 := rfl
  have ri := iand_rng (XT.ushr i 1) 31 (by decide)
  have bi := h.2.1 _ (show own_i32 (XT.ushr i 1 &&& 31) from ⟨ri.1, by omega⟩)
  rw [own_ds_v h i]
  split <;> omega
/-- what rule 1 answers: the index, its distance (the least), the ties -/
def own_best (W : List Int32) (i r d t : Int32) : Prop := 0 ≤ r.toInt ∧ r.toInt < i.toInt ∧ d = own_ds W r ∧ (∀ j : Int32, 0 ≤ j.toInt → j.toInt < i.toInt → d.toInt ≤ (own_ds W j).toInt) ∧ 1 ≤ t.toInt ∧ t.toInt ≤ i.toInt ∧ (d.toInt < 8 → t = 1)
theorem own_a16 {W : List Int32} (h : own_bd 5 32 W) (ld lt : Int32) : ∀ (n : Nat) (r d t i : Int32), 0 ≤ i.toInt → i.toInt ≤ 64 → 64 - i.toInt < n → ((i = 0 ∧ d = 33 ∧ t = 0) ∨ own_best W i r d t) → Tot (f_applyRule1_16 n W ld lt r d t i) (fun q => q.2.1 = W ∧ own_best W 64 q.1 q.2.2.1 q.2.2.2) := by
  intro n
  induction n with
  | zero => intro r d t i h0 h1 h2; exfalso; omega
  | succ n ih =>
    intro r d t i h0 h1 h2 hb
    unfold f_applyRule1_16
    refine Tot.ite (fun g => ?_) (fun g => ?_)
    · have g' : i.toInt < 64 := ilt.mp g
      have ei : (i + 1).toInt = i.toInt + 1 := by clear ih hb; ((try simp only [ilt, ile, ieq, iadd_e, isub_e, imul_e, Int32.reduceToInt] at *) <;> omega)
      have e1 : (1 : Int32).toInt = 1 := rfl
      rw [own_r1d h.1, Option.bind_some]
      show Tot (f_applyRule1_16 n W ld lt (if own_ds W i < d then i else r) (if own_ds W i < d then own_ds W i else d) (if own_ds W i < d then (1 : Int32) else (if own_ds W i = d then (t + (1 : Int32)) else t)) (i + 1)) _
      have nn := own_ds_nn h i
      refine ih _ _ _ (i + 1) (by omega) (by omega) (by omega) (Or.inr ?_)
      rcases hb with ⟨rfl, rfl, rfl⟩ | ⟨k1, k2, k3, k4, k5, k6, k7⟩
      · have c : own_ds W 0 < 33 := by
          rw [ilt]
          have e : (33 : Int32).toInt = 33 := rfl
          omega
        rw [if_pos c, if_pos c, if_pos c]
        refine ⟨by decide, by decide, rfl, fun j a b => ?_, by decide, by decide, fun _ => rfl⟩
        have ej : j = 0 := by
          rw [ieq]
          have e0 : (0 : Int32).toInt = 0 := rfl
          have e01 : (0 + 1 : Int32).toInt = 1 := rfl
          omega
        rw [ej]
        exact Int.le_refl _
      · by_cases c : own_ds W i < d
        · have c' := ilt.mp c
          rw [if_pos c, if_pos c, if_pos c]
          refine ⟨h0, by omega, rfl, fun j a b => ?_, by decide, by omega, fun _ => rfl⟩
          by_cases ej : j = i
          · rw [ej]; exact Int.le_refl _
          · rw [ieq] at ej
            have := k4 j a (by omega)
            omega
        · have c' : ¬ (own_ds W i).toInt < d.toInt := fun z => c (ilt.mpr z)
          rw [if_neg c, if_neg c, if_neg c]
          refine ⟨k1, by omega, k3, fun j a b => ?_, ?_, ?_, ?_⟩
          · by_cases ej : j = i
            · rw [ej]; omega
            · rw [ieq] at ej
              exact k4 j a (by omega)
          · split
            · have et : (t + 1).toInt = t.toInt + 1 := by clear ih k3 k4 k7; ((try simp only [ilt, ile, ieq, iadd_e, isub_e, imul_e, Int32.reduceToInt] at *) <;> omega)
              omega
            · exact k5
          · split
            · have et : (t + 1).toInt = t.toInt + 1 := by clear ih k3 k4 k7; ((try simp only [ilt, ile, ieq, iadd_e, isub_e, imul_e, Int32.reduceToInt] at *) <;> omega)
              omega
            · omega
          · intro d8
            have t1 := k7 d8
            split
            · rename_i q
              exfalso
              have ne : ¬ i = r := by rw [ieq]; omega
              have tw := own_two h h0 g' k1 (by omega) ne
              rw [q, ← k3] at tw
              omega
            · exact t1
    · have g' : ¬ i.toInt < 64 := fun k => g (ilt.mpr k)
      have ei : i = 64 := by rw [ieq]; have e : (64 : Int32).toInt = 64 := rfl; omega
      subst ei
      rcases hb with ⟨z, -, -⟩ | hb
      · exact absurd z (by decide)
      · exact Tot.mk ⟨rfl, hb⟩
/-- rule 1 finds a nearest codeword -/
theorem own_near (w : Int32) : ∃ r d t, own_best (own_tr w) 64 r d t ∧ ∀ (W : List Int32) (ld lt : Int32), W.length = 32 → f_applyRule1 W ld lt w = some (r, own_tr w, d, t) := by
  obtain ⟨r, d, t, h⟩ := own_ar1 w
  refine ⟨r, d, t, ?_, h⟩
  have q := h (List.replicate 32 0) 0 0 (by simp)
  unfold f_applyRule1 at q
  rw [(own_trans (by simp) w).1, Option.bind_some] at q
  obtain ⟨x, e, hx, hb⟩ := own_a16 (own_tr_bd w) 0 0 100000 0 33 0 0 (by decide) (by decide) (by decide) (Or.inl ⟨rfl, rfl, rfl⟩)
  rw [q] at e
  have ex : x = (r, own_tr w, d, t) := by
    have := Option.some.inj e
    exact this.symm
  rw [ex] at hb
  exact hb
theorem own_best16 {W : List Int32} (h : own_bd 5 32 W) {r d t : Int32} (hb : own_best W 64 r d t) : 0 ≤ d.toInt ∧ d.toInt ≤ 16 ∧ 1 ≤ t.toInt ∧ t.toInt ≤ 64 := by
  obtain ⟨k1, k2, k3, k4, k5, k6, k7⟩ := hb
  have e64 : (64 : Int32).toInt = 64 := rfl
  have nn := own_ds_nn h r
  rw [← k3] at nn
  have a := k4 0 (by decide) (by decide)
  have b := k4 1 (by decide) (by decide)
  rw [own_ds_v h, if_pos (by decide)] at a
  rw [own_ds_v h, if_neg (by decide), show XT.ushr 1 1 &&& 31 = XT.ushr 0 1 &&& 31 by decide] at b
  omega
/-! The transform is linear -/
theorem own_split {v i : Int32} (hv0 : 0 ≤ v.toInt) (hv5 : v.toInt < 5) (hi : own_i32 i) : ∃ p : Int32, own_i32 p ∧ own_i32 (p ||| ((1 : Int32) <<< (v &&& 31))) ∧ p &&& ((1 : Int32) <<< (v &&& 31)) = 0 ∧ (i = p ∨ i = p ||| ((1 : Int32) <<< (v &&& 31))) := by
  obtain ⟨k1, k2, k3, k4, -⟩ := own_g2' hv0 hv5 hi hi
  exact ⟨_, ⟨k3, k4⟩, own_or k3 k4 hv0 hv5, k1, k2⟩
def own_lin (κ : Int32) (A B C : List Int32) : Prop := ∀ i : Int32, own_i32 i → gI C i = gI A i + κ * gI B i
theorem own_lin_step {v κ : Int32} (hv0 : 0 ≤ v.toInt) (hv5 : v.toInt < 5) {A B C A' B' C' : List Int32} (h : own_lin κ A B C) (ha : own_lvl ((1 : Int32) <<< (v &&& 31)) A A') (hb : own_lvl ((1 : Int32) <<< (v &&& 31)) B B') (hc : own_lvl ((1 : Int32) <<< (v &&& 31)) C C') : own_lin κ A' B' C' := by
  intro i hi
  obtain ⟨p, hp, hq, h0, e⟩ := own_split hv0 hv5 hi
  have a := ha.2 p hp h0
  have b := hb.2 p hp h0
  have c := hc.2 p hp h0
  have x := h p hp
  have y := h _ hq
  rcases e with rfl | rfl
  · rw [a.1, b.1, c.1, x, y]
    grind
  · rw [a.2, b.2, c.2, x, y]
    grind
def own_TT (A Z : List Int32) : Prop := ∃ A1 A2 A3 A4 : List Int32, own_lvl ((1 : Int32) <<< ((0 : Int32) &&& 31)) A A1 ∧ own_lvl ((1 : Int32) <<< ((1 : Int32) &&& 31)) A1 A2 ∧ own_lvl ((1 : Int32) <<< ((2 : Int32) &&& 31)) A2 A3 ∧ own_lvl ((1 : Int32) <<< ((3 : Int32) &&& 31)) A3 A4 ∧ own_lvl ((1 : Int32) <<< ((4 : Int32) &&& 31)) A4 Z
theorem own_t1 {Q : List Int32 → Prop} (n : Nat) {v : Int32} (hv0 : 0 ≤ v.toInt) (hv5 : v.toInt < 5) {A : List Int32} (hA : A.length = 32) (hk : ∀ W : List Int32, own_lvl ((1 : Int32) <<< (v &&& 31)) A W → Tot (f_transform_41 n W (v + 1)) Q) : Tot (f_transform_41 (n + 1) A v) Q := by
  unfold f_transform_41
  rw [if_pos (ilt.mpr (show v.toInt < 5 from hv5))]
  exact own_level _ hv0 hv5 hA hk
theorem own_tt {A : List Int32} (hA : A.length = 32) : Tot (f_transform_41 100000 A 0) (fun Z => own_TT A Z) := by
  refine own_t1 99999 (by decide) (by decide) hA (fun A1 l1 => ?_)
  refine own_t1 99998 (v := 1) (by decide) (by decide) l1.1 (fun A2 l2 => ?_)
  refine own_t1 99997 (v := 2) (by decide) (by decide) l2.1 (fun A3 l3 => ?_)
  refine own_t1 99996 (v := 3) (by decide) (by decide) l3.1 (fun A4 l4 => ?_)
  refine own_t1 99995 (v := 4) (by decide) (by decide) l4.1 (fun A5 l5 => ?_)
  have e : f_transform_41 99995 A5 (4 + 1) = some A5 := by
    rw [show (99995 : Nat) = 99994 + 1 from rfl]
    unfold f_transform_41
    rw [if_neg (by decide)]
  rw [e]
  exact Tot.mk ⟨A1, A2, A3, A4, l1, l2, l3, l4, l5⟩
def own_T (A : List Int32) : List Int32 := (f_transform_41 100000 A 0).getD []
theorem own_T_tt {A : List Int32} (hA : A.length = 32) : own_TT A (own_T A) := by
  obtain ⟨Z, e, h⟩ := own_tt hA
  have e2 : own_T A = Z := by simp [own_T, e]
  rw [e2]
  exact h
theorem own_T_lin {κ : Int32} {A B C : List Int32} (hA : A.length = 32) (hB : B.length = 32) (hC : C.length = 32) (h : own_lin κ A B C) : own_lin κ (own_T A) (own_T B) (own_T C) := by
  obtain ⟨A1, A2, A3, A4, a1, a2, a3, a4, a5⟩ := own_T_tt hA
  obtain ⟨B1, B2, B3, B4, b1, b2, b3, b4, b5⟩ := own_T_tt hB
  obtain ⟨C1, C2, C3, C4, c1, c2, c3, c4, c5⟩ := own_T_tt hC
  have h1 := own_lin_step (by decide) (by decide) h a1 b1 c1
  have h2 := own_lin_step (by decide) (by decide) h1 a2 b2 c2
  have h3 := own_lin_step (by decide) (by decide) h2 a3 b3 c3
  have h4 := own_lin_step (by decide) (by decide) h3 a4 b4 c4
  exact own_lin_step (by decide) (by decide) h4 a5 b5 c5
/-- the characters -/
def own_par (n : Nat) : Bool := (n.testBit 0 ^^ n.testBit 1) ^^ (n.testBit 2 ^^ n.testBit 3) ^^ n.testBit 4
def own_chi (i k : Nat) : Int32 := if own_par (i &&& k) then -1 else 1
def own_e (k : Nat) : List Int32 := (List.replicate 32 0).set k 1
def own_C (k : Nat) : List Int32 := (List.range 32).map (fun i => own_chi i k)
theorem own_basis : ∀ k : Fin 32, f_transform_41 100000 (own_e k.val) 0 = some (own_C k.val) := by decide +kernel
theorem own_T_e {k : Nat} (hk : k < 32) : own_T (own_e k) = own_C k := by
  have e := own_basis ⟨k, hk⟩
  simp only at e
  simp [own_T, e]
theorem own_C_g {k : Nat} {i : Int32} (hi : own_i32 i) : gI (own_C k) i = own_chi i.toInt.toNat k := by
  have hl : i.toInt.toNat < 32 := by have := hi.1; have := hi.2; omega
  unfold gI
  rw [rdA_nn hi.1]
  unfold own_C
  rw [List.getElem?_map, List.getElem?_range hl, Option.map_some]
  rfl
theorem own_e_g {k : Nat} (hk : k < 32) {i : Int32} (hi : own_i32 i) : gI (own_e k) i = if i.toInt.toNat = k then 1 else 0 := by
  have h0 := hi.1
  have h1 := hi.2
  unfold gI
  rw [rdA_nn h0]
  unfold own_e
  by_cases e : i.toInt.toNat = k
  · rw [if_pos e, e, List.getElem?_set_self (by simpa using hk)]
    rfl
  · rw [if_neg e, List.getElem?_set_ne (fun z => e z.symm), List.getElem?_replicate, if_pos (by omega)]
    rfl
/-! Bits of a word -/
theorem own_shn_all : ∀ n : Fin 32, (((Int32.ofNat n.val &&& 31).toUInt32.toBitVec) % 32#32).toNat = n.val := by decide +kernel
theorem own_bitv (w : Int32) {n : Nat} (hn : n < 32) : (XT.ushr w (Int32.ofNat n)).toBitVec = w.toBitVec >>> n := by
  have k := own_shn_all ⟨n, hn⟩
  simp only at k
  show w.toBitVec >>> (((Int32.ofNat n &&& 31).toUInt32.toBitVec) % 32#32) = _
  rw [BitVec.ushiftRight_eq', k]
theorem own_sg_bit (w : Int32) {n : Nat} (hn : n < 32) : own_sg w (Int32.ofNat n) = if w.toBitVec.getLsbD n then -1 else 1 := by
  have e := own_bitv w hn
  have key : (XT.ushr w (Int32.ofNat n) &&& 1 = 0) ↔ w.toBitVec.getLsbD n = false := by
    rw [← Int32.toBitVec_inj, Int32.toBitVec_and, e]
    constructor
    · intro h
      have h2 := congrArg (fun x => BitVec.getLsbD x 0) h
      simpa using h2
    · intro h
      apply BitVec.eq_of_getLsbD_eq
      intro j hj
      show ((w.toBitVec >>> n) &&& 1#32).getLsbD j = (0#32).getLsbD j
      rw [BitVec.getLsbD_and, BitVec.getLsbD_ushiftRight]
      by_cases hj0 : j = 0
      · subst hj0
        simp [h]
      · simp [hj0]
  unfold own_sg
  by_cases g : w.toBitVec.getLsbD n = true
  · rw [if_pos g, if_neg (fun z => by have := key.mp z; rw [g] at this; exact absurd this (by decide))]
  · have g' : w.toBitVec.getLsbD n = false := by simpa using g
    rw [if_neg g, if_pos (key.mpr g')]
theorem own_shl_all : ∀ n : Fin 32, ((1 : Int32) <<< (Int32.ofNat n.val &&& 31)).toBitVec = 1#32 <<< n.val := by decide +kernel
theorem own_flip_bit (w : Int32) {n k : Nat} (hk : k < 32) (hn : n < 32) : (w ^^^ ((1 : Int32) <<< (Int32.ofNat k &&& 31))).toBitVec.getLsbD n = (w.toBitVec.getLsbD n ^^ decide (n = k)) := by
  have e := own_shl_all ⟨k, hk⟩
  simp only at e
  rw [Int32.toBitVec_xor, e, BitVec.getLsbD_xor, BitVec.getLsbD_shiftLeft]
  by_cases g : n = k
  · subst g
    simp [hn]
  · by_cases l : n < k
    · simp [g, l]
    · have e1 : (1#32).getLsbD (n - k) = false := by
        have q : ¬ n - k = 0 := by omega
        rw [BitVec.getLsbD_one]
        simp [q]
      simp [e1, g]
theorem own_flip_sg (w : Int32) {k : Nat} (hk : k < 32) : own_lin (-2 * own_sg w (Int32.ofNat k)) (own_S w) (own_e k) (own_S (w ^^^ ((1 : Int32) <<< (Int32.ofNat k &&& 31)))) := by
  intro i hi
  have hn : i.toInt.toNat < 32 := by have := hi.1; have := hi.2; omega
  rw [own_S_g _ hi.1 hi.2, own_S_g _ hi.1 hi.2, own_e_g hk hi, ← own_of hi.1, own_sg_bit _ hn, own_sg_bit _ hn, own_sg_bit _ hk, own_flip_bit w hk hn, own_of hi.1]
  by_cases g : i.toInt.toNat = k
  · rw [if_pos g, g]
    cases w.toBitVec.getLsbD k <;> simp <;> decide
  · rw [if_neg g, decide_eq_false g, Bool.xor_false, Int32.mul_zero, Int32.add_zero]
/-- a flipped bit moves every entry by two -/
theorem own_flip_x (w : Int32) {k : Nat} (hk : k < 32) {i : Int32} (hi : own_i32 i) : gI (own_tr (w ^^^ ((1 : Int32) <<< (Int32.ofNat k &&& 31)))) i = gI (own_tr w) i + -2 * own_sg w (Int32.ofNat k) * own_chi i.toInt.toNat k := by
  have h := own_T_lin (own_S_len w) (by simp [own_e]) (own_S_len _) (own_flip_sg w hk) i hi
  rw [own_T_e hk, own_C_g hi] at h
  exact h
/-! Rule 1 on a codeword with three flips -/
theorem own_cw : ∀ m : Fin 64, gI (own_tr (own_enc (Int32.ofNat m.val) 6)) (XT.ushr (Int32.ofNat m.val) 1 &&& 31) = if Int32.ofNat m.val &&& 1 = 0 then 32 else -32 := by decide +kernel
theorem own_cws : ∀ m : Fin 64, ∀ k : Fin 32, own_sg (own_enc (Int32.ofNat m.val) 6) (Int32.ofNat k.val) * own_chi (XT.ushr (Int32.ofNat m.val) 1 &&& 31).toInt.toNat k.val = if Int32.ofNat m.val &&& 1 = 0 then 1 else -1 := by decide +kernel
def own_fl (w : Int32) (k : Nat) : Int32 := w ^^^ ((1 : Int32) <<< (Int32.ofNat k &&& 31))
theorem own_sg_fl (w : Int32) {j k : Nat} (hj : j < 32) (hk : k < 32) : own_sg (own_fl w k) (Int32.ofNat j) = if j = k then -own_sg w (Int32.ofNat j) else own_sg w (Int32.ofNat j) := by
  unfold own_fl
  rw [own_sg_bit _ hj, own_sg_bit _ hj, own_flip_bit w hk hj]
  by_cases g : j = k
  · rw [if_pos g, decide_eq_true g]
    cases w.toBitVec.getLsbD j <;> decide
  · rw [if_neg g, decide_eq_false g, Bool.xor_false]
theorem own_x_fl (w : Int32) {k : Nat} (hk : k < 32) {i : Int32} (hi : own_i32 i) : gI (own_tr (own_fl w k)) i = gI (own_tr w) i + -2 * own_sg w (Int32.ofNat k) * own_chi i.toInt.toNat k := own_flip_x w hk hi
theorem own_three {mm : Int32} (m0 : 0 ≤ mm.toInt) (m1 : mm.toInt < 64) {p q t : Nat} (hp : p < 32) (hq : q < 32) (ht : t < 32) :
    gI (own_tr (own_fl (own_fl (own_fl (own_enc mm 6) p) q) t)) (XT.ushr mm 1 &&& 31) = (if p = q then 30 else if q = t then 30 else if p = t then 30 else 26) * (if mm &&& 1 = 0 then (1 : Int32) else -1) := by
  have r := iand_rng (XT.ushr mm 1) 31 (by decide)
  have e31 : (31 : Int32).toInt = 31 := rfl
  have hi : own_i32 (XT.ushr mm 1 &&& 31) := ⟨r.1, by omega⟩
  have c := own_cw ⟨mm.toInt.toNat, by omega⟩
  have s := fun k (hk : k < 32) => own_cws ⟨mm.toInt.toNat, by omega⟩ ⟨k, hk⟩
  simp only [own_of m0] at c s
  have sp := s p hp
  have sq := s q hq
  have st := s t ht
  rw [own_x_fl _ ht hi, own_x_fl _ hq hi, own_x_fl _ hp hi, own_sg_fl _ ht hq, own_sg_fl _ ht hp, own_sg_fl _ hq hp, c]
  generalize own_sg (own_enc mm 6) (Int32.ofNat p) = a at *
  generalize own_sg (own_enc mm 6) (Int32.ofNat q) = b at *
  generalize own_sg (own_enc mm 6) (Int32.ofNat t) = d at *
  generalize own_chi (XT.ushr mm 1 &&& 31).toInt.toNat p = x at *
  generalize own_chi (XT.ushr mm 1 &&& 31).toInt.toNat q = y at *
  generalize own_chi (XT.ushr mm 1 &&& 31).toInt.toNat t = z at *
  by_cases g : mm &&& 1 = 0
  · rw [if_pos g] at sp sq st ⊢
    rw [if_pos g]
    by_cases g1 : p = q
    · by_cases g2 : t = q
      · rw [if_pos g1.symm, if_pos g2, if_pos (g2.trans g1.symm), if_pos g1]; grind
      · rw [if_pos g1.symm, if_neg g2, if_neg (fun h => g2 (h.trans g1)), if_pos g1]; grind
    · by_cases g2 : t = q
      · rw [if_neg (fun h => g1 h.symm), if_pos g2, if_neg (fun h => g1 (h.symm.trans g2)), if_neg g1, if_pos g2.symm]; grind
      · by_cases g3 : t = p
        · rw [if_neg (fun h => g1 h.symm), if_neg g2, if_pos g3, if_neg g1, if_neg (fun h => g2 h.symm), if_pos g3.symm]; grind
        · rw [if_neg (fun h => g1 h.symm), if_neg g2, if_neg g3, if_neg g1, if_neg (fun h => g2 h.symm), if_neg (fun h => g3 h.symm)]; grind
  · rw [if_neg g] at sp sq st ⊢
    rw [if_neg g]
    by_cases g1 : p = q
    · by_cases g2 : t = q
      · rw [if_pos g1.symm, if_pos g2, if_pos (g2.trans g1.symm), if_pos g1]; grind
      · rw [if_pos g1.symm, if_neg g2, if_neg (fun h => g2 (h.trans g1)), if_pos g1]; grind
    · by_cases g2 : t = q
      · rw [if_neg (fun h => g1 h.symm), if_pos g2, if_neg (fun h => g1 (h.symm.trans g2)), if_neg g1, if_pos g2.symm]; grind
      · by_cases g3 : t = p
        · rw [if_neg (fun h => g1 h.symm), if_neg g2, if_pos g3, if_neg g1, if_neg (fun h => g2 h.symm), if_pos g3.symm]; grind
        · rw [if_neg (fun h => g1 h.symm), if_neg g2, if_neg g3, if_neg g1, if_neg (fun h => g2 h.symm), if_neg (fun h => g3 h.symm)]; grind
def own_wt (p q t : Nat) : Int32 := if p = q then 1 else if q = t then 1 else if p = t then 1 else 3
theorem own_ds3 {mm : Int32} (m0 : 0 ≤ mm.toInt) (m1 : mm.toInt < 64) {p q t : Nat} (hp : p < 32) (hq : q < 32) (ht : t < 32) : own_ds (own_tr (own_fl (own_fl (own_fl (own_enc mm 6) p) q) t)) mm = own_wt p q t := by
  rw [ieq, own_ds_v (own_tr_bd _) mm, own_three m0 m1 hp hq ht]
  unfold own_wt
  by_cases g : mm &&& 1 = 0
  · rw [if_pos g, if_pos g]
    by_cases g1 : p = q
    · rw [if_pos g1, if_pos g1]; decide
    · by_cases g2 : q = t
      · rw [if_neg g1, if_pos g2, if_neg g1, if_pos g2]; decide
      · by_cases g3 : p = t
        · rw [if_neg g1, if_neg g2, if_pos g3, if_neg g1, if_neg g2, if_pos g3]; decide
        · rw [if_neg g1, if_neg g2, if_neg g3, if_neg g1, if_neg g2, if_neg g3]; decide
  · rw [if_neg g, if_neg g]
    by_cases g1 : p = q
    · rw [if_pos g1, if_pos g1]; decide
    · by_cases g2 : q = t
      · rw [if_neg g1, if_pos g2, if_neg g1, if_pos g2]; decide
      · by_cases g3 : p = t
        · rw [if_neg g1, if_neg g2, if_pos g3, if_neg g1, if_neg g2, if_pos g3]; decide
        · rw [if_neg g1, if_neg g2, if_neg g3, if_neg g1, if_neg g2, if_neg g3]; decide
theorem own_wt_r (p q t : Nat) : 1 ≤ (own_wt p q t).toInt ∧ (own_wt p q t).toInt ≤ 3 := by
  unfold own_wt
  split
  · decide
  · split
    · decide
    · split <;> decide
/-- rule 1 gives the message back -/
theorem own_dec1 {mm : Int32} (m0 : 0 ≤ mm.toInt) (m1 : mm.toInt < 64) {p q t : Nat} (hp : p < 32) (hq : q < 32) (ht : t < 32) (W : List Int32) (ld lt : Int32) (hW : W.length = 32) :
    f_applyRule1 W ld lt (own_fl (own_fl (own_fl (own_enc mm 6) p) q) t) = some (mm, own_tr (own_fl (own_fl (own_fl (own_enc mm 6) p) q) t), own_wt p q t, 1) := by
  have dm := own_ds3 m0 m1 hp hq ht
  generalize own_fl (own_fl (own_fl (own_enc mm 6) p) q) t = w at dm ⊢
  obtain ⟨r, d, t', hb, h⟩ := own_near w
  obtain ⟨k1, k2, k3, k4, k5, k6, k7⟩ := hb
  have e64 : (64 : Int32).toInt = 64 := rfl
  have wr := own_wt_r p q t
  have c := k4 mm m0 (by omega)
  rw [dm] at c
  have er : r = mm := by
    by_cases e : r = mm
    · exact e
    · exfalso
      have tw := own_two (own_tr_bd w) k1 (by omega) m0 m1 e
      rw [← k3, dm] at tw
      omega
  subst er
  have ed : d = own_wt p q t := by rw [k3, dm]
  have et : t' = 1 := k7 (by rw [ed]; omega)
  rw [h W ld lt hW, ed, et]
/-! Rule 2: words as bits, linear maps -/
def own_b (w : Int32) (n : Nat) : Bool := w.toBitVec.getLsbD n
theorem own_bx {a b : Int32} (h : ∀ n, n < 32 → own_b a n = own_b b n) : a = b := by
  apply Int32.toBitVec_inj.mp
  apply BitVec.eq_of_getLsbD_eq
  intro i hi
  exact h i hi
theorem own_b_xor (a b : Int32) (n : Nat) : own_b (a ^^^ b) n = (own_b a n ^^ own_b b n) := by
  unfold own_b
  rw [Int32.toBitVec_xor, BitVec.getLsbD_xor]
theorem own_b_or (a b : Int32) (n : Nat) : own_b (a ||| b) n = (own_b a n || own_b b n) := by
  unfold own_b
  rw [Int32.toBitVec_or, BitVec.getLsbD_or]
theorem own_b0 (w : Int32) {n : Nat} (hn : n < 32) : (XT.ushr w (Int32.ofNat n) &&& 1 = 0) ↔ own_b w n = false := by
  have e := own_bitv w hn
  unfold own_b
  rw [← Int32.toBitVec_inj, Int32.toBitVec_and, e]
  constructor
  · intro h
    have h2 := congrArg (fun x => BitVec.getLsbD x 0) h
    simpa using h2
  · intro h
    apply BitVec.eq_of_getLsbD_eq
    intro j hj
    show ((w.toBitVec >>> n) &&& 1#32).getLsbD j = (0#32).getLsbD j
    rw [BitVec.getLsbD_and, BitVec.getLsbD_ushiftRight]
    by_cases hj0 : j = 0
    · subst hj0
      simp [h]
    · simp [hj0]
theorem own_b1 {n k : Nat} (hk : k < 32) (hn : n < 32) : own_b ((1 : Int32) <<< (Int32.ofNat k &&& 31)) n = decide (n = k) := by
  have f := own_flip_bit 0 hk hn
  have z : (0 : Int32).toBitVec.getLsbD n = false := by
    have key : ∀ n : Nat, n < 32 → (0 : Int32).toBitVec.getLsbD n = false := by decide +kernel
    exact key n hn
  rw [z, Bool.false_xor] at f
  have e : (0 : Int32) ^^^ ((1 : Int32) <<< (Int32.ofNat k &&& 31)) = (1 : Int32) <<< (Int32.ofNat k &&& 31) := Int32.zero_xor
  rw [e] at f
  exact f
/-- position x of the answer holds position x xor 2^i -/
def own_sw (i : Nat) (w : Int32) : Int32 := (f_swap own_M w (Int32.ofNat i)).getD 0
theorem own_swf : ∀ i : Fin 5, ∀ n : Fin 32, ((gI own_M (1 + Int32.ofNat i.val)) ^^^ (-1)).toBitVec.getLsbD n.val = !(n.val.testBit i.val) ∧ (2 ^ i.val ≤ n.val → ((gI own_M (1 + Int32.ofNat i.val)) ^^^ (-1)).toBitVec.getLsbD (n.val - 2 ^ i.val) = n.val.testBit i.val) ∧ (n.val.testBit i.val = true → 2 ^ i.val ≤ n.val ∧ n.val - 2 ^ i.val = n.val ^^^ 2 ^ i.val) ∧ (n.val.testBit i.val = false → 2 ^ i.val + n.val = n.val ^^^ 2 ^ i.val) := by decide +kernel
theorem own_swk : ∀ i : Fin 5, (((((1 : Int32) <<< (Int32.ofNat i.val &&& 31)) &&& 31).toBitVec.smod 32#32).toNat = 2 ^ i.val) ∧ (((((1 : Int32) <<< (Int32.ofNat i.val &&& 31)) &&& 31).toBitVec % 32#32).toNat = 2 ^ i.val) := by decide +kernel
theorem own_swe (w : Int32) {i : Nat} (hi : i < 5) : f_swap own_M w (Int32.ofNat i) = some (((w &&& ((gI own_M (1 + Int32.ofNat i)) ^^^ (-1 : Int32))) <<< (((1 : Int32) <<< (Int32.ofNat i &&& 31)) &&& 31)) ||| ((XT.ushr w ((1 : Int32) <<< (Int32.ofNat i &&& 31))) &&& ((gI own_M (1 + Int32.ofNat i)) ^^^ (-1 : Int32)))) := by
  have key : ∀ i : Fin 5, (¬ (Int32.ofNat i.val) < 0) ∧ (¬ 4 < Int32.ofNat i.val) ∧ 0 ≤ ((1 : Int32) + Int32.ofNat i.val).toInt ∧ ((1 : Int32) + Int32.ofNat i.val).toInt < own_M.length := by decide +kernel
  obtain ⟨k1, k2, k3, k4⟩ := key ⟨i, hi⟩
  simp only at k1 k2 k3 k4
  unfold f_swap
  rw [if_neg k1, if_neg k2, rdg k3 k4, Option.bind_some]
theorem own_swb (w : Int32) {i n : Nat} (hi : i < 5) (hn : n < 32) : own_b (own_sw i w) n = own_b w (n ^^^ 2 ^ i) := by
  obtain ⟨f1, f2, f3, f4⟩ := own_swf ⟨i, hi⟩ ⟨n, hn⟩
  obtain ⟨k1, k2⟩ := own_swk ⟨i, hi⟩
  simp only at f1 f2 f3 f4 k1 k2
  unfold own_sw own_b
  rw [own_swe w hi]
  show (((w &&& ((gI own_M (1 + Int32.ofNat i)) ^^^ (-1 : Int32))) <<< (((1 : Int32) <<< (Int32.ofNat i &&& 31)) &&& 31)) ||| ((XT.ushr w ((1 : Int32) <<< (Int32.ofNat i &&& 31))) &&& ((gI own_M (1 + Int32.ofNat i)) ^^^ (-1 : Int32)))).toBitVec.getLsbD n = _
  have e1 : (XT.ushr w ((1 : Int32) <<< (Int32.ofNat i &&& 31))).toBitVec = w.toBitVec >>> (2 ^ i) := by
    show w.toBitVec >>> ((((1 : Int32) <<< (Int32.ofNat i &&& 31)) &&& 31).toBitVec % 32#32) = _
    rw [BitVec.ushiftRight_eq', k2]
  rw [Int32.toBitVec_or, Int32.toBitVec_and, e1, Int32.toBitVec_shiftLeft, BitVec.shiftLeft_eq']
  have k1' : ((((1 : Int32) <<< (Int32.ofNat i &&& 31)) &&& 31).toBitVec.smod 32).toNat = 2 ^ i := k1
  rw [k1', Int32.toBitVec_and, BitVec.getLsbD_or, BitVec.getLsbD_shiftLeft, BitVec.getLsbD_and, BitVec.getLsbD_and, BitVec.getLsbD_ushiftRight, f1]
  cases ht : n.testBit i with
  | true =>
    obtain ⟨g1, g2⟩ := f3 ht
    rw [f2 g1, ht, g2]
    have : ¬ n < 2 ^ i := by omega
    simp [hn, this]
  | false =>
    have g := f4 ht
    rw [g]
    by_cases hlt : n < 2 ^ i
    · simp [hlt]
    · rw [f2 (by omega), ht]
      simp
theorem own_sw_x {i : Nat} (hi : i < 5) (a b : Int32) : own_sw i (a ^^^ b) = own_sw i a ^^^ own_sw i b := by
  apply own_bx
  intro n hn
  rw [own_swb _ hi hn, own_b_xor, own_b_xor, own_swb _ hi hn, own_swb _ hi hn]
theorem own_swe' (w : Int32) {i : Nat} (hi : i < 5) : f_swap own_M w (Int32.ofNat i) = some (own_sw i w) := by
  unfold own_sw
  rw [own_swe w hi]
  rfl
def own_L (i : Nat) (w : Int32) : Int32 := w ^^^ own_sw i w
def own_D (i j : Nat) (w : Int32) : Int32 := ((w ^^^ own_sw i w) ^^^ own_sw j w) ^^^ own_sw i (own_sw j w)
theorem own_x4 (a b c d : Int32) : (a ^^^ b) ^^^ (c ^^^ d) = (a ^^^ c) ^^^ (b ^^^ d) := by
  rw [Int32.xor_assoc, Int32.xor_assoc, ← Int32.xor_assoc b c d, Int32.xor_comm b c, Int32.xor_assoc c b d]
theorem own_L_x {i : Nat} (hi : i < 5) (a b : Int32) : own_L i (a ^^^ b) = own_L i a ^^^ own_L i b := by
  unfold own_L
  rw [own_sw_x hi, own_x4]
theorem own_D_x {i j : Nat} (hi : i < 5) (hj : j < 5) (a b : Int32) : own_D i j (a ^^^ b) = own_D i j a ^^^ own_D i j b := by
  unfold own_D
  rw [own_sw_x hi, own_sw_x hj, own_sw_x hi]
  ac_rfl
/-- what encodeBits gives, step by step -/
def own_xr (v : Int32) : Nat → Int32
  | 0 => 0
  | n + 1 => own_xr v n ^^^ (if own_b v n then gI own_M (Int32.ofNat n) else 0)
theorem own_xr19 (v : Int32) {k : Nat} (hk : k ≤ 16) : ∀ (f i : Nat), i ≤ k → k - i < f → f_encodeBits_19 own_M f v (own_xr v i) (Int32.ofNat k) (Int32.ofNat i) = some (own_xr v k) := by
  intro f
  induction f with
  | zero => intro i h1 h2; omega
  | succ f ih =>
    intro i h1 h2
    have ei : (Int32.ofNat i).toInt = i := Int32.toInt_ofNat_of_lt (by omega)
    have ek : (Int32.ofNat k).toInt = k := Int32.toInt_ofNat_of_lt (by omega)
    have ei1 : Int32.ofNat i + 1 = Int32.ofNat (i + 1) := by
      have e1 : (1 : Int32).toInt = 1 := rfl
      rw [ieq, iadd_i (by omega) (by omega), ei, Int32.toInt_ofNat_of_lt (by omega), e1]
      omega
    unfold f_encodeBits_19
    by_cases c : i < k
    · rw [if_pos (by rw [ilt]; omega), ei1]
      by_cases hb : own_b v i = true
      · rw [if_neg (fun h => by rw [(own_b0 v (by omega)).mp h] at hb; exact absurd hb (by decide)), rdg (by omega) (by rw [ei]; show (i : Int) < 16; omega), Option.bind_some]
        have : own_xr v (i + 1) = own_xr v i ^^^ gI own_M (Int32.ofNat i) := by rw [own_xr, if_pos hb]
        rw [← this]
        exact ih (i + 1) (by omega) (by omega)
      · have hb' : own_b v i = false := by simpa using hb
        rw [if_pos ((own_b0 v (by omega)).mpr hb')]
        have : own_xr v (i + 1) = own_xr v i := by rw [own_xr, if_neg hb, Int32.xor_zero]
        rw [← this]
        exact ih (i + 1) (by omega) (by omega)
    · have : i = k := by omega
      subst this
      rw [if_neg (by rw [ilt]; omega)]
theorem own_enc_x (v : Int32) {k : Nat} (hk : k ≤ 16) : own_enc v (Int32.ofNat k) = own_xr v k := by
  have ek : (Int32.ofNat k).toInt = k := Int32.toInt_ofNat_of_lt (by omega)
  have e16 : (16 : Int32).toInt = 16 := rfl
  unfold own_enc f_encodeBits
  rw [if_neg (by rw [ilt]; omega)]
  have := own_xr19 v hk 100000 0 (by omega) (by omega)
  show (f_encodeBits_19 own_M 100000 v (own_xr v 0) (Int32.ofNat k) (Int32.ofNat 0)).getD 0 = _
  rw [this]
  rfl
theorem own_xr_eq {v w : Int32} : ∀ n : Nat, (∀ k, k < n → own_b v k = own_b w k) → own_xr v n = own_xr w n := by
  intro n
  induction n with
  | zero => intro _; rfl
  | succ n ih =>
    intro h
    rw [own_xr, own_xr, ih (fun k hk => h k (by omega)), h n (by omega)]
theorem own_lin_xr {T : Int32 → Int32} (hx : ∀ a b, T (a ^^^ b) = T a ^^^ T b) (h0 : T 0 = 0) (v : Int32) (k0 : Nat) : ∀ n : Nat, (∀ k, k < n → T (gI own_M (Int32.ofNat k)) = if k = k0 then -1 else 0) → T (own_xr v n) = if k0 < n ∧ own_b v k0 = true then -1 else 0 := by
  intro n
  induction n with
  | zero =>
    intro _
    rw [own_xr, h0, if_neg (by omega)]
  | succ n ih =>
    intro h
    rw [own_xr, hx, ih (fun k hk => h k (by omega))]
    have hn := h n (by omega)
    by_cases e : n = k0
    · subst e
      rw [if_pos rfl] at hn
      rw [if_neg (by omega)]
      by_cases hb : own_b v n = true
      · rw [if_pos hb, hn, if_pos ⟨by omega, hb⟩, Int32.zero_xor]
      · rw [if_neg hb, h0, if_neg (by simp [hb]), Int32.zero_xor]
    · rw [if_neg e] at hn
      have z : T (if own_b v n = true then gI own_M (Int32.ofNat n) else 0) = 0 := by
        split
        · exact hn
        · exact h0
      rw [z, Int32.xor_zero]
      by_cases c : k0 < n ∧ own_b v k0 = true
      · rw [if_pos c, if_pos ⟨by omega, c.2⟩]
      · rw [if_neg c, if_neg (fun q => c ⟨by omega, q.2⟩)]
/-! Votes over few errors -/
def own_1 (p : Nat) : Int32 := (1 : Int32) <<< (Int32.ofNat p &&& 31)
def own_pc (v : Int32) : Int32 := (f_popcount v).getD 0
theorem own_pce (v : Int32) : f_popcount v = some (own_pc v) := rfl
def own_few (x : Int32) : Bool := decide (¬ (16 : Int32) < own_pc x) && decide ((16 : Int32) < own_pc (-1 ^^^ x))
theorem own_sym {m : Nat → Int32} {P : Int32 → Prop} {n : Nat} (h : ∀ x y z : Fin n, x ≤ y → y ≤ z → P ((m x.val ^^^ m y.val) ^^^ m z.val)) {x y z : Nat} (hx : x < n) (hy : y < n) (hz : z < n) : P ((m x ^^^ m y) ^^^ m z) := by
  have k : ∀ a b c : Nat, a < n → b < n → c < n → a ≤ b → b ≤ c → P ((m a ^^^ m b) ^^^ m c) := fun a b c ha hb hc h1 h2 => h ⟨a, ha⟩ ⟨b, hb⟩ ⟨c, hc⟩ h1 h2
  rcases Nat.le_total x y with h1 | h1 <;> rcases Nat.le_total y z with h2 | h2 <;> rcases Nat.le_total x z with h3 | h3
  · exact k x y z hx hy hz h1 h2
  · exact k x y z hx hy hz h1 h2
  · have := k x z y hx hz hy h3 h2
    rwa [show (m x ^^^ m z) ^^^ m y = (m x ^^^ m y) ^^^ m z by ac_rfl] at this
  · have := k z x y hz hx hy h3 h1
    rwa [show (m z ^^^ m x) ^^^ m y = (m x ^^^ m y) ^^^ m z by ac_rfl] at this
  · have := k y x z hy hx hz h1 h3
    rwa [show (m y ^^^ m x) ^^^ m z = (m x ^^^ m y) ^^^ m z by ac_rfl] at this
  · have := k y z x hy hz hx h2 h3
    rwa [show (m y ^^^ m z) ^^^ m x = (m x ^^^ m y) ^^^ m z by ac_rfl] at this
  · have := k z y x hz hy hx h2 h1
    rwa [show (m z ^^^ m y) ^^^ m x = (m x ^^^ m y) ^^^ m z by ac_rfl] at this
  · have := k z y x hz hy hx h2 h1
    rwa [show (m z ^^^ m y) ^^^ m x = (m x ^^^ m y) ^^^ m z by ac_rfl] at this
def own_pI (k : Nat) : Nat := (gI own_PI (Int32.ofNat k)).toInt.toNat
def own_pJ (k : Nat) : Nat := (gI own_PJ (Int32.ofNat k)).toInt.toNat
theorem own_pr : ∀ k : Fin 16, own_pI k.val < 5 ∧ own_pJ k.val < 5 ∧ gI own_PI (Int32.ofNat k.val) = Int32.ofNat (own_pI k.val) ∧ gI own_PJ (Int32.ofNat k.val) = Int32.ofNat (own_pJ k.val) := by decide +kernel
/-- the flats of a pair: the positions with both bits clear, in order -/
def own_dm (k : Nat) : List Int32 := (((List.range 32).filter (fun p => !(p.testBit (own_pI k)) && !(p.testBit (own_pJ k)))).map (fun p => own_D (own_pI k) (own_pJ k) (own_1 p)))
def own_lm (i : Nat) : List Int32 := (((List.range 32).filter (fun p => !(p.testBit i))).map (fun p => own_L i (own_1 p)))
theorem own_dm_all : ∀ k : Fin 10, ∀ p : Fin 32, ∃ x : Fin 8, own_D (own_pI (k.val + 6)) (own_pJ (k.val + 6)) (own_1 p.val) = (own_dm (k.val + 6)).getD x.val 0 := by decide +kernel
theorem own_lm_all : ∀ i : Fin 5, ∀ p : Fin 32, ∃ x : Fin 16, own_L i.val (own_1 p.val) = (own_lm i.val).getD x.val 0 := by decide +kernel
theorem own_dm_few : ∀ k : Fin 10, ∀ x y z : Fin 8, x ≤ y → y ≤ z → own_few (((own_dm (k.val + 6)).getD x.val 0 ^^^ (own_dm (k.val + 6)).getD y.val 0) ^^^ (own_dm (k.val + 6)).getD z.val 0) = true := by decide +kernel
theorem own_lm_few : ∀ i : Fin 5, ∀ x y z : Fin 16, x ≤ y → y ≤ z → own_few (((own_lm i.val).getD x.val 0 ^^^ (own_lm i.val).getD y.val 0) ^^^ (own_lm i.val).getD z.val 0) = true := by decide +kernel
theorem own_e_few : ∀ x y z : Fin 32, x ≤ y → y ≤ z → (own_few ((own_1 x.val ^^^ own_1 y.val) ^^^ own_1 z.val) && decide (own_pc ((own_1 x.val ^^^ own_1 y.val) ^^^ own_1 z.val) = own_wt x.val y.val z.val)) = true := by decide +kernel
theorem own_land8 (a b c d : Nat) (hb : b < 256) (hd : d < 256) : (256 * a + b) &&& (256 * c + d) = 256 * (a &&& c) + (b &&& d) := by
  have hbd : b &&& d < 2 ^ 8 := Nat.and_lt_two_pow b hd
  apply Nat.eq_of_testBit_eq
  intro i
  rw [Nat.testBit_and, show 256 = 2 ^ 8 from rfl, Nat.testBit_two_pow_mul_add a hb, Nat.testBit_two_pow_mul_add c hd, Nat.testBit_two_pow_mul_add _ hbd, Nat.testBit_and, Nat.testBit_and]
  split <;> rfl
/-- four bytes -/
def own_4 (a b c d : Nat) : Nat := 256 * (256 * (256 * d + c) + b) + a
theorem own_4and (a b c d a' b' c' d' : Nat) (ha : a < 256) (hb : b < 256) (hc : c < 256) (ha' : a' < 256) (hb' : b' < 256) (hc' : c' < 256) : own_4 a b c d &&& own_4 a' b' c' d' = own_4 (a &&& a') (b &&& b') (c &&& c') (d &&& d') := by
  unfold own_4
  rw [own_land8 _ _ _ _ ha ha', own_land8 _ _ _ _ hb hb', own_land8 _ _ _ _ hc hc']
theorem own_s1 : ∀ b : Fin 256, ∀ c : Fin 2, (b.val / 2 + 128 * c.val) &&& 85 = (b.val / 2) &&& 85 ∧ (b.val / 2) &&& 85 ≤ b.val := by decide +kernel
theorem own_s2 : ∀ b : Fin 256, ∀ c : Fin 4, (b.val / 4 + 64 * c.val) &&& 51 = (b.val / 4) &&& 51 := by decide +kernel
def own_y (b : Nat) : Nat := let x := b - ((b / 2) &&& 85); (x &&& 51) + ((x / 4) &&& 51)
theorem own_s3 : ∀ b : Fin 256, own_y b.val % 16 ≤ 4 ∧ own_y b.val / 16 ≤ 4 := by decide +kernel
theorem own_s4 : ∀ b : Fin 256, ∀ c : Fin 16, c.val ≤ 4 → (own_y b.val + own_y b.val / 16 + 16 * c.val) &&& 15 = own_y b.val % 16 + own_y b.val / 16 := by decide +kernel
theorem own_n (x : Int32) : x.toBitVec.toNat < 4294967296 := x.toBitVec.isLt
theorem own_nand (x y : Int32) : (x &&& y).toBitVec.toNat = x.toBitVec.toNat &&& y.toBitVec.toNat := by rw [Int32.toBitVec_and, BitVec.toNat_and]
theorem own_nadd (x y : Int32) : (x + y).toBitVec.toNat = (x.toBitVec.toNat + y.toBitVec.toNat) % 4294967296 := by rw [Int32.toBitVec_add, BitVec.toNat_add]
theorem own_nsub (x y : Int32) : (x - y).toBitVec.toNat = (4294967296 - y.toBitVec.toNat + x.toBitVec.toNat) % 4294967296 := by rw [Int32.toBitVec_sub, BitVec.toNat_sub]
theorem own_nmul (x y : Int32) : (x * y).toBitVec.toNat = (x.toBitVec.toNat * y.toBitVec.toNat) % 4294967296 := by rw [Int32.toBitVec_mul, BitVec.toNat_mul]
theorem own_nsh (x y : Int32) (k : Nat) (h : (((y &&& 31).toBitVec) % 32#32).toNat = k) : (XT.ushr x y).toBitVec.toNat = x.toBitVec.toNat / 2 ^ k := by
  show (x.toBitVec >>> ((y &&& 31).toBitVec % 32#32)).toNat = _
  rw [BitVec.ushiftRight_eq', h, BitVec.toNat_ushiftRight, Nat.shiftRight_eq_div_pow]
theorem own_swar (v : Int32) (a b c d : Nat) (ha : a < 256) (hb : b < 256) (hc : c < 256) (hd : d < 256) (e : v.toBitVec.toNat = own_4 a b c d) : ∃ r, f_popcount v = some r ∧ r.toBitVec.toNat = (own_y a % 16 + own_y a / 16) + (own_y b % 16 + own_y b / 16) + (own_y c % 16 + own_y c / 16) + (own_y d % 16 + own_y d / 16) := by
  refine ⟨_, rfl, ?_⟩
  have m1 : (1431655765 : Int32).toBitVec.toNat = own_4 85 85 85 85 := by decide
  have m2 : (858993459 : Int32).toBitVec.toNat = own_4 51 51 51 51 := by decide
  have m3 : (252645135 : Int32).toBitVec.toNat = own_4 15 15 15 15 := by decide
  have m4 : (16843009 : Int32).toBitVec.toNat = 16843009 := by decide
  -- first stage
  have A : ((XT.ushr v 1) &&& (1431655765 : Int32)).toBitVec.toNat = own_4 ((a / 2) &&& 85) ((b / 2) &&& 85) ((c / 2) &&& 85) ((d / 2) &&& 85) := by
    rw [own_nand, own_nsh v 1 1 (by decide), e, m1]
    have q : own_4 a b c d / 2 ^ 1 = own_4 (a / 2 + 128 * (b % 2)) (b / 2 + 128 * (c % 2)) (c / 2 + 128 * (d % 2)) (d / 2) := by
      unfold own_4
      omega
    rw [q, own_4and _ _ _ _ _ _ _ _ (by omega) (by omega) (by omega) (by omega) (by omega) (by omega), (own_s1 ⟨a, ha⟩ ⟨b % 2, by omega⟩).1, (own_s1 ⟨b, hb⟩ ⟨c % 2, by omega⟩).1, (own_s1 ⟨c, hc⟩ ⟨d % 2, by omega⟩).1]
  have a1 := (own_s1 ⟨a, ha⟩ 0).2
  have b1 := (own_s1 ⟨b, hb⟩ 0).2
  have c1 := (own_s1 ⟨c, hc⟩ 0).2
  have d1 := (own_s1 ⟨d, hd⟩ 0).2
  simp only at a1 b1 c1 d1
  have X : (v - ((XT.ushr v 1) &&& (1431655765 : Int32))).toBitVec.toNat = own_4 (a - ((a / 2) &&& 85)) (b - ((b / 2) &&& 85)) (c - ((c / 2) &&& 85)) (d - ((d / 2) &&& 85)) := by
    rw [own_nsub, A, e]
    generalize (a / 2) &&& 85 = a' at *
    generalize (b / 2) &&& 85 = b' at *
    generalize (c / 2) &&& 85 = c' at *
    generalize (d / 2) &&& 85 = d' at *
    unfold own_4
    omega
  generalize v - ((XT.ushr v 1) &&& (1431655765 : Int32)) = x at X ⊢
  have xa : a - ((a / 2) &&& 85) < 256 := by omega
  have xb : b - ((b / 2) &&& 85) < 256 := by omega
  have xc : c - ((c / 2) &&& 85) < 256 := by omega
  have xd : d - ((d / 2) &&& 85) < 256 := by omega
  have ya : own_y a = ((a - ((a / 2) &&& 85)) &&& 51) + (((a - ((a / 2) &&& 85)) / 4) &&& 51) := rfl
  have yb : own_y b = ((b - ((b / 2) &&& 85)) &&& 51) + (((b - ((b / 2) &&& 85)) / 4) &&& 51) := rfl
  have yc : own_y c = ((c - ((c / 2) &&& 85)) &&& 51) + (((c - ((c / 2) &&& 85)) / 4) &&& 51) := rfl
  have yd : own_y d = ((d - ((d / 2) &&& 85)) &&& 51) + (((d - ((d / 2) &&& 85)) / 4) &&& 51) := rfl
  generalize a - ((a / 2) &&& 85) = x0 at *
  generalize b - ((b / 2) &&& 85) = x1 at *
  generalize c - ((c / 2) &&& 85) = x2 at *
  generalize d - ((d / 2) &&& 85) = x3 at *
  -- second stage
  have L : (x &&& (858993459 : Int32)).toBitVec.toNat = own_4 (x0 &&& 51) (x1 &&& 51) (x2 &&& 51) (x3 &&& 51) := by
    rw [own_nand, X, m2, own_4and _ _ _ _ _ _ _ _ xa xb xc (by omega) (by omega) (by omega)]
  have Hh : ((XT.ushr x 2) &&& (858993459 : Int32)).toBitVec.toNat = own_4 ((x0 / 4) &&& 51) ((x1 / 4) &&& 51) ((x2 / 4) &&& 51) ((x3 / 4) &&& 51) := by
    rw [own_nand, own_nsh x 2 2 (by decide), X, m2]
    have q : own_4 x0 x1 x2 x3 / 2 ^ 2 = own_4 (x0 / 4 + 64 * (x1 % 4)) (x1 / 4 + 64 * (x2 % 4)) (x2 / 4 + 64 * (x3 % 4)) (x3 / 4) := by
      unfold own_4
      omega
    rw [q, own_4and _ _ _ _ _ _ _ _ (by omega) (by omega) (by omega) (by omega) (by omega) (by omega), own_s2 ⟨x0, xa⟩ ⟨x1 % 4, by omega⟩, own_s2 ⟨x1, xb⟩ ⟨x2 % 4, by omega⟩, own_s2 ⟨x2, xc⟩ ⟨x3 % 4, by omega⟩]
  have sa := own_s3 ⟨a, ha⟩
  have sb := own_s3 ⟨b, hb⟩
  have sc := own_s3 ⟨c, hc⟩
  have sd := own_s3 ⟨d, hd⟩
  simp only at sa sb sc sd
  have Y : ((x &&& (858993459 : Int32)) + ((XT.ushr x 2) &&& (858993459 : Int32))).toBitVec.toNat = own_4 (own_y a) (own_y b) (own_y c) (own_y d) := by
    rw [own_nadd, L, Hh]
    generalize x0 &&& 51 = p0 at *
    generalize (x0 / 4) &&& 51 = q0 at *
    generalize x1 &&& 51 = p1 at *
    generalize (x1 / 4) &&& 51 = q1 at *
    generalize x2 &&& 51 = p2 at *
    generalize (x2 / 4) &&& 51 = q2 at *
    generalize x3 &&& 51 = p3 at *
    generalize (x3 / 4) &&& 51 = q3 at *
    unfold own_4
    omega
  generalize (x &&& (858993459 : Int32)) + ((XT.ushr x 2) &&& (858993459 : Int32)) = y at Y ⊢
  have ta := own_s4 ⟨a, ha⟩ ⟨own_y b % 16, by omega⟩ sb.1
  have tb := own_s4 ⟨b, hb⟩ ⟨own_y c % 16, by omega⟩ sc.1
  have tc := own_s4 ⟨c, hc⟩ ⟨own_y d % 16, by omega⟩ sd.1
  have td := own_s4 ⟨d, hd⟩ 0 (by decide)
  simp only at ta tb tc td
  clear ya yb yc yd L Hh X
  generalize own_y a = y0 at *
  generalize own_y b = y1 at *
  generalize own_y c = y2 at *
  generalize own_y d = y3 at *
  have Z : ((y + (XT.ushr y 4)) &&& (252645135 : Int32)).toBitVec.toNat = own_4 (y0 % 16 + y0 / 16) (y1 % 16 + y1 / 16) (y2 % 16 + y2 / 16) (y3 % 16 + y3 / 16) := by
    rw [own_nand, own_nadd, own_nsh y 4 4 (by decide), Y, m3]
    have q : (own_4 y0 y1 y2 y3 + own_4 y0 y1 y2 y3 / 2 ^ 4) % 4294967296 = own_4 (y0 + y0 / 16 + 16 * (y1 % 16)) (y1 + y1 / 16 + 16 * (y2 % 16)) (y2 + y2 / 16 + 16 * (y3 % 16)) (y3 + y3 / 16 + 16 * 0) := by
      unfold own_4
      omega
    rw [q, own_4and _ _ _ _ _ _ _ _ (by omega) (by omega) (by omega) (by omega) (by omega) (by omega), ta, tb, tc]
    rw [show y3 + y3 / 16 + 16 * 0 &&& 15 = y3 % 16 + y3 / 16 from td]
  generalize (y + (XT.ushr y 4)) &&& (252645135 : Int32) = z at Z ⊢
  rw [own_nsh _ 24 24 (by decide), own_nmul, Z, m4]
  have z0 : y0 % 16 + y0 / 16 ≤ 8 := by omega
  have z1 : y1 % 16 + y1 / 16 ≤ 8 := by omega
  have z2 : y2 % 16 + y2 / 16 ≤ 8 := by omega
  have z3 : y3 % 16 + y3 / 16 ≤ 8 := by omega
  clear Z Y ta tb tc td sa sb sc sd xa xb xc xd a1 b1 c1 d1 A m1 m2 m3 m4 e
  generalize y0 % 16 + y0 / 16 = w0 at *
  generalize y1 % 16 + y1 / 16 = w1 at *
  generalize y2 % 16 + y2 / 16 = w2 at *
  generalize y3 % 16 + y3 / 16 = w3 at *
  have e1 : own_4 w0 w1 w2 w3 * 16843009 = 4294967296 * ((w1 + w2 + w3) + 256 * (w2 + w3) + 65536 * w3) + (16777216 * (w0 + w1 + w2 + w3) + (65536 * (w0 + w1 + w2) + 256 * (w0 + w1) + w0)) := by
    unfold own_4
    omega
  rw [e1, Nat.mul_add_mod, Nat.mod_eq_of_lt (by omega)]
  omega
/-- how many of the first n bits are set -/
def own_cb (v : Int32) : Nat → Nat
  | 0 => 0
  | n + 1 => own_cb v n + (if v.toBitVec.getLsbD n then 1 else 0)
theorem own_cb8 : ∀ b : Fin 256, own_y b.val % 16 + own_y b.val / 16 = (if b.val.testBit 0 then 1 else 0) + (if b.val.testBit 1 then 1 else 0) + (if b.val.testBit 2 then 1 else 0) + (if b.val.testBit 3 then 1 else 0) + (if b.val.testBit 4 then 1 else 0) + (if b.val.testBit 5 then 1 else 0) + (if b.val.testBit 6 then 1 else 0) + (if b.val.testBit 7 then 1 else 0) := by decide +kernel
theorem own_pcn (v : Int32) : ∃ r, f_popcount v = some r ∧ r.toBitVec.toNat = own_cb v 32 := by
  have hv := own_n v
  have e : v.toBitVec.toNat = own_4 (v.toBitVec.toNat % 256) (v.toBitVec.toNat / 256 % 256) (v.toBitVec.toNat / 65536 % 256) (v.toBitVec.toNat / 16777216) := by
    unfold own_4
    omega
  obtain ⟨r, er, hr⟩ := own_swar v _ _ _ _ (Nat.mod_lt _ (by decide)) (Nat.mod_lt _ (by decide)) (Nat.mod_lt _ (by decide)) (by omega) e
  refine ⟨r, er, ?_⟩
  rw [hr]
  have h0 := own_cb8 ⟨v.toBitVec.toNat % 256, Nat.mod_lt _ (by decide)⟩
  have h1 := own_cb8 ⟨v.toBitVec.toNat / 256 % 256, Nat.mod_lt _ (by decide)⟩
  have h2 := own_cb8 ⟨v.toBitVec.toNat / 65536 % 256, Nat.mod_lt _ (by decide)⟩
  have h3 := own_cb8 ⟨v.toBitVec.toNat / 16777216, by omega⟩
  simp only at h0 h1 h2 h3
  rw [h0, h1, h2, h3]
  have t : ∀ n k : Nat, n < 8 → (v.toBitVec.toNat / 2 ^ k % 256).testBit n = v.toBitVec.getLsbD (k + n) := by
    intro n k hn
    rw [show 256 = 2 ^ 8 from rfl, Nat.testBit_mod_two_pow, Nat.testBit_div_two_pow, decide_eq_true hn, Bool.true_and, Nat.add_comm n k]
    rfl
  have t0 : ∀ n : Nat, n < 8 → (v.toBitVec.toNat % 256).testBit n = v.toBitVec.getLsbD n := by
    intro n hn
    have := t n 0 hn
    rw [Nat.pow_zero, Nat.div_one, Nat.zero_add] at this
    exact this
  have t1 : ∀ n : Nat, n < 8 → (v.toBitVec.toNat / 256 % 256).testBit n = v.toBitVec.getLsbD (8 + n) := fun n hn => t n 8 hn
  have t2 : ∀ n : Nat, n < 8 → (v.toBitVec.toNat / 65536 % 256).testBit n = v.toBitVec.getLsbD (16 + n) := fun n hn => t n 16 hn
  have t3 : ∀ n : Nat, n < 8 → (v.toBitVec.toNat / 16777216).testBit n = v.toBitVec.getLsbD (24 + n) := by
    intro n hn
    have := t n 24 hn
    rw [show v.toBitVec.toNat / 2 ^ 24 % 256 = v.toBitVec.toNat / 16777216 by omega] at this
    exact this
  simp only [t0 _ (show 0 < 8 by decide), t0 _ (show 1 < 8 by decide), t0 _ (show 2 < 8 by decide), t0 _ (show 3 < 8 by decide), t0 _ (show 4 < 8 by decide), t0 _ (show 5 < 8 by decide), t0 _ (show 6 < 8 by decide), t0 _ (show 7 < 8 by decide),
    t1 _ (show 0 < 8 by decide), t1 _ (show 1 < 8 by decide), t1 _ (show 2 < 8 by decide), t1 _ (show 3 < 8 by decide), t1 _ (show 4 < 8 by decide), t1 _ (show 5 < 8 by decide), t1 _ (show 6 < 8 by decide), t1 _ (show 7 < 8 by decide),
    t2 _ (show 0 < 8 by decide), t2 _ (show 1 < 8 by decide), t2 _ (show 2 < 8 by decide), t2 _ (show 3 < 8 by decide), t2 _ (show 4 < 8 by decide), t2 _ (show 5 < 8 by decide), t2 _ (show 6 < 8 by decide), t2 _ (show 7 < 8 by decide),
    t3 _ (show 0 < 8 by decide), t3 _ (show 1 < 8 by decide), t3 _ (show 2 < 8 by decide), t3 _ (show 3 < 8 by decide), t3 _ (show 4 < 8 by decide), t3 _ (show 5 < 8 by decide), t3 _ (show 6 < 8 by decide), t3 _ (show 7 < 8 by decide)]
  simp only [own_cb, Nat.reduceAdd]
  omega
/-! Distances as bit counts -/
theorem own_cb_b (v : Int32) (n : Nat) : own_cb v (n + 1) = own_cb v n + (if own_b v n then 1 else 0) := by rw [own_cb]; rfl
theorem own_cb_le (v : Int32) : ∀ n, own_cb v n ≤ n := by
  intro n
  induction n with
  | zero => exact Nat.le_refl 0
  | succ n ih => rw [own_cb_b]; split <;> omega
theorem own_pcb (v : Int32) : own_pc v = Int32.ofNat (own_cb v 32) := by
  obtain ⟨r, e, h⟩ := own_pcn v
  have l := own_cb_le v 32
  have q : own_pc v = r := by unfold own_pc; rw [e]; rfl
  rw [q]
  apply Int32.toBitVec_inj.mp
  apply BitVec.eq_of_toNat_eq
  rw [h]
  show own_cb v 32 = (BitVec.ofNat 32 (own_cb v 32)).toNat
  rw [BitVec.toNat_ofNat]
  omega
theorem own_bit1 (w : Int32) {n : Nat} (hn : n < 32) : XT.ushr w (Int32.ofNat n) &&& 1 = if own_b w n = true then 1 else 0 := by
  have h := own_b0 w hn
  by_cases g : own_b w n = true
  · rw [if_pos g]
    have r := iand_rng (XT.ushr w (Int32.ofNat n)) 1 (by decide)
    have e0 : (0 : Int32).toInt = 0 := rfl
    have e1 : (1 : Int32).toInt = 1 := rfl
    have nz : ¬ XT.ushr w (Int32.ofNat n) &&& 1 = 0 := fun z => by rw [h.mp z] at g; exact absurd g (by decide)
    rw [ieq] at nz ⊢
    omega
  · rw [if_neg g]
    exact h.mpr (by simpa using g)
theorem own_cb_fl (w : Int32) {k : Nat} (hk : k < 32) : ∀ n, n ≤ 32 → own_cb (own_fl w k) n ≤ own_cb w n + (if k < n then 1 else 0) := by
  intro n
  induction n with
  | zero => intro _; exact Nat.le_add_right _ _
  | succ n ih =>
    intro hn
    have i := ih (by omega)
    have fb : own_b (own_fl w k) n = (own_b w n ^^ decide (n = k)) := own_flip_bit w hk (by omega)
    rw [own_cb_b, own_cb_b, fb]
    by_cases e : n = k
    · subst e
      rw [if_neg (show ¬ n < n by omega)] at i
      rw [if_pos (show n < n + 1 by omega)]
      split <;> split <;> omega
    · rw [decide_eq_false e, Bool.xor_false]
      have : (if k < n + 1 then 1 else 0) = (if k < n then 1 else (0 : Nat)) := by
        by_cases g : k < n
        · rw [if_pos g, if_pos (by omega)]
        · rw [if_neg g, if_neg (by omega)]
      rw [this]
      omega
def own_mix (w c : Int32) : Nat → Int32
  | 0 => c
  | n + 1 => if own_b w n = own_b c n then own_mix w c n else own_fl (own_mix w c n) n
theorem own_mix_b (w c : Int32) : ∀ j, j ≤ 32 → ∀ n, n < 32 → own_b (own_mix w c j) n = if n < j then own_b w n else own_b c n := by
  intro j
  induction j with
  | zero => intro _ n _; rw [own_mix, if_neg (by omega)]
  | succ j ih =>
    intro hj n hn
    have i := ih (by omega) n hn
    rw [own_mix]
    by_cases e : own_b w j = own_b c j
    · rw [if_pos e, i]
      by_cases g : n < j
      · rw [if_pos g, if_pos (by omega)]
      · by_cases g2 : n = j
        · subst g2
          rw [if_neg g, if_pos (by omega), e]
        · rw [if_neg g, if_neg (by omega)]
    · rw [if_neg e]
      have fb : own_b (own_fl (own_mix w c j) j) n = (own_b (own_mix w c j) n ^^ decide (n = j)) := own_flip_bit _ (by omega) hn
      rw [fb, i]
      by_cases g : n < j
      · rw [if_pos g, if_pos (by omega), decide_eq_false (by omega), Bool.xor_false]
      · by_cases g2 : n = j
        · subst g2
          rw [if_neg g, if_pos (by omega), decide_eq_true rfl, Bool.xor_true]
          revert e
          cases own_b w n <;> cases own_b c n <;> simp
        · rw [if_neg g, if_neg (by omega), decide_eq_false g2, Bool.xor_false]
theorem own_sgb (a b : Int32) {n : Nat} (hn : n < 32) (h : own_b a n = own_b b n) : own_sg a (Int32.ofNat n) = own_sg b (Int32.ofNat n) := by
  rw [own_sg_bit _ hn, own_sg_bit _ hn]
  unfold own_b at h
  rw [h]
theorem own_gx {mm : Int32} (m0 : 0 ≤ mm.toInt) (m1 : mm.toInt < 64) (w : Int32) : ∀ j, j ≤ 32 → gI (own_tr (own_mix w (own_enc mm 6) j)) (XT.ushr mm 1 &&& 31) = (32 - 2 * Int32.ofNat (own_cb (w ^^^ own_enc mm 6) j)) * (if mm &&& 1 = 0 then (1 : Int32) else -1) := by
  have r := iand_rng (XT.ushr mm 1) 31 (by decide)
  have e31 : (31 : Int32).toInt = 31 := rfl
  have hi : own_i32 (XT.ushr mm 1 &&& 31) := ⟨r.1, by omega⟩
  have c := own_cw ⟨mm.toInt.toNat, by omega⟩
  have s := fun k (hk : k < 32) => own_cws ⟨mm.toInt.toNat, by omega⟩ ⟨k, hk⟩
  simp only [own_of m0] at c s
  intro j
  induction j with
  | zero =>
    intro _
    rw [own_mix, c, own_cb]
    by_cases g : mm &&& 1 = 0
    · rw [if_pos g, if_pos g]; decide
    · rw [if_neg g, if_neg g]; decide
  | succ j ih =>
    intro hj
    have i := ih (by omega)
    have bx := own_b_xor w (own_enc mm 6) j
    rw [own_mix, own_cb_b, bx]
    by_cases e : own_b w j = own_b (own_enc mm 6) j
    · rw [if_pos e, e, Bool.xor_self, if_neg (by decide), Nat.add_zero]
      exact i
    · rw [if_neg e]
      have x1 : (own_b w j ^^ own_b (own_enc mm 6) j) = true := by
        revert e
        cases own_b w j <;> cases own_b (own_enc mm 6) j <;> simp
      have sj := s j (by omega)
      have mb := own_mix_b w (own_enc mm 6) j (by omega) j (by omega)
      rw [if_neg (by omega)] at mb
      have sg := own_sgb _ _ (by omega) mb
      rw [x1, if_pos rfl, own_x_fl _ (by omega) hi, i, sg]
      have on : Int32.ofNat (own_cb (w ^^^ own_enc mm 6) j + 1) = Int32.ofNat (own_cb (w ^^^ own_enc mm 6) j) + 1 := by
        have l := own_cb_le (w ^^^ own_enc mm 6) j
        have e1 : (1 : Int32).toInt = 1 := rfl
        have q : (Int32.ofNat (own_cb (w ^^^ own_enc mm 6) j)).toInt = own_cb (w ^^^ own_enc mm 6) j := Int32.toInt_ofNat_of_lt (by omega)
        rw [ieq, Int32.toInt_ofNat_of_lt (by omega), iadd_i (by omega) (by omega), q, e1]
        omega
      rw [on]
      generalize Int32.ofNat (own_cb (w ^^^ own_enc mm 6) j) = k at *
      generalize own_sg (own_enc mm 6) (Int32.ofNat j) = a at *
      generalize own_chi (XT.ushr mm 1 &&& 31).toInt.toNat j = x at *
      by_cases g : mm &&& 1 = 0
      · rw [if_pos g] at sj ⊢; grind
      · rw [if_neg g] at sj ⊢; grind
theorem own_dist {mm : Int32} (m0 : 0 ≤ mm.toInt) (m1 : mm.toInt < 64) (w : Int32) : own_ds (own_tr w) mm = Int32.ofNat (own_cb (w ^^^ own_enc mm 6) 32) := by
  have g := own_gx m0 m1 w 32 (by omega)
  have mx : own_mix w (own_enc mm 6) 32 = w := by
    apply own_bx
    intro n hn
    rw [own_mix_b w _ 32 (by omega) n hn, if_pos hn]
  rw [mx] at g
  have l := own_cb_le (w ^^^ own_enc mm 6) 32
  have q : (Int32.ofNat (own_cb (w ^^^ own_enc mm 6) 32)).toInt = own_cb (w ^^^ own_enc mm 6) 32 := Int32.toInt_ofNat_of_lt (by omega)
  generalize Int32.ofNat (own_cb (w ^^^ own_enc mm 6) 32) = k at *
  have e32 : (32 : Int32).toInt = 32 := rfl
  have e2 : (2 : Int32).toInt = 2 := rfl
  have k2 : (2 * k).toInt = 2 * k.toInt := by rw [imul_i (by rw [e2]; omega) (by rw [e2]; omega), e2]
  have d : (32 - 2 * k).toInt = 32 - 2 * k.toInt := by rw [isub_i (by omega) (by omega), e32, k2]
  rw [ieq, own_ds_v (own_tr_bd w) mm, g]
  by_cases h : mm &&& 1 = 0
  · rw [if_pos h, if_pos h, Int32.mul_one, d]
    omega
  · have em : (-1 : Int32).toInt = -1 := rfl
    have n : ((32 - 2 * k) * (-1)).toInt = -(32 - 2 * k.toInt) := by rw [imul_i (by rw [d, em]; omega) (by rw [d, em]; omega), d, em]; omega
    rw [if_neg h, if_neg h, n]
    omega
/-- rule 1 on a word near a codeword -/
theorem own_dec1g {mm : Int32} (m0 : 0 ≤ mm.toInt) (m1 : mm.toInt < 64) {w : Int32} (hw : own_cb (w ^^^ own_enc mm 6) 32 ≤ 7) (W : List Int32) (ld lt : Int32) (hW : W.length = 32) :
    f_applyRule1 W ld lt w = some (mm, own_tr w, Int32.ofNat (own_cb (w ^^^ own_enc mm 6) 32), 1) := by
  have dm := own_dist m0 m1 w
  have dt : (Int32.ofNat (own_cb (w ^^^ own_enc mm 6) 32)).toInt = own_cb (w ^^^ own_enc mm 6) 32 := Int32.toInt_ofNat_of_lt (by omega)
  obtain ⟨r, d, t', hb, h⟩ := own_near w
  obtain ⟨k1, k2, k3, k4, k5, k6, k7⟩ := hb
  have e64 : (64 : Int32).toInt = 64 := rfl
  have c := k4 mm m0 (by omega)
  rw [dm] at c
  have er : r = mm := by
    by_cases e : r = mm
    · exact e
    · exfalso
      have tw := own_two (own_tr_bd w) k1 (by omega) m0 m1 e
      rw [← k3, dm] at tw
      omega
  subst er
  have ed : d = Int32.ofNat (own_cb (w ^^^ own_enc r 6) 32) := by rw [k3, dm]
  have et : t' = 1 := k7 (by rw [ed]; omega)
  rw [h W ld lt hW, ed, et]
/-- few errors in every vote -/
def own_ok (e : Int32) : Prop := (∀ k, 6 ≤ k → k < 16 → own_few (own_D (own_pI k) (own_pJ k) e) = true) ∧ (∀ i, i < 5 → own_few (own_L i e) = true) ∧ own_few e = true
theorem own_few1 {x : Int32} (h : own_few x = true) : ¬ (16 : Int32) < own_pc x ∧ (16 : Int32) < own_pc (-1 ^^^ x) := by
  have := Bool.and_eq_true_iff.mp h
  exact ⟨of_decide_eq_true this.1, of_decide_eq_true this.2⟩
theorem own_few2 {x : Int32} (h : own_few x = true) (b : Bool) : (if (16 : Int32) < own_pc ((if b = true then (-1 : Int32) else 0) ^^^ x) then (1 : Int32) else 0) = if b = true then 1 else 0 := by
  have f := own_few1 h
  cases b
  · show (if (16 : Int32) < own_pc ((0 : Int32) ^^^ x) then (1 : Int32) else 0) = 0
    rw [Int32.zero_xor, if_neg f.1]
  · show (if (16 : Int32) < own_pc ((-1 : Int32) ^^^ x) then (1 : Int32) else 0) = 1
    rw [if_pos f.2]
theorem own_DM : ∀ k : Fin 10, ∀ j : Fin 16, own_D (own_pI (k.val + 6)) (own_pJ (k.val + 6)) (gI own_M (Int32.ofNat j.val)) = if j.val = k.val + 6 then -1 else 0 := by decide +kernel
theorem own_LM : ∀ i : Fin 5, ∀ j : Fin 6, own_L i.val (gI own_M (Int32.ofNat j.val)) = if j.val = i.val + 1 then -1 else 0 := by decide +kernel
theorem own_D0 : ∀ k : Fin 10, own_D (own_pI (k.val + 6)) (own_pJ (k.val + 6)) 0 = 0 := by decide +kernel
theorem own_L0 : ∀ i : Fin 5, own_L i.val 0 = 0 := by decide +kernel
theorem own_vote (m : Int32) {k : Nat} (h6 : 6 ≤ k) (h16 : k < 16) {e : Int32} (hE : own_ok e) : f_quadraticVote own_M (own_xr m 16 ^^^ e) (gI own_PI (Int32.ofNat k)) (gI own_PJ (Int32.ofNat k)) = some (if own_b m k = true then 1 else 0) := by
  obtain ⟨i5, j5, ei, ej⟩ := own_pr ⟨k, h16⟩
  simp only at i5 j5 ei ej
  have fd := hE.1 k h6 h16
  have dx : own_D (own_pI k) (own_pJ k) (own_xr m 16) = if own_b m k = true then -1 else 0 := by
    have d0 := own_D0 ⟨k - 6, by omega⟩
    have dm := fun j (hj : j < 16) => own_DM ⟨k - 6, by omega⟩ ⟨j, hj⟩
    simp only [show k - 6 + 6 = k by omega] at d0 dm
    rw [own_lin_xr (T := own_D (own_pI k) (own_pJ k)) (own_D_x i5 j5) d0 m k 16 dm]
    by_cases hb : own_b m k = true
    · rw [if_pos ⟨h16, hb⟩, if_pos hb]
    · rw [if_neg (fun q => hb q.2), if_neg hb]
  have two := own_few2 fd (own_b m k)
  rw [← dx, ← own_D_x i5 j5] at two
  unfold f_quadraticVote
  rw [ei, ej, own_swe' _ i5, Option.bind_some, own_swe' _ j5, Option.bind_some, own_swe' _ i5, Option.bind_some, own_pce, Option.bind_some]
  exact congrArg some two
theorem own_lin4b (m : Int32) {e : Int32} (hE : own_ok e) : ∀ (f i : Nat) (v2 : Int32), i ≤ 5 → 5 - i < f → (∀ n, n < 32 → own_b v2 n = (decide (n < i) && own_b m (n + 1))) → ∃ lin, f_linearPart_4 own_M f (own_xr m 6 ^^^ e) v2 (Int32.ofNat i) = some lin ∧ ∀ n, n < 32 → own_b lin n = (decide (n < 5) && own_b m (n + 1)) := by
  intro f
  induction f with
  | zero => intro i v2 h1 h2; omega
  | succ f ih =>
    intro i v2 h1 h2 h3
    have ei : (Int32.ofNat i).toInt = i := Int32.toInt_ofNat_of_lt (by omega)
    have e5 : (5 : Int32).toInt = 5 := rfl
    have ei1 : Int32.ofNat i + 1 = Int32.ofNat (i + 1) := by
      have e1 : (1 : Int32).toInt = 1 := rfl
      rw [ieq, iadd_i (by omega) (by omega), ei, Int32.toInt_ofNat_of_lt (by omega), e1]
      omega
    unfold f_linearPart_4
    by_cases c : i < 5
    · have fl := hE.2.1 i c
      have lx : own_L i (own_xr m 6) = if own_b m (i + 1) = true then -1 else 0 := by
        rw [own_lin_xr (T := own_L i) (own_L_x c) (own_L0 ⟨i, c⟩) m (i + 1) 6 (fun j hj => own_LM ⟨i, c⟩ ⟨j, hj⟩)]
        by_cases hb : own_b m (i + 1) = true
        · rw [if_pos ⟨by omega, hb⟩, if_pos hb]
        · rw [if_neg (fun q => hb q.2), if_neg hb]
      have f1 := own_few1 fl
      rw [if_pos (by rw [ilt]; omega), own_swe' _ c, Option.bind_some, own_pce, Option.bind_some, ei1]
      have ld : (own_xr m 6 ^^^ e) ^^^ own_sw i (own_xr m 6 ^^^ e) = own_L i (own_xr m 6) ^^^ own_L i (e) := by rw [← own_L_x c]; rfl
      rw [ld, lx]
      cases hb : own_b m (i + 1)
      · rw [if_neg (show ¬ false = true by decide), Int32.zero_xor, if_neg f1.1]
        refine ih (i + 1) v2 (by omega) (by omega) ?_
        intro n hn
        rw [h3 n hn]
        by_cases e : n = i
        · subst e
          simp [hb]
        · have : decide (n < i + 1) = decide (n < i) := by
            by_cases g : n < i
            · rw [decide_eq_true g, decide_eq_true (by omega)]
            · rw [decide_eq_false g, decide_eq_false (by omega)]
          rw [this]
      · rw [if_pos rfl, if_pos f1.2]
        refine ih (i + 1) _ (by omega) (by omega) ?_
        intro n hn
        rw [own_b_or, own_b1 (by omega) hn, h3 n hn]
        by_cases e : n = i
        · subst e
          simp [hb]
        · have : decide (n < i + 1) = decide (n < i) := by
            by_cases g : n < i
            · rw [decide_eq_true g, decide_eq_true (by omega)]
            · rw [decide_eq_false g, decide_eq_false (by omega)]
          rw [this, decide_eq_false e, Bool.or_false]
    · have : i = 5 := by omega
      subst this
      rw [if_neg (by rw [ilt]; omega)]
      exact ⟨v2, rfl, h3⟩
theorem own_sh1 (w : Int32) {n : Nat} (hn : n < 32) : own_b (w <<< ((1 : Int32) &&& 31)) n = (decide (1 ≤ n) && own_b w (n - 1)) := by
  have k : (((1 : Int32) &&& 31).toBitVec.smod 32).toNat = 1 := by decide
  unfold own_b
  rw [Int32.toBitVec_shiftLeft, BitVec.shiftLeft_eq', k, BitVec.getLsbD_shiftLeft]
  by_cases h : n < 1
  · have : ¬ 1 ≤ n := by omega
    simp [h]
    intro hh
    omega
  · have : 1 ≤ n := by omega
    simp [hn, h]
    intro hh
    omega
theorem own_x6 {m m1 : Int32} (h0 : own_b m1 0 = false) (h : ∀ n, 1 ≤ n → n < 6 → own_b m1 n = own_b m n) : ∀ n : Nat, n < 6 → own_xr m (n + 1) = (if own_b m 0 = true then -1 else 0) ^^^ own_xr m1 (n + 1) := by
  intro n
  induction n with
  | zero =>
    intro _
    rw [own_xr, own_xr, own_xr, own_xr, h0, if_neg (show ¬ false = true by decide), Int32.zero_xor, Int32.zero_xor, Int32.xor_zero]
    rfl
  | succ n ih =>
    intro hn
    rw [own_xr, ih (by omega)]
    conv => rhs; rw [own_xr]
    rw [h (n + 1) (by omega) (by omega), Int32.xor_assoc]
theorem own_rd60 (m : Int32) {e : Int32} (hE : own_ok e) (hm : ∀ n, 16 ≤ n → n < 32 → own_b m n = false) (v2 v3 : Int32) (h2 : ∀ n, n < 32 → own_b v2 n = (decide (6 ≤ n) && own_b m n)) (h3 : own_xr m 16 = own_xr m 6 ^^^ v3) :
    f_reedDecode_60 own_M own_PI own_PJ (own_xr m 16 ^^^ e) v2 v3 = some m := by
  have r : (own_xr m 16 ^^^ e) ^^^ v3 = own_xr m 6 ^^^ e := by
    rw [h3, show ((own_xr m 6 ^^^ v3) ^^^ e) ^^^ v3 = (own_xr m 6 ^^^ e) ^^^ (v3 ^^^ v3) by ac_rfl, Int32.xor_self, Int32.xor_zero]
  have z0 : ∀ n : Nat, n < 32 → own_b 0 n = (decide (n < 0) && own_b m (n + 1)) := by
    intro n hn
    have key : ∀ n : Nat, n < 32 → own_b 0 n = false := by decide +kernel
    rw [key n hn]
    simp
  obtain ⟨lin, el, hl⟩ := own_lin4b m hE 100000 0 0 (by omega) (by omega) z0
  have el' : f_linearPart own_M (own_xr m 6 ^^^ e) = some lin := el
  have hs : ∀ n, n < 32 → own_b (lin <<< ((1 : Int32) &&& 31)) n = (decide (1 ≤ n) && decide (n < 6) && own_b m n) := by
    intro n hn
    rw [own_sh1 lin hn]
    by_cases g : 1 ≤ n
    · rw [decide_eq_true g, Bool.true_and, Bool.true_and, hl (n - 1) (by omega), show n - 1 + 1 = n by omega]
      by_cases g6 : n < 6
      · rw [decide_eq_true g6, decide_eq_true (by omega)]
      · rw [decide_eq_false g6, decide_eq_false (by omega)]
    · rw [decide_eq_false g]
      simp
  unfold f_reedDecode_60
  rw [r, el', Option.bind_some]
  generalize lin <<< ((1 : Int32) &&& 31) = m1 at hs ⊢
  have en : f_encodeBits own_M m1 6 = some (own_xr m1 6) := by
    rw [own_encode m1 6]
    exact congrArg some (own_enc_x m1 (k := 6) (by omega))
  have x6 : own_xr m 6 = (if own_b m 0 = true then -1 else 0) ^^^ own_xr m1 6 := by
    refine own_x6 ?_ ?_ 5 (by omega)
    · rw [hs 0 (by omega)]; rfl
    · intro n a b
      rw [hs n (by omega), decide_eq_true a, decide_eq_true b]
      simp
  have pcx : (own_xr m 6 ^^^ e) ^^^ own_xr m1 6 = (if own_b m 0 = true then -1 else 0) ^^^ e := by
    rw [x6]
    generalize (if own_b m 0 = true then (-1 : Int32) else 0) = c
    rw [show ((c ^^^ own_xr m1 6) ^^^ e) ^^^ own_xr m1 6 = (c ^^^ e) ^^^ (own_xr m1 6 ^^^ own_xr m1 6) by ac_rfl, Int32.xor_self, Int32.xor_zero]
  have f1 := own_few1 hE.2.2
  rw [en, Option.bind_some, own_pce, Option.bind_some, pcx]
  have one : ∀ n : Nat, n < 32 → own_b 1 n = decide (n = 0) := by decide +kernel
  cases hb : own_b m 0
  · rw [if_neg (show ¬ false = true by decide), Int32.zero_xor, if_neg f1.1]
    refine congrArg some (own_bx fun n hn => ?_)
    rw [own_b_or, h2 n hn, hs n hn]
    by_cases a : 6 ≤ n
    · rw [decide_eq_true a, decide_eq_false (show ¬ n < 6 by omega)]
      simp
    · rw [decide_eq_false a, decide_eq_true (show n < 6 by omega)]
      by_cases b : 1 ≤ n
      · rw [decide_eq_true b]; simp
      · have : n = 0 := by omega
        subst this
        rw [hb]; simp
  · rw [if_pos rfl, if_pos f1.2]
    refine congrArg some (own_bx fun n hn => ?_)
    rw [own_b_or, own_b_or, h2 n hn, hs n hn, one n hn]
    by_cases a : 6 ≤ n
    · rw [decide_eq_true a, decide_eq_false (show ¬ n < 6 by omega), decide_eq_false (show ¬ n = 0 by omega)]
      simp
    · rw [decide_eq_false a, decide_eq_true (show n < 6 by omega)]
      by_cases b : 1 ≤ n
      · rw [decide_eq_true b, decide_eq_false (show ¬ n = 0 by omega)]; simp
      · have : n = 0 := by omega
        subst this
        rw [hb]; simp
theorem own_rd8b (m : Int32) {e : Int32} (hE : own_ok e) (hm : ∀ n, 16 ≤ n → n < 32 → own_b m n = false) : ∀ (f k : Nat) (v2 v3 : Int32), 6 ≤ k → k ≤ 16 → 16 - k < f → (∀ n, n < 32 → own_b v2 n = (decide (6 ≤ n) && decide (n < k) && own_b m n)) → own_xr m k = own_xr m 6 ^^^ v3 →
    f_reedDecode_8 (f_reedDecode_60 own_M own_PI own_PJ) own_M own_PI own_PJ f (own_xr m 16 ^^^ e) v2 v3 (Int32.ofNat k) = some m := by
  intro f
  induction f with
  | zero => intro k v2 v3 h1 h2 h3; omega
  | succ f ih =>
    intro k v2 v3 h6 h16 hf h2 h3
    have ek : (Int32.ofNat k).toInt = k := Int32.toInt_ofNat_of_lt (by omega)
    have e16 : (16 : Int32).toInt = 16 := rfl
    have ek1 : Int32.ofNat k + 1 = Int32.ofNat (k + 1) := by
      have e1 : (1 : Int32).toInt = 1 := rfl
      rw [ieq, iadd_i (by omega) (by omega), ek, Int32.toInt_ofNat_of_lt (by omega), e1]
      omega
    unfold f_reedDecode_8
    by_cases c : k < 16
    · rw [if_pos (by rw [ilt]; omega), rdg (by omega) (by rw [ek]; show (k : Int) < 16; omega), Option.bind_some, rdg (by omega) (by rw [ek]; show (k : Int) < 16; omega), Option.bind_some, own_vote m h6 c hE, Option.bind_some, ek1]
      have dk : ∀ n, ¬ n = k → decide (n < k + 1) = decide (n < k) := by
        intro n e
        by_cases g : n < k
        · rw [decide_eq_true g, decide_eq_true (by omega)]
        · rw [decide_eq_false g, decide_eq_false (by omega)]
      cases hb : own_b m k
      · rw [if_neg (show ¬ false = true by decide), if_pos rfl]
        refine ih (k + 1) v2 v3 (by omega) (by omega) (by omega) ?_ ?_
        · intro n hn
          rw [h2 n hn]
          by_cases e : n = k
          · subst e
            rw [hb, Bool.and_false, Bool.and_false]
          · rw [dk n e]
        · rw [own_xr, hb, if_neg (show ¬ false = true by decide), Int32.xor_zero, h3]
      · rw [if_pos rfl, if_neg (by decide), rdg (by omega) (by rw [ek]; show (k : Int) < 16; omega), Option.bind_some]
        refine ih (k + 1) _ _ (by omega) (by omega) (by omega) ?_ ?_
        · intro n hn
          rw [own_b_or, own_b1 (by omega) hn, h2 n hn]
          by_cases e : n = k
          · subst e
            rw [hb, decide_eq_true h6, decide_eq_true (show n < n + 1 by omega)]
            simp
          · rw [dk n e, decide_eq_false e, Bool.or_false]
        · rw [own_xr, hb, if_pos rfl, h3, Int32.xor_assoc]
    · have : k = 16 := by omega
      subst this
      rw [if_neg (by rw [ilt]; omega)]
      refine own_rd60 m hE hm v2 v3 ?_ h3
      intro n hn
      rw [h2 n hn]
      by_cases g : n < 16
      · rw [decide_eq_true g, Bool.and_true]
      · rw [hm n (by omega) hn, Bool.and_false, Bool.and_false]
theorem own_hi {m : Int32} (m0 : 0 ≤ m.toInt) (m1 : m.toInt < 65536) : ∀ n, 16 ≤ n → n < 32 → own_b m n = false := by
  intro n h1 h2
  have mm : m.toBitVec.msb = false := by rw [BitVec.msb_eq_toInt]; simpa using m0
  have e : m.toInt = (m.toBitVec.toNat : Int) := BitVec.toInt_eq_toNat_of_msb mm
  unfold own_b
  rw [BitVec.getLsbD]
  apply Nat.testBit_lt_two_pow
  have : 2 ^ 16 ≤ 2 ^ n := Nat.pow_le_pow_right (by omega) h1
  omega
/-- rule 2 gives the message back -/
theorem own_mg3 {m : Int32} (m0 : 0 ≤ m.toInt) (m1 : m.toInt < 65536) {e : Int32} (hE : own_ok e) : own_mg (own_xr m 16 ^^^ e) = m := by
  have hm := own_hi m0 m1
  have z : ∀ n : Nat, n < 32 → own_b 0 n = false := by decide +kernel
  have erd := own_rd8b m hE hm 100000 6 0 0 (by omega) (by omega) (by omega) (fun n hn => by
    rw [z n hn]
    by_cases g : 6 ≤ n
    · rw [decide_eq_false (show ¬ n < 6 by omega), Bool.and_false, Bool.false_and]
    · rw [decide_eq_false g, Bool.false_and, Bool.false_and]) (by rw [Int32.xor_zero])
  have d := (own_reedD (own_xr m 16 ^^^ e)).1
  have e' : f_reedDecode own_M own_PI own_PJ (own_xr m 16 ^^^ e) = some m := erd
  rw [e'] at d
  exact (Option.some.inj d).symm
theorem own_far3 {m : Int32} (m0 : 0 ≤ m.toInt) (m1 : m.toInt < 65536) {e : Int32} (hE : own_ok e) : own_far (own_xr m 16 ^^^ e) = own_pc e := by
  have e16 : own_enc m 16 = own_xr m 16 := own_enc_x m (k := 16) (by omega)
  unfold own_far
  rw [own_mg3 m0 m1 hE, e16, show own_xr m 16 ^^^ (own_xr m 16 ^^^ e) = (own_xr m 16 ^^^ own_xr m 16) ^^^ e by ac_rfl, Int32.xor_self, Int32.zero_xor]
  rfl
def own_e3 (p q t : Nat) : Int32 := (own_1 p ^^^ own_1 q) ^^^ own_1 t
def own_e2 (p q : Nat) : Int32 := own_1 p ^^^ own_1 q
theorem own_sym2 {m : Nat → Int32} {P : Int32 → Prop} {n : Nat} (h : ∀ x y : Fin n, x ≤ y → P (m x.val ^^^ m y.val)) {x y : Nat} (hx : x < n) (hy : y < n) : P (m x ^^^ m y) := by
  rcases Nat.le_total x y with h1 | h1
  · exact h ⟨x, hx⟩ ⟨y, hy⟩ h1
  · have := h ⟨y, hy⟩ ⟨x, hx⟩ h1
    rwa [Int32.xor_comm] at this
theorem own_dm_few2 : ∀ k : Fin 10, ∀ x y : Fin 8, x ≤ y → own_few ((own_dm (k.val + 6)).getD x.val 0 ^^^ (own_dm (k.val + 6)).getD y.val 0) = true := by decide +kernel
theorem own_lm_few2 : ∀ i : Fin 5, ∀ x y : Fin 16, x ≤ y → own_few ((own_lm i.val).getD x.val 0 ^^^ (own_lm i.val).getD y.val 0) = true := by decide +kernel
theorem own_e_few2 : ∀ x y : Fin 32, x ≤ y → own_few (own_1 x.val ^^^ own_1 y.val) = true := by decide +kernel
theorem own_ok3 {p q t : Nat} (hp : p < 32) (hq : q < 32) (ht : t < 32) : own_ok (own_e3 p q t) := by
  refine ⟨fun k h6 h16 => ?_, fun i hi => ?_, ?_⟩
  · obtain ⟨i5, j5, -, -⟩ := own_pr ⟨k, h16⟩
    obtain ⟨x, hx⟩ := own_dm_all ⟨k - 6, by omega⟩ ⟨p, hp⟩
    obtain ⟨y, hy⟩ := own_dm_all ⟨k - 6, by omega⟩ ⟨q, hq⟩
    obtain ⟨z, hz⟩ := own_dm_all ⟨k - 6, by omega⟩ ⟨t, ht⟩
    simp only [show k - 6 + 6 = k by omega] at hx hy hz
    unfold own_e3
    rw [own_D_x i5 j5, own_D_x i5 j5, hx, hy, hz]
    have f := own_dm_few ⟨k - 6, by omega⟩
    simp only [show k - 6 + 6 = k by omega] at f
    exact own_sym (m := fun x => (own_dm k).getD x 0) (P := fun v => own_few v = true) f x.isLt y.isLt z.isLt
  · obtain ⟨x, hx⟩ := own_lm_all ⟨i, hi⟩ ⟨p, hp⟩
    obtain ⟨y, hy⟩ := own_lm_all ⟨i, hi⟩ ⟨q, hq⟩
    obtain ⟨z, hz⟩ := own_lm_all ⟨i, hi⟩ ⟨t, ht⟩
    simp only at hx hy hz
    unfold own_e3
    rw [own_L_x hi, own_L_x hi, hx, hy, hz]
    exact own_sym (m := fun x => (own_lm i).getD x 0) (P := fun v => own_few v = true) (own_lm_few ⟨i, hi⟩) x.isLt y.isLt z.isLt
  · have f : ∀ x y z : Fin 32, x ≤ y → y ≤ z → own_few ((own_1 x.val ^^^ own_1 y.val) ^^^ own_1 z.val) = true := fun x y z a b => (Bool.and_eq_true_iff.mp (own_e_few x y z a b)).1
    exact own_sym (m := own_1) (P := fun v => own_few v = true) f hp hq ht
theorem own_ok2 {p q : Nat} (hp : p < 32) (hq : q < 32) : own_ok (own_e2 p q) := by
  refine ⟨fun k h6 h16 => ?_, fun i hi => ?_, ?_⟩
  · obtain ⟨i5, j5, -, -⟩ := own_pr ⟨k, h16⟩
    obtain ⟨x, hx⟩ := own_dm_all ⟨k - 6, by omega⟩ ⟨p, hp⟩
    obtain ⟨y, hy⟩ := own_dm_all ⟨k - 6, by omega⟩ ⟨q, hq⟩
    simp only [show k - 6 + 6 = k by omega] at hx hy
    unfold own_e2
    rw [own_D_x i5 j5, hx, hy]
    have f := own_dm_few2 ⟨k - 6, by omega⟩
    simp only [show k - 6 + 6 = k by omega] at f
    exact own_sym2 (m := fun x => (own_dm k).getD x 0) (P := fun v => own_few v = true) f x.isLt y.isLt
  · obtain ⟨x, hx⟩ := own_lm_all ⟨i, hi⟩ ⟨p, hp⟩
    obtain ⟨y, hy⟩ := own_lm_all ⟨i, hi⟩ ⟨q, hq⟩
    simp only at hx hy
    unfold own_e2
    rw [own_L_x hi, hx, hy]
    exact own_sym2 (m := fun x => (own_lm i).getD x 0) (P := fun v => own_few v = true) (own_lm_few2 ⟨i, hi⟩) x.isLt y.isLt
  · exact own_sym2 (m := own_1) (P := fun v => own_few v = true) own_e_few2 hp hq
/-- a word with bits set: one of them, and the word without it -/
theorem own_cb_ex (v : Int32) : ∀ n, n ≤ 32 → 1 ≤ own_cb v n → ∃ p, p < n ∧ own_b v p = true := by
  intro n
  induction n with
  | zero => intro _ h; rw [own_cb] at h; omega
  | succ n ih =>
    intro hn h
    rw [own_cb_b] at h
    by_cases g : own_b v n = true
    · exact ⟨n, by omega, g⟩
    · rw [if_neg g] at h
      obtain ⟨p, hp, hb⟩ := ih (by omega) (by omega)
      exact ⟨p, by omega, hb⟩
theorem own_cb_off (v : Int32) {p : Nat} (hp : p < 32) (hb : own_b v p = true) : ∀ n, n ≤ 32 → own_cb (own_fl v p) n + (if p < n then 1 else 0) = own_cb v n := by
  intro n
  induction n with
  | zero => intro _; rfl
  | succ n ih =>
    intro hn
    have i := ih (by omega)
    have fb : own_b (own_fl v p) n = (own_b v n ^^ decide (n = p)) := own_flip_bit v hp (by omega)
    rw [own_cb_b, own_cb_b, fb]
    by_cases e : n = p
    · subst e
      rw [if_neg (show ¬ n < n by omega)] at i
      rw [if_pos (show n < n + 1 by omega), hb, decide_eq_true rfl, Bool.xor_self, if_neg (show ¬ false = true by decide), if_pos rfl]
      omega
    · rw [decide_eq_false e, Bool.xor_false]
      have : (if p < n + 1 then 1 else 0) = (if p < n then 1 else (0 : Nat)) := by
        by_cases g : p < n
        · rw [if_pos g, if_pos (by omega)]
        · rw [if_neg g, if_neg (by omega)]
      rw [this]
      omega
theorem own_cb_0 {v : Int32} (h : own_cb v 32 = 0) : v = 0 := by
  have key : ∀ n, n ≤ 32 → own_cb v n = 0 → ∀ p, p < n → own_b v p = false := by
    intro n
    induction n with
    | zero => intro _ _ p hp; omega
    | succ n ih =>
      intro hn h0 p hp
      rw [own_cb_b] at h0
      by_cases g : own_b v n = true
      · rw [if_pos g] at h0; omega
      · by_cases e : p = n
        · subst e; simpa using g
        · exact ih (by omega) (by omega) p (by omega)
  apply own_bx
  intro n hn
  rw [key 32 (by omega) h n hn]
  have z : ∀ n : Nat, n < 32 → false = own_b 0 n := by decide +kernel
  exact z n hn
theorem own_take {v : Int32} {c : Nat} (h : own_cb v 32 = c + 1) : ∃ p, p < 32 ∧ ∃ w, own_cb w 32 = c ∧ v = w ^^^ own_1 p := by
  obtain ⟨p, hp, hb⟩ := own_cb_ex v 32 (by omega) (by omega)
  have o := own_cb_off v hp hb 32 (by omega)
  rw [if_pos hp] at o
  refine ⟨p, hp, own_fl v p, by omega, ?_⟩
  have q : own_fl v p = v ^^^ own_1 p := rfl
  rw [q, Int32.xor_assoc, Int32.xor_self, Int32.xor_zero]
theorem own_okc {e : Int32} (h : own_cb e 32 ≤ 3) : own_ok e := by
  have c : own_cb e 32 = 0 ∨ own_cb e 32 = 1 ∨ own_cb e 32 = 2 ∨ own_cb e 32 = 3 := by omega
  rcases c with c | c | c | c
  · rw [own_cb_0 c]
    have := own_ok2 (p := 0) (q := 0) (by omega) (by omega)
    unfold own_e2 at this
    rwa [Int32.xor_self] at this
  · obtain ⟨p, hp, w, hw, ev⟩ := own_take c
    rw [own_cb_0 hw, Int32.zero_xor] at ev
    have := own_ok3 (p := p) (q := 0) (t := 0) hp (by omega) (by omega)
    unfold own_e3 at this
    rwa [Int32.xor_assoc, Int32.xor_self, Int32.xor_zero, ← ev] at this
  · obtain ⟨p, hp, w, hw, ev⟩ := own_take c
    obtain ⟨q, hq, w', hw', ev'⟩ := own_take hw
    rw [own_cb_0 hw', Int32.zero_xor] at ev'
    rw [ev, ev']
    exact own_ok2 hq hp
  · obtain ⟨p, hp, w, hw, ev⟩ := own_take c
    obtain ⟨q, hq, w', hw', ev'⟩ := own_take hw
    obtain ⟨t, ht, w'', hw'', ev''⟩ := own_take hw'
    rw [own_cb_0 hw'', Int32.zero_xor] at ev''
    rw [ev, ev', ev'']
    exact own_ok3 ht hq hp
/-- rule 2 on a word near a codeword -/
theorem own_r2g {m w : Int32} (m0 : 0 ≤ m.toInt) (m1 : m.toInt < 65536) (h : own_cb (w ^^^ own_enc m 16) 32 ≤ 3) (ld lt fc : Int32) : f_applyRule2 own_M own_PI own_PJ ld lt fc w = some (m, Int32.ofNat (own_cb (w ^^^ own_enc m 16) 32), 1, fc) := by
  have e16 : own_enc m 16 = own_xr m 16 := own_enc_x m (k := 16) (by omega)
  have ok := own_okc h
  have ew : own_xr m 16 ^^^ (w ^^^ own_enc m 16) = w := by
    rw [e16, show own_xr m 16 ^^^ (w ^^^ own_xr m 16) = (own_xr m 16 ^^^ own_xr m 16) ^^^ w by ac_rfl, Int32.xor_self, Int32.zero_xor]
  have fr := own_far3 m0 m1 ok
  have mg := own_mg3 m0 m1 ok
  rw [ew] at fr mg
  rw [own_pcb] at fr
  have dt : (Int32.ofNat (own_cb (w ^^^ own_enc m 16) 32)).toInt = own_cb (w ^^^ own_enc m 16) 32 := Int32.toInt_ofNat_of_lt (by omega)
  have n3 : ¬ (3 : Int32) < own_far w := by
    rw [ilt, fr]
    have e3 : (3 : Int32).toInt = 3 := rfl
    omega
  rw [own_ar2, if_neg n3, if_neg n3, if_neg n3, if_neg n3, fr, mg]
theorem own_vsn {n v : Int32} (h0 : 0 ≤ v.toInt) (h1 : v.toInt < n.toInt) : f_validSlot n v = some 1 := by
  have e0 : (0 : Int32).toInt = 0 := rfl
  unfold f_validSlot
  rw [if_neg (by rw [ilt]; omega), if_pos (by rw [ilt]; omega)]
theorem own_pop (v : Int32) : f_L_pop v = some (Int32.ofNat (own_cb v 32)) := by
  have key : ∀ (f i : Nat) (v1 : Int32), i ≤ 32 → 32 - i < f → v1 = Int32.ofNat (own_cb v i) → f_L_pop_4 f v v1 (Int32.ofNat i) = some (Int32.ofNat (own_cb v 32)) := by
    intro f
    induction f with
    | zero => intro i v1 h1 h2; omega
    | succ f ih =>
      intro i v1 h1 h2 h3
      have ei : (Int32.ofNat i).toInt = i := Int32.toInt_ofNat_of_lt (by omega)
      have e32 : (32 : Int32).toInt = 32 := rfl
      have e1 : (1 : Int32).toInt = 1 := rfl
      have e0 : (0 : Int32).toInt = 0 := rfl
      have l := own_cb_le v i
      unfold f_L_pop_4
      by_cases c : i < 32
      · have ei1 : Int32.ofNat i + 1 = Int32.ofNat (i + 1) := by
          rw [ieq, iadd_i (by omega) (by omega), ei, Int32.toInt_ofNat_of_lt (by omega), e1]
          omega
        rw [if_pos (by rw [ilt]; omega), ei1, own_bit1 v c]
        refine ih (i + 1) _ (by omega) (by omega) ?_
        have q : (Int32.ofNat (own_cb v i)).toInt = own_cb v i := Int32.toInt_ofNat_of_lt (by omega)
        rw [own_cb_b, h3]
        by_cases g : own_b v i = true
        · rw [if_pos g, if_pos g, ieq, iadd_i (by omega) (by omega), q, Int32.toInt_ofNat_of_lt (by omega), e1]
          omega
        · rw [if_neg g, if_neg g, ieq, iadd_i (by omega) (by omega), q, Int32.toInt_ofNat_of_lt (by omega), e0]
          omega
      · have : i = 32 := by omega
        subst this
        rw [if_neg (by rw [ilt]; omega), h3]
  exact key 100000 0 0 (by omega) (by omega) rfl
theorem own_cell {scr : List Int32} (sl : scr.length ≤ 260) {k : Int32} (h0 : 0 ≤ k.toInt) : ∃ r, f_L_cell scr k = some r := by
  have hs := iscr sl
  unfold f_L_cell
  by_cases c : k < scr.length.toInt32
  · rw [if_pos c]
    rw [ilt, hs] at c
    rw [rdg h0 c, Option.bind_some]
    exact ⟨_, rfl⟩
  · rw [if_neg c]
    exact ⟨_, rfl⟩
theorem own_mod (x : Int32) {n : Int32} (h0 : 1 ≤ n.toInt) (h1 : n.toInt ≤ 1000) : ∃ r, f_L_mod x n = some r ∧ 0 ≤ r.toInt ∧ r.toInt < n.toInt := by
  have e0 : (0 : Int32).toInt = 0 := rfl
  have e : (x % n).toInt = x.toInt.tmod n.toInt := Int32.toInt_mod x n
  have b1 := Int.tmod_lt_of_pos x.toInt (show 0 < n.toInt by omega)
  have b2 : -n.toInt < x.toInt.tmod n.toInt := by
    have a := Int.tmod_lt_of_pos (-x.toInt) (show 0 < n.toInt by omega)
    rw [Int.neg_tmod] at a
    omega
  unfold f_L_mod
  rw [if_neg (by rw [ieq]; omega)]
  refine ⟨_, rfl, ?_⟩
  by_cases c : x % n < 0
  · rw [if_pos c]
    rw [ilt, e] at c
    rw [iadd_i (by omega) (by omega), e]
    omega
  · rw [if_neg c]
    rw [ilt, e] at c
    rw [e]
    omega
theorem own_len {W : List Int32} (hl : W.length = 32) (k : Nat) (x : Int32) : (W.set k x).length = 32 := by rw [List.length_set]; exact hl
theorem own_flipN {W : List Int32} (hl : W.length = 32) {n s v : Int32} (n1 : n.toInt ≤ 32) (s0 : 0 ≤ s.toInt) (s1 : s.toInt < n.toInt) (v0 : 0 ≤ v.toInt) (v1 : v.toInt ≤ 31) : Tot (f_flip n W s v) (fun r => r.2.length = 32) := by
  have e0 : (0 : Int32).toInt = 0 := rfl
  have e31 : (31 : Int32).toInt = 31 := rfl
  unfold f_flip
  rw [own_vsn s0 s1, Option.bind_some, if_neg (by decide), if_neg (by rw [ilt]; omega), if_neg (by rw [ilt]; omega), rdg (by omega) (by omega), Option.bind_some, wrA_in (by omega) (by omega), Option.bind_some]
  exact Tot.mk (own_len hl _ _)
theorem own_putN {W : List Int32} (hl : W.length = 32) {n s : Int32} (n1 : n.toInt ≤ 32) (s0 : 0 ≤ s.toInt) (s1 : s.toInt < n.toInt) (m : Int32) {o : Int32} (ho : o = 1 ∨ o = 2) : Tot (f_put own_M n W s m o) (fun r => r.2.length = 32) := by
  unfold f_put f_encode1 f_encode2
  rw [own_vsn s0 s1, Option.bind_some, if_neg (by decide)]
  have vo : f_validOrder o = some 1 := by rcases ho with h | h <;> rw [h] <;> decide
  rw [vo, Option.bind_some, if_neg (by decide), own_encode, own_encode, Option.bind_some, Option.bind_some, Option.bind_some, Option.bind_some, wrA_in s0 (by omega), wrA_in s0 (by omega), Option.bind_some, Option.bind_some]
  exact Tot.ite (fun _ => Tot.mk (own_len hl _ _)) (fun _ => Tot.mk (own_len hl _ _))
theorem own_loadN {W : List Int32} (hl : W.length = 32) {n s : Int32} (n1 : n.toInt ≤ 32) (s0 : 0 ≤ s.toInt) (s1 : s.toInt < n.toInt) (x : Int32) : Tot (f_load n W s x) (fun r => r.2.length = 32) := by
  unfold f_load
  rw [own_vsn s0 s1, Option.bind_some, if_neg (by decide), wrA_in s0 (by omega), Option.bind_some]
  exact Tot.mk (own_len hl _ _)
theorem own_d2N {W : List Int32} (hl : W.length = 32) {n s : Int32} (n1 : n.toInt ≤ 32) (s0 : 0 ≤ s.toInt) (s1 : s.toInt < n.toInt) (ld lt fc : Int32) : Tot (f_decode2 W own_M own_PI own_PJ n ld lt fc s) (fun _ => True) := by
  unfold f_decode2
  rw [own_vsn s0 s1, Option.bind_some, if_neg (by decide), rdg s0 (by omega), Option.bind_some, own_ar2, Option.bind_some]
  exact Tot.mk trivial
theorem own_coN {W wht : List Int32} (hl : W.length = 32) (hw : wht.length = 32) {n s : Int32} (n1 : n.toInt ≤ 32) (s0 : 0 ≤ s.toInt) (s1 : s.toInt < n.toInt) (ld lt fc : Int32) {o : Int32} (ho : o = 1 ∨ o = 2) : Tot (f_correct own_M own_PI own_PJ n W wht ld lt fc s o) (fun r => r.2.1.length = 32 ∧ r.2.2.1.length = 32) := by
  have vo : f_validOrder o = some 1 := by rcases ho with h | h <;> rw [h] <;> decide
  unfold f_correct
  rw [own_vsn s0 s1, Option.bind_some, if_neg (by decide), vo, Option.bind_some, if_neg (by decide)]
  refine Tot.ite (fun _ => ?_) (fun _ => ?_)
  · obtain ⟨r, d, t, q⟩ := own_ar1 (gI W s)
    have tl := (own_trans hw (gI W s)).2
    generalize own_tr (gI W s) = V at q tl
    rw [rdg s0 (by omega), Option.bind_some, q wht ld lt hw, Option.bind_some]
    show Tot (Option.bind (f_encodeBits own_M r 6) _) _
    rw [own_encode, Option.bind_some, wrA_in s0 (by omega), Option.bind_some]
    exact Tot.mk ⟨own_len hl _ _, tl⟩
  · rw [rdg s0 (by omega), Option.bind_some, own_ar2, Option.bind_some]
    generalize (if (3 : Int32) < own_far (gI W s) then (-2 : Int32) else own_mg (gI W s)) = rr
    refine Tot.ite (fun _ => Tot.mk ⟨hl, hw⟩) (fun _ => ?_)
    rw [own_encode, Option.bind_some, wrA_in s0 (by omega), Option.bind_some]
    exact Tot.mk ⟨own_len hl _ _, hw⟩
theorem own_m63 : ∀ m : Fin 64, Int32.ofNat m.val &&& 63 = Int32.ofNat m.val := by decide +kernel
theorem own_391 (scr : List Int32) {W : List Int32} (hl : W.length = 32) {n s : Int32} (n1 : n.toInt ≤ 32) (s0 : 0 ≤ s.toInt) (s1 : s.toInt < n.toInt) (v2 v3 m : Int32) (k26 : List Int32 → List Int32 → List Int32 → List Int32 → List Int32 → Int32 → Int32 → Int32 → Int32 → Int32 → Int32 → Option (Int32)) (wht : List Int32)
    (hk : ∀ ld lt fc, Tot (k26 W own_M own_PI own_PJ wht n ld lt fc v2 (v3 + 4)) (fun r => r = 1)) : ∀ (f : Nat) (ld lt fc v12 : Int32), 0 ≤ v12.toInt → v12.toInt ≤ 2 → 3 - v12.toInt ≤ f → Tot (f_L_law_391 k26 scr f W own_M own_PI own_PJ wht n ld lt fc v2 v3 s m (gI W s) v12) (fun r => r = 1) := by
  intro f
  have e1 : (1 : Int32).toInt = 1 := rfl
  have e2 : (2 : Int32).toInt = 2 := rfl
  have e3 : (3 : Int32).toInt = 3 := rfl
  have e65 : (65535 : Int32).toInt = 65535 := rfl
  induction f with
  | zero => intro ld lt fc v12 h0 h1 h2; omega
  | succ f ih =>
    intro ld lt fc v12 h0 h1 h2
    unfold f_L_law_391
    by_cases c : v12 < 2
    rotate_left
    · rw [if_neg c]; exact hk _ _ _
    rw [if_pos c]
    rw [ilt] at c
    have p12 : (v12 + 1).toInt = v12.toInt + 1 := by rw [iadd_i (by omega) (by omega), e1]
    have nx : ∀ ld lt fc, Tot (f_L_law_391 k26 scr f W own_M own_PI own_PJ wht n ld lt fc v2 v3 s m (gI W s) (v12 + 1)) (fun r => r = 1) := fun ld lt fc => ih ld lt fc (v12 + 1) (by omega) (by omega) (by omega)
    generalize (if v12 = (0 : Int32) then m else (m &&& (63 : Int32))) = t0
    unfold f_L_law_412 f_encode2 f_failures f_lastDistance f_lastTies
    rw [own_encode, Option.bind_some, Option.bind_some, own_pop, Option.bind_some]
    have rm := iand_rng t0 65535 (by decide)
    generalize t0 &&& 65535 = M at rm ⊢
    have l := own_cb_le (gI W s ^^^ own_enc M 16) 32
    have dt : (Int32.ofNat (own_cb (gI W s ^^^ own_enc M 16) 32)).toInt = own_cb (gI W s ^^^ own_enc M 16) 32 := Int32.toInt_ofNat_of_lt (by omega)
    refine Tot.ite (fun _ => nx _ _ _) (fun g => ?_)
    rw [ilt, dt] at g
    have r2 := fun ld lt fc => own_r2g (m := M) (w := gI W s) rm.1 (by omega) (by omega) ld lt fc
    have d2 : f_decode2 W own_M own_PI own_PJ n ld lt fc s = some (M, Int32.ofNat (own_cb (gI W s ^^^ own_enc M 16) 32), 1, fc) := by
      unfold f_decode2
      rw [own_vsn s0 s1, Option.bind_some, if_neg (by decide), rdg s0 (by omega), Option.bind_some, r2, Option.bind_some]
    rw [Option.bind_some, d2, Option.bind_some]
    show Tot (if M = M then _ else _) _
    rw [if_pos rfl, Option.bind_some, if_pos rfl, Option.bind_some, if_pos rfl, Option.bind_some, if_pos rfl]
    exact nx _ _ _
theorem own_265 (scr : List Int32) {W wht : List Int32} (hl : W.length = 32) (hw : wht.length = 32) {n s : Int32} (n1 : n.toInt ≤ 32) (s0 : 0 ≤ s.toInt) (s1 : s.toInt < n.toInt) (ld lt fc v2 v3 m : Int32) (k26 : List Int32 → List Int32 → List Int32 → List Int32 → List Int32 → Int32 → Int32 → Int32 → Int32 → Int32 → Int32 → Option (Int32))
    (hk : ∀ wht ld lt fc, wht.length = 32 → Tot (k26 W own_M own_PI own_PJ wht n ld lt fc v2 (v3 + 4)) (fun r => r = 1)) : Tot (f_L_law_265 k26 scr W own_M own_PI own_PJ wht n ld lt fc v2 v3 s m) (fun r => r = 1) := by
  have e0 : (0 : Int32).toInt = 0 := rfl
  have e7 : (7 : Int32).toInt = 7 := rfl
  have e16 : (16 : Int32).toInt = 16 := rfl
  have e63 : (63 : Int32).toInt = 63 := rfl
  have e64 : (64 : Int32).toInt = 64 := rfl
  have gw : f_getWord W n s = some (gI W s) := by
    unfold f_getWord
    rw [own_vsn s0 s1, Option.bind_some, if_neg (by decide), rdg s0 (by omega), Option.bind_some]
  obtain ⟨r, d, t, hb, q⟩ := own_near (gI W s)
  have b16 := own_best16 (own_tr_bd (gI W s)) hb
  obtain ⟨k1, k2, k3, -⟩ := hb
  have tl := (own_trans hw (gI W s)).2
  have k3' := k3
  rw [own_dist k1 (by omega)] at k3'
  have nr := fun V ld lt (hV : V.length = 32) (h : own_cb (gI W s ^^^ own_enc (m &&& 63) 6) 32 ≤ 7) => own_dec1g (mm := m &&& 63) (w := gI W s) (iand_rng m 63 (by decide)).1 (by have := (iand_rng m 63 (by decide)).2; omega) h V ld lt hV
  generalize own_tr (gI W s) = T at q tl nr
  have d1 : ∀ V ld lt, V.length = 32 → f_decode1 W n V ld lt s = some (r, T, d, t) := by
    intro V ld lt hV
    unfold f_decode1
    rw [own_vsn s0 s1, Option.bind_some, if_neg (by decide), rdg s0 (by omega), Option.bind_some, q V ld lt hV, Option.bind_some]
  have r63 := own_m63 ⟨r.toInt.toNat, by omega⟩
  simp only [own_of k1] at r63
  unfold f_L_law_265 f_lastDistance f_encode1
  rw [gw, Option.bind_some, d1 wht ld lt hw, Option.bind_some]
  show Tot (if r < 0 then _ else _) _
  rw [if_neg (by rw [ilt]; omega), if_neg (by rw [ilt]; omega), Option.bind_some, if_neg (by rw [ilt]; omega), if_neg (by rw [ilt]; omega), own_encode, Option.bind_some, Option.bind_some, own_pop, Option.bind_some, r63, if_pos k3', own_encode, Option.bind_some, Option.bind_some, own_pop, Option.bind_some]
  have l := own_cb_le (gI W s ^^^ own_enc (m &&& 63) 6) 32
  have dt : (Int32.ofNat (own_cb (gI W s ^^^ own_enc (m &&& 63) 6) 32)).toInt = own_cb (gI W s ^^^ own_enc (m &&& 63) 6) 32 := Int32.toInt_ofNat_of_lt (by omega)
  refine Tot.ite (fun _ => ?_) (fun g => ?_)
  · exact own_391 scr hl n1 s0 s1 v2 v3 m k26 T (fun ld lt fc => hk T ld lt fc tl) 100000 _ _ _ 0 (by decide) (by decide) (by decide)
  · rw [ilt, dt] at g
    have q2 := nr T d t tl (by omega)
    have d2 : f_decode1 W n T d t s = some (m &&& 63, T, Int32.ofNat (own_cb (gI W s ^^^ own_enc (m &&& 63) 6) 32), 1) := by
      unfold f_decode1
      rw [own_vsn s0 s1, Option.bind_some, if_neg (by decide), rdg s0 (by omega), Option.bind_some, q2, Option.bind_some]
    rw [d2, Option.bind_some]
    show Tot (if m &&& 63 = m &&& 63 then _ else _) _
    unfold f_lastTies
    rw [if_pos rfl, Option.bind_some, if_pos rfl, Option.bind_some, if_pos rfl]
    exact own_391 scr hl n1 s0 s1 v2 v3 m k26 T (fun ld lt fc => hk T ld lt fc tl) 100000 _ _ _ 0 (by decide) (by decide) (by decide)
theorem own_100 (scr : List Int32) {n s : Int32} (n1 : n.toInt ≤ 32) (s0 : 0 ≤ s.toInt) (s1 : s.toInt < n.toInt) (wht : List Int32) (ld lt fc v2 v3 m v7 v8 : Int32) (hv8 : v8.toInt ≤ 7) (k265 : List Int32 → List Int32 → List Int32 → List Int32 → List Int32 → Int32 → Int32 → Int32 → Int32 → Int32 → Int32 → Int32 → Int32 → Option (Int32))
    (hk : ∀ W : List Int32, W.length = 32 → Tot (k265 W own_M own_PI own_PJ wht n ld lt fc v2 v3 s m) (fun r => r = 1)) : ∀ (f : Nat) (W : List Int32) (v9 : Int32), W.length = 32 → 0 ≤ v9.toInt → v9.toInt ≤ 8 → 9 - v9.toInt ≤ f → Tot (f_L_law_100 k265 scr f W own_M own_PI own_PJ wht n ld lt fc v2 v3 s m v7 v8 v9) (fun r => r = 1) ∧ Tot (f_L_law_161 k265 scr f W own_M own_PI own_PJ wht n ld lt fc v2 v3 s m v7 v8 v9) (fun r => r = 1) := by
  intro f
  have e1 : (1 : Int32).toInt = 1 := rfl
  have e31 : (31 : Int32).toInt = 31 := rfl
  induction f with
  | zero => intro W v9 h0 h1 h2 h3; omega
  | succ f ih =>
    intro W v9 hl h1 h2 h3
    unfold f_L_law_100 f_L_law_161
    by_cases c : v9 < v8
    rotate_left
    · rw [if_neg c, if_neg c]; exact ⟨hk W hl, hk W hl⟩
    rw [if_pos c, if_pos c]
    rw [ilt] at c
    have p9 : (v9 + 1).toInt = v9.toInt + 1 := by rw [iadd_i (by omega) (by omega), e1]
    have r := iand_rng ((XT.ushr v7 3) + 11 * v9) 31 (by decide)
    constructor
    · refine Tot.bind (own_flipN hl n1 s0 s1 r.1 (by omega)) ?_
      rintro ⟨x, W'⟩ h
      exact (ih W' (v9 + 1) h (by omega) (by omega) (by omega)).1
    · refine Tot.bind (own_flipN hl n1 s0 s1 r.1 (by omega)) ?_
      rintro ⟨x, W'⟩ h
      exact (ih W' (v9 + 1) h (by omega) (by omega) (by omega)).2
theorem own_bitp (x : Int32) : (1 : Int32) + (x &&& 1) = 1 ∨ (1 : Int32) + (x &&& 1) = 2 := by
  have r := iand_rng x 1 (by decide)
  have e1 : (1 : Int32).toInt = 1 := rfl
  have e2 : (2 : Int32).toInt = 2 := rfl
  have q : ((1 : Int32) + (x &&& 1)).toInt = 1 + (x &&& 1).toInt := by rw [iadd_i (by omega) (by omega), e1]
  rw [ieq, ieq, q, e1, e2]
  omega
theorem own_26 (scr : List Int32) (sl : scr.length ≤ 260) {n : Int32} (n0 : 1 ≤ n.toInt) (n1 : n.toInt ≤ 32) : ∀ (f : Nat) (W wht : List Int32) (ld lt fc v3 : Int32), W.length = 32 → wht.length = 32 → 0 ≤ v3.toInt → v3.toInt ≤ 300 → 310 - v3.toInt ≤ f → Tot (f_L_law_26 scr f W own_M own_PI own_PJ wht n ld lt fc n v3) (fun r => r = 1) := by
  intro f
  have hs := iscr sl
  have e1 : (1 : Int32).toInt = 1 := rfl
  have e2 : (2 : Int32).toInt = 2 := rfl
  have e3 : (3 : Int32).toInt = 3 := rfl
  have e4 : (4 : Int32).toInt = 4 := rfl
  have e7 : (7 : Int32).toInt = 7 := rfl
  have e31 : (31 : Int32).toInt = 31 := rfl
  induction f with
  | zero => intro W wht ld lt fc v3 h1 h2 h3 h4 h5; omega
  | succ f ih =>
    intro W wht ld lt fc v3 hl hw h3 h4 h5
    unfold f_L_law_26
    by_cases c : v3 < scr.length.toInt32
    rotate_left
    · rw [if_neg c]; exact Tot.mk rfl
    rw [if_pos c]
    rw [ilt, hs] at c
    have q1 : (v3 + 1).toInt = v3.toInt + 1 := by rw [iadd_i (by omega) (by omega), e1]
    have q2 : (v3 + 2).toInt = v3.toInt + 2 := by rw [iadd_i (by omega) (by omega), e2]
    have q3 : (v3 + 3).toInt = v3.toInt + 3 := by rw [iadd_i (by omega) (by omega), e3]
    have q4 : (v3 + 4).toInt = v3.toInt + 4 := by rw [iadd_i (by omega) (by omega), e4]
    obtain ⟨x0, c0⟩ := own_cell sl (k := v3) h3
    obtain ⟨x1, c1⟩ := own_cell sl (k := v3 + 1) (by omega)
    obtain ⟨m, c2⟩ := own_cell sl (k := v3 + 2) (by omega)
    obtain ⟨x3, c3⟩ := own_cell sl (k := v3 + 3) (by omega)
    obtain ⟨op, o0, -, -⟩ := own_mod x0 (n := 6) (by decide) (by decide)
    obtain ⟨s, sm, s0, s1⟩ := own_mod x1 n0 (by omega)
    rw [c0, Option.bind_some, o0, Option.bind_some, c1, Option.bind_some, sm, Option.bind_some, c2, Option.bind_some, c3, Option.bind_some]
    have K : ∀ (wht : List Int32) (ld lt fc : Int32), wht.length = 32 → ∀ W : List Int32, W.length = 32 → Tot (f_L_law_265 (f_L_law_26 scr f) scr W own_M own_PI own_PJ wht n ld lt fc n v3 s m) (fun r => r = 1) := by
      intro wht ld lt fc hw W hl
      exact own_265 scr hl hw n1 s0 s1 ld lt fc n v3 m _ (fun wht ld lt fc hw => ih W wht ld lt fc (v3 + 4) hl hw (by omega) (by omega) (by omega))
    have r7 := iand_rng x3 7 (by decide)
    have r3 := iand_rng x3 3 (by decide)
    have r31 := iand_rng x3 31 (by decide)
    refine Tot.ite (fun _ => ?_) (fun _ => Tot.ite (fun _ => ?_) (fun _ => Tot.ite (fun _ => ?_) (fun _ => Tot.ite (fun _ => ?_) (fun _ => Tot.ite (fun _ => ?_) (fun _ => ?_)))))
    · refine Tot.bind (own_putN hl n1 s0 s1 m (Or.inl rfl)) ?_
      rintro ⟨x, W'⟩ h
      exact (own_100 scr n1 s0 s1 wht ld lt fc n v3 m x3 (x3 &&& 7) (by omega) _ (K wht ld lt fc hw) 100000 W' 0 h (by decide) (by decide) (by decide)).1
    · refine Tot.bind (own_putN hl n1 s0 s1 m (Or.inr rfl)) ?_
      rintro ⟨x, W'⟩ h
      exact (own_100 scr n1 s0 s1 wht ld lt fc n v3 m x3 (x3 &&& 3) (by omega) _ (K wht ld lt fc hw) 100000 W' 0 h (by decide) (by decide) (by decide)).2
    · refine Tot.bind (own_loadN hl n1 s0 s1 x3) ?_
      rintro ⟨x, W'⟩ h
      exact K _ _ _ _ hw _ h
    · refine Tot.bind (own_flipN hl n1 s0 s1 r31.1 (by omega)) ?_
      rintro ⟨x, W'⟩ h
      exact K _ _ _ _ hw _ h
    · refine Tot.bind (own_coN hl hw n1 s0 s1 ld lt fc (own_bitp x3)) ?_
      rintro ⟨x, W', V, a, b, c⟩ ⟨h, h'⟩
      exact K _ _ _ _ h' _ h
    · refine Tot.bind (own_d2N hl n1 s0 s1 ld lt fc) ?_
      rintro ⟨x, a, b, c⟩ _
      exact K _ _ _ _ hw _ hl
theorem own_true (scr : List Int32) (h : scr.length ≤ 260) : f_L_law scr = some 1 := by
  apply Tot.eq
  have e8 : (8 : Int32).toInt = 8 := rfl
  have e32 : (32 : Int32).toInt = 32 := rfl
  have e0 : (0 : Int32).toInt = 0 := rfl
  have lr : (List.replicate 32 (0 : Int32)).length = 32 := List.length_replicate
  obtain ⟨x, c0⟩ := own_cell h (k := 0) (by decide)
  unfold f_L_law f_init f_init_55 f_init_64 f_slotCount
  rw [c0, Option.bind_some, own_build, Option.bind_some]
  have hn : ∃ n : Int32, (if (32 : Int32) < (if x < (8 : Int32) then (8 : Int32) else x) then (32 : Int32) else (if x < (8 : Int32) then (8 : Int32) else x)) = n ∧ 8 ≤ n.toInt ∧ n.toInt ≤ 32 := by
    refine ⟨_, rfl, ?_⟩
    by_cases c : x < 8
    · rw [if_pos c, if_neg (by decide)]; decide
    · rw [if_neg c]
      by_cases g : 32 < x
      · rw [if_pos g]; decide
      · rw [if_neg g]
        rw [ilt] at c g
        omega
  obtain ⟨n, en, n0, n1⟩ := hn
  rw [en]
  show Tot (if (0 : Int32) < n then _ else _) _
  rw [if_pos (by rw [ilt]; omega)]
  exact own_26 scr h (by omega) n1 100000 _ _ _ _ _ 1 lr lr (by decide) (by decide) (by decide)
set_option maxRecDepth 65536 in
theorem comes_1 {Post : Tables → Env → Array Value → State → Outcome → State → Prop} (hpost : ∀ tb e args s v u, (limb_1_1.after args s (.returned v) u = true ∧ limb_1_2.after args s (.returned v) u = true ∧ True) → FrameEnd s (.returned v) u (Jvm.fieldLocs frame_1_writes args s ++ Jvm.arrayLocs frame_1_arrays args s ++ Jvm.staticLocs frame_1_statics s) 24 320 → Post tb e args s (.returned v) u) :
    ArmFor flags0 classFile x code maxLocals ret World_1 tables_1 room_1 Calls_1 rest_1 Pre_1 Post := by
  intro l hfl _ _ p e ha hc hk s m args below hf hA hF happ hP
  obtain ⟨hcalls, hrest, hpre⟩ := hP
  obtain ⟨-, -, -, hnamed, -, -, -, hat⟩ := (Spec.applies_iff hf).mp happ
  obtain ⟨hg, hn⟩ := and_e (Cond.before_iff.mp (show (Jvm.Cond.and given_1 narrow_1).before args s = true from hpre))
  obtain ⟨h1, h2⟩ := and_e hg
  have hw := fun d (hd : d ∈ tables_1) => atoms_spec (ws := Jvm.Cond.code x code maxLocals ret :: tables_1) hat d (List.mem_cons_of_mem _ hd)
  obtain ⟨w0, rfl⟩ : ∃ w0 : Value, args = #[w0] := by
    have hs : args.size = 1 := by simpa [Cond.value, given_1] using h1
    obtain ⟨L⟩ := args
    match L, hs with
    | [w0], _ => exact ⟨w0, rfl⟩
  have hfit : Fit s := fun {y c} hc i hi => by
    obtain ⟨ha, rfl⟩ := Array.getElem?_eq_some_iff.mp hc
    have q := List.all_eq_true.mp ((Array.all_eq_true_iff_forall_mem.mp hF) _ (Array.getElem_mem ha)) i (List.mem_range.mpr hi)
    simpa [Array.getElem?_eq_getElem hi] using q
  obtain ⟨hn1, hn2⟩ := and_e hn
  obtain ⟨ad, e0⟩ := arr_v hn1
  obtain ⟨cl, A⟩ := Arr.start e0 hn1
  obtain rfl : w0 = .ref ad := Option.some.inj e0
  obtain ⟨scr, hs1, hs2, hs3⟩ := script_of hfit A e0 hn2
  have E : OEndsQ own_P 0 0 (entL [.ref 0] d_0.maxL) [] [.inr (.inl (false, scr))] (LawQ 1 6 121) := ok_L_law (own_true scr hs2)
  have hS : SR [ad] [.ref 0] [.ref ad] := ⟨_, _, rfl, ⟨ad, rfl, rfl⟩, rfl⟩
  have hH : HR own_P s s.heap.size s.heap [ad] [.inr (.inl (false, scr))] := hr_script rfl A hs1 hs2 hs3
  have M := law_met (l := l) own_chk (fun w hw' => hw w (own_in w hw')) hm_0 E hS (Nat.le_of_ble_eq_true rfl) hH tables_1 room_1 (Nat.le_of_ble_eq_true rfl) (Nat.le_of_ble_eq_true rfl) (Nat.le_of_ble_eq_true rfl) (Nat.le_of_ble_eq_true rfl)
  obtain ⟨n, o, h1, h2, h3, L, rfl, N, hq⟩ := M p e ha hc hk s m _ below hf ((Spec.applies_iff_loose hf).mp happ).1 ⟨rfl, State.Warmed39.refl s, rfl⟩ trivial
  refine ⟨n, _, h1, h2, h3, hpost _ _ _ _ _ _ ⟨Cond.after_iff.mpr rfl, Cond.after_iff.mpr (eq_i res_at (Term.int_eval (1)) rfl), trivial⟩ ⟨hq.1, hq.2.1, (hq.2.2.sift fun y hy => Or.inr (N y hy)).mono (by decide) (by decide)⟩⟩
theorem main_1_1 : Claimed_1_1 := comes_1 fun _ _ _ _ _ _ h hF => ⟨h.1, hF⟩
theorem main_1_2 : Claimed_1_2 := comes_1 fun _ _ _ _ _ _ h hF => ⟨h.2.1, hF⟩
end Jvm.Pilot.@@N@@
namespace Jvm.Pilot.@@N@@
open Jvm Jvm.ClassFile Sem Op Lib Jvm.Free Jvm.Stand Jvm.Pilot.@@N@@.Jvm.D
/-! MADE BY PROGRAM (witnessworld.py) out of the Statement's table words and the real class files: 9 classes; the members and pool entries that the words name. The judged class is class 1, her method 4. -/
namespace start1
open Jvm.ClassFile
def u (s : String) : CpInfo := .utf8 (stringToUtf16 s)
/-- a pool by its gaps: so many unusable entries, then the entry; so many at the end -/
def gap : Nat → List CpInfo → List CpInfo
  | 0, r => r
  | n + 1, r => .unusable :: gap n r
def poolList (es : List (Nat × CpInfo)) (last : Nat) : List CpInfo := es.foldr (fun e r => gap e.1 (e.2 :: r)) (gap last [])
def pool (es : List (Nat × CpInfo)) (last : Nat) : Array CpInfo := ⟨poolList es last⟩
def fileOf (pool : Array CpInfo) (this : Nat) (attrs : Array Attribute := #[]) (ms : Array MethodInfo := #[]) (fl : Nat := 33) (sup : Nat := 0) (ifs : Array Nat := #[]) (fds : Array FieldInfo := #[]) : ClassFile where
  minorVersion := 0
  majorVersion := 65
  constantPool := pool
  accessFlags := fl
  thisClass := this
  superClass := sup
  interfaces := ifs
  fields := fds
  methods := ms
  attributes := attrs
def plain (name : String) (sup : Option ClassId) : Class where
  name := name
  kind := .ordinary
  loader := none
  accessFlags := 33
  super := sup
  interfaces := #[]
  cf := none
  fields := #[]
  methods := #[]
  instanceTypes := #[]
  staticTypes := #[]
  resolved := #[]
  callSites := []
  init := .initialized
  statics := none
  mirror := none

def pool0 : Array CpInfo := pool [(5, u "<init>"), (0, u "()V"), (1, .class_ 10), (1, u "java/lang/Object")] 113

def k0c0 : Code := { maxStack := 0, maxLocals := 1, code := object_method_1_code, exceptionTable := #[], attributes := #[] }
def k0m0 : Method := { name := "<init>", desc := "()V", sig := { parameters := [], returnType := none }, accessFlags := 1, code := some k0c0 }
/-- java/lang/Object -/
def k0 : Class := { plain "java/lang/Object" none with
  accessFlags := 33
  interfaces := #[]
  cf := some (fileOf pool0 8 #[] #[{ accessFlags := 1, nameIndex := 5, descriptorIndex := 6, attributes := #[] }] 33 0 #[] #[])
  fields := #[]
  methods := #[k0m0]
  instanceTypes := #[]
  staticTypes := #[]
  resolved := Array.replicate 124 none
  statics := none }

def pool1 : Array CpInfo := pool [(2, .class_ 4), (1, u "java/lang/Object"), (0, u "<init>"), (0, u "()V"), (0, .class_ 8), (0, u "ReedMullerDuo"), (0, .methodref 10 11), (0, .class_ 12), (0, .nameAndType 13 14), (0, u "ReedMullerDuoOwnLaw"), (0, u "cell"), (0, u "([II)I"), (0, .methodref 7 16), (0, .nameAndType 5 17), (0, u "(I)V"), (0, .methodref 7 19), (0, .nameAndType 20 21), (0, u "slotCount"), (0, u "()I"), (0, .methodref 10 23), (0, .nameAndType 24 25), (0, u "mod"), (0, u "(II)I"), (0, .methodref 7 27), (0, .nameAndType 28 29), (0, u "put"), (0, u "(III)Z"), (0, .methodref 7 31), (0, .nameAndType 32 33), (0, u "flip"), (0, u "(II)Z"), (0, .methodref 7 35), (0, .nameAndType 36 33), (0, u "load"), (0, .methodref 7 38), (0, .nameAndType 39 33), (0, u "correct"), (0, .methodref 7 41), (0, .nameAndType 42 43), (0, u "decode2"), (0, u "(I)I"), (0, .methodref 7 45), (0, .nameAndType 46 43), (0, u "getWord"), (0, .methodref 7 48), (0, .nameAndType 49 43), (0, u "decode1"), (0, .methodref 7 51), (0, .nameAndType 52 21), (0, u "lastDistance"), (0, .methodref 7 54), (0, .nameAndType 55 43), (0, u "encode1"), (0, .methodref 10 57), (0, .nameAndType 58 43), (0, u "pop"), (0, .methodref 7 60), (0, .nameAndType 61 21), (0, u "lastTies"), (0, .methodref 7 63), (0, .nameAndType 64 43), (0, u "encode2"), (0, .methodref 7 66), (0, .nameAndType 67 21), (0, u "failures"), (0, .integer 65535), (3, u "law"), (0, u "([I)Z")] 4

def k1m0 : Method := { name := "<init>", desc := "()V", sig := { parameters := [], returnType := none }, accessFlags := 1, code := none }
def k1c1 : Code := { maxStack := 2, maxLocals := 2, code := method_2_code, exceptionTable := #[], attributes := #[] }
def k1m1 : Method := { name := "cell", desc := "([II)I", sig := { parameters := [(.array .int), .int], returnType := some .int }, accessFlags := 10, code := some k1c1 }
def k1c2 : Code := { maxStack := 3, maxLocals := 3, code := method_3_code, exceptionTable := #[], attributes := #[] }
def k1m2 : Method := { name := "pop", desc := "(I)I", sig := { parameters := [.int], returnType := some .int }, accessFlags := 10, code := some k1c2 }
def k1c3 : Code := { maxStack := 2, maxLocals := 3, code := method_4_code, exceptionTable := #[], attributes := #[] }
def k1m3 : Method := { name := "mod", desc := "(II)I", sig := { parameters := [.int, .int], returnType := some .int }, accessFlags := 10, code := some k1c3 }
def k1c4 : Code := { maxStack := 5, maxLocals := 16, code := code, exceptionTable := #[], attributes := #[] }
def k1m4 : Method := { name := "law", desc := "([I)Z", sig := { parameters := [(.array .int)], returnType := some .boolean }, accessFlags := 9, code := some k1c4 }
/-- ReedMullerDuoOwnLaw -/
def k1 : Class := { plain "ReedMullerDuoOwnLaw" (some 0) with
  accessFlags := 49
  interfaces := #[]
  cf := some (fileOf pool1 10 #[] #[{ accessFlags := 1, nameIndex := 5, descriptorIndex := 6, attributes := #[] }, { accessFlags := 10, nameIndex := 13, descriptorIndex := 14, attributes := #[] }, { accessFlags := 10, nameIndex := 58, descriptorIndex := 43, attributes := #[] }, { accessFlags := 10, nameIndex := 24, descriptorIndex := 25, attributes := #[] }, { accessFlags := 9, nameIndex := 72, descriptorIndex := 73, attributes := #[] }] 49 2 #[] #[])
  fields := #[]
  methods := #[k1m0, k1m1, k1m2, k1m3, k1m4]
  instanceTypes := #[]
  staticTypes := #[]
  resolved := Array.replicate 78 none
  statics := none }

def pool2 : Array CpInfo := pool [(1, .methodref 2 3), (0, .class_ 4), (0, .nameAndType 5 6), (0, u "java/lang/Object"), (0, u "<init>"), (0, u "()V"), (0, .fieldref 8 9), (0, .class_ 10), (0, .nameAndType 11 12), (0, u "ReedMullerDuo"), (0, u "words"), (0, u "[I"), (0, .fieldref 8 14), (0, .nameAndType 15 12), (0, u "mono"), (0, .fieldref 8 17), (0, .nameAndType 18 12), (0, u "pairI"), (0, .fieldref 8 20), (0, .nameAndType 21 12), (0, u "pairJ"), (0, .fieldref 8 23), (0, .nameAndType 24 12), (0, u "wht"), (0, .fieldref 8 26), (0, .nameAndType 27 28), (0, u "n"), (0, u "I"), (0, .fieldref 8 30), (0, .nameAndType 31 28), (0, u "lastDist"), (0, .fieldref 8 33), (0, .nameAndType 34 28), (0, u "lastTie"), (0, .fieldref 8 36), (0, .nameAndType 37 28), (0, u "failCount"), (0, .methodref 8 39), (0, .nameAndType 40 6), (0, u "buildMonomials"), (0, .integer 2863311530), (0, .integer 3435973836), (0, .integer 4042322160), (0, .integer 4278255360), (0, .integer 4294901760), (0, .methodref 8 47), (0, .nameAndType 48 49), (0, u "encodeBits"), (0, u "(II)I"), (0, .integer 65535), (0, .methodref 8 52), (0, .nameAndType 53 54), (0, u "validSlot"), (0, u "(I)Z"), (0, .methodref 8 56), (0, .nameAndType 57 54), (0, u "validOrder"), (0, .methodref 8 59), (0, .nameAndType 60 61), (0, u "encode1"), (0, u "(I)I"), (0, .methodref 8 63), (0, .nameAndType 64 61), (0, u "encode2"), (0, .methodref 8 66), (0, .nameAndType 67 61), (0, u "popcount"), (0, .integer 1431655765), (0, .integer 858993459), (0, .integer 252645135), (0, .integer 16843009), (0, .methodref 8 73), (0, .nameAndType 74 61), (0, u "applyRule1"), (0, .methodref 8 76), (0, .nameAndType 77 61), (0, u "applyRule2"), (0, .methodref 8 79), (0, .nameAndType 80 81), (0, u "transform"), (0, u "(I)V"), (0, .methodref 8 83), (0, .nameAndType 84 61), (0, u "rule1Distance"), (0, .methodref 8 86), (0, .nameAndType 87 61), (0, u "reedDecode"), (0, .methodref 8 89), (0, .nameAndType 90 91), (0, u "quadraticVote"), (0, u "(III)Z"), (0, .methodref 8 93), (0, .nameAndType 94 61), (0, u "linearPart"), (0, .methodref 8 96), (0, .nameAndType 97 49), (0, u "swap"), (0, u "NO_SLOT"), (2, u "FAIL"), (1, u "MIN_SLOTS"), (1, u "MAX_SLOTS"), (1, u "LENGTH"), (0, u "RADIUS2"), (1, u "MONOS1"), (1, u "MONOS2"), (1, u "HALF"), (3, u "slotCount"), (0, u "()I"), (0, u "load"), (0, u "(II)Z"), (0, u "put"), (0, u "flip"), (0, u "getWord"), (1, u "decode1"), (0, u "decode2"), (0, u "correct"), (0, u "lastDistance"), (0, u "lastTies"), (0, u "failures")] 2

def k2c0 : Code := { maxStack := 2, maxLocals := 3, code := prog_1_method_1_code, exceptionTable := #[], attributes := #[] }
def k2m0 : Method := { name := "<init>", desc := "(I)V", sig := { parameters := [.int], returnType := none }, accessFlags := 1, code := some k2c0 }
def k2c1 : Code := { maxStack := 6, maxLocals := 4, code := prog_1_method_2_code, exceptionTable := #[], attributes := #[] }
def k2m1 : Method := { name := "buildMonomials", desc := "()V", sig := { parameters := [], returnType := none }, accessFlags := 2, code := some k2c1 }
def k2c2 : Code := { maxStack := 1, maxLocals := 1, code := prog_1_method_3_code, exceptionTable := #[], attributes := #[] }
def k2m2 : Method := { name := "slotCount", desc := "()I", sig := { parameters := [], returnType := some .int }, accessFlags := 1, code := some k2c2 }
def k2c3 : Code := { maxStack := 3, maxLocals := 2, code := prog_1_method_4_code, exceptionTable := #[], attributes := #[] }
def k2m3 : Method := { name := "encode1", desc := "(I)I", sig := { parameters := [.int], returnType := some .int }, accessFlags := 1, code := some k2c3 }
def k2c4 : Code := { maxStack := 3, maxLocals := 2, code := prog_1_method_5_code, exceptionTable := #[], attributes := #[] }
def k2m4 : Method := { name := "encode2", desc := "(I)I", sig := { parameters := [.int], returnType := some .int }, accessFlags := 1, code := some k2c4 }
def k2c5 : Code := { maxStack := 3, maxLocals := 6, code := prog_1_method_6_code, exceptionTable := #[], attributes := #[] }
def k2m5 : Method := { name := "encodeBits", desc := "(II)I", sig := { parameters := [.int, .int], returnType := some .int }, accessFlags := 2, code := some k2c5 }
def k2c6 : Code := { maxStack := 2, maxLocals := 2, code := prog_1_method_7_code, exceptionTable := #[], attributes := #[] }
def k2m6 : Method := { name := "validSlot", desc := "(I)Z", sig := { parameters := [.int], returnType := some .boolean }, accessFlags := 2, code := some k2c6 }
def k2c7 : Code := { maxStack := 2, maxLocals := 2, code := prog_1_method_8_code, exceptionTable := #[], attributes := #[] }
def k2m7 : Method := { name := "validOrder", desc := "(I)Z", sig := { parameters := [.int], returnType := some .boolean }, accessFlags := 2, code := some k2c7 }
def k2c8 : Code := { maxStack := 3, maxLocals := 3, code := prog_1_method_9_code, exceptionTable := #[], attributes := #[] }
def k2m8 : Method := { name := "load", desc := "(II)Z", sig := { parameters := [.int, .int], returnType := some .boolean }, accessFlags := 1, code := some k2c8 }
def k2c9 : Code := { maxStack := 4, maxLocals := 4, code := prog_1_method_10_code, exceptionTable := #[], attributes := #[] }
def k2m9 : Method := { name := "put", desc := "(III)Z", sig := { parameters := [.int, .int, .int], returnType := some .boolean }, accessFlags := 1, code := some k2c9 }
def k2c10 : Code := { maxStack := 5, maxLocals := 3, code := prog_1_method_11_code, exceptionTable := #[], attributes := #[] }
def k2m10 : Method := { name := "flip", desc := "(II)Z", sig := { parameters := [.int, .int], returnType := some .boolean }, accessFlags := 1, code := some k2c10 }
def k2c11 : Code := { maxStack := 2, maxLocals := 2, code := prog_1_method_12_code, exceptionTable := #[], attributes := #[] }
def k2m11 : Method := { name := "getWord", desc := "(I)I", sig := { parameters := [.int], returnType := some .int }, accessFlags := 1, code := some k2c11 }
def k2c12 : Code := { maxStack := 3, maxLocals := 3, code := prog_1_method_14_code, exceptionTable := #[], attributes := #[] }
def k2m12 : Method := { name := "popcount", desc := "(I)I", sig := { parameters := [.int], returnType := some .int }, accessFlags := 2, code := some k2c12 }
def k2c13 : Code := { maxStack := 3, maxLocals := 2, code := prog_1_method_15_code, exceptionTable := #[], attributes := #[] }
def k2m13 : Method := { name := "decode1", desc := "(I)I", sig := { parameters := [.int], returnType := some .int }, accessFlags := 1, code := some k2c13 }
def k2c14 : Code := { maxStack := 3, maxLocals := 2, code := prog_1_method_16_code, exceptionTable := #[], attributes := #[] }
def k2m14 : Method := { name := "decode2", desc := "(I)I", sig := { parameters := [.int], returnType := some .int }, accessFlags := 1, code := some k2c14 }
def k2c15 : Code := { maxStack := 5, maxLocals := 4, code := prog_1_method_17_code, exceptionTable := #[], attributes := #[] }
def k2m15 : Method := { name := "correct", desc := "(II)Z", sig := { parameters := [.int, .int], returnType := some .boolean }, accessFlags := 1, code := some k2c15 }
def k2c16 : Code := { maxStack := 1, maxLocals := 1, code := prog_1_method_18_code, exceptionTable := #[], attributes := #[] }
def k2m16 : Method := { name := "lastDistance", desc := "()I", sig := { parameters := [], returnType := some .int }, accessFlags := 1, code := some k2c16 }
def k2c17 : Code := { maxStack := 1, maxLocals := 1, code := prog_1_method_19_code, exceptionTable := #[], attributes := #[] }
def k2m17 : Method := { name := "lastTies", desc := "()I", sig := { parameters := [], returnType := some .int }, accessFlags := 1, code := some k2c17 }
def k2c18 : Code := { maxStack := 1, maxLocals := 1, code := prog_1_method_20_code, exceptionTable := #[], attributes := #[] }
def k2m18 : Method := { name := "failures", desc := "()I", sig := { parameters := [], returnType := some .int }, accessFlags := 1, code := some k2c18 }
def k2c19 : Code := { maxStack := 2, maxLocals := 7, code := prog_1_method_21_code, exceptionTable := #[], attributes := #[] }
def k2m19 : Method := { name := "applyRule1", desc := "(I)I", sig := { parameters := [.int], returnType := some .int }, accessFlags := 2, code := some k2c19 }
def k2c20 : Code := { maxStack := 2, maxLocals := 4, code := prog_1_method_22_code, exceptionTable := #[], attributes := #[] }
def k2m20 : Method := { name := "rule1Distance", desc := "(I)I", sig := { parameters := [.int], returnType := some .int }, accessFlags := 2, code := some k2c20 }
def k2c21 : Code := { maxStack := 4, maxLocals := 7, code := prog_1_method_23_code, exceptionTable := #[], attributes := #[] }
def k2m21 : Method := { name := "transform", desc := "(I)V", sig := { parameters := [.int], returnType := none }, accessFlags := 2, code := some k2c21 }
def k2c22 : Code := { maxStack := 3, maxLocals := 5, code := prog_1_method_24_code, exceptionTable := #[], attributes := #[] }
def k2m22 : Method := { name := "applyRule2", desc := "(I)I", sig := { parameters := [.int], returnType := some .int }, accessFlags := 2, code := some k2c22 }
def k2c23 : Code := { maxStack := 5, maxLocals := 7, code := prog_1_method_25_code, exceptionTable := #[], attributes := #[] }
def k2m23 : Method := { name := "reedDecode", desc := "(I)I", sig := { parameters := [.int], returnType := some .int }, accessFlags := 2, code := some k2c23 }
def k2c24 : Code := { maxStack := 3, maxLocals := 8, code := prog_1_method_26_code, exceptionTable := #[], attributes := #[] }
def k2m24 : Method := { name := "quadraticVote", desc := "(III)Z", sig := { parameters := [.int, .int, .int], returnType := some .boolean }, accessFlags := 2, code := some k2c24 }
def k2c25 : Code := { maxStack := 3, maxLocals := 5, code := prog_1_method_27_code, exceptionTable := #[], attributes := #[] }
def k2m25 : Method := { name := "linearPart", desc := "(I)I", sig := { parameters := [.int], returnType := some .int }, accessFlags := 2, code := some k2c25 }
def k2c26 : Code := { maxStack := 3, maxLocals := 5, code := prog_1_method_28_code, exceptionTable := #[], attributes := #[] }
def k2m26 : Method := { name := "swap", desc := "(II)I", sig := { parameters := [.int, .int], returnType := some .int }, accessFlags := 2, code := some k2c26 }
/-- ReedMullerDuo -/
def k2 : Class := { plain "ReedMullerDuo" (some 0) with
  accessFlags := 49
  interfaces := #[]
  cf := some (fileOf pool2 8 #[] #[{ accessFlags := 1, nameIndex := 5, descriptorIndex := 81, attributes := #[] }, { accessFlags := 2, nameIndex := 40, descriptorIndex := 6, attributes := #[] }, { accessFlags := 1, nameIndex := 118, descriptorIndex := 119, attributes := #[] }, { accessFlags := 1, nameIndex := 60, descriptorIndex := 61, attributes := #[] }, { accessFlags := 1, nameIndex := 64, descriptorIndex := 61, attributes := #[] }, { accessFlags := 2, nameIndex := 48, descriptorIndex := 49, attributes := #[] }, { accessFlags := 2, nameIndex := 53, descriptorIndex := 54, attributes := #[] }, { accessFlags := 2, nameIndex := 57, descriptorIndex := 54, attributes := #[] }, { accessFlags := 1, nameIndex := 120, descriptorIndex := 121, attributes := #[] }, { accessFlags := 1, nameIndex := 122, descriptorIndex := 91, attributes := #[] }, { accessFlags := 1, nameIndex := 123, descriptorIndex := 121, attributes := #[] }, { accessFlags := 1, nameIndex := 124, descriptorIndex := 61, attributes := #[] }, { accessFlags := 2, nameIndex := 67, descriptorIndex := 61, attributes := #[] }, { accessFlags := 1, nameIndex := 126, descriptorIndex := 61, attributes := #[] }, { accessFlags := 1, nameIndex := 127, descriptorIndex := 61, attributes := #[] }, { accessFlags := 1, nameIndex := 128, descriptorIndex := 121, attributes := #[] }, { accessFlags := 1, nameIndex := 129, descriptorIndex := 119, attributes := #[] }, { accessFlags := 1, nameIndex := 130, descriptorIndex := 119, attributes := #[] }, { accessFlags := 1, nameIndex := 131, descriptorIndex := 119, attributes := #[] }, { accessFlags := 2, nameIndex := 74, descriptorIndex := 61, attributes := #[] }, { accessFlags := 2, nameIndex := 84, descriptorIndex := 61, attributes := #[] }, { accessFlags := 2, nameIndex := 80, descriptorIndex := 81, attributes := #[] }, { accessFlags := 2, nameIndex := 77, descriptorIndex := 61, attributes := #[] }, { accessFlags := 2, nameIndex := 87, descriptorIndex := 61, attributes := #[] }, { accessFlags := 2, nameIndex := 90, descriptorIndex := 91, attributes := #[] }, { accessFlags := 2, nameIndex := 94, descriptorIndex := 61, attributes := #[] }, { accessFlags := 2, nameIndex := 97, descriptorIndex := 49, attributes := #[] }] 49 2 #[] #[{ accessFlags := 25, nameIndex := 98, descriptorIndex := 28, attributes := #[] }, { accessFlags := 25, nameIndex := 101, descriptorIndex := 28, attributes := #[] }, { accessFlags := 25, nameIndex := 103, descriptorIndex := 28, attributes := #[] }, { accessFlags := 25, nameIndex := 105, descriptorIndex := 28, attributes := #[] }, { accessFlags := 25, nameIndex := 107, descriptorIndex := 28, attributes := #[] }, { accessFlags := 25, nameIndex := 108, descriptorIndex := 28, attributes := #[] }, { accessFlags := 26, nameIndex := 110, descriptorIndex := 28, attributes := #[] }, { accessFlags := 26, nameIndex := 112, descriptorIndex := 28, attributes := #[] }, { accessFlags := 26, nameIndex := 114, descriptorIndex := 28, attributes := #[] }, { accessFlags := 2, nameIndex := 27, descriptorIndex := 28, attributes := #[] }, { accessFlags := 2, nameIndex := 31, descriptorIndex := 28, attributes := #[] }, { accessFlags := 2, nameIndex := 34, descriptorIndex := 28, attributes := #[] }, { accessFlags := 2, nameIndex := 37, descriptorIndex := 28, attributes := #[] }, { accessFlags := 2, nameIndex := 11, descriptorIndex := 12, attributes := #[] }, { accessFlags := 2, nameIndex := 15, descriptorIndex := 12, attributes := #[] }, { accessFlags := 2, nameIndex := 18, descriptorIndex := 12, attributes := #[] }, { accessFlags := 2, nameIndex := 21, descriptorIndex := 12, attributes := #[] }, { accessFlags := 2, nameIndex := 24, descriptorIndex := 12, attributes := #[] }])
  fields := #[{ name := "NO_SLOT", type := .int, accessFlags := 25, slot := 0, constantValue := 0 }, { name := "FAIL", type := .int, accessFlags := 25, slot := 1, constantValue := 0 }, { name := "MIN_SLOTS", type := .int, accessFlags := 25, slot := 2, constantValue := 0 }, { name := "MAX_SLOTS", type := .int, accessFlags := 25, slot := 3, constantValue := 0 }, { name := "LENGTH", type := .int, accessFlags := 25, slot := 4, constantValue := 0 }, { name := "RADIUS2", type := .int, accessFlags := 25, slot := 5, constantValue := 0 }, { name := "MONOS1", type := .int, accessFlags := 26, slot := 6, constantValue := 0 }, { name := "MONOS2", type := .int, accessFlags := 26, slot := 7, constantValue := 0 }, { name := "HALF", type := .int, accessFlags := 26, slot := 8, constantValue := 0 }, { name := "n", type := .int, accessFlags := 2, slot := 0, constantValue := 0 }, { name := "lastDist", type := .int, accessFlags := 2, slot := 1, constantValue := 0 }, { name := "lastTie", type := .int, accessFlags := 2, slot := 2, constantValue := 0 }, { name := "failCount", type := .int, accessFlags := 2, slot := 3, constantValue := 0 }, { name := "words", type := (.array .int), accessFlags := 2, slot := 4, constantValue := 0 }, { name := "mono", type := (.array .int), accessFlags := 2, slot := 5, constantValue := 0 }, { name := "pairI", type := (.array .int), accessFlags := 2, slot := 6, constantValue := 0 }, { name := "pairJ", type := (.array .int), accessFlags := 2, slot := 7, constantValue := 0 }, { name := "wht", type := (.array .int), accessFlags := 2, slot := 8, constantValue := 0 }]
  methods := #[k2m0, k2m1, k2m2, k2m3, k2m4, k2m5, k2m6, k2m7, k2m8, k2m9, k2m10, k2m11, k2m12, k2m13, k2m14, k2m15, k2m16, k2m17, k2m18, k2m19, k2m20, k2m21, k2m22, k2m23, k2m24, k2m25, k2m26]
  instanceTypes := #[.int, .int, .int, .int, (.array .int), (.array .int), (.array .int), (.array .int), (.array .int)]
  staticTypes := #[.int, .int, .int, .int, .int, .int, .int, .int, .int]
  resolved := Array.replicate 134 none
  statics := none }

def pool3 : Array CpInfo := pool [(1, u "java/lang/Cloneable"), (0, .class_ 1), (0, u "java/lang/Object"), (0, .class_ 3)] 3

/-- java/lang/Cloneable -/
def k3 : Class := { plain "java/lang/Cloneable" (some 0) with
  accessFlags := 1537
  interfaces := #[]
  cf := some (fileOf pool3 2 #[] #[] 1537 4 #[] #[])
  fields := #[]
  methods := #[]
  instanceTypes := #[]
  staticTypes := #[]
  resolved := Array.replicate 8 none
  statics := none }

def pool4 : Array CpInfo := pool [(1, u "java/io/Serializable"), (0, .class_ 1), (0, u "java/lang/Object"), (0, .class_ 3)] 3

/-- java/io/Serializable -/
def k4 : Class := { plain "java/io/Serializable" (some 0) with
  accessFlags := 1537
  interfaces := #[]
  cf := some (fileOf pool4 2 #[] #[] 1537 4 #[] #[])
  fields := #[]
  methods := #[]
  instanceTypes := #[]
  staticTypes := #[]
  resolved := Array.replicate 8 none
  statics := none }

/-- the primitive byte -/
def k5 : Class := { plain "byte" none with kind := .primitive 'B', accessFlags := 0x411 }
/-- [B -/
def k6 : Class := { plain "[B" (some 0) with kind := .array 5 .byte, interfaces := #[3, 4], accessFlags := 1041 }

/-- the primitive int -/
def k7 : Class := { plain "int" none with kind := .primitive 'I', accessFlags := 0x411 }
/-- [I -/
def k8 : Class := { plain "[I" (some 0) with kind := .array 7 .int, interfaces := #[3, 4], accessFlags := 1041 }

def heap : Heap := #[{ cls := 8, slots := #[.int 1, .int 2, .int 3], vm := .none }]
def classes : Array Class := #[k0, k1, k2, k3, k4, k5, k6, k7, k8]
def interned : List (Array UInt16 × Addr) := []
def slotsUsed : Nat := 3
def theMethod : MethodId := ⟨1, 4⟩
def args0 : Array Value := #[.ref 0]
def aboutOver (below : List Frame) : State where
  vm := { classes := classes, interned := interned.toArray }
  heap := heap
  slotsUsed := slotsUsed
  threads := #[{ frames := .invoking theMethod args0 :: below }]
def below0 : List Frame := [.native { method := ⟨0, 0⟩, args := #[] }]
def about1 : State := aboutOver below0
def p0 : Program := .bare "" "" ""
def e0 : Env := launch0.env 0 0 0
theorem w_frames : about1.frames = Frame.invoking theMethod args0 :: below0 := rfl
set_option maxRecDepth 65536 in
theorem w_args : argsFit about1.vm theMethod args0 = true := by decide +kernel
set_option maxRecDepth 65536 in
theorem w_heap : heapFits about1 = true := by decide +kernel
set_option maxRecDepth 65536 in
theorem w_runnable : about1.curStatus? = some .runnable := by decide +kernel
set_option maxRecDepth 65536 in
theorem w_alone : about1.alone = true := by decide +kernel
set_option maxRecDepth 65536 in
theorem w_named : about1.methodNamed? x = some theMethod := by decide +kernel
set_option maxRecDepth 65536 in
theorem w_hears : about1.hears theMethod below0 = true := by decide +kernel
set_option maxRecDepth 65536 in
theorem w_ripe : about1.ripe theMethod args0 below0 = true := by decide +kernel
theorem w_running : about1.status = .running := rfl
set_option maxRecDepth 65536 in
theorem w_room : about1.hasRoom e0.platform room_1 = true :=
  launch0.hasRoom_least _ room_1 (by decide +kernel) (by decide +kernel) (by decide +kernel) (by decide +kernel) (by decide +kernel) (by decide +kernel)
theorem allAtoms_all (ts : List Jvm.Cond) (a : Array Jvm.Value) (st : Jvm.State) : (allAtoms ts).before a st = ts.all (fun c => c.before a st) := by
  induction ts with
  | nil => rfl
  | cons c t ih =>
    show (Jvm.Cond.and c (allAtoms t)).before a st = _
    rw [Jvm.Cond.before_and, ih, List.all_cons]
def words1 : List Jvm.Cond := Jvm.Cond.code x code maxLocals ret :: tables_1
/-- a 'code' word, met by the world's own term for the bytes: nothing is compared byte by byte -/
theorem code_word {y : MethodName} {bytes : ByteArray} {mx : Nat} {rt : Option FieldType} {a : Array Value} {s : State} {m : MethodId} {meth : Method} {c : Code} (h1 : s.methodNamed? y = some m) (h2 : s.vm.method? m = some meth) (h3 : meth.code = some c) (h4 : c.code = bytes)
    (h5 : (c.maxLocals == mx && c.exceptionTable.isEmpty && decide (c.maxStack ≤ mostOperands) && decide (meth.sig.returnType = rt) && !meth.locks && decide (parseMethodDescriptor y.desc = some meth.sig)) = true) : (Jvm.Cond.code y bytes mx rt).before a s = true := by
  simp only [Bool.and_eq_true, beq_iff_eq, Bool.not_eq_true', decide_eq_true_eq] at h5
  obtain ⟨⟨⟨⟨⟨g1, g2⟩, g3⟩, g4⟩, g5⟩, g6⟩ := h5
  simp [Cond.before, Cond.holds, Cond.value, h1, h2, h3, h4, g1, g2, g3, g4, g5, g6]
def isCode : Jvm.Cond → Bool
  | .code _ _ _ _ => true
  | _ => false
theorem all_split {L : List Jvm.Cond} {P : Jvm.Cond → Bool} (h1 : L.all (fun c => isCode c || P c) = true) (h2 : ∀ c ∈ L.filter isCode, P c = true) : L.all P = true := by
  refine List.all_eq_true.mpr fun c hc => ?_
  have h := List.all_eq_true.mp h1 c hc
  rcases Bool.eq_false_or_eq_true (isCode c) with hi | hi
  · exact h2 c (List.mem_filter.mpr ⟨hc, hi⟩)
  · simpa [hi] using h
set_option maxRecDepth 65536 in
theorem w_c0 : (Jvm.Cond.code x code maxLocals ret).before args0 about1 = true := code_word (m := ⟨1, 4⟩) (meth := k1m4) (c := k1c4) (by decide +kernel) rfl rfl rfl (by decide +kernel)
set_option maxRecDepth 65536 in
theorem w_c1 : (Jvm.Cond.code ({ cls := "ReedMullerDuoOwnLaw", name := "cell", desc := "([II)I" } : Jvm.MethodName) method_2_code (2 : Nat) (Option.some Jvm.ClassFile.FieldType.int)).before args0 about1 = true := code_word (m := ⟨1, 1⟩) (meth := k1m1) (c := k1c1) (by decide +kernel) rfl rfl rfl (by decide +kernel)
set_option maxRecDepth 65536 in
theorem w_c2 : (Jvm.Cond.code ({ cls := "ReedMullerDuo", name := "<init>", desc := "(I)V" } : Jvm.MethodName) prog_1_method_1_code (3 : Nat) (Option.none : Option Jvm.ClassFile.FieldType)).before args0 about1 = true := code_word (m := ⟨2, 0⟩) (meth := k2m0) (c := k2c0) (by decide +kernel) rfl rfl rfl (by decide +kernel)
set_option maxRecDepth 65536 in
theorem w_c3 : (Jvm.Cond.code ({ cls := "java/lang/Object", name := "<init>", desc := "()V" } : Jvm.MethodName) object_method_1_code (1 : Nat) (Option.none : Option Jvm.ClassFile.FieldType)).before args0 about1 = true := code_word (m := ⟨0, 0⟩) (meth := k0m0) (c := k0c0) (by decide +kernel) rfl rfl rfl (by decide +kernel)
set_option maxRecDepth 65536 in
theorem w_c4 : (Jvm.Cond.code ({ cls := "ReedMullerDuo", name := "buildMonomials", desc := "()V" } : Jvm.MethodName) prog_1_method_2_code (4 : Nat) (Option.none : Option Jvm.ClassFile.FieldType)).before args0 about1 = true := code_word (m := ⟨2, 1⟩) (meth := k2m1) (c := k2c1) (by decide +kernel) rfl rfl rfl (by decide +kernel)
set_option maxRecDepth 65536 in
theorem w_c5 : (Jvm.Cond.code ({ cls := "ReedMullerDuo", name := "slotCount", desc := "()I" } : Jvm.MethodName) prog_1_method_3_code (1 : Nat) (Option.some Jvm.ClassFile.FieldType.int)).before args0 about1 = true := code_word (m := ⟨2, 2⟩) (meth := k2m2) (c := k2c2) (by decide +kernel) rfl rfl rfl (by decide +kernel)
set_option maxRecDepth 65536 in
theorem w_c6 : (Jvm.Cond.code ({ cls := "ReedMullerDuoOwnLaw", name := "mod", desc := "(II)I" } : Jvm.MethodName) method_4_code (3 : Nat) (Option.some Jvm.ClassFile.FieldType.int)).before args0 about1 = true := code_word (m := ⟨1, 3⟩) (meth := k1m3) (c := k1c3) (by decide +kernel) rfl rfl rfl (by decide +kernel)
set_option maxRecDepth 65536 in
theorem w_c7 : (Jvm.Cond.code ({ cls := "ReedMullerDuo", name := "load", desc := "(II)Z" } : Jvm.MethodName) prog_1_method_9_code (3 : Nat) (Option.some Jvm.ClassFile.FieldType.boolean)).before args0 about1 = true := code_word (m := ⟨2, 8⟩) (meth := k2m8) (c := k2c8) (by decide +kernel) rfl rfl rfl (by decide +kernel)
set_option maxRecDepth 65536 in
theorem w_c8 : (Jvm.Cond.code ({ cls := "ReedMullerDuo", name := "validSlot", desc := "(I)Z" } : Jvm.MethodName) prog_1_method_7_code (2 : Nat) (Option.some Jvm.ClassFile.FieldType.boolean)).before args0 about1 = true := code_word (m := ⟨2, 6⟩) (meth := k2m6) (c := k2c6) (by decide +kernel) rfl rfl rfl (by decide +kernel)
set_option maxRecDepth 65536 in
theorem w_c9 : (Jvm.Cond.code ({ cls := "ReedMullerDuo", name := "getWord", desc := "(I)I" } : Jvm.MethodName) prog_1_method_12_code (2 : Nat) (Option.some Jvm.ClassFile.FieldType.int)).before args0 about1 = true := code_word (m := ⟨2, 11⟩) (meth := k2m11) (c := k2c11) (by decide +kernel) rfl rfl rfl (by decide +kernel)
set_option maxRecDepth 65536 in
theorem w_c10 : (Jvm.Cond.code ({ cls := "ReedMullerDuo", name := "decode1", desc := "(I)I" } : Jvm.MethodName) prog_1_method_15_code (2 : Nat) (Option.some Jvm.ClassFile.FieldType.int)).before args0 about1 = true := code_word (m := ⟨2, 13⟩) (meth := k2m13) (c := k2c13) (by decide +kernel) rfl rfl rfl (by decide +kernel)
set_option maxRecDepth 65536 in
theorem w_c11 : (Jvm.Cond.code ({ cls := "ReedMullerDuo", name := "applyRule1", desc := "(I)I" } : Jvm.MethodName) prog_1_method_21_code (7 : Nat) (Option.some Jvm.ClassFile.FieldType.int)).before args0 about1 = true := code_word (m := ⟨2, 19⟩) (meth := k2m19) (c := k2c19) (by decide +kernel) rfl rfl rfl (by decide +kernel)
set_option maxRecDepth 65536 in
theorem w_c12 : (Jvm.Cond.code ({ cls := "ReedMullerDuo", name := "transform", desc := "(I)V" } : Jvm.MethodName) prog_1_method_23_code (7 : Nat) (Option.none : Option Jvm.ClassFile.FieldType)).before args0 about1 = true := code_word (m := ⟨2, 21⟩) (meth := k2m21) (c := k2c21) (by decide +kernel) rfl rfl rfl (by decide +kernel)
set_option maxRecDepth 65536 in
theorem w_c13 : (Jvm.Cond.code ({ cls := "ReedMullerDuo", name := "rule1Distance", desc := "(I)I" } : Jvm.MethodName) prog_1_method_22_code (4 : Nat) (Option.some Jvm.ClassFile.FieldType.int)).before args0 about1 = true := code_word (m := ⟨2, 20⟩) (meth := k2m20) (c := k2c20) (by decide +kernel) rfl rfl rfl (by decide +kernel)
set_option maxRecDepth 65536 in
theorem w_c14 : (Jvm.Cond.code ({ cls := "ReedMullerDuo", name := "lastDistance", desc := "()I" } : Jvm.MethodName) prog_1_method_18_code (1 : Nat) (Option.some Jvm.ClassFile.FieldType.int)).before args0 about1 = true := code_word (m := ⟨2, 16⟩) (meth := k2m16) (c := k2c16) (by decide +kernel) rfl rfl rfl (by decide +kernel)
set_option maxRecDepth 65536 in
theorem w_c15 : (Jvm.Cond.code ({ cls := "ReedMullerDuo", name := "encode1", desc := "(I)I" } : Jvm.MethodName) prog_1_method_4_code (2 : Nat) (Option.some Jvm.ClassFile.FieldType.int)).before args0 about1 = true := code_word (m := ⟨2, 3⟩) (meth := k2m3) (c := k2c3) (by decide +kernel) rfl rfl rfl (by decide +kernel)
set_option maxRecDepth 65536 in
theorem w_c16 : (Jvm.Cond.code ({ cls := "ReedMullerDuo", name := "encodeBits", desc := "(II)I" } : Jvm.MethodName) prog_1_method_6_code (6 : Nat) (Option.some Jvm.ClassFile.FieldType.int)).before args0 about1 = true := code_word (m := ⟨2, 5⟩) (meth := k2m5) (c := k2c5) (by decide +kernel) rfl rfl rfl (by decide +kernel)
set_option maxRecDepth 65536 in
theorem w_c17 : (Jvm.Cond.code ({ cls := "ReedMullerDuoOwnLaw", name := "pop", desc := "(I)I" } : Jvm.MethodName) method_3_code (3 : Nat) (Option.some Jvm.ClassFile.FieldType.int)).before args0 about1 = true := code_word (m := ⟨1, 2⟩) (meth := k1m2) (c := k1c2) (by decide +kernel) rfl rfl rfl (by decide +kernel)
set_option maxRecDepth 65536 in
theorem w_c18 : (Jvm.Cond.code ({ cls := "ReedMullerDuo", name := "lastTies", desc := "()I" } : Jvm.MethodName) prog_1_method_19_code (1 : Nat) (Option.some Jvm.ClassFile.FieldType.int)).before args0 about1 = true := code_word (m := ⟨2, 17⟩) (meth := k2m17) (c := k2c17) (by decide +kernel) rfl rfl rfl (by decide +kernel)
set_option maxRecDepth 65536 in
theorem w_c19 : (Jvm.Cond.code ({ cls := "ReedMullerDuo", name := "encode2", desc := "(I)I" } : Jvm.MethodName) prog_1_method_5_code (2 : Nat) (Option.some Jvm.ClassFile.FieldType.int)).before args0 about1 = true := code_word (m := ⟨2, 4⟩) (meth := k2m4) (c := k2c4) (by decide +kernel) rfl rfl rfl (by decide +kernel)
set_option maxRecDepth 65536 in
theorem w_c20 : (Jvm.Cond.code ({ cls := "ReedMullerDuo", name := "failures", desc := "()I" } : Jvm.MethodName) prog_1_method_20_code (1 : Nat) (Option.some Jvm.ClassFile.FieldType.int)).before args0 about1 = true := code_word (m := ⟨2, 18⟩) (meth := k2m18) (c := k2c18) (by decide +kernel) rfl rfl rfl (by decide +kernel)
set_option maxRecDepth 65536 in
theorem w_c21 : (Jvm.Cond.code ({ cls := "ReedMullerDuo", name := "decode2", desc := "(I)I" } : Jvm.MethodName) prog_1_method_16_code (2 : Nat) (Option.some Jvm.ClassFile.FieldType.int)).before args0 about1 = true := code_word (m := ⟨2, 14⟩) (meth := k2m14) (c := k2c14) (by decide +kernel) rfl rfl rfl (by decide +kernel)
set_option maxRecDepth 65536 in
theorem w_c22 : (Jvm.Cond.code ({ cls := "ReedMullerDuo", name := "applyRule2", desc := "(I)I" } : Jvm.MethodName) prog_1_method_24_code (5 : Nat) (Option.some Jvm.ClassFile.FieldType.int)).before args0 about1 = true := code_word (m := ⟨2, 22⟩) (meth := k2m22) (c := k2c22) (by decide +kernel) rfl rfl rfl (by decide +kernel)
set_option maxRecDepth 65536 in
theorem w_c23 : (Jvm.Cond.code ({ cls := "ReedMullerDuo", name := "reedDecode", desc := "(I)I" } : Jvm.MethodName) prog_1_method_25_code (7 : Nat) (Option.some Jvm.ClassFile.FieldType.int)).before args0 about1 = true := code_word (m := ⟨2, 23⟩) (meth := k2m23) (c := k2c23) (by decide +kernel) rfl rfl rfl (by decide +kernel)
set_option maxRecDepth 65536 in
theorem w_c24 : (Jvm.Cond.code ({ cls := "ReedMullerDuo", name := "quadraticVote", desc := "(III)Z" } : Jvm.MethodName) prog_1_method_26_code (8 : Nat) (Option.some Jvm.ClassFile.FieldType.boolean)).before args0 about1 = true := code_word (m := ⟨2, 24⟩) (meth := k2m24) (c := k2c24) (by decide +kernel) rfl rfl rfl (by decide +kernel)
set_option maxRecDepth 65536 in
theorem w_c25 : (Jvm.Cond.code ({ cls := "ReedMullerDuo", name := "swap", desc := "(II)I" } : Jvm.MethodName) prog_1_method_28_code (5 : Nat) (Option.some Jvm.ClassFile.FieldType.int)).before args0 about1 = true := code_word (m := ⟨2, 26⟩) (meth := k2m26) (c := k2c26) (by decide +kernel) rfl rfl rfl (by decide +kernel)
set_option maxRecDepth 65536 in
theorem w_c26 : (Jvm.Cond.code ({ cls := "ReedMullerDuo", name := "popcount", desc := "(I)I" } : Jvm.MethodName) prog_1_method_14_code (3 : Nat) (Option.some Jvm.ClassFile.FieldType.int)).before args0 about1 = true := code_word (m := ⟨2, 12⟩) (meth := k2m12) (c := k2c12) (by decide +kernel) rfl rfl rfl (by decide +kernel)
set_option maxRecDepth 65536 in
theorem w_c27 : (Jvm.Cond.code ({ cls := "ReedMullerDuo", name := "linearPart", desc := "(I)I" } : Jvm.MethodName) prog_1_method_27_code (5 : Nat) (Option.some Jvm.ClassFile.FieldType.int)).before args0 about1 = true := code_word (m := ⟨2, 25⟩) (meth := k2m25) (c := k2c25) (by decide +kernel) rfl rfl rfl (by decide +kernel)
set_option maxRecDepth 65536 in
theorem w_c28 : (Jvm.Cond.code ({ cls := "ReedMullerDuo", name := "put", desc := "(III)Z" } : Jvm.MethodName) prog_1_method_10_code (4 : Nat) (Option.some Jvm.ClassFile.FieldType.boolean)).before args0 about1 = true := code_word (m := ⟨2, 9⟩) (meth := k2m9) (c := k2c9) (by decide +kernel) rfl rfl rfl (by decide +kernel)
set_option maxRecDepth 65536 in
theorem w_c29 : (Jvm.Cond.code ({ cls := "ReedMullerDuo", name := "validOrder", desc := "(I)Z" } : Jvm.MethodName) prog_1_method_8_code (2 : Nat) (Option.some Jvm.ClassFile.FieldType.boolean)).before args0 about1 = true := code_word (m := ⟨2, 7⟩) (meth := k2m7) (c := k2c7) (by decide +kernel) rfl rfl rfl (by decide +kernel)
set_option maxRecDepth 65536 in
theorem w_c30 : (Jvm.Cond.code ({ cls := "ReedMullerDuo", name := "flip", desc := "(II)Z" } : Jvm.MethodName) prog_1_method_11_code (3 : Nat) (Option.some Jvm.ClassFile.FieldType.boolean)).before args0 about1 = true := code_word (m := ⟨2, 10⟩) (meth := k2m10) (c := k2c10) (by decide +kernel) rfl rfl rfl (by decide +kernel)
set_option maxRecDepth 65536 in
theorem w_c31 : (Jvm.Cond.code ({ cls := "ReedMullerDuo", name := "correct", desc := "(II)Z" } : Jvm.MethodName) prog_1_method_17_code (4 : Nat) (Option.some Jvm.ClassFile.FieldType.boolean)).before args0 about1 = true := code_word (m := ⟨2, 15⟩) (meth := k2m15) (c := k2c15) (by decide +kernel) rfl rfl rfl (by decide +kernel)
def codes1 : List Jvm.Cond := [Jvm.Cond.code x code maxLocals ret, Jvm.Cond.code ({ cls := "ReedMullerDuoOwnLaw", name := "cell", desc := "([II)I" } : Jvm.MethodName) method_2_code (2 : Nat) (Option.some Jvm.ClassFile.FieldType.int), Jvm.Cond.code ({ cls := "ReedMullerDuo", name := "<init>", desc := "(I)V" } : Jvm.MethodName) prog_1_method_1_code (3 : Nat) (Option.none : Option Jvm.ClassFile.FieldType), Jvm.Cond.code ({ cls := "java/lang/Object", name := "<init>", desc := "()V" } : Jvm.MethodName) object_method_1_code (1 : Nat) (Option.none : Option Jvm.ClassFile.FieldType), Jvm.Cond.code ({ cls := "ReedMullerDuo", name := "buildMonomials", desc := "()V" } : Jvm.MethodName) prog_1_method_2_code (4 : Nat) (Option.none : Option Jvm.ClassFile.FieldType), Jvm.Cond.code ({ cls := "ReedMullerDuo", name := "slotCount", desc := "()I" } : Jvm.MethodName) prog_1_method_3_code (1 : Nat) (Option.some Jvm.ClassFile.FieldType.int), Jvm.Cond.code ({ cls := "ReedMullerDuoOwnLaw", name := "mod", desc := "(II)I" } : Jvm.MethodName) method_4_code (3 : Nat) (Option.some Jvm.ClassFile.FieldType.int), Jvm.Cond.code ({ cls := "ReedMullerDuo", name := "load", desc := "(II)Z" } : Jvm.MethodName) prog_1_method_9_code (3 : Nat) (Option.some Jvm.ClassFile.FieldType.boolean), Jvm.Cond.code ({ cls := "ReedMullerDuo", name := "validSlot", desc := "(I)Z" } : Jvm.MethodName) prog_1_method_7_code (2 : Nat) (Option.some Jvm.ClassFile.FieldType.boolean), Jvm.Cond.code ({ cls := "ReedMullerDuo", name := "getWord", desc := "(I)I" } : Jvm.MethodName) prog_1_method_12_code (2 : Nat) (Option.some Jvm.ClassFile.FieldType.int), Jvm.Cond.code ({ cls := "ReedMullerDuo", name := "decode1", desc := "(I)I" } : Jvm.MethodName) prog_1_method_15_code (2 : Nat) (Option.some Jvm.ClassFile.FieldType.int), Jvm.Cond.code ({ cls := "ReedMullerDuo", name := "applyRule1", desc := "(I)I" } : Jvm.MethodName) prog_1_method_21_code (7 : Nat) (Option.some Jvm.ClassFile.FieldType.int), Jvm.Cond.code ({ cls := "ReedMullerDuo", name := "transform", desc := "(I)V" } : Jvm.MethodName) prog_1_method_23_code (7 : Nat) (Option.none : Option Jvm.ClassFile.FieldType), Jvm.Cond.code ({ cls := "ReedMullerDuo", name := "rule1Distance", desc := "(I)I" } : Jvm.MethodName) prog_1_method_22_code (4 : Nat) (Option.some Jvm.ClassFile.FieldType.int), Jvm.Cond.code ({ cls := "ReedMullerDuo", name := "lastDistance", desc := "()I" } : Jvm.MethodName) prog_1_method_18_code (1 : Nat) (Option.some Jvm.ClassFile.FieldType.int), Jvm.Cond.code ({ cls := "ReedMullerDuo", name := "encode1", desc := "(I)I" } : Jvm.MethodName) prog_1_method_4_code (2 : Nat) (Option.some Jvm.ClassFile.FieldType.int), Jvm.Cond.code ({ cls := "ReedMullerDuo", name := "encodeBits", desc := "(II)I" } : Jvm.MethodName) prog_1_method_6_code (6 : Nat) (Option.some Jvm.ClassFile.FieldType.int), Jvm.Cond.code ({ cls := "ReedMullerDuoOwnLaw", name := "pop", desc := "(I)I" } : Jvm.MethodName) method_3_code (3 : Nat) (Option.some Jvm.ClassFile.FieldType.int), Jvm.Cond.code ({ cls := "ReedMullerDuo", name := "lastTies", desc := "()I" } : Jvm.MethodName) prog_1_method_19_code (1 : Nat) (Option.some Jvm.ClassFile.FieldType.int), Jvm.Cond.code ({ cls := "ReedMullerDuo", name := "encode2", desc := "(I)I" } : Jvm.MethodName) prog_1_method_5_code (2 : Nat) (Option.some Jvm.ClassFile.FieldType.int), Jvm.Cond.code ({ cls := "ReedMullerDuo", name := "failures", desc := "()I" } : Jvm.MethodName) prog_1_method_20_code (1 : Nat) (Option.some Jvm.ClassFile.FieldType.int), Jvm.Cond.code ({ cls := "ReedMullerDuo", name := "decode2", desc := "(I)I" } : Jvm.MethodName) prog_1_method_16_code (2 : Nat) (Option.some Jvm.ClassFile.FieldType.int), Jvm.Cond.code ({ cls := "ReedMullerDuo", name := "applyRule2", desc := "(I)I" } : Jvm.MethodName) prog_1_method_24_code (5 : Nat) (Option.some Jvm.ClassFile.FieldType.int), Jvm.Cond.code ({ cls := "ReedMullerDuo", name := "reedDecode", desc := "(I)I" } : Jvm.MethodName) prog_1_method_25_code (7 : Nat) (Option.some Jvm.ClassFile.FieldType.int), Jvm.Cond.code ({ cls := "ReedMullerDuo", name := "quadraticVote", desc := "(III)Z" } : Jvm.MethodName) prog_1_method_26_code (8 : Nat) (Option.some Jvm.ClassFile.FieldType.boolean), Jvm.Cond.code ({ cls := "ReedMullerDuo", name := "swap", desc := "(II)I" } : Jvm.MethodName) prog_1_method_28_code (5 : Nat) (Option.some Jvm.ClassFile.FieldType.int), Jvm.Cond.code ({ cls := "ReedMullerDuo", name := "popcount", desc := "(I)I" } : Jvm.MethodName) prog_1_method_14_code (3 : Nat) (Option.some Jvm.ClassFile.FieldType.int), Jvm.Cond.code ({ cls := "ReedMullerDuo", name := "linearPart", desc := "(I)I" } : Jvm.MethodName) prog_1_method_27_code (5 : Nat) (Option.some Jvm.ClassFile.FieldType.int), Jvm.Cond.code ({ cls := "ReedMullerDuo", name := "put", desc := "(III)Z" } : Jvm.MethodName) prog_1_method_10_code (4 : Nat) (Option.some Jvm.ClassFile.FieldType.boolean), Jvm.Cond.code ({ cls := "ReedMullerDuo", name := "validOrder", desc := "(I)Z" } : Jvm.MethodName) prog_1_method_8_code (2 : Nat) (Option.some Jvm.ClassFile.FieldType.boolean), Jvm.Cond.code ({ cls := "ReedMullerDuo", name := "flip", desc := "(II)Z" } : Jvm.MethodName) prog_1_method_11_code (3 : Nat) (Option.some Jvm.ClassFile.FieldType.boolean), Jvm.Cond.code ({ cls := "ReedMullerDuo", name := "correct", desc := "(II)Z" } : Jvm.MethodName) prog_1_method_17_code (4 : Nat) (Option.some Jvm.ClassFile.FieldType.boolean)]
set_option maxRecDepth 65536 in
theorem codes_eq : words1.filter isCode = codes1 := rfl
theorem w_codes : ∀ c ∈ words1.filter isCode, c.before args0 about1 = true := by
  rw [codes_eq]
  intro c hc
  simp only [codes1, List.mem_cons, List.not_mem_nil, or_false] at hc
  rcases hc with rfl | rfl | rfl | rfl | rfl | rfl | rfl | rfl | rfl | rfl | rfl | rfl | rfl | rfl | rfl | rfl | rfl | rfl | rfl | rfl | rfl | rfl | rfl | rfl | rfl | rfl | rfl | rfl | rfl | rfl | rfl | rfl
  · exact w_c0
  · exact w_c1
  · exact w_c2
  · exact w_c3
  · exact w_c4
  · exact w_c5
  · exact w_c6
  · exact w_c7
  · exact w_c8
  · exact w_c9
  · exact w_c10
  · exact w_c11
  · exact w_c12
  · exact w_c13
  · exact w_c14
  · exact w_c15
  · exact w_c16
  · exact w_c17
  · exact w_c18
  · exact w_c19
  · exact w_c20
  · exact w_c21
  · exact w_c22
  · exact w_c23
  · exact w_c24
  · exact w_c25
  · exact w_c26
  · exact w_c27
  · exact w_c28
  · exact w_c29
  · exact w_c30
  · exact w_c31
set_option maxRecDepth 65536 in
theorem w_t1 : (words1.take 24).all (fun c => isCode c || c.before args0 about1) = true := by decide +kernel
set_option maxRecDepth 65536 in
theorem w_t2 : ((words1.drop 24).take 24).all (fun c => isCode c || c.before args0 about1) = true := by decide +kernel
set_option maxRecDepth 65536 in
theorem w_t3 : (((words1.drop 24).drop 24).take 24).all (fun c => isCode c || c.before args0 about1) = true := by decide +kernel
set_option maxRecDepth 65536 in
theorem w_t4 : ((((words1.drop 24).drop 24).drop 24).take 24).all (fun c => isCode c || c.before args0 about1) = true := by decide +kernel
set_option maxRecDepth 65536 in
theorem w_t5 : (((((words1.drop 24).drop 24).drop 24).drop 24).take 24).all (fun c => isCode c || c.before args0 about1) = true := by decide +kernel
set_option maxRecDepth 65536 in
theorem w_t6 : ((((((words1.drop 24).drop 24).drop 24).drop 24).drop 24).take 24).all (fun c => isCode c || c.before args0 about1) = true := by decide +kernel
set_option maxRecDepth 65536 in
theorem w_t7 : (((((((words1.drop 24).drop 24).drop 24).drop 24).drop 24).drop 24).take 24).all (fun c => isCode c || c.before args0 about1) = true := by decide +kernel
set_option maxRecDepth 65536 in
theorem w_t8 : (((((((words1.drop 24).drop 24).drop 24).drop 24).drop 24).drop 24).drop 24).all (fun c => isCode c || c.before args0 about1) = true := by decide +kernel
theorem w_tables : (allAtoms (Jvm.Cond.code x code maxLocals ret :: tables_1)).before args0 about1 = true := by
  rw [allAtoms_all]
  show words1.all (fun c => c.before args0 about1) = true
  refine all_split ?_ w_codes
  rw [← List.take_append_drop 24 words1, List.all_append, w_t1, ← List.take_append_drop 24 (words1.drop 24), List.all_append, w_t2, ← List.take_append_drop 24 ((words1.drop 24).drop 24), List.all_append, w_t3, ← List.take_append_drop 24 (((words1.drop 24).drop 24).drop 24), List.all_append, w_t4, ← List.take_append_drop 24 ((((words1.drop 24).drop 24).drop 24).drop 24), List.all_append, w_t5, ← List.take_append_drop 24 (((((words1.drop 24).drop 24).drop 24).drop 24).drop 24), List.all_append, w_t6, ← List.take_append_drop 24 ((((((words1.drop 24).drop 24).drop 24).drop 24).drop 24).drop 24), List.all_append, w_t7, w_t8]
  rfl
set_option maxRecDepth 65536 in
theorem w_rest : rest_1_c.before args0 about1 = true := by decide +kernel
set_option maxRecDepth 65536 in
theorem w_case : (Jvm.Cond.and given_1 narrow_1).before args0 about1 = true := by decide +kernel
theorem w_applies : (headSpec (Jvm.Cond.code x code maxLocals ret :: tables_1) room_1).applies x e0.platform about1 = true :=
  (Spec.applies_iff w_frames).mpr ⟨w_running, w_runnable, w_alone, w_named, w_hears, w_ripe, w_room, w_tables⟩
theorem atStart : AtStart classFile x code maxLocals ret World_1 tables_1 room_1 Calls_1 rest_1 Pre_1 launch0 p0 e0 about1 theMethod args0 below0 :=
  ⟨lists_1, trivial, launch0.admits_env _ _ _, launch0.least_env, fairChoices_fair.cas, fairChoices_fair.clock, w_frames, w_args, w_heap, w_applies, trivial, w_rest, w_case⟩
end start1
theorem witness_1 : WitnessClaimed_1 := ⟨start1.p0, start1.e0, start1.about1, start1.theMethod, start1.args0, start1.below0, start1.atStart⟩
end Jvm.Pilot.@@N@@
