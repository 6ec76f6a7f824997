import JvmDerived
import JvmDerived.Pilot.@@N@@Statement
import JvmDerived.Pilot.@@N@@Code
set_option linter.unusedVariables false
set_option linter.unusedSimpArgs false
namespace Jvm.Own
open Jvm Jvm.ClassFile Sem Op Lib Jvm.Free Jvm.Stand Jvm.LawKit Jvm.RoadKit Bundle

/-! A plain machine: the few instructions that these classes use, over a heap of plain lists. -/
/-- an object (class number, fields in order) | an int array (false) or boolean array (true) | a long array -/
abbrev ACell := (Nat × List Value) ⊕ ((Bool × List Int32) ⊕ List Int64)
abbrev AHeap := List ACell
/-- instruction, length, variables forgotten ahead of it, link number, constant -/
abbrev It := Instr × Nat × List Bool × Nat × Int
/-- a field: name, descriptor, type, final -/
abbrev FD := String × String × FieldType × Bool
/-- a class: name, number of its slots, its fields -/
abbrev CD := String × Nat × List FD
/-- a method: name, bytes, variables, return type; kind (0 static, 1 constructor, 2 private, 3 virtual), parameters, class number, frames, words; code -/
abbrev MD := MethodName × ByteArray × Nat × Option FieldType × Nat × Nat × Nat × Nat × Nat × List (Nat × It)
/-- classes, methods, number of cells that are only read -/
abbrev PD := List CD × List MD × Nat
abbrev PD.cls (P : PD) : List CD := P.1
abbrev PD.mth (P : PD) : List MD := P.2.1
abbrev PD.nr (P : PD) : Nat := P.2.2
abbrev MD.name (d : MD) : MethodName := d.1
abbrev MD.bytes (d : MD) : ByteArray := d.2.1
abbrev MD.maxL (d : MD) : Nat := d.2.2.1
abbrev MD.ret (d : MD) : Option FieldType := d.2.2.2.1
abbrev MD.kind (d : MD) : Nat := d.2.2.2.2.1
abbrev MD.npar (d : MD) : Nat := d.2.2.2.2.2.1
abbrev MD.cid (d : MD) : Nat := d.2.2.2.2.2.2.1
abbrev MD.rf (d : MD) : Nat := d.2.2.2.2.2.2.2.1
abbrev MD.rw (d : MD) : Nat := d.2.2.2.2.2.2.2.2.1
abbrev MD.code (d : MD) : List (Nat × It) := d.2.2.2.2.2.2.2.2.2

def rdA {α : Type} (L : List α) (j : Int32) : Option α := if j < 0 then none else L[j.toNatClampNeg]?
def wrA {α : Type} (L : List α) (j : Int32) (x : α) : Option (List α) := if j < 0 then none else if j.toNatClampNeg < L.length then some (L.set j.toNatClampNeg x) else none
def getL (L : List Slot) (k : Nat) : Option Value := match L[k]? with | some (.val v) => some v | _ => none
def isC2 : Option Slot → Bool | some (.val v) => v.category == 2 | _ => false
def isSec : Option Slot → Bool | some .second => true | _ => false
def free1 : Option Slot → Bool | some .unset => true | some (.val v) => v.category == 1 | _ => false
def st1 (L : List Slot) (k : Nat) (v : Value) : Option (List Slot) :=
  if free1 L[k]? && (k == 0 || !isC2 L[k - 1]?) && !isSec L[k + 1]? then some (L.set k (.val v)) else none
def free2 : Option Slot → Option Slot → Bool | some .unset, some .unset => true | some (.val v), some .second => v.category == 2 | _, _ => false
def st2 (L : List Slot) (k : Nat) (v : Value) : Option (List Slot) :=
  if free2 L[k]? L[k + 1]? && (k == 0 || !isC2 L[k - 1]?) && !isSec L[k + 2]? then some ((L.set k (.val v)).set (k + 1) .second) else none
def forget : List Bool → List Slot → List Slot
  | [], L => L
  | _ :: _, [] => []
  | true :: r, _ :: L => .unset :: forget r L
  | false :: r, s :: L => s :: forget r L
def catSum : List Value → Nat
  | [] => 0
  | v :: r => v.category + catSum r
def entA : List Value → List Slot
  | [] => []
  | v :: r => if v.category = 2 then .val v :: .second :: entA r else .val v :: entA r
def entL (as : List Value) (n : Nat) : List Slot := entA as ++ List.replicate (n - (entA as).length) .unset
def putOk : FieldType → Value → Bool
  | .int, .int _ => true
  | .long, .long _ => true
  | .boolean, .int x => (x == 0) || (x == 1)
  | .array _, .ref _ => true
  | _, _ => false
def dflt : FieldType → Value
  | .long => .long 0
  | .array _ => .null
  | _ => .int 0
def dfOk : FieldType → Bool
  | .int => true
  | .boolean => true
  | .long => true
  | .array _ => true
  | _ => false
def tgt (pc : Nat) (o : Int) : Option Nat := if 0 ≤ (pc : Int) + o then some ((pc : Int) + o).toNat else none
def fetch : List (Nat × It) → Nat → Option It
  | [], _ => none
  | (q, i) :: r, pc => if q = pc then some i else fetch r pc
/-- one instruction that neither branches nor calls nor returns -/
def xI (P : PD) (ini : Bool) (cid : Nat) (i : Instr) (a : Nat) (b : Int) (L : List Slot) (S : List Value) (H : AHeap) : Option (List Slot × List Value × AHeap) :=
  match i with
  | .aload_n k => match getL L k.val with | some (.ref x) => some (L, .ref x :: S, H) | _ => none
  | .aload k => match getL L k with | some (.ref x) => some (L, .ref x :: S, H) | _ => none
  | .iload_n k => match getL L k.val with | some (.int x) => some (L, .int x :: S, H) | _ => none
  | .iload k => match getL L k with | some (.int x) => some (L, .int x :: S, H) | _ => none
  | .lload_n k => match getL L k.val with | some (.long x) => some (L, .long x :: S, H) | _ => none
  | .lload k => match getL L k with | some (.long x) => some (L, .long x :: S, H) | _ => none
  | .istore_n k => match S with | .int x :: S' => (st1 L k.val (.int x)).map fun L' => (L', S', H) | _ => none
  | .istore k => match S with | .int x :: S' => (st1 L k (.int x)).map fun L' => (L', S', H) | _ => none
  | .astore_n k => match S with | .ref x :: S' => (st1 L k.val (.ref x)).map fun L' => (L', S', H) | _ => none
  | .astore k => match S with | .ref x :: S' => (st1 L k (.ref x)).map fun L' => (L', S', H) | _ => none
  | .lstore_n k => match S with | .long x :: S' => (st2 L k.val (.long x)).map fun L' => (L', S', H) | _ => none
  | .lstore k => match S with | .long x :: S' => (st2 L k (.long x)).map fun L' => (L', S', H) | _ => none
  | .iinc k d => match getL L k with | some (.int x) => (st1 L k (.int (x + Int32.ofInt d))).map fun L' => (L', S, H) | _ => none
  | .iconst d => some (L, .int (Int32.ofInt d) :: S, H)
  | .bipush d => some (L, .int (Int8.ofInt d).toInt32 :: S, H)
  | .sipush d => some (L, .int (Int16.ofInt d).toInt32 :: S, H)
  | .lconst k => some (L, .long (Int64.ofNat k) :: S, H)
  | .ldc _ => some (L, .int (Int32.ofInt b) :: S, H)
  | .ldc2_w _ => some (L, .long (Int64.ofInt b) :: S, H)
  | .iadd => match S with | .int y :: .int x :: S' => some (L, .int (x + y) :: S', H) | _ => none
  | .isub => match S with | .int y :: .int x :: S' => some (L, .int (x - y) :: S', H) | _ => none
  | .imul => match S with | .int y :: .int x :: S' => some (L, .int (x * y) :: S', H) | _ => none
  | .iand => match S with | .int y :: .int x :: S' => some (L, .int (x &&& y) :: S', H) | _ => none
  | .ior => match S with | .int y :: .int x :: S' => some (L, .int (x ||| y) :: S', H) | _ => none
  | .ixor => match S with | .int y :: .int x :: S' => some (L, .int (x ^^^ y) :: S', H) | _ => none
  | .ishl => match S with | .int y :: .int x :: S' => some (L, .int (x <<< (y &&& 31)) :: S', H) | _ => none
  | .ishr => match S with | .int y :: .int x :: S' => some (L, .int (x >>> (y &&& 31)) :: S', H) | _ => none
  | .iushr => match S with | .int y :: .int x :: S' => some (L, .int (XT.ushr x y) :: S', H) | _ => none
  | .idiv => match S with | .int y :: .int x :: S' => if y = 0 then none else some (L, .int (x / y) :: S', H) | _ => none
  | .irem => match S with | .int y :: .int x :: S' => if y = 0 then none else some (L, .int (x % y) :: S', H) | _ => none
  | .ladd => match S with | .long y :: .long x :: S' => some (L, .long (x + y) :: S', H) | _ => none
  | .lsub => match S with | .long y :: .long x :: S' => some (L, .long (x - y) :: S', H) | _ => none
  | .lmul => match S with | .long y :: .long x :: S' => some (L, .long (x * y) :: S', H) | _ => none
  | .land => match S with | .long y :: .long x :: S' => some (L, .long (x &&& y) :: S', H) | _ => none
  | .lor => match S with | .long y :: .long x :: S' => some (L, .long (x ||| y) :: S', H) | _ => none
  | .lxor => match S with | .long y :: .long x :: S' => some (L, .long (x ^^^ y) :: S', H) | _ => none
  | .lshl => match S with | .int y :: .long x :: S' => some (L, .long (x <<< (y.toInt64 &&& 63)) :: S', H) | _ => none
  | .lshr => match S with | .int y :: .long x :: S' => some (L, .long (x >>> (y.toInt64 &&& 63)) :: S', H) | _ => none
  | .lushr => match S with | .int y :: .long x :: S' => some (L, .long (XT.ushrL x y) :: S', H) | _ => none
  | .ldiv => match S with | .long y :: .long x :: S' => if y = 0 then none else some (L, .long (x / y) :: S', H) | _ => none
  | .lrem => match S with | .long y :: .long x :: S' => if y = 0 then none else some (L, .long (x % y) :: S', H) | _ => none
  | .lcmp => match S with | .long y :: .long x :: S' => some (L, .int (XT.cmpL x y) :: S', H) | _ => none
  | .i2l => match S with | .int x :: S' => some (L, .long x.toInt64 :: S', H) | _ => none
  | .l2i => match S with | .long x :: S' => some (L, .int x.toInt32 :: S', H) | _ => none
  | .dup => match S with
    | .int x :: S' => some (L, .int x :: .int x :: S', H)
    | .ref x :: S' => some (L, .ref x :: .ref x :: S', H)
    | _ => none
  | .dup2 => match S with
    | .int x :: .ref y :: S' => some (L, .int x :: .ref y :: .int x :: .ref y :: S', H)
    | .long x :: S' => some (L, .long x :: .long x :: S', H)
    | _ => none
  | .pop => match S with | .int _ :: S' => some (L, S', H) | _ => none
  | .getfield _ => match S with
    | .ref o :: S' => match H[o]? with
      | some (.inl (c, fs)) => if c = cid then match fs[a]? with
        | some (.int x) => some (L, .int x :: S', H)
        | some (.long x) => some (L, .long x :: S', H)
        | some (.ref x) => some (L, .ref x :: S', H)
        | _ => none
        else none
      | _ => none
    | _ => none
  | .putfield _ => match S with
    | v :: .ref o :: S' => match H[o]? with
      | some (.inl (c, fs)) => if c = cid ∧ P.nr ≤ o then match (P.cls[c]?).bind fun cd => cd.2.2[a]? with
        | some (_, _, ty, fin) => if putOk ty v && (!fin || ini) then some (L, S', H.set o (.inl (c, fs.set a v))) else none
        | none => none
        else none
      | _ => none
    | _ => none
  | .iaload => match S with
    | .int j :: .ref o :: S' => match H[o]? with
      | some (.inr (.inl (false, A))) => (rdA A j).map fun x => (L, .int x :: S', H)
      | _ => none
    | _ => none
  | .baload => match S with
    | .int j :: .ref o :: S' => match H[o]? with
      | some (.inr (.inl (true, A))) => (rdA A j).map fun x => (L, .int x :: S', H)
      | _ => none
    | _ => none
  | .laload => match S with
    | .int j :: .ref o :: S' => match H[o]? with
      | some (.inr (.inr A)) => (rdA A j).map fun x => (L, .long x :: S', H)
      | _ => none
    | _ => none
  | .iastore => match S with
    | .int x :: .int j :: .ref o :: S' => match H[o]? with
      | some (.inr (.inl (false, A))) => if P.nr ≤ o then (wrA A j x).map fun A' => (L, S', H.set o (.inr (.inl (false, A')))) else none
      | _ => none
    | _ => none
  | .bastore => match S with
    | .int x :: .int j :: .ref o :: S' => match H[o]? with
      | some (.inr (.inl (true, A))) => if P.nr ≤ o then (wrA A j (x &&& 1)).map fun A' => (L, S', H.set o (.inr (.inl (true, A')))) else none
      | _ => none
    | _ => none
  | .lastore => match S with
    | .long x :: .int j :: .ref o :: S' => match H[o]? with
      | some (.inr (.inr A)) => if P.nr ≤ o then (wrA A j x).map fun A' => (L, S', H.set o (.inr (.inr A'))) else none
      | _ => none
    | _ => none
  | .arraylength => match S with
    | .ref o :: S' => match H[o]? with
      | some (.inr (.inl (_, A))) => some (L, .int A.length.toInt32 :: S', H)
      | _ => none
    | _ => none
  | _ => none
/-- one instruction that makes a cell: how many slots it takes stands last -/
def xN (P : PD) (i : Instr) (a : Nat) (S : List Value) (H : AHeap) : Option (List Value × AHeap × Nat) :=
  match i with
  | .new _ => match P.cls[a]? with
    | some cd => some (.ref H.length :: S, H ++ [.inl (a, cd.2.2.map fun f => dflt f.2.2.1)], cd.2.1)
    | none => none
  | .newarray t => match S with
    | .int n :: S' => if n < 0 ∨ 100000 < n.toNatClampNeg then none else match t with
      | .int => some (.ref H.length :: S', H ++ [.inr (.inl (false, List.replicate n.toNatClampNeg 0))], n.toNatClampNeg)
      | .boolean => some (.ref H.length :: S', H ++ [.inr (.inl (true, List.replicate n.toNatClampNeg 0))], n.toNatClampNeg)
      | .long => some (.ref H.length :: S', H ++ [.inr (.inr (List.replicate n.toNatClampNeg 0))], n.toNatClampNeg)
      | _ => none
    | _ => none
  | _ => none
/-- the words that a call from d to y asks -/
def fitsRoom (d y : MD) (rest : List Value) : Bool := decide (y.rf + 1 ≤ d.rf) && decide (catSum rest + (y.maxL + 11) + y.rw ≤ d.rw)
/-- the arguments of a call, first to last, and what lies under them -/
def argsOf (n : Nat) (S : List Value) : Option (List Value × List Value) := if n ≤ S.length then some ((S.take n).reverse, S.drop n) else none
def recvOk (P : PD) (H : AHeap) (y : MD) (as : List Value) : Bool :=
  if y.kind = 0 then true else match as with
    | .ref o :: _ => match H[o]? with
      | some (.inl (c, _)) => decide (c = y.cid)
      | _ => false
    | _ => false
def nargs (y : MD) : Nat := if y.kind = 0 then y.npar else y.npar + 1
def invKind (i : Instr) (k : Nat) : Bool := match i with
  | .invokestatic _ => k == 0
  | .invokespecial _ => k == 1
  | .invokevirtual _ => k == 2 || k == 3
  | _ => false
/-- what a method returns of an int on its stack -/
def retV (r : Option FieldType) (x : Int32) : Option Value := match r with
  | some .int => some (.int x)
  | some .boolean => some (.int (x &&& 1))
  | _ => none
def isInv : Instr → Bool
  | .invokestatic _ => true
  | .invokespecial _ => true
  | .invokevirtual _ => true
  | _ => false
def isNew : Instr → Bool
  | .new _ => true
  | .newarray _ => true
  | _ => false
/-- what a run answers: what it returns, the heap, how many cells and slots it has made -/
abbrev Res := Option Value × AHeap × Nat × Nat
def addR (r : Res) (kc ks : Nat) : Res := (r.1, r.2.1, r.2.2.1 + kc, r.2.2.2 + ks)
/-- n instructions at the most, from pc of method mi to its return -/
def exe (P : PD) : Nat → Nat → Nat → List Slot → List Value → AHeap → Option Res
  | 0, _, _, _, _, _ => none
  | n + 1, mi, pc, L0, S, H => match P.mth[mi]? with
    | none => none
    | some d => match fetch d.code pc with
      | none => none
      | some (i, len, er, a, b) =>
        let L := forget er L0
        match i with
        | .goto o => match tgt pc o with
          | some q => exe P n mi q L S H
          | none => none
        | .if_icmp cd o => match S with
          | .int y :: .int x :: S' => if if_icmp.holds cd x y = true then match tgt pc o with
              | some q => exe P n mi q L S' H
              | none => none
            else exe P n mi (pc + 3) L S' H
          | _ => none
        | .ifCond cd o => match S with
          | .int x :: S' => if ifCond.holds cd x = true then match tgt pc o with
              | some q => exe P n mi q L S' H
              | none => none
            else exe P n mi (pc + 3) L S' H
          | _ => none
        | .ifnonnull o => match S with
          | .ref _ :: S' => match tgt pc o with
            | some q => exe P n mi q L S' H
            | none => none
          | _ => none
        | .ireturn => match S with
          | [.int x] => match retV d.ret x with
            | some v => some (some v, H, 0, 0)
            | none => none
          | _ => none
        | .lreturn => match S with
          | [.long x] => if d.ret = some .long then some (some (.long x), H, 0, 0) else none
          | _ => none
        | .return_ => match S with
          | [] => if d.ret = none then some (none, H, 0, 0) else none
          | _ => none
        | i => if isInv i = true then
            if b = -1 then match i, S with
              | .invokespecial _, .ref _ :: S' => if 1 ≤ d.rf ∧ catSum S' + 12 ≤ d.rw then exe P n mi (pc + 3) L S' H else none
              | _, _ => none
            else match P.mth[a]? with
              | none => none
              | some y => match argsOf (nargs y) S with
                | none => none
                | some (as, rest) =>
                  if decide (0 < a) && invKind i y.kind && recvOk P H y as && fitsRoom d y rest && decide ((entA as).length ≤ y.maxL) then
                    match exe P n a 0 (entL as y.maxL) [] H with
                    | some (v, H1, kc, ks) => (exe P n mi (pc + 3) L (v.toList ++ rest) H1).map fun r => addR r kc ks
                    | none => none
                  else none
          else if isNew i = true then match xN P i a S H with
            | some (S', H', ks) => (exe P n mi (pc + len) L S' H').map fun r => addR r 1 ks
            | none => none
          else match xI P (d.name.name == "<init>") d.cid i a b L S H with
            | some (L', S', H') => exe P n mi (pc + len) L' S' H'
            | none => none
end Jvm.Own
namespace Jvm.Own
open Jvm Jvm.ClassFile Sem Op Lib Jvm.Free Jvm.Stand Jvm.LawKit Jvm.RoadKit Bundle

/-! The words that the machine's program rests on -/
def fWord (C : String) (f : FD) : Jvm.Cond := if f.2.2.2 then .laysFinal C C f.1 f.2.1 else .lays C C f.1 f.2.1
def cWords (cd : CD) : List Jvm.Cond := .instantiable cd.1 cd.2.1 :: .initialized cd.1 :: cd.2.2.map (fWord cd.1)
def mWords (y : MD) : List Jvm.Cond := .code y.name y.bytes y.maxL y.ret :: .initialized y.name.cls ::
  (if y.kind = 0 then [.static y.name] else if y.kind = 1 then [.instanceMethod y.name] else if y.kind = 2 then [.instanceMethod y.name, .privateMethod y.name]
   else [.declares y.name, .selects y.name.cls y.name y.name, .instanceMethod y.name])
def fieldOf (P : PD) (c a : Nat) : Option FD := (P.cls[c]?).bind fun cd => cd.2.2[a]?
def fLink (P : PD) (d : MD) (k a : Nat) : List Jvm.Cond := match fieldOf P d.cid a with | some f => [.fieldLink d.name.cls k d.name.cls f.1 f.2.1] | none => []
def mLink (P : PD) (d : MD) (k a : Nat) (b : Int) : List Jvm.Cond :=
  if b = -1 then [.methodLink d.name.cls k Lib.objectInit, .instanceMethod Lib.objectInit, .code Lib.objectInit ⟨#[0xb1]⟩ 1 none]
  else match P.mth[a]? with | some y => [.methodLink d.name.cls k y.name] | none => []
def iWords (P : PD) (d : MD) (x : Nat × It) : List Jvm.Cond := match x with
  | (_, .getfield k, _, _, a, _) => fLink P d k a
  | (_, .putfield k, _, _, a, _) => fLink P d k a
  | (_, .ldc k, _, _, _, b) => [.constant d.name.cls k (Int32.ofInt b)]
  | (_, .ldc2_w k, _, _, _, b) => [.constantLong d.name.cls k (Int64.ofInt b)]
  | (_, .new k, _, _, a, _) => match P.cls[a]? with | some cd => [.classLink d.name.cls k cd.1] | none => []
  | (_, .newarray t, _, _, _, _) => [.arrayClass (newarray.typeOf t)]
  | (_, .invokestatic k, _, _, a, b) => mLink P d k a b
  | (_, .invokespecial k, _, _, a, b) => mLink P d k a b
  | (_, .invokevirtual k, _, _, a, b) => mLink P d k a b
  | _ => []
def wordsOf (P : PD) : List Jvm.Cond := P.cls.flatMap cWords ++ (P.mth.drop 1).flatMap mWords ++ P.mth.flatMap fun d => d.code.flatMap (iWords P d)
/-! What can be looked up in the program itself -/
def nodup : List String → Bool
  | [] => true
  | x :: r => !r.contains x && nodup r
def fChk (f : FD) : Bool := decide (parseFieldDescriptor f.2.1 = some f.2.2.1) && dfOk f.2.2.1
def cChk (cd : CD) : Bool := nodup (cd.2.2.map fun f => f.1) && cd.2.2.all fChk
def sigChk (y : MD) : Bool := match parseMethodDescriptor y.name.desc with
  | some g => decide (g.parameters.length = y.npar)
  | none => false
def lenOk (i : Instr) (n : Nat) : Bool := match i with
  | .aload _ | .iload _ | .lload _ | .istore _ | .astore _ | .lstore _ | .bipush _ | .ldc _ | .newarray _ => n == 2
  | .iinc _ _ | .sipush _ | .ldc2_w _ | .getfield _ | .putfield _ | .new _ | .goto _ | .if_icmp _ _ | .ifCond _ _ | .ifnonnull _ | .invokestatic _ | .invokespecial _ | .invokevirtual _ => n == 3
  | _ => n == 1
def codeChk (y : MD) : Bool := y.code.all fun x => decide (decode y.bytes x.1 = .ok (x.2.1, x.2.2.1)) && lenOk x.2.1 x.2.2.1
def clsChk (P : PD) (y : MD) : Bool := match P.cls[y.cid]? with | some cd => cd.1 == y.name.cls | none => y.kind == 0
def mChk (P : PD) (y : MD) : Bool := plainName y.name.cls && sigChk y && codeChk y && clsChk P y && decide (y.name.cls ≠ "java/lang/invoke/MethodHandle") && decide (y.name.cls ≠ "java/lang/invoke/VarHandle") && (y.kind != 1 || (y.name.name == "<init>" && decide (y.ret = none)))
def chk (P : PD) : Bool := P.cls.all cChk && P.mth.all (mChk P)

/-! Plain and real values -/
def VR (ρ : List Addr) : Value → Value → Prop
  | .ref k, w => ∃ a, ρ[k]? = some a ∧ w = .ref a
  | v, w => w = v
def SR (ρ : List Addr) : List Value → List Value → Prop
  | [], ws => ws = []
  | v :: vs, ws => ∃ w ws', ws = w :: ws' ∧ VR ρ v w ∧ SR ρ vs ws'
def OV (ρ : List Addr) : Option Value → Option Value → Prop
  | none, w => w = none
  | some v, w => ∃ u, w = some u ∧ VR ρ v u
def WFc (A : Array Slot) : Prop := (∀ (i : Nat) w, A[i]? = some (.val w) → w.category = 2 → A[i + 1]? = some .second) ∧ ∀ (i : Nat), A[i]? = some .second → ∃ j w, i = j + 1 ∧ A[j]? = some (.val w) ∧ w.category = 2
def SlR (ρ : List Addr) : Slot → Option Slot → Prop
  | .unset, _ => True
  | .second, o => o = some .second
  | .val v, o => ∃ w, VR ρ v w ∧ o = some (.val w)
def LR (ρ : List Addr) (L : List Slot) (A : Array Slot) : Prop := A.size = L.length ∧ WFc A ∧ ∀ (i : Nat) s, L[i]? = some s → SlR ρ s A[i]?
theorem VR.mono {ρ t : List Addr} {v w : Value} (h : VR ρ v w) : VR (ρ ++ t) v w := by
  cases v <;> first | exact h | skip
  obtain ⟨a, h1, h2⟩ := h
  exact ⟨a, by rw [List.getElem?_append_left (List.getElem?_eq_some_iff.mp h1).1]; exact h1, h2⟩
theorem SR.mono {ρ t : List Addr} : ∀ {v w : List Value}, SR ρ v w → SR (ρ ++ t) v w
  | [], _, h => h
  | _ :: _, _, ⟨w, ws, h1, h2, h3⟩ => ⟨w, ws, h1, h2.mono, SR.mono h3⟩
theorem SlR.mono {ρ t : List Addr} {s : Slot} {o : Option Slot} (h : SlR ρ s o) : SlR (ρ ++ t) s o := by
  cases s with
  | unset => trivial
  | second => exact h
  | val v => obtain ⟨w, h1, h2⟩ := h; exact ⟨w, h1.mono, h2⟩
theorem LR.mono {ρ t : List Addr} {L : List Slot} {A : Array Slot} (h : LR ρ L A) : LR (ρ ++ t) L A := ⟨h.1, h.2.1, fun i s q => (h.2.2 i s q).mono⟩
theorem VR.cat {ρ : List Addr} {v w : Value} (h : VR ρ v w) : w.category = v.category := by
  cases v <;> first | (obtain ⟨a, -, rfl⟩ := h; rfl) | (cases h; rfl)
theorem SR.cat {ρ : List Addr} : ∀ {v w : List Value}, SR ρ v w → (w.map fun v => v.category).sum = catSum v
  | [], _, h => by cases h; rfl
  | _ :: _, _, ⟨w, ws, h1, h2, h3⟩ => by subst h1; simp [catSum, h2.cat, SR.cat h3]
theorem SR.len {ρ : List Addr} : ∀ {v w : List Value}, SR ρ v w → w.length = v.length
  | [], _, h => by cases h; rfl
  | _ :: _, _, ⟨w, ws, h1, h2, h3⟩ => by subst h1; simp [SR.len h3]
theorem SR.app {ρ : List Addr} : ∀ {v w v' w' : List Value}, SR ρ v w → SR ρ v' w' → SR ρ (v ++ v') (w ++ w')
  | [], _, _, _, h, h' => by cases h; exact h'
  | _ :: _, _, _, _, ⟨w, ws, h1, h2, h3⟩, h' => by subst h1; exact ⟨w, ws ++ _, rfl, h2, SR.app h3 h'⟩
theorem SR.rev {ρ : List Addr} : ∀ {v w : List Value}, SR ρ v w → SR ρ v.reverse w.reverse
  | [], _, h => by cases h; exact rfl
  | _ :: _, _, ⟨w, ws, h1, h2, h3⟩ => by subst h1; simp only [List.reverse_cons]; exact (SR.rev h3).app ⟨w, [], rfl, h2, rfl⟩
theorem SR.take {ρ : List Addr} : ∀ (n : Nat) {v w : List Value}, SR ρ v w → SR ρ (v.take n) (w.take n)
  | 0, _, _, _ => rfl
  | n + 1, [], _, h => by cases h; exact rfl
  | n + 1, _ :: _, _, ⟨w, ws, h1, h2, h3⟩ => by subst h1; exact ⟨w, _, rfl, h2, SR.take n h3⟩
theorem SR.drop {ρ : List Addr} : ∀ (n : Nat) {v w : List Value}, SR ρ v w → SR ρ (v.drop n) (w.drop n)
  | 0, _, _, h => h
  | n + 1, [], _, h => by cases h; exact rfl
  | n + 1, _ :: _, _, ⟨w, ws, h1, h2, h3⟩ => by subst h1; exact SR.drop n h3
theorem OV.list {ρ : List Addr} {v w : Option Value} (h : OV ρ v w) : SR ρ v.toList w.toList := by
  cases v with
  | none => cases h; exact rfl
  | some v => obtain ⟨u, rfl, h⟩ := h; exact ⟨u, [], rfl, h, rfl⟩
theorem LR.get {ρ : List Addr} {L : List Slot} {A : Array Slot} (h : LR ρ L A) {k : Nat} {v : Value} (g : getL L k = some v) : ∃ w, VR ρ v w ∧ A[k]? = some (.val w) := by
  unfold getL at g
  split at g
  · rename_i u q
    cases g
    exact h.2.2 k _ q
  · cases g
theorem forget_get : ∀ (er : List Bool) (L : List Slot) (i : Nat) (s : Slot), (forget er L)[i]? = some s → s = .unset ∨ L[i]? = some s
  | [], L, i, s, h => Or.inr h
  | _ :: _, [], i, s, h => by simp [forget] at h
  | true :: r, t :: L, 0, s, h => by simp [forget] at h; exact Or.inl h.symm
  | false :: r, t :: L, 0, s, h => by simp [forget] at h; exact Or.inr (by simp [h])
  | true :: r, t :: L, i + 1, s, h => by simp [forget] at h; simpa using forget_get r L i s h
  | false :: r, t :: L, i + 1, s, h => by simp [forget] at h; simpa using forget_get r L i s h
theorem forget_len : ∀ (er : List Bool) (L : List Slot), (forget er L).length = L.length
  | [], _ => rfl
  | _ :: _, [] => rfl
  | true :: r, _ :: L => by simp [forget, forget_len r L]
  | false :: r, _ :: L => by simp [forget, forget_len r L]
theorem LR.forget {ρ : List Addr} {A : Array Slot} (er : List Bool) {L : List Slot} (h : LR ρ L A) : LR ρ (forget er L) A :=
  ⟨by rw [forget_len]; exact h.1, h.2.1, fun i s q => by
    rcases forget_get er L i s q with rfl | z
    · trivial
    · exact h.2.2 i s z⟩
/-! Stores -/
theorem setAt_ok {A : Array Slot} {i : Nat} (h : i < A.size) (x : Slot) : setAt A i x = some (A.setIfInBounds i x) := by simp [setAt, h]
theorem get_set (A : Array Slot) (i j : Nat) (x : Slot) : (A.setIfInBounds i x)[j]? = if i = j then (if i < A.size then some x else none) else A[j]? := by
  rw [Array.getElem?_setIfInBounds]
theorem sl_unset {A : Array Slot} {k : Nat} {w : Value} (h : A[k]? = some .unset) : storeLocals A k w = storeSelf A k w := by
  unfold storeLocals; rw [h]; rfl
theorem sl_second {A : Array Slot} {k : Nat} {w : Value} (h : A[k]? = some .second) (hk : k - 1 < A.size) : storeLocals A k w = storeSelf (A.setIfInBounds (k - 1) .unset) k w := by
  unfold storeLocals; rw [h]
  show (setAt A (k - 1) .unset).bind _ = _
  rw [setAt_ok hk]; rfl
theorem sl_val2 {A : Array Slot} {k : Nat} {w u : Value} (h : A[k]? = some (.val u)) (hu : u.category = 2) (hk : k + 1 < A.size) : storeLocals A k w = storeSelf (A.setIfInBounds (k + 1) .unset) k w := by
  unfold storeLocals; rw [h]
  show (if u.category = 2 then (setAt A (k + 1) .unset).bind _ else _) = _
  rw [if_pos hu, setAt_ok hk]; rfl
theorem sl_val1 {A : Array Slot} {k : Nat} {w u : Value} (h : A[k]? = some (.val u)) (hu : ¬ u.category = 2) : storeLocals A k w = storeSelf A k w := by
  unfold storeLocals; rw [h]
  show (if u.category = 2 then (setAt A (k + 1) .unset).bind _ else _) = _
  rw [if_neg hu]
theorem ss_1 {A : Array Slot} {k : Nat} {w : Value} (hk : k < A.size) (hw : ¬ w.category = 2) : storeSelf A k w = some (A.setIfInBounds k (.val w)) := by
  unfold storeSelf; rw [setAt_ok hk]
  show (if w.category = 2 then _ else _) = _
  rw [if_neg hw]
theorem ss_2c {A : Array Slot} {k : Nat} {w u : Value} (hk : k < A.size) (hk1 : k + 1 < A.size) (hk2 : k + 2 < A.size) (hw : w.category = 2) (h : (A.setIfInBounds k (.val w))[k + 1]? = some (.val u)) (hu : u.category = 2) : storeSelf A k w = some (((A.setIfInBounds k (.val w)).setIfInBounds (k + 2) .unset).setIfInBounds (k + 1) .second) := by
  unfold storeSelf; rw [setAt_ok hk]
  show (if w.category = 2 then _ else _) = _
  rw [if_pos hw, h]
  show (if u.category = 2 then (setAt _ (k + 2) .unset).bind _ else _) = _
  rw [if_pos hu, setAt_ok (by simpa using hk2)]
  exact setAt_ok (by simpa using hk1) _
theorem ss_2 {A : Array Slot} {k : Nat} {w : Value} {o : Slot} (hk : k < A.size) (hk1 : k + 1 < A.size) (hw : w.category = 2) (h : (A.setIfInBounds k (.val w))[k + 1]? = some o) (ho : ¬ ∃ u, o = .val u ∧ u.category = 2) : storeSelf A k w = some ((A.setIfInBounds k (.val w)).setIfInBounds (k + 1) .second) := by
  unfold storeSelf; rw [setAt_ok hk]
  show (if w.category = 2 then _ else _) = _
  rw [if_pos hw, h]
  cases o with
  | unset => exact setAt_ok (by simpa using hk1) _
  | second => exact setAt_ok (by simpa using hk1) _
  | val u =>
    show (if u.category = 2 then _ else _) = _
    rw [if_neg fun z => ho ⟨u, rfl, z⟩]
    exact setAt_ok (by simpa using hk1) _
theorem store1_sim {ρ : List Addr} {L : List Slot} {A : Array Slot} (h : LR ρ L A) {k : Nat} {v w : Value} {L' : List Slot} (hs : st1 L k v = some L') (hv : VR ρ v w) (hc : w.category = 1) : ∃ A', storeLocals A k w = some A' ∧ LR ρ L' A' := by
  unfold st1 at hs
  split at hs
  · rename_i q
    cases hs
    simp only [Bool.and_eq_true] at q
    obtain ⟨⟨q1, q2⟩, q3⟩ := q
    obtain ⟨hA, ⟨w1, w2⟩, hl⟩ := h
    have hk : k < L.length := by
      rcases Nat.lt_or_ge k L.length with z | z
      · exact z
      · rw [List.getElem?_eq_none z] at q1; cases q1
    have hkA : k < A.size := hA ▸ hk
    obtain ⟨sl, hsl⟩ : ∃ sl, A[k]? = some sl := ⟨A[k], Array.getElem?_eq_getElem hkA⟩
    have hc2 : ¬ w.category = 2 := by rw [hc]; decide
    classical
    have key : ∃ A', storeLocals A k w = some A' ∧ A'.size = A.size ∧ (∀ j, A'[j]? = if j = k then some (.val w) else if (sl = .second ∧ j + 1 = k) ∨ ((∃ u, sl = .val u ∧ u.category = 2) ∧ j = k + 1) then some .unset else A[j]?) := by
      cases sl with
      | unset =>
        refine ⟨A.setIfInBounds k (.val w), by rw [sl_unset hsl]; exact ss_1 hkA hc2, by simp, fun j => ?_⟩
        rw [get_set]
        by_cases e : k = j
        · subst e; simp [hkA]
        · have e' : ¬ j = k := fun z => e z.symm
          simp [e, e']
      | second =>
        obtain ⟨j0, u, rfl, g1, g2⟩ := w2 k hsl
        refine ⟨(A.setIfInBounds j0 .unset).setIfInBounds (j0 + 1) (.val w), by rw [sl_second hsl (show j0 + 1 - 1 < A.size by omega)]; exact ss_1 (by simpa using hkA) hc2, by simp, fun j => ?_⟩
        rw [get_set, get_set]
        by_cases e : j0 + 1 = j
        · subst e; simp [hkA]
        · by_cases e2 : j0 = j
          · subst e2; simp; omega
          · have e' : ¬ j = j0 + 1 := fun z => e z.symm
            have e2' : ¬ j = j0 := fun z => e2 z.symm
            simp [e, e', e2, e2']
      | val u =>
        by_cases hu : u.category = 2
        · have g := w1 k u hsl hu
          have hk1 : k + 1 < A.size := (Array.getElem?_eq_some_iff.mp g).1
          refine ⟨(A.setIfInBounds (k + 1) .unset).setIfInBounds k (.val w), by rw [sl_val2 hsl hu hk1]; exact ss_1 (by simpa using hkA) hc2, by simp, fun j => ?_⟩
          rw [get_set, get_set]
          by_cases e : k = j
          · subst e; simp [hkA]
          · have e' : ¬ j = k := fun z => e z.symm
            by_cases e2 : k + 1 = j
            · subst e2; simp [hk1, hu]
            · have e2' : ¬ j = k + 1 := fun z => e2 z.symm
              simp [e, e', e2, e2']
        · refine ⟨A.setIfInBounds k (.val w), by rw [sl_val1 hsl hu]; exact ss_1 hkA hc2, by simp, fun j => ?_⟩
          rw [get_set]
          by_cases e : k = j
          · subst e; simp [hkA]
          · have e' : ¬ j = k := fun z => e z.symm
            simp [e, e', hu]
    obtain ⟨A', k1, k2, k3⟩ := key
    refine ⟨A', k1, by rw [k2, hA]; simp, ⟨fun i u g1 g2 => ?_, fun i g1 => ?_⟩, fun i s g => ?_⟩
    · rw [k3] at g1
      split at g1
      · cases g1; exact absurd g2 hc2
      · rename_i e1
        split at g1
        · cases g1
        · rename_i e2
          have g3 := w1 i u g1 g2
          rw [k3]
          split
          · rename_i e3
            have : sl = .second := by rw [← e3] at hsl; exact Option.some.inj (hsl.symm.trans g3)
            exact absurd (Or.inl ⟨this, e3⟩) e2
          · rename_i e3
            split
            · rename_i e4
              rcases e4 with ⟨z1, z2⟩ | ⟨⟨u', z1, z2⟩, z3⟩
              · exfalso
                have : k = i + 1 + 1 := z2.symm
                subst this
                rw [z1] at hsl
                obtain ⟨j0, u0, y1, y2, y3⟩ := w2 _ hsl
                have : j0 = i + 1 := by omega
                subst this
                rw [g3] at y2; cases y2
              · exact absurd (by omega) e1
            · exact g3
    · rw [k3] at g1
      split at g1
      · cases g1
      · rename_i e1
        split at g1
        · cases g1
        · rename_i e2
          obtain ⟨j, u, z1, z2, z3⟩ := w2 i g1
          refine ⟨j, u, z1, ?_, z3⟩
          rw [k3]
          split
          · rename_i e3
            subst e3
            have : sl = .val u := Option.some.inj (hsl.symm.trans z2)
            exact absurd (Or.inr ⟨⟨u, this, z3⟩, z1⟩) e2
          · split
            · rename_i e3 e4
              rcases e4 with ⟨y1, y2⟩ | ⟨⟨u', y1, y2⟩, y3⟩
              · exact absurd (z1.trans y2) e1
              · subst y3
                have g5 := w1 k u' (y1 ▸ hsl) y2
                rw [z2] at g5; cases g5
            · exact z2
    · rw [List.getElem?_set] at g
      split at g
      · rename_i e
        subst e
        cases g
        exact ⟨w, hv, by rw [k3]; simp⟩
      · rename_i e
        have e' : ¬ i = k := fun z => e z.symm
        have g2 := hl i s g
        rw [k3, if_neg e']
        split
        · rename_i e4
          cases s with
          | unset => trivial
          | second =>
            exfalso
            have g2' : A[i]? = some .second := g2
            rcases e4 with ⟨y1, y2⟩ | ⟨⟨u', y1, y2⟩, y3⟩
            · obtain ⟨j0, u0, x1, x2, x3⟩ := w2 k (y1 ▸ hsl)
              have : i = j0 := by omega
              subst this
              rw [x2] at g2'; cases g2'
            · subst y3
              rw [g] at q3
              simp [isSec] at q3
          | val v0 =>
            exfalso
            obtain ⟨w0, x1, x2⟩ := g2
            rcases e4 with ⟨y1, y2⟩ | ⟨⟨u', y1, y2⟩, y3⟩
            · obtain ⟨j0, u0, z1, z2, z3⟩ := w2 k (y1 ▸ hsl)
              have : i = j0 := by omega
              subst this
              have hw0 : w0 = u0 := by rw [x2] at z2; cases z2; rfl
              have hcat : v0.category = 2 := by rw [← x1.cat, hw0]; exact z3
              subst y2
              have : L[i + 1 - 1]? = some (.val v0) := g
              rw [this] at q2
              simp [isC2, hcat] at q2
            · subst y3
              have g5 := w1 k u' (y1 ▸ hsl) y2
              rw [x2] at g5; cases g5
        · exact g2
  · cases hs
end Jvm.Own
namespace Jvm.Own
open Jvm Jvm.ClassFile Sem Op Lib Jvm.Free Jvm.Stand Jvm.LawKit Jvm.RoadKit Bundle
theorem store2_sim {ρ : List Addr} {L : List Slot} {A : Array Slot} (h : LR ρ L A) {k : Nat} {v w : Value} {L' : List Slot} (hs : st2 L k v = some L') (hv : VR ρ v w) (hc : w.category = 2) : ∃ A', storeLocals A k w = some A' ∧ LR ρ L' A' := by
  unfold st2 at hs
  split at hs
  · rename_i q
    cases hs
    simp only [Bool.and_eq_true] at q
    obtain ⟨⟨q1, q2⟩, q3⟩ := q
    obtain ⟨hA, ⟨w1, w2⟩, hl⟩ := h
    have hk1 : k + 1 < L.length := by
      rcases Nat.lt_or_ge (k + 1) L.length with z | z
      · exact z
      · rw [List.getElem?_eq_none z] at q1
        cases h0 : L[k]? with
        | none => rw [h0] at q1; cases q1
        | some s0 => rw [h0] at q1; cases s0 <;> cases q1
    have hk : k < L.length := by omega
    have hkA : k < A.size := hA ▸ hk
    have hkA1 : k + 1 < A.size := hA ▸ hk1
    obtain ⟨sl, hsl⟩ : ∃ sl, A[k]? = some sl := ⟨A[k], Array.getElem?_eq_getElem hkA⟩
    obtain ⟨sm, hsm⟩ : ∃ sm, A[k + 1]? = some sm := ⟨A[k + 1], Array.getElem?_eq_getElem hkA1⟩
    have n1 : ¬ k = k + 1 := by omega
    have n2 : ¬ k + 2 = k + 1 := by omega
    have n3 : ¬ k + 2 = k := by omega
    classical
    have key : ∃ A', storeLocals A k w = some A' ∧ A'.size = A.size ∧ (∀ j, A'[j]? = if j = k then some (.val w) else if j = k + 1 then some .second else if (sl = .second ∧ j + 1 = k) ∨ ((∃ u, sm = .val u ∧ u.category = 2) ∧ j = k + 2) then some .unset else A[j]?) := by
      by_cases hm : ∃ u, sm = .val u ∧ u.category = 2
      · obtain ⟨u, rfl, hu⟩ := hm
        have g := w1 (k + 1) u hsm hu
        have hk2 : k + 2 < A.size := (Array.getElem?_eq_some_iff.mp g).1
        cases sl with
        | unset =>
          refine ⟨((A.setIfInBounds k (.val w)).setIfInBounds (k + 2) .unset).setIfInBounds (k + 1) .second, ?_, by simp, fun j => ?_⟩
          · rw [sl_unset hsl]; exact ss_2c hkA hkA1 hk2 hc (by rw [get_set, if_neg n1]; exact hsm) hu
          · rw [get_set, get_set, get_set]
            by_cases e0 : j = k
            · subst e0; simp [hkA]
            · by_cases e1 : j = k + 1
              · subst e1; simp [hkA1]
              · by_cases e2 : j = k + 2
                · subst e2; simp [hk2, hu]
                · have e0' : ¬ k = j := fun z => e0 z.symm
                  have e1' : ¬ k + 1 = j := fun z => e1 z.symm
                  have e2' : ¬ k + 2 = j := fun z => e2 z.symm
                  simp [e0, e1, e2, e0', e1', e2']
        | second =>
          obtain ⟨j0, u0, rfl, g1, g2⟩ := w2 k hsl
          have hj0 : j0 < A.size := by omega
          refine ⟨(((A.setIfInBounds j0 .unset).setIfInBounds (j0 + 1) (.val w)).setIfInBounds (j0 + 1 + 2) .unset).setIfInBounds (j0 + 1 + 1) .second, ?_, by simp, fun j => ?_⟩
          · have m1 : ¬ j0 + 1 = j0 + 1 + 1 := by omega
            have m2 : ¬ j0 = j0 + 1 + 1 := by omega
            rw [sl_second hsl (show j0 + 1 - 1 < A.size by omega)]
            exact ss_2c (by simpa using hkA) (by simpa using hkA1) (by simpa using hk2) hc (by rw [get_set, if_neg m1, get_set, if_neg (by omega)]; exact hsm) hu
          · rw [get_set, get_set, get_set, get_set]
            by_cases e0 : j = j0 + 1
            · subst e0; simp [hkA]
            · by_cases e1 : j = j0 + 1 + 1
              · subst e1; simp [hkA1]
              · by_cases e2 : j = j0 + 1 + 2
                · subst e2; simp [hk2, hu]
                · by_cases e3 : j = j0
                  · subst e3
                    rw [if_neg (by omega), if_neg (by omega), if_neg (by omega), if_pos rfl, if_pos hj0, if_neg (by omega), if_neg (by omega), if_pos (Or.inl ⟨rfl, rfl⟩)]
                  · have e0' : ¬ j0 + 1 = j := fun z => e0 z.symm
                    have e1' : ¬ j0 + 1 + 1 = j := fun z => e1 z.symm
                    have e2' : ¬ j0 + 1 + 2 = j := fun z => e2 z.symm
                    have e3' : ¬ j0 = j := fun z => e3 z.symm
                    simp [e0, e1, e2, e3, e0', e1', e2', e3']
        | val u1 =>
          have hu1 : ¬ u1.category = 2 := fun z => by have := w1 k u1 hsl z; rw [hsm] at this; cases this
          refine ⟨((A.setIfInBounds k (.val w)).setIfInBounds (k + 2) .unset).setIfInBounds (k + 1) .second, ?_, by simp, fun j => ?_⟩
          · rw [sl_val1 hsl hu1]; exact ss_2c hkA hkA1 hk2 hc (by rw [get_set, if_neg n1]; exact hsm) hu
          · rw [get_set, get_set, get_set]
            by_cases e0 : j = k
            · subst e0; simp [hkA]
            · by_cases e1 : j = k + 1
              · subst e1; simp [hkA1]
              · by_cases e2 : j = k + 2
                · subst e2; simp [hk2, hu]
                · have e0' : ¬ k = j := fun z => e0 z.symm
                  have e1' : ¬ k + 1 = j := fun z => e1 z.symm
                  have e2' : ¬ k + 2 = j := fun z => e2 z.symm
                  simp [e0, e1, e2, e0', e1', e2']
      · cases sl with
        | unset =>
          refine ⟨(A.setIfInBounds k (.val w)).setIfInBounds (k + 1) .second, ?_, by simp, fun j => ?_⟩
          · rw [sl_unset hsl]; exact ss_2 hkA hkA1 hc (by rw [get_set, if_neg n1]; exact hsm) hm
          · rw [get_set, get_set]
            by_cases e0 : j = k
            · subst e0; simp [hkA]
            · by_cases e1 : j = k + 1
              · subst e1; simp [hkA1]
              · have e0' : ¬ k = j := fun z => e0 z.symm
                have e1' : ¬ k + 1 = j := fun z => e1 z.symm
                simp [e0, e1, e0', e1', hm]
        | second =>
          obtain ⟨j0, u0, rfl, g1, g2⟩ := w2 k hsl
          have hj0 : j0 < A.size := by omega
          have m1 : ¬ j0 + 1 = j0 + 1 + 1 := by omega
          have m2 : ¬ j0 = j0 + 1 + 1 := by omega
          refine ⟨((A.setIfInBounds j0 .unset).setIfInBounds (j0 + 1) (.val w)).setIfInBounds (j0 + 1 + 1) .second, ?_, by simp, fun j => ?_⟩
          · rw [sl_second hsl (show j0 + 1 - 1 < A.size by omega)]
            exact ss_2 (by simpa using hkA) (by simpa using hkA1) hc (by rw [get_set, if_neg m1, get_set, if_neg (by omega)]; exact hsm) hm
          · rw [get_set, get_set, get_set]
            by_cases e0 : j = j0 + 1
            · subst e0; simp [hkA]
            · by_cases e1 : j = j0 + 1 + 1
              · subst e1; simp [hkA1]
              · by_cases e3 : j = j0
                · subst e3
                  rw [if_neg (by omega), if_neg (by omega), if_pos rfl, if_pos hj0, if_neg (by omega), if_neg (by omega), if_pos (Or.inl ⟨rfl, rfl⟩)]
                · have e0' : ¬ j0 + 1 = j := fun z => e0 z.symm
                  have e1' : ¬ j0 + 1 + 1 = j := fun z => e1 z.symm
                  have e3' : ¬ j0 = j := fun z => e3 z.symm
                  simp [e0, e1, e3, e0', e1', e3', hm]
        | val u1 =>
          by_cases hu1 : u1.category = 2
          · refine ⟨((A.setIfInBounds (k + 1) .unset).setIfInBounds k (.val w)).setIfInBounds (k + 1) .second, ?_, by simp, fun j => ?_⟩
            · rw [sl_val2 hsl hu1 hkA1]
              exact ss_2 (o := .unset) (by simpa using hkA) (by simpa using hkA1) hc (by rw [get_set, if_neg n1, get_set, if_pos rfl, if_pos hkA1]) (by rintro ⟨u, z, -⟩; cases z)
            · rw [get_set, get_set, get_set]
              by_cases e0 : j = k
              · subst e0; simp [hkA]
              · by_cases e1 : j = k + 1
                · subst e1; simp [hkA1]
                · have e0' : ¬ k = j := fun z => e0 z.symm
                  have e1' : ¬ k + 1 = j := fun z => e1 z.symm
                  simp [e0, e1, e0', e1', hm]
          · refine ⟨(A.setIfInBounds k (.val w)).setIfInBounds (k + 1) .second, ?_, by simp, fun j => ?_⟩
            · rw [sl_val1 hsl hu1]; exact ss_2 hkA hkA1 hc (by rw [get_set, if_neg n1]; exact hsm) hm
            · rw [get_set, get_set]
              by_cases e0 : j = k
              · subst e0; simp [hkA]
              · by_cases e1 : j = k + 1
                · subst e1; simp [hkA1]
                · have e0' : ¬ k = j := fun z => e0 z.symm
                  have e1' : ¬ k + 1 = j := fun z => e1 z.symm
                  simp [e0, e1, e0', e1', hm]
    obtain ⟨A', k1, k2, k3⟩ := key
    refine ⟨A', k1, by rw [k2, hA]; simp, ⟨fun i u g1 g2 => ?_, fun i g1 => ?_⟩, fun i s g => ?_⟩
    · by_cases e1 : i = k
      · subst e1; rw [k3]; simp
      · have g1' := g1
        rw [k3, if_neg e1] at g1'
        split at g1'
        · cases g1'
        · rename_i e2
          split at g1'
          · cases g1'
          · rename_i e4
            have g3 := w1 i u g1' g2
            rw [k3]
            have c1 : ¬ i + 1 = k := fun e3 => by
              have : sl = .second := by rw [← e3] at hsl; exact Option.some.inj (hsl.symm.trans g3)
              exact e4 (Or.inl ⟨this, e3⟩)
            have c2 : ¬ i + 1 = k + 1 := by omega
            have c3 : ¬ ((sl = .second ∧ i + 1 + 1 = k) ∨ ((∃ u, sm = .val u ∧ u.category = 2) ∧ i + 1 = k + 2)) := fun z => by
              rcases z with ⟨z1, z2⟩ | ⟨z1, z2⟩
              · subst z2
                rw [z1] at hsl
                obtain ⟨j0, u0, y1, y2, y3⟩ := w2 _ hsl
                have : j0 = i + 1 := by omega
                subst this
                rw [g3] at y2; cases y2
              · omega
            rw [if_neg c1, if_neg c2, if_neg c3]
            exact g3
    · rw [k3] at g1
      split at g1
      · cases g1
      · rename_i e1
        split at g1
        · rename_i e2
          exact ⟨k, w, e2, by rw [k3]; simp, hc⟩
        · rename_i e2
          split at g1
          · cases g1
          · rename_i e4
            obtain ⟨j, u, z1, z2, z3⟩ := w2 i g1
            refine ⟨j, u, z1, ?_, z3⟩
            rw [k3]
            have c1 : ¬ j = k := by omega
            have c2 : ¬ j = k + 1 := fun e => by
              subst e
              exact e4 (Or.inr ⟨⟨u, Option.some.inj (hsm.symm.trans z2), z3⟩, by omega⟩)
            have c3 : ¬ ((sl = .second ∧ j + 1 = k) ∨ ((∃ u, sm = .val u ∧ u.category = 2) ∧ j = k + 2)) := fun z => by
              rcases z with ⟨y1, y2⟩ | ⟨⟨u', y1, y2⟩, y3⟩
              · exact e1 (z1.trans y2)
              · subst y3
                have g5 := w1 (k + 1) u' (y1 ▸ hsm) y2
                rw [z2] at g5; cases g5
            rw [if_neg c1, if_neg c2, if_neg c3]
            exact z2
    · rw [List.getElem?_set] at g
      split at g
      · rename_i e
        subst e
        have : k + 1 < (L.set k (.val v)).length := by simp [hk1]
        rw [if_pos this] at g
        cases g
        show A'[k + 1]? = some .second
        rw [k3]; simp
      · rename_i e
        have e' : ¬ i = k + 1 := fun z => e z.symm
        rw [List.getElem?_set] at g
        split at g
        · rename_i e0
          subst e0
          cases g
          exact ⟨w, hv, by rw [k3]; simp⟩
        · rename_i e0
          have e0' : ¬ i = k := fun z => e0 z.symm
          have g2 := hl i s g
          rw [k3, if_neg e0', if_neg e']
          split
          · rename_i e4
            cases s with
            | unset => trivial
            | second =>
              exfalso
              have g2' : A[i]? = some .second := g2
              rcases e4 with ⟨y1, y2⟩ | ⟨⟨u', y1, y2⟩, y3⟩
              · obtain ⟨j0, u0, x1, x2, x3⟩ := w2 k (y1 ▸ hsl)
                have : i = j0 := by omega
                subst this
                rw [x2] at g2'; cases g2'
              · subst y3
                rw [g] at q3
                simp [isSec] at q3
            | val v0 =>
              exfalso
              obtain ⟨w0, x1, x2⟩ := g2
              rcases e4 with ⟨y1, y2⟩ | ⟨⟨u', y1, y2⟩, y3⟩
              · obtain ⟨j0, u0, z1, z2, z3⟩ := w2 k (y1 ▸ hsl)
                have : i = j0 := by omega
                subst this
                have hw0 : w0 = u0 := by rw [x2] at z2; cases z2; rfl
                have hcat : v0.category = 2 := by rw [← x1.cat, hw0]; exact z3
                subst y2
                have : L[i + 1 - 1]? = some (.val v0) := g
                rw [this] at q2
                simp [isC2, hcat] at q2
              · subst y3
                have g5 := w1 (k + 1) u' (y1 ▸ hsm) y2
                rw [x2] at g5; cases g5
          · exact g2
  · cases hs
/-! The frame with which a method is entered -/
theorem entA_app (ws : List Value) : ∀ acc : Array Slot, ws.foldl (fun acc v => if v.category = 2 then (acc.push (.val v)).push .second else acc.push (.val v)) acc = acc ++ (entA ws).toArray := by
  induction ws with
  | nil => intro acc; simp [entA]
  | cons v r ih =>
    intro acc
    rw [List.foldl_cons, ih]
    show _ = acc ++ (if v.category = 2 then .val v :: .second :: entA r else .val v :: entA r).toArray
    by_cases h : v.category = 2
    · rw [if_pos h, if_pos h]; simp
    · rw [if_neg h, if_neg h]; simp
theorem argsToLocals_eq (ws : List Value) (n : Nat) : argsToLocals ws.toArray n = (entL ws n).toArray := by
  unfold argsToLocals entL
  have h := entA_app ws #[]
  simp only [List.foldl_toArray', List.size_toArray] at *
  simp [h]
theorem entA_len {ρ : List Addr} : ∀ {v w : List Value}, SR ρ v w → (entA w).length = (entA v).length
  | [], _, h => by cases h; rfl
  | _ :: _, _, ⟨w, ws, h1, h2, h3⟩ => by
    subst h1
    unfold entA
    rw [h2.cat]
    split <;> simp [entA_len h3]
theorem entA_rel {ρ : List Addr} : ∀ {v w : List Value}, SR ρ v w → ∀ (m i : Nat) (s : Slot), (entA v ++ List.replicate m .unset)[i]? = some s → SlR ρ s (entA w ++ List.replicate m .unset)[i]?
  | [], _, h, m, i, s, q => by
    cases h
    simp only [entA, List.nil_append] at q ⊢
    rw [List.getElem?_replicate] at q
    split at q
    · cases q; trivial
    · cases q
  | v :: vs, _, ⟨w, ws, h1, h2, h3⟩, m, i, s, q => by
    subst h1
    unfold entA at q ⊢
    rw [h2.cat]
    split
    · rename_i c
      rw [if_pos c] at q
      match i, q with
      | 0, q => simp at q; subst q; exact ⟨w, h2, by simp⟩
      | 1, q => simp at q; subst q; simp [SlR]
      | i + 2, q => simp at q ⊢; exact entA_rel h3 m i s q
    · rename_i c
      rw [if_neg c] at q
      match i, q with
      | 0, q => simp at q; subst q; exact ⟨w, h2, by simp⟩
      | i + 1, q => simp at q ⊢; exact entA_rel h3 m i s q
theorem entA_wf : ∀ (ws : List Value) (m : Nat), (∀ (i : Nat) w, (entA ws ++ List.replicate m .unset)[i]? = some (.val w) → w.category = 2 → (entA ws ++ List.replicate m .unset)[i + 1]? = some .second) ∧
    ∀ (i : Nat), (entA ws ++ List.replicate m .unset)[i]? = some .second → ∃ j w, i = j + 1 ∧ (entA ws ++ List.replicate m .unset)[j]? = some (.val w) ∧ w.category = 2
  | [], m => by
    constructor
    · intro i w q
      simp only [entA, List.nil_append, List.getElem?_replicate] at q
      split at q <;> cases q
    · intro i q
      simp only [entA, List.nil_append, List.getElem?_replicate] at q
      split at q <;> cases q
  | v :: vs, m => by
    obtain ⟨h1, h2⟩ := entA_wf vs m
    unfold entA
    split
    · rename_i c
      constructor
      · intro i w q
        match i, q with
        | 0, q => intro _; simp
        | 1, q => simp at q
        | i + 2, q => simp at q ⊢; exact h1 i w q
      · intro i q
        match i, q with
        | 0, q => simp at q
        | 1, q => exact ⟨0, v, rfl, by simp, c⟩
        | i + 2, q =>
          simp at q
          obtain ⟨j, w, e, g1, g2⟩ := h2 i q
          exact ⟨j + 2, w, by omega, by simpa using g1, g2⟩
    · rename_i c
      constructor
      · intro i w q
        match i, q with
        | 0, q => intro z; simp at q; subst q; exact absurd z c
        | i + 1, q => simp at q ⊢; exact h1 i w q
      · intro i q
        match i, q with
        | 0, q => simp at q
        | i + 1, q =>
          simp at q
          obtain ⟨j, w, e, g1, g2⟩ := h2 i q
          exact ⟨j + 1, w, by omega, by simpa using g1, g2⟩
theorem LR.enter {ρ : List Addr} {v w : List Value} (h : SR ρ v w) {n : Nat} (hn : (entA v).length ≤ n) : LR ρ (entL v n) (argsToLocals w.toArray n) ∧ (argsToLocals w.toArray n).size = n := by
  rw [argsToLocals_eq]
  have hl := entA_len h
  refine ⟨⟨by simp [entL, hl], ?_, fun i s q => ?_⟩, by simp [entL, hl]; omega⟩
  · obtain ⟨h1, h2⟩ := entA_wf w (n - (entA w).length)
    exact ⟨fun i u q c => by simpa [entL] using h1 i u (by simpa [entL] using q) c, fun i q => by
      obtain ⟨j, u, e, g1, g2⟩ := h2 i (by simpa [entL] using q)
      exact ⟨j, u, e, by simpa [entL] using g1, g2⟩⟩
  · unfold entL at q ⊢
    rw [hl]
    simpa using entA_rel h _ i s q
end Jvm.Own
namespace Jvm.RoadKit
open Sem ClassFile Op Lib Jvm.Stand Jvm.Free Jvm.LawKit
section New
variable {p : Program} {l : Launch} {e : Env} {R : Room} {s : State} {m : MethodId} {args : Array Value} {below : List Frame} {meth : Method} {c : Code} {T : State} {locs : List Loc} {cells slots : Nat}
theorem retI (X : Stand p l e R s m args below meth c T locs cells slots) (hx : p.tables.exec = Jvm.exec) {pc : Nat} {Ls : Array Slot} {z : Int32} {rest : List Value} (hret : meth.sig.returnType = some .int) (hd : decode c.code pc = .ok (.ireturn, 1)) {fs : List Frame}
    (hl : ∀ (f : JFrame) (acts : List Action), f.method = m → f.locked = none → f.entered = [] → (doReturn e (T.setTop f) acts (some (.int z))).1 = T.setFrames fs) : Steps p.tables e below (T.setTop (mkF m pc Ls (.int z :: rest))) (T.setFrames fs) := by
  have hm' : T.vm.method? m = some meth := X.method'
  have hn : narrow .int (.int z) = .int z := rfl
  show Steps p.tables e below (T.setTop { method := m, pc := pc, locals := Ls, stack := _ :: rest, locked := none }) _
  jvm_step X.here [X.here.top, hx, hd, hm', hret, hn]
  first | (intro acts; rw [hl _ acts rfl rfl rfl]) | rw [hl _ _ rfl rfl rfl]
  exact Steps.refl _
end New
end Jvm.RoadKit
namespace Jvm.Own
open Jvm Jvm.ClassFile Sem Op Lib Jvm.Free Jvm.Stand Jvm.LawKit Jvm.RoadKit Bundle
/-! The plain heap and the real one -/
def tyA (b : Bool) : FieldType := if b then .boolean else .int
def CR (P : PD) (Z : State) (h : Heap) (ρ : List Addr) (a : Addr) : ACell → Prop
  | .inl (c, fs) => ∃ cd, P.cls[c]? = some cd ∧ Exa Z h a cd.1 ∧ fs.length = cd.2.2.length ∧ ∀ (i : Nat) v fd, fs[i]? = some v → cd.2.2[i]? = some fd → ∃ w, VR ρ v w ∧ Fld Z h a cd.1 fd.1 fd.2.1 w
  | .inr (.inl (b, L)) => ∃ cl, Arr Z h a cl (tyA b) ∧ cl.slots.size = L.length ∧ L.length < 2 ^ 31 ∧ ∀ (i : Nat) x, L[i]? = some x → cl.slots[i]? = some (.int x)
  | .inr (.inr L) => ∃ cl, Arr Z h a cl .long ∧ cl.slots.size = L.length ∧ L.length < 2 ^ 31 ∧ ∀ (i : Nat) x, L[i]? = some x → cl.slots[i]? = some (.long x)
def HR (P : PD) (Z : State) (n0 : Nat) (h : Heap) (ρ : List Addr) (H : AHeap) : Prop :=
  n0 ≤ h.size ∧ ρ.length = H.length ∧ (∀ (i j : Nat) a, ρ[i]? = some a → ρ[j]? = some a → i = j) ∧ (∀ (k : Nat) a, ρ[k]? = some a → P.nr ≤ k → n0 ≤ a) ∧ ∀ (k : Nat) a c, ρ[k]? = some a → H[k]? = some c → CR P Z h ρ a c
section Heaps
variable {P : PD} {Z : State} {n0 : Nat} {h h' : Heap} {ρ : List Addr} {H : AHeap} {a : Addr} {k : Nat} {a0 : Array Value}
theorem CR.lt {c : ACell} (q : CR P Z h ρ a c) : a < h.size := by
  match c, q with
  | .inl (_, _), q => obtain ⟨cd, -, E, -⟩ := q; exact E.lt
  | .inr (.inl (_, _)), q => obtain ⟨cl, A, -⟩ := q; exact A.lt
  | .inr (.inr _), q => obtain ⟨cl, A, -⟩ := q; exact A.lt
theorem HR.at (q : HR P Z n0 h ρ H) {c : ACell} (hc : H[k]? = some c) : ∃ a, ρ[k]? = some a ∧ CR P Z h ρ a c := by
  obtain ⟨-, q1, -, -, q4⟩ := q
  have hk : k < ρ.length := by rw [q1]; exact (List.getElem?_eq_some_iff.mp hc).1
  exact ⟨ρ[k], List.getElem?_eq_getElem hk, q4 k _ c (List.getElem?_eq_getElem hk) hc⟩
theorem HR.lt (q : HR P Z n0 h ρ H) (hk : ρ[k]? = some a) : a < h.size := by
  obtain ⟨-, q1, -, -, q4⟩ := q
  have hk' : k < H.length := by rw [← q1]; exact (List.getElem?_eq_some_iff.mp hk).1
  exact (q4 k a _ hk (List.getElem?_eq_getElem hk')).lt
theorem CR.grow {t : List Addr} {c : ACell} (E : Ext h h') (q : CR P Z h ρ a c) : CR P Z h' (ρ ++ t) a c := by
  match c, q with
  | .inl (_, _), ⟨cd, q1, q2, q3, q4⟩ => exact ⟨cd, q1, q2.ext E, q3, fun i v fd g1 g2 => by obtain ⟨w, z1, z2⟩ := q4 i v fd g1 g2; exact ⟨w, z1.mono, z2.ext E⟩⟩
  | .inr (.inl (_, _)), ⟨cl, q1, q2⟩ => exact ⟨cl, q1.ext E, q2⟩
  | .inr (.inr _), ⟨cl, q1, q2⟩ => exact ⟨cl, q1.ext E, q2⟩
theorem HR.push {c : ACell} (q : HR P Z n0 h ρ H) (E : Ext h h') (hc : CR P Z h' (ρ ++ [h.size]) h.size c) : HR P Z n0 h' (ρ ++ [h.size]) (H ++ [c]) := by
  have q0 := q
  obtain ⟨q1, q2, q3, q4, q5⟩ := q
  have old : ∀ (i : Nat) b, (ρ ++ [h.size])[i]? = some b → (ρ[i]? = some b ∧ b < h.size) ∨ (i = ρ.length ∧ b = h.size) := fun i b g => by
    rw [List.getElem?_append] at g
    split at g
    · exact Or.inl ⟨g, q0.lt g⟩
    · rename_i z
      right
      have : i - ρ.length = 0 := by
        rcases Nat.eq_zero_or_pos (i - ρ.length) with y | y
        · exact y
        · rw [List.getElem?_eq_none (by simp; omega)] at g; cases g
      rw [this] at g
      simp at g
      exact ⟨by omega, g.symm⟩
  refine ⟨Nat.le_trans q1 E.1, by simp [q2], fun i j b g1 g2 => ?_, fun i b g1 g2 => ?_, fun i b c' g1 g2 => ?_⟩
  · rcases old i b g1 with ⟨y1, y2⟩ | ⟨y1, y2⟩ <;> rcases old j b g2 with ⟨z1, z2⟩ | ⟨z1, z2⟩
    · exact q3 i j b y1 z1
    · exact absurd (z2 ▸ y2) (Nat.lt_irrefl _)
    · exact absurd (y2 ▸ z2) (Nat.lt_irrefl _)
    · rw [y1, z1]
  · rcases old i b g1 with ⟨y1, y2⟩ | ⟨y1, y2⟩
    · exact q4 i b y1 g2
    · rw [y2]; exact q1
  · rcases old i b g1 with ⟨y1, y2⟩ | ⟨y1, y2⟩
    · have hi : i < H.length := by rw [← q2]; exact (List.getElem?_eq_some_iff.mp y1).1
      rw [List.getElem?_append_left hi] at g2
      exact (q5 i b c' y1 g2).grow E
    · subst y1 y2
      rw [q2] at g2
      simp at g2
      subst g2
      exact hc
theorem CR.other {v : Value} {sl : Nat} {b : Addr} {c : ACell} (W : Wr h h' a sl v) (ne : b ≠ a) (q : CR P Z h ρ b c) : CR P Z h' ρ b c := by
  match c, q with
  | .inl (_, _), ⟨cd, q1, q2, q3, q4⟩ => exact ⟨cd, q1, q2.wr W, q3, fun i v fd g1 g2 => by obtain ⟨w, z1, z2⟩ := q4 i v fd g1 g2; exact ⟨w, z1, z2.other W (Or.inl ne)⟩⟩
  | .inr (.inl (_, _)), ⟨cl, q1, q2⟩ => exact ⟨cl, q1.other W ne, q2⟩
  | .inr (.inr _), ⟨cl, q1, q2⟩ => exact ⟨cl, q1.other W ne, q2⟩
theorem HR.set {v : Value} {sl : Nat} {c : ACell} (q : HR P Z n0 h ρ H) (hk : ρ[k]? = some a) (W : Wr h h' a sl v) (hc : CR P Z h' ρ a c) : HR P Z n0 h' ρ (H.set k c) := by
  obtain ⟨q1, q2, q3, q4, q5⟩ := q
  refine ⟨by rw [W.size]; exact q1, by simp [q2], q3, q4, fun i b c' g1 g2 => ?_⟩
  rw [List.getElem?_set] at g2
  split at g2
  · rename_i e
    subst e
    split at g2
    · cases g2
      rw [hk] at g1; cases g1
      exact hc
    · cases g2
  · rename_i e
    exact (q5 i b c' g1 g2).other W fun z => e (q3 k i a hk (z ▸ g1))
theorem nodup_ne : ∀ {l : List String}, nodup l = true → ∀ {i j : Nat} {x y : String}, l[i]? = some x → l[j]? = some y → i ≠ j → x ≠ y
  | [], _, i, j, x, y, h1, _, _ => by simp at h1
  | z :: r, hn, i, j, x, y, h1, h2, ne => by
    simp only [nodup, Bool.and_eq_true, Bool.not_eq_true', List.contains_eq_mem, decide_eq_false_iff_not] at hn
    match i, j, h1, h2, ne with
    | 0, 0, _, _, ne => exact absurd rfl ne
    | 0, j + 1, h1, h2, _ => simp at h1 h2; subst h1; exact fun e => hn.1 (e ▸ List.mem_of_getElem? h2)
    | i + 1, 0, h1, h2, _ => simp at h1 h2; subst h2; exact fun e => hn.1 (e ▸ List.mem_of_getElem? h1)
    | i + 1, j + 1, h1, h2, ne => simp at h1 h2; exact nodup_ne hn.2 h1 h2 (fun e => ne (by rw [e]))
theorem laid_of {C : String} {f : FD} (w : (fWord C f).before a0 Z = true) : Laid Z a0 C C f.1 f.2.1 := by
  unfold fWord at w
  split at w
  · exact Or.inr w
  · exact Or.inl w
theorem HR.putF {c j : Nat} {fs : List Value} {cd : CD} {fd : FD} {v w : Value} (q : HR P Z n0 h ρ H) (hk : ρ[k]? = some a) (hc : H[k]? = some (.inl (c, fs))) (hcd : P.cls[c]? = some cd) (hfd : cd.2.2[j]? = some fd)
    (hck : cChk cd = true) (hl : ∀ f ∈ cd.2.2, (fWord cd.1 f).before a0 Z = true) (W : Wr h h' a (RoadKit.slotOf Z cd.1 fd.1 fd.2.1) w) (hv : VR ρ v w) : HR P Z n0 h' ρ (H.set k (.inl (c, fs.set j v))) := by
  obtain ⟨a', ha, cr⟩ := q.at hc
  rw [hk] at ha; cases ha
  obtain ⟨cd', q1, q2, q3, q4⟩ := cr
  rw [hcd] at q1; cases q1
  refine q.set hk W ⟨cd, hcd, q2.wr W, by simp [q3], fun i v0 fd' g1 g2 => ?_⟩
  simp only [cChk, Bool.and_eq_true, List.all_eq_true] at hck
  obtain ⟨n1, n2⟩ := hck
  by_cases e : j = i
  · subst e
    rw [hfd] at g2; cases g2
    rw [List.getElem?_set] at g1
    split at g1
    · split at g1
      · cases g1
        rename_i z
        obtain ⟨w0, -, F⟩ := q4 j _ fd (List.getElem?_eq_getElem z) hfd
        exact ⟨w, hv, F.same W⟩
      · cases g1
    · rename_i z; exact absurd rfl z
  · rw [List.getElem?_set_ne e] at g1
    obtain ⟨w0, z1, F⟩ := q4 i v0 fd' g1 g2
    refine ⟨w0, z1, F.other W (Or.inr ?_)⟩
    have m1 := List.mem_of_getElem? hfd
    have m2 := List.mem_of_getElem? g2
    have f1 := n2 fd m1
    have f2 := n2 fd' m2
    simp only [fChk, Bool.and_eq_true, decide_eq_true_eq] at f1 f2
    refine slot_ne (laid_of (hl fd' m2)) (laid_of (hl fd m1)) ?_ f2.1 f1.1
    exact nodup_ne n1 (i := i) (j := j) (by simp [g2]) (by simp [hfd]) (fun z => e z.symm)
theorem HR.wrI {b : Bool} {L : List Int32} {i : Nat} {x : Int32} (q : HR P Z n0 h ρ H) (hk : ρ[k]? = some a) (hc : H[k]? = some (.inr (.inl (b, L)))) (W : Wr h h' a i (.int x)) : HR P Z n0 h' ρ (H.set k (.inr (.inl (b, L.set i x)))) := by
  obtain ⟨a', ha, cr⟩ := q.at hc
  rw [hk] at ha; cases ha
  obtain ⟨cl, A, q2, q3, q4⟩ := cr
  have lt : i < cl.slots.size := by
    obtain ⟨cl', z1, -, z3, -⟩ := W
    rw [A.1] at z1; cases z1
    exact z3
  refine q.set hk W ⟨_, A.same W, by simp [sz_set, q2], by simpa using q3, fun j y g => ?_⟩
  rw [List.getElem?_set] at g
  split at g
  · rename_i e
    subst e
    split at g
    · cases g; simp [Cell.setSlot, lt]
    · cases g
  · rename_i e
    have := q4 j y g
    simp [Cell.setSlot, Array.getElem?_setIfInBounds, e, this]
theorem HR.wrJ {L : List Int64} {i : Nat} {x : Int64} (q : HR P Z n0 h ρ H) (hk : ρ[k]? = some a) (hc : H[k]? = some (.inr (.inr L))) (W : Wr h h' a i (.long x)) : HR P Z n0 h' ρ (H.set k (.inr (.inr (L.set i x)))) := by
  obtain ⟨a', ha, cr⟩ := q.at hc
  rw [hk] at ha; cases ha
  obtain ⟨cl, A, q2, q3, q4⟩ := cr
  have lt : i < cl.slots.size := by
    obtain ⟨cl', z1, -, z3, -⟩ := W
    rw [A.1] at z1; cases z1
    exact z3
  refine q.set hk W ⟨_, A.same W, by simp [sz_set, q2], by simpa using q3, fun j y g => ?_⟩
  rw [List.getElem?_set] at g
  split at g
  · rename_i e
    subst e
    split at g
    · cases g; simp [Cell.setSlot, lt]
    · cases g
  · rename_i e
    have := q4 j y g
    simp [Cell.setSlot, Array.getElem?_setIfInBounds, e, this]
end Heaps
theorem SR.int {ρ : List Addr} {x : Int32} {S Sc : List Value} (h : SR ρ (.int x :: S) Sc) : ∃ Sc', Sc = .int x :: Sc' ∧ SR ρ S Sc' := by
  obtain ⟨w, ws, h1, h2, h3⟩ := h
  exact ⟨ws, by rw [h1, show w = .int x from h2], h3⟩
theorem SR.long {ρ : List Addr} {x : Int64} {S Sc : List Value} (h : SR ρ (.long x :: S) Sc) : ∃ Sc', Sc = .long x :: Sc' ∧ SR ρ S Sc' := by
  obtain ⟨w, ws, h1, h2, h3⟩ := h
  exact ⟨ws, by rw [h1, show w = .long x from h2], h3⟩
theorem SR.ref {ρ : List Addr} {x : Nat} {S Sc : List Value} (h : SR ρ (.ref x :: S) Sc) : ∃ a Sc', ρ[x]? = some a ∧ Sc = .ref a :: Sc' ∧ SR ρ S Sc' := by
  obtain ⟨w, ws, h1, ⟨a, h2, h4⟩, h3⟩ := h
  exact ⟨a, ws, h2, by rw [h1, h4], h3⟩
theorem rdA_spec {α : Type} {L : List α} {j : Int32} {x : α} (h : rdA L j = some x) : ¬ j < 0 ∧ L[j.toNatClampNeg]? = some x := by
  unfold rdA at h
  split at h
  · cases h
  · rename_i q; exact ⟨q, h⟩
theorem wrA_spec {α : Type} {L L' : List α} {j : Int32} {x : α} (h : wrA L j x = some L') : ¬ j < 0 ∧ j.toNatClampNeg < L.length ∧ L' = L.set j.toNatClampNeg x := by
  unfold wrA at h
  split at h
  · cases h
  · rename_i q
    split at h
    · rename_i z; cases h; exact ⟨q, z, rfl⟩
    · cases h
end Jvm.Own
namespace Jvm.Own
open Jvm Jvm.ClassFile Sem Op Lib Jvm.Free Jvm.Stand Jvm.LawKit Jvm.RoadKit Bundle
theorem st1_len {L L' : List Slot} {k : Nat} {v : Value} (h : st1 L k v = some L') : L'.length = L.length := by
  unfold st1 at h
  split at h
  · cases h; simp
  · cases h
theorem st2_len {L L' : List Slot} {k : Nat} {v : Value} (h : st2 L k v = some L') : L'.length = L.length := by
  unfold st2 at h
  split at h
  · cases h; simp
  · cases h
theorem lrem_mod (x y : Int64) : x - (x / y) * y = x % y := by
  apply Int64.toInt_inj.mp
  have h1 := Int64.le_toInt (x % y)
  have h2 := Int64.toInt_lt (x % y)
  rw [Int64.toInt_sub, Int64.toInt_mul, Int64.toInt_div, Int.bmod_mul_bmod, Int.sub_bmod_bmod, Int.mul_comm (x.toInt.tdiv y.toInt), ← Int.tmod_def, ← Int64.toInt_mod]
  exact Int.bmod_eq_of_le_mul_two (by omega) (by omega)
theorem putOk_sim {ρ : List Addr} {ty : FieldType} {v w : Value} (h : putOk ty v = true) (hv : VR ρ v w) : narrow ty w = w ∧ fits ty w = true := by
  cases ty <;> cases v <;> first | (simp [putOk] at h; done) | skip
  · cases hv; exact ⟨rfl, rfl⟩
  · cases hv; exact ⟨rfl, rfl⟩
  · rename_i x
    cases hv
    simp only [putOk, Bool.or_eq_true, beq_iff_eq] at h
    rcases h with rfl | rfl
    · exact ⟨rfl, rfl⟩
    · exact ⟨rfl, rfl⟩
  · obtain ⟨a, -, rfl⟩ := hv; exact ⟨rfl, rfl⟩
theorem dflt_sim {ρ : List Addr} {ty : FieldType} (h : dfOk ty = true) : VR ρ (dflt ty) (defaultValue ty) := by
  cases ty <;> first | (simp [dfOk] at h; done) | exact rfl
theorem fieldOf_spec {P : PD} {c a : Nat} {cd : CD} {f : FD} (h1 : P.cls[c]? = some cd) (h2 : cd.2.2[a]? = some f) : fieldOf P c a = some f := by simp [fieldOf, h1, h2]
theorem in_wordsOf {P : PD} {d : MD} {x : Nat × It} {w : Jvm.Cond} (hd : d ∈ P.mth) (hx : x ∈ d.code) (hw : w ∈ iWords P d x) : w ∈ wordsOf P :=
  List.mem_append_right _ (List.mem_flatMap.mpr ⟨d, hd, List.mem_flatMap.mpr ⟨x, hx, hw⟩⟩)
theorem in_wordsC {P : PD} {cd : CD} {w : Jvm.Cond} (hd : cd ∈ P.cls) (hw : w ∈ cWords cd) : w ∈ wordsOf P :=
  List.mem_append_left _ (List.mem_append_left _ (List.mem_flatMap.mpr ⟨cd, hd, hw⟩))
theorem in_wordsM {P : PD} {y : MD} {j : Nat} {w : Jvm.Cond} (hd : P.mth[j]? = some y) (hj : 0 < j) (hw : w ∈ mWords y) : w ∈ wordsOf P := by
  refine List.mem_append_left _ (List.mem_append_right _ (List.mem_flatMap.mpr ⟨y, ?_, hw⟩))
  have : (P.mth.drop 1)[j - 1]? = some y := by rw [List.getElem?_drop]; rw [show 1 + (j - 1) = j by omega]; exact hd
  exact List.mem_of_getElem? this
theorem fWord_in {cd : CD} {f : FD} (h : f ∈ cd.2.2) : fWord cd.1 f ∈ cWords cd := List.mem_cons_of_mem _ (List.mem_cons_of_mem _ (List.mem_map.mpr ⟨f, h, rfl⟩))
theorem cChk_of {P : PD} (hP : chk P = true) {cd : CD} (h : cd ∈ P.cls) : cChk cd = true := by
  simp only [chk, Bool.and_eq_true, List.all_eq_true] at hP
  exact hP.1 cd h
theorem mChk_of {P : PD} (hP : chk P = true) {d : MD} (h : d ∈ P.mth) : mChk P d = true := by
  simp only [chk, Bool.and_eq_true, List.all_eq_true] at hP
  exact hP.2 d h
theorem cid_of {P : PD} (hP : chk P = true) {d : MD} (h : d ∈ P.mth) {cd : CD} (hc : P.cls[d.cid]? = some cd) : cd.1 = d.name.cls := by
  have := mChk_of hP h
  simp only [mChk, Bool.and_eq_true] at this
  have h4 := this.1.1.1.2
  unfold clsChk at h4
  rw [hc] at h4
  simpa using h4
section Step
variable {P : PD} {Z : State} {n0 : Nat} {a0 : Array Value} {l : Launch} {p : Program} {e : Env} {R : Room} {s : State} {m : MethodId} {args : Array Value} {below : List Frame} {meth : Method} {c : Code} {T : State} {locs : List Loc} {cells slots : Nat} {d : MD}
def Nxt (P : PD) (Z : State) (n0 : Nat) (l : Launch) (p : Program) (e : Env) (R : Room) (s : State) (m : MethodId) (args : Array Value) (below : List Frame) (meth : Method) (c : Code) (T : State) (cells slots : Nat) (ρ : List Addr) (g : JFrame) (pc' : Nat) (L L' : List Slot) (S' : List Value) (H1 : AHeap) : Prop :=
  ∃ T' locs' A' Sc', Stand p l e R s m args below meth c T' locs' cells slots ∧ L'.length = L.length ∧ LR ρ L' A' ∧ SR ρ S' Sc' ∧ HR P Z n0 T'.heap ρ H1 ∧ Fr n0 locs' ∧
    ∀ target, Steps p.tables e below (T'.setTop (mkF m pc' A' Sc')) target → Steps p.tables e below (T.setTop g) target
theorem Nxt.pure {ρ : List Addr} {H : AHeap} {g : JFrame} {pc' : Nat} {L L' : List Slot} {S' Sc' : List Value} {A' : Array Slot} (X : Stand p l e R s m args below meth c T locs cells slots) (hl : L'.length = L.length) (hL : LR ρ L' A') (hS : SR ρ S' Sc') (hH : HR P Z n0 T.heap ρ H) (hF : Fr n0 locs)
    (k : ∀ target, Steps p.tables e below (T.setTop (mkF m pc' A' Sc')) target → Steps p.tables e below (T.setTop g) target) : Nxt P Z n0 l p e R s m args below meth c T cells slots ρ g pc' L L' S' H :=
  ⟨T, locs, A', Sc', X, hl, hL, hS, hH, hF, k⟩
theorem Nxt.mem {ρ : List Addr} {H1 : AHeap} {g : JFrame} {pc' : Nat} {L L' : List Slot} {S' Sc' : List Value} {A' : Array Slot} {T' : State} {locs' : List Loc} (X : Stand p l e R s m args below meth c T' locs' cells slots) (hl : L'.length = L.length) (hL : LR ρ L' A') (hS : SR ρ S' Sc') (hH : HR P Z n0 T'.heap ρ H1) (hF : Fr n0 locs')
    (k : ∀ target, Steps p.tables e below (T'.setTop (mkF m pc' A' Sc')) target → Steps p.tables e below (T.setTop g) target) : Nxt P Z n0 l p e R s m args below meth c T cells slots ρ g pc' L L' S' H1 :=
  ⟨T', locs', A', Sc', X, hl, hL, hS, hH, hF, k⟩
set_option maxHeartbeats 4000000 in
theorem stepX (X : Stand p l e R s m args below meth c T locs cells slots) (hx : p.tables.exec = Jvm.exec) (hZ : Z.Warmed39 s.vm) (hown : s.vm.findClass d.name.cls = some m.cls) (hnm : meth.name = d.name.name) (hP : chk P = true) (hW : ∀ w ∈ wordsOf P, w.before a0 Z = true) (hdm : d ∈ P.mth)
    {pc len a : Nat} {er : List Bool} {b : Int} {i : Instr} (hit : (pc, i, len, er, a, b) ∈ d.code) (hd : decode c.code pc = .ok (i, len)) (hlen : lenOk i len = true) {ρ : List Addr} {L L' : List Slot} {S S' Sc : List Value} {H H1 : AHeap} {A : Array Slot}
    (hL : LR ρ L A) (hS : SR ρ S Sc) (hH : HR P Z n0 T.heap ρ H) (hF : Fr n0 locs) (h : xI P (d.name.name == "<init>") d.cid i a b L S H = some (L', S', H1)) :
    Nxt P Z n0 l p e R s m args below meth c T cells slots ρ (mkF m pc A Sc) (pc + len) L L' S' H1 := by
  have hWi : ∀ w ∈ iWords P d (pc, i, len, er, a, b), w.before a0 Z = true := fun w q => hW w (in_wordsOf hdm hit q)
  cases i with
  | aload_n k =>
    obtain rfl : len = 1 := by simpa [lenOk] using hlen
    simp only [xI] at h
    split at h
    · rename_i x q
      cases h
      obtain ⟨w, hv, hg⟩ := hL.get q
      obtain ⟨ad, h1, rfl⟩ := hv
      exact Nxt.pure X rfl hL ⟨_, _, rfl, ⟨ad, h1, rfl⟩, hS⟩ hH hF (fun t z => XS.aloadN (g := mkF m pc A Sc) X.here hx rfl hd hg rfl z)
    · cases h
  | aload k =>
    obtain rfl : len = 2 := by simpa [lenOk] using hlen
    simp only [xI] at h
    split at h
    · rename_i x q
      cases h
      obtain ⟨w, hv, hg⟩ := hL.get q
      obtain ⟨ad, h1, rfl⟩ := hv
      exact Nxt.pure X rfl hL ⟨_, _, rfl, ⟨ad, h1, rfl⟩, hS⟩ hH hF (fun t z => XS.aload (g := mkF m pc A Sc) X.here hx rfl hd hg rfl z)
    · cases h
  | iload_n k =>
    obtain rfl : len = 1 := by simpa [lenOk] using hlen
    simp only [xI] at h
    split at h
    · rename_i x q
      cases h
      obtain ⟨w, hv, hg⟩ := hL.get q
      obtain rfl : w = .int _ := hv
      exact Nxt.pure X rfl hL ⟨_, _, rfl, rfl, hS⟩ hH hF (fun t z => XS.iloadN (g := mkF m pc A Sc) X.here hx rfl hd hg z)
    · cases h
  | iload k =>
    obtain rfl : len = 2 := by simpa [lenOk] using hlen
    simp only [xI] at h
    split at h
    · rename_i x q
      cases h
      obtain ⟨w, hv, hg⟩ := hL.get q
      obtain rfl : w = .int _ := hv
      exact Nxt.pure X rfl hL ⟨_, _, rfl, rfl, hS⟩ hH hF (fun t z => XS.iload (g := mkF m pc A Sc) X.here hx rfl hd hg z)
    · cases h
  | lload_n k =>
    obtain rfl : len = 1 := by simpa [lenOk] using hlen
    simp only [xI] at h
    split at h
    · rename_i x q
      cases h
      obtain ⟨w, hv, hg⟩ := hL.get q
      obtain rfl : w = .long _ := hv
      exact Nxt.pure X rfl hL ⟨_, _, rfl, rfl, hS⟩ hH hF (fun t z => XT.lloadN (g := mkF m pc A Sc) X.here hx rfl hd hg z)
    · cases h
  | lload k =>
    obtain rfl : len = 2 := by simpa [lenOk] using hlen
    simp only [xI] at h
    split at h
    · rename_i x q
      cases h
      obtain ⟨w, hv, hg⟩ := hL.get q
      obtain rfl : w = .long _ := hv
      exact Nxt.pure X rfl hL ⟨_, _, rfl, rfl, hS⟩ hH hF (fun t z => XT.lload (g := mkF m pc A Sc) X.here hx rfl hd hg z)
    · cases h
  | istore_n k =>
    obtain rfl : len = 1 := by simpa [lenOk] using hlen
    simp only [xI] at h
    split at h
    · rename_i x S0
      obtain ⟨L1, q, e1⟩ := Option.map_eq_some_iff.mp h
      cases e1
      obtain ⟨S2, rfl, h2⟩ := hS.int
      obtain ⟨A', z1, z2⟩ := store1_sim hL q (show VR ρ (.int x) (.int x) from rfl) rfl
      exact Nxt.pure X (st1_len q) z2 h2 hH hF (fun t z => XS.istoreN (g := mkF m pc A _) X.here hx rfl hd rfl z1 z)
    · cases h
  | istore k =>
    obtain rfl : len = 2 := by simpa [lenOk] using hlen
    simp only [xI] at h
    split at h
    · rename_i x S0
      obtain ⟨L1, q, e1⟩ := Option.map_eq_some_iff.mp h
      cases e1
      obtain ⟨S2, rfl, h2⟩ := hS.int
      obtain ⟨A', z1, z2⟩ := store1_sim hL q (show VR ρ (.int x) (.int x) from rfl) rfl
      exact Nxt.pure X (st1_len q) z2 h2 hH hF (fun t z => XS.istore (g := mkF m pc A _) X.here hx rfl hd rfl z1 z)
    · cases h
  | astore_n k =>
    obtain rfl : len = 1 := by simpa [lenOk] using hlen
    simp only [xI] at h
    split at h
    · rename_i x S0
      obtain ⟨L1, q, e1⟩ := Option.map_eq_some_iff.mp h
      cases e1
      obtain ⟨ad, S2, h1, rfl, h2⟩ := hS.ref
      obtain ⟨A', z1, z2⟩ := store1_sim hL q (show VR ρ (.ref x) (.ref ad) from ⟨ad, h1, rfl⟩) rfl
      exact Nxt.pure X (st1_len q) z2 h2 hH hF (fun t z => XS.astoreN (g := mkF m pc A _) X.here hx rfl hd rfl rfl z1 z)
    · cases h
  | astore k =>
    obtain rfl : len = 2 := by simpa [lenOk] using hlen
    simp only [xI] at h
    split at h
    · rename_i x S0
      obtain ⟨L1, q, e1⟩ := Option.map_eq_some_iff.mp h
      cases e1
      obtain ⟨ad, S2, h1, rfl, h2⟩ := hS.ref
      obtain ⟨A', z1, z2⟩ := store1_sim hL q (show VR ρ (.ref x) (.ref ad) from ⟨ad, h1, rfl⟩) rfl
      exact Nxt.pure X (st1_len q) z2 h2 hH hF (fun t z => XS.astore (g := mkF m pc A _) X.here hx rfl hd rfl rfl z1 z)
    · cases h
  | lstore_n k =>
    obtain rfl : len = 1 := by simpa [lenOk] using hlen
    simp only [xI] at h
    split at h
    · rename_i x S0
      obtain ⟨L1, q, e1⟩ := Option.map_eq_some_iff.mp h
      cases e1
      obtain ⟨S2, rfl, h2⟩ := hS.long
      obtain ⟨A', z1, z2⟩ := store2_sim hL q (show VR ρ (.long x) (.long x) from rfl) rfl
      exact Nxt.pure X (st2_len q) z2 h2 hH hF (fun t z => XT.lstoreN (g := mkF m pc A _) X.here hx rfl hd rfl z1 z)
    · cases h
  | lstore k =>
    obtain rfl : len = 2 := by simpa [lenOk] using hlen
    simp only [xI] at h
    split at h
    · rename_i x S0
      obtain ⟨L1, q, e1⟩ := Option.map_eq_some_iff.mp h
      cases e1
      obtain ⟨S2, rfl, h2⟩ := hS.long
      obtain ⟨A', z1, z2⟩ := store2_sim hL q (show VR ρ (.long x) (.long x) from rfl) rfl
      exact Nxt.pure X (st2_len q) z2 h2 hH hF (fun t z => XT.lstore (g := mkF m pc A _) X.here hx rfl hd rfl z1 z)
    · cases h
  | iinc k dd =>
    obtain rfl : len = 3 := by simpa [lenOk] using hlen
    simp only [xI] at h
    split at h
    · rename_i x q0
      obtain ⟨L1, q, e1⟩ := Option.map_eq_some_iff.mp h
      cases e1
      obtain ⟨w, hv, hg⟩ := hL.get q0
      obtain rfl : w = .int _ := hv
      obtain ⟨A', z1, z2⟩ := store1_sim hL q (show VR ρ (.int (x + Int32.ofInt dd)) (.int (x + Int32.ofInt dd)) from rfl) rfl
      exact Nxt.pure X (st1_len q) z2 hS hH hF (fun t z => XS.iinc (g := mkF m pc A Sc) X.here hx rfl hd hg z1 z)
    · cases h
  | iconst v =>
    obtain rfl : len = 1 := by simpa [lenOk] using hlen
    simp only [xI] at h
    cases h
    exact Nxt.pure X rfl hL ⟨_, _, rfl, rfl, hS⟩ hH hF (fun t z => XS.iconst (g := mkF m pc A Sc) X.here hx rfl hd z)
  | bipush v =>
    obtain rfl : len = 2 := by simpa [lenOk] using hlen
    simp only [xI] at h
    cases h
    exact Nxt.pure X rfl hL ⟨_, _, rfl, rfl, hS⟩ hH hF (fun t z => XS.bipush (g := mkF m pc A Sc) X.here hx rfl hd z)
  | sipush v =>
    obtain rfl : len = 3 := by simpa [lenOk] using hlen
    simp only [xI] at h
    cases h
    exact Nxt.pure X rfl hL ⟨_, _, rfl, rfl, hS⟩ hH hF (fun t z => XS.sipush (g := mkF m pc A Sc) X.here hx rfl hd z)
  | lconst v =>
    obtain rfl : len = 1 := by simpa [lenOk] using hlen
    simp only [xI] at h
    cases h
    exact Nxt.pure X rfl hL ⟨_, _, rfl, rfl, hS⟩ hH hF (fun t z => XT.lconst (g := mkF m pc A Sc) X.here hx rfl hd z)
  | ldc k =>
    obtain rfl : len = 2 := by simpa [lenOk] using hlen
    simp only [xI] at h
    cases h
    have w1 := hWi (.constant d.name.cls k (Int32.ofInt b)) (List.mem_singleton.mpr rfl)
    exact Nxt.pure X rfl hL ⟨_, _, rfl, rfl, hS⟩ hH hF (fun t z => X.ldcInt hx hown (mvT hZ w1) (g := mkF m pc A Sc) rfl hd t z)
  | ldc2_w k =>
    obtain rfl : len = 3 := by simpa [lenOk] using hlen
    simp only [xI] at h
    cases h
    have w1 := hWi (.constantLong d.name.cls k (Int64.ofInt b)) (List.mem_singleton.mpr rfl)
    exact Nxt.pure X rfl hL ⟨_, _, rfl, rfl, hS⟩ hH hF (fun t z => X.ldc2Long hx hown (mvT hZ w1) (g := mkF m pc A Sc) rfl hd t z)
  | iadd =>
    obtain rfl : len = 1 := by simpa [lenOk] using hlen
    simp only [xI] at h
    split at h
    · rename_i y x S0
      cases h
      obtain ⟨S1, rfl, h1⟩ := hS.int
      obtain ⟨S2, rfl, h2⟩ := h1.int
      exact Nxt.pure X rfl hL ⟨_, _, rfl, rfl, h2⟩ hH hF (fun t z => XS.iadd (g := mkF m pc A _) X.here hx rfl hd rfl z)
    · cases h
  | isub =>
    obtain rfl : len = 1 := by simpa [lenOk] using hlen
    simp only [xI] at h
    split at h
    · rename_i y x S0
      cases h
      obtain ⟨S1, rfl, h1⟩ := hS.int
      obtain ⟨S2, rfl, h2⟩ := h1.int
      exact Nxt.pure X rfl hL ⟨_, _, rfl, rfl, h2⟩ hH hF (fun t z => XS.isub (g := mkF m pc A _) X.here hx rfl hd rfl z)
    · cases h
  | imul =>
    obtain rfl : len = 1 := by simpa [lenOk] using hlen
    simp only [xI] at h
    split at h
    · rename_i y x S0
      cases h
      obtain ⟨S1, rfl, h1⟩ := hS.int
      obtain ⟨S2, rfl, h2⟩ := h1.int
      exact Nxt.pure X rfl hL ⟨_, _, rfl, rfl, h2⟩ hH hF (fun t z => XS.imul (g := mkF m pc A _) X.here hx rfl hd rfl z)
    · cases h
  | iand =>
    obtain rfl : len = 1 := by simpa [lenOk] using hlen
    simp only [xI] at h
    split at h
    · rename_i y x S0
      cases h
      obtain ⟨S1, rfl, h1⟩ := hS.int
      obtain ⟨S2, rfl, h2⟩ := h1.int
      exact Nxt.pure X rfl hL ⟨_, _, rfl, rfl, h2⟩ hH hF (fun t z => XS.iand (g := mkF m pc A _) X.here hx rfl hd rfl z)
    · cases h
  | ior =>
    obtain rfl : len = 1 := by simpa [lenOk] using hlen
    simp only [xI] at h
    split at h
    · rename_i y x S0
      cases h
      obtain ⟨S1, rfl, h1⟩ := hS.int
      obtain ⟨S2, rfl, h2⟩ := h1.int
      exact Nxt.pure X rfl hL ⟨_, _, rfl, rfl, h2⟩ hH hF (fun t z => XT.ior (g := mkF m pc A _) X.here hx rfl hd rfl z)
    · cases h
  | ixor =>
    obtain rfl : len = 1 := by simpa [lenOk] using hlen
    simp only [xI] at h
    split at h
    · rename_i y x S0
      cases h
      obtain ⟨S1, rfl, h1⟩ := hS.int
      obtain ⟨S2, rfl, h2⟩ := h1.int
      exact Nxt.pure X rfl hL ⟨_, _, rfl, rfl, h2⟩ hH hF (fun t z => XT.ixor (g := mkF m pc A _) X.here hx rfl hd rfl z)
    · cases h
  | ishl =>
    obtain rfl : len = 1 := by simpa [lenOk] using hlen
    simp only [xI] at h
    split at h
    · rename_i y x S0
      cases h
      obtain ⟨S1, rfl, h1⟩ := hS.int
      obtain ⟨S2, rfl, h2⟩ := h1.int
      exact Nxt.pure X rfl hL ⟨_, _, rfl, rfl, h2⟩ hH hF (fun t z => XT.ishl (g := mkF m pc A _) X.here hx rfl hd rfl z)
    · cases h
  | ishr =>
    obtain rfl : len = 1 := by simpa [lenOk] using hlen
    simp only [xI] at h
    split at h
    · rename_i y x S0
      cases h
      obtain ⟨S1, rfl, h1⟩ := hS.int
      obtain ⟨S2, rfl, h2⟩ := h1.int
      exact Nxt.pure X rfl hL ⟨_, _, rfl, rfl, h2⟩ hH hF (fun t z => XT.ishr (g := mkF m pc A _) X.here hx rfl hd rfl z)
    · cases h
  | iushr =>
    obtain rfl : len = 1 := by simpa [lenOk] using hlen
    simp only [xI] at h
    split at h
    · rename_i y x S0
      cases h
      obtain ⟨S1, rfl, h1⟩ := hS.int
      obtain ⟨S2, rfl, h2⟩ := h1.int
      exact Nxt.pure X rfl hL ⟨_, _, rfl, rfl, h2⟩ hH hF (fun t z => XT.iushr (g := mkF m pc A _) X.here hx rfl hd rfl z)
    · cases h
  | ladd =>
    obtain rfl : len = 1 := by simpa [lenOk] using hlen
    simp only [xI] at h
    split at h
    · rename_i y x S0
      cases h
      obtain ⟨S1, rfl, h1⟩ := hS.long
      obtain ⟨S2, rfl, h2⟩ := h1.long
      exact Nxt.pure X rfl hL ⟨_, _, rfl, rfl, h2⟩ hH hF (fun t z => XT.ladd (g := mkF m pc A _) X.here hx rfl hd rfl z)
    · cases h
  | lsub =>
    obtain rfl : len = 1 := by simpa [lenOk] using hlen
    simp only [xI] at h
    split at h
    · rename_i y x S0
      cases h
      obtain ⟨S1, rfl, h1⟩ := hS.long
      obtain ⟨S2, rfl, h2⟩ := h1.long
      exact Nxt.pure X rfl hL ⟨_, _, rfl, rfl, h2⟩ hH hF (fun t z => XT.lsub (g := mkF m pc A _) X.here hx rfl hd rfl z)
    · cases h
  | lmul =>
    obtain rfl : len = 1 := by simpa [lenOk] using hlen
    simp only [xI] at h
    split at h
    · rename_i y x S0
      cases h
      obtain ⟨S1, rfl, h1⟩ := hS.long
      obtain ⟨S2, rfl, h2⟩ := h1.long
      exact Nxt.pure X rfl hL ⟨_, _, rfl, rfl, h2⟩ hH hF (fun t z => XT.lmul (g := mkF m pc A _) X.here hx rfl hd rfl z)
    · cases h
  | land =>
    obtain rfl : len = 1 := by simpa [lenOk] using hlen
    simp only [xI] at h
    split at h
    · rename_i y x S0
      cases h
      obtain ⟨S1, rfl, h1⟩ := hS.long
      obtain ⟨S2, rfl, h2⟩ := h1.long
      exact Nxt.pure X rfl hL ⟨_, _, rfl, rfl, h2⟩ hH hF (fun t z => XT.land (g := mkF m pc A _) X.here hx rfl hd rfl z)
    · cases h
  | lor =>
    obtain rfl : len = 1 := by simpa [lenOk] using hlen
    simp only [xI] at h
    split at h
    · rename_i y x S0
      cases h
      obtain ⟨S1, rfl, h1⟩ := hS.long
      obtain ⟨S2, rfl, h2⟩ := h1.long
      exact Nxt.pure X rfl hL ⟨_, _, rfl, rfl, h2⟩ hH hF (fun t z => XT.lor (g := mkF m pc A _) X.here hx rfl hd rfl z)
    · cases h
  | lxor =>
    obtain rfl : len = 1 := by simpa [lenOk] using hlen
    simp only [xI] at h
    split at h
    · rename_i y x S0
      cases h
      obtain ⟨S1, rfl, h1⟩ := hS.long
      obtain ⟨S2, rfl, h2⟩ := h1.long
      exact Nxt.pure X rfl hL ⟨_, _, rfl, rfl, h2⟩ hH hF (fun t z => XT.lxor (g := mkF m pc A _) X.here hx rfl hd rfl z)
    · cases h
  | lcmp =>
    obtain rfl : len = 1 := by simpa [lenOk] using hlen
    simp only [xI] at h
    split at h
    · rename_i y x S0
      cases h
      obtain ⟨S1, rfl, h1⟩ := hS.long
      obtain ⟨S2, rfl, h2⟩ := h1.long
      exact Nxt.pure X rfl hL ⟨_, _, rfl, rfl, h2⟩ hH hF (fun t z => XT.lcmp (g := mkF m pc A _) X.here hx rfl hd rfl z)
    · cases h
  | lshl =>
    obtain rfl : len = 1 := by simpa [lenOk] using hlen
    simp only [xI] at h
    split at h
    · rename_i y x S0
      cases h
      obtain ⟨S1, rfl, h1⟩ := hS.int
      obtain ⟨S2, rfl, h2⟩ := h1.long
      exact Nxt.pure X rfl hL ⟨_, _, rfl, rfl, h2⟩ hH hF (fun t z => XT.lshl (g := mkF m pc A _) X.here hx rfl hd rfl z)
    · cases h
  | lshr =>
    obtain rfl : len = 1 := by simpa [lenOk] using hlen
    simp only [xI] at h
    split at h
    · rename_i y x S0
      cases h
      obtain ⟨S1, rfl, h1⟩ := hS.int
      obtain ⟨S2, rfl, h2⟩ := h1.long
      exact Nxt.pure X rfl hL ⟨_, _, rfl, rfl, h2⟩ hH hF (fun t z => XT.lshr (g := mkF m pc A _) X.here hx rfl hd rfl z)
    · cases h
  | lushr =>
    obtain rfl : len = 1 := by simpa [lenOk] using hlen
    simp only [xI] at h
    split at h
    · rename_i y x S0
      cases h
      obtain ⟨S1, rfl, h1⟩ := hS.int
      obtain ⟨S2, rfl, h2⟩ := h1.long
      exact Nxt.pure X rfl hL ⟨_, _, rfl, rfl, h2⟩ hH hF (fun t z => XT.lushr (g := mkF m pc A _) X.here hx rfl hd rfl z)
    · cases h
  | idiv =>
    obtain rfl : len = 1 := by simpa [lenOk] using hlen
    simp only [xI] at h
    split at h
    · rename_i y x S0
      split at h
      · cases h
      · rename_i hy
        cases h
        obtain ⟨S1, rfl, h1⟩ := hS.int
        obtain ⟨S2, rfl, h2⟩ := h1.int
        exact Nxt.pure X rfl hL ⟨_, _, rfl, rfl, h2⟩ hH hF (fun t z => XS.idiv (g := mkF m pc A _) X.here hx rfl hd rfl hy z)
    · cases h
  | irem =>
    obtain rfl : len = 1 := by simpa [lenOk] using hlen
    simp only [xI] at h
    split at h
    · rename_i y x S0
      split at h
      · cases h
      · rename_i hy
        cases h
        obtain ⟨S1, rfl, h1⟩ := hS.int
        obtain ⟨S2, rfl, h2⟩ := h1.int
        exact Nxt.pure X rfl hL ⟨_, _, rfl, rfl, h2⟩ hH hF (fun t z => iremM (g := mkF m pc A _) X hx rfl hd rfl hy z)
    · cases h
  | ldiv =>
    obtain rfl : len = 1 := by simpa [lenOk] using hlen
    simp only [xI] at h
    split at h
    · rename_i y x S0
      split at h
      · cases h
      · rename_i hy
        cases h
        obtain ⟨S1, rfl, h1⟩ := hS.long
        obtain ⟨S2, rfl, h2⟩ := h1.long
        exact Nxt.pure X rfl hL ⟨_, _, rfl, rfl, h2⟩ hH hF (fun t z => XT.ldiv (g := mkF m pc A _) X.here hx rfl hd rfl hy z)
    · cases h
  | lrem =>
    obtain rfl : len = 1 := by simpa [lenOk] using hlen
    simp only [xI] at h
    split at h
    · rename_i y x S0
      split at h
      · cases h
      · rename_i hy
        cases h
        obtain ⟨S1, rfl, h1⟩ := hS.long
        obtain ⟨S2, rfl, h2⟩ := h1.long
        exact Nxt.pure X rfl hL ⟨_, _, rfl, rfl, h2⟩ hH hF (fun t z => XT.lrem (g := mkF m pc A _) X.here hx rfl hd rfl hy (by rw [lrem_mod]; exact z))
    · cases h
  | i2l =>
    obtain rfl : len = 1 := by simpa [lenOk] using hlen
    simp only [xI] at h
    split at h
    · rename_i x S0
      cases h
      obtain ⟨S1, rfl, h1⟩ := hS.int
      exact Nxt.pure X rfl hL ⟨_, _, rfl, rfl, h1⟩ hH hF (fun t z => XT.i2l (g := mkF m pc A _) X.here hx rfl hd rfl z)
    · cases h
  | l2i =>
    obtain rfl : len = 1 := by simpa [lenOk] using hlen
    simp only [xI] at h
    split at h
    · rename_i x S0
      cases h
      obtain ⟨S1, rfl, h1⟩ := hS.long
      exact Nxt.pure X rfl hL ⟨_, _, rfl, rfl, h1⟩ hH hF (fun t z => XT.l2i (g := mkF m pc A _) X.here hx rfl hd rfl z)
    · cases h
  | dup =>
    obtain rfl : len = 1 := by simpa [lenOk] using hlen
    simp only [xI] at h
    split at h
    · rename_i x S0
      cases h
      obtain ⟨S1, rfl, h1⟩ := hS.int
      exact Nxt.pure X rfl hL ⟨_, _, rfl, rfl, _, _, rfl, rfl, h1⟩ hH hF (fun t z => XS.dup (g := mkF m pc A _) X.here hx rfl hd rfl rfl z)
    · rename_i x S0
      cases h
      obtain ⟨ad, S1, g1, rfl, h1⟩ := hS.ref
      exact Nxt.pure X rfl hL ⟨_, _, rfl, ⟨ad, g1, rfl⟩, _, _, rfl, ⟨ad, g1, rfl⟩, h1⟩ hH hF (fun t z => XS.dup (g := mkF m pc A _) X.here hx rfl hd rfl rfl z)
    · cases h
  | dup2 =>
    obtain rfl : len = 1 := by simpa [lenOk] using hlen
    simp only [xI] at h
    split at h
    · rename_i x y S0
      cases h
      obtain ⟨S1, rfl, h1⟩ := hS.int
      obtain ⟨ad, S2, g1, rfl, h2⟩ := h1.ref
      exact Nxt.pure X rfl hL ⟨_, _, rfl, rfl, _, _, rfl, ⟨ad, g1, rfl⟩, _, _, rfl, rfl, _, _, rfl, ⟨ad, g1, rfl⟩, h2⟩ hH hF (fun t z => XT.dup2 (g := mkF m pc A _) X.here hx rfl hd rfl rfl rfl z)
    · rename_i x S0
      cases h
      obtain ⟨S1, rfl, h1⟩ := hS.long
      exact Nxt.pure X rfl hL ⟨_, _, rfl, rfl, _, _, rfl, rfl, h1⟩ hH hF (fun t z => XT.dup2L (g := mkF m pc A _) X.here hx rfl hd rfl z)
    · cases h
  | pop =>
    obtain rfl : len = 1 := by simpa [lenOk] using hlen
    simp only [xI] at h
    split at h
    · rename_i x S0
      cases h
      obtain ⟨S1, rfl, h1⟩ := hS.int
      exact Nxt.pure X rfl hL h1 hH hF (fun t z => XT.pop (g := mkF m pc A _) X.here hx rfl hd rfl rfl z)
    · cases h
  | getfield k =>
    obtain rfl : len = 3 := by simpa [lenOk] using hlen
    simp only [xI] at h
    split at h
    · rename_i o S0
      obtain ⟨ad, S1, g1, rfl, h1⟩ := hS.ref
      split at h
      · rename_i c0 fs hc0
        split at h
        · rename_i ec
          subst ec
          obtain ⟨ad', g2, cd, q1, q2, q3, q4⟩ := hH.at hc0
          rw [g1] at g2; cases g2
          have hcd := cid_of hP hdm q1
          have core : ∀ v, fs[a]? = some v → ∃ w T2, VR ρ v w ∧ Stand p l e R s m args below meth c T2 locs cells slots ∧ T2.heap = T.heap ∧ ∀ target, Steps p.tables e below (T2.setTop (mkF m (pc + 3) A (w :: S1))) target → Steps p.tables e below (T.setTop (mkF m pc A (.ref ad :: S1))) target := fun v hv => by
            have ha : a < cd.2.2.length := by rw [← q3]; exact (List.getElem?_eq_some_iff.mp hv).1
            obtain ⟨w, hvw, F⟩ := q4 a v _ hv (List.getElem?_eq_getElem ha)
            have w1 := hWi (.fieldLink d.name.cls k d.name.cls cd.2.2[a].1 cd.2.2[a].2.1) (by
              show _ ∈ fLink P d k a
              unfold fLink
              rw [fieldOf_spec q1 (List.getElem?_eq_getElem ha)]
              exact List.mem_singleton.mpr rfl)
            rw [hcd] at F
            obtain ⟨T2, X2, e2, st2⟩ := getF X hx hZ hown (host := "") (Or.inl w1) Via.refl rfl F (g := mkF m pc A (.ref ad :: S1)) rfl rfl hd
            exact ⟨w, T2, hvw, X2, e2, st2⟩
          split at h
          · rename_i x hv
            cases h
            obtain ⟨w, T2, hvw, X2, e2, st2⟩ := core _ hv
            exact Nxt.mem X2 rfl hL ⟨_, _, rfl, hvw, h1⟩ (by rw [e2]; exact hH) hF st2
          · rename_i x hv
            cases h
            obtain ⟨w, T2, hvw, X2, e2, st2⟩ := core _ hv
            exact Nxt.mem X2 rfl hL ⟨_, _, rfl, hvw, h1⟩ (by rw [e2]; exact hH) hF st2
          · rename_i x hv
            cases h
            obtain ⟨w, T2, hvw, X2, e2, st2⟩ := core _ hv
            exact Nxt.mem X2 rfl hL ⟨_, _, rfl, hvw, h1⟩ (by rw [e2]; exact hH) hF st2
          · cases h
        · cases h
      · cases h
    · cases h
  | putfield k =>
    obtain rfl : len = 3 := by simpa [lenOk] using hlen
    simp only [xI] at h
    split at h
    · rename_i v o S0
      obtain ⟨w, Sx, rfl, hvw, hS1⟩ := hS
      obtain ⟨ad, S1, g1, rfl, h1⟩ := hS1.ref
      split at h
      · rename_i c0 fs hc0
        split at h
        · rename_i ec
          obtain ⟨ec, enr⟩ := ec
          subst ec
          split at h
          · rename_i nm ds ty fin hf
            split at h
            · rename_i hok
              cases h
              simp only [Bool.and_eq_true] at hok
              obtain ⟨hok, hfin⟩ := hok
              obtain ⟨ad', g2, cd, q1, q2, q3, q4⟩ := hH.at hc0
              rw [g1] at g2; cases g2
              have hcd := cid_of hP hdm q1
              rw [q1] at hf
              have hf' : cd.2.2[a]? = some (nm, ds, ty, fin) := hf
              have ha : a < fs.length := by rw [q3]; exact (List.getElem?_eq_some_iff.mp hf').1
              obtain ⟨w0, -, F⟩ := q4 a _ _ (List.getElem?_eq_getElem ha) hf'
              have w1 := hWi (.fieldLink d.name.cls k d.name.cls nm ds) (by
                show _ ∈ fLink P d k a
                unfold fLink
                rw [fieldOf_spec q1 hf']
                exact List.mem_singleton.mpr rfl)
              have hcm : cd ∈ P.cls := List.mem_of_getElem? q1
              have w2 := hW _ (in_wordsC hcm (fWord_in (List.mem_of_getElem? hf')))
              have w3 := hW (.instantiable cd.1 cd.2.1) (in_wordsC hcm (List.mem_cons_self ..))
              have hck := cChk_of hP hcm
              have hck' := hck
              simp only [cChk, Bool.and_eq_true, List.all_eq_true] at hck'
              have f1 := hck'.2 _ (List.mem_of_getElem? hf')
              simp only [fChk, Bool.and_eq_true, decide_eq_true_eq] at f1
              obtain ⟨p1, p2⟩ := putOk_sim hok hvw
              have Ly : (Jvm.Cond.lays cd.1 cd.1 nm ds).before a0 Z = true ∨ ((Jvm.Cond.laysFinal cd.1 cd.1 nm ds).before a0 Z = true ∧ d.name.cls = cd.1 ∧ meth.name = "<init>") := by
                unfold fWord at w2
                cases fin with
                | false => exact Or.inl w2
                | true => exact Or.inr ⟨w2, hcd.symm, by rw [hnm]; simpa using hfin⟩
              obtain ⟨T2, h2, X2, e2, W2, st2⟩ := putF X hx hZ hown (host := "") (R0 := d.name.cls) (O := cd.1) (Or.inl w1) (by rw [hcd]; exact Via.refl) rfl F q2 Ly w3 f1.1 p1 p2 (g := mkF m pc A (w :: .ref ad :: S1)) rfl rfl hd
              have hH2 := hH.putF (a0 := a0) g1 hc0 q1 hf' hck (fun f hfm => hW _ (in_wordsC hcm (fWord_in hfm))) W2 hvw
              exact Nxt.mem X2 rfl hL h1 (by rw [e2]; exact hH2) (Fr.snoc X2 hF (hH.2.2.2.1 _ _ g1 enr)) st2
            · cases h
          · cases h
        · cases h
      · cases h
    · cases h
  | iaload =>
    obtain rfl : len = 1 := by simpa [lenOk] using hlen
    simp only [xI] at h
    split at h
    · rename_i j o S0
      obtain ⟨S1, rfl, h1⟩ := hS.int
      obtain ⟨ad, S2, g1, rfl, h2⟩ := h1.ref
      split at h
      · rename_i B hc0
        obtain ⟨x, q, e1⟩ := Option.map_eq_some_iff.mp h
        cases e1
        obtain ⟨hj, hat⟩ := rdA_spec q
        obtain ⟨ad', g2, cl, Ar, z1, z2, z3⟩ := hH.at hc0
        rw [g1] at g2; cases g2
        have hin : ¬ (j < 0 ∨ cl.slots.size ≤ j.toNatClampNeg) := by
          have := (List.getElem?_eq_some_iff.mp hat).1
          rintro (y | y)
          · exact hj y
          · omega
        exact Nxt.pure X rfl hL ⟨_, _, rfl, rfl, h2⟩ hH hF (fun t z => X.iaload hx (j := j) (v := .int x) Ar.1 (State.isArrayOf_alike hZ.alike Ar.2.1) Ar.2.2 hin (z3 _ _ hat) (g := mkF m pc A _) rfl rfl hd t z)
      · cases h
    · cases h
  | baload =>
    obtain rfl : len = 1 := by simpa [lenOk] using hlen
    simp only [xI] at h
    split at h
    · rename_i j o S0
      obtain ⟨S1, rfl, h1⟩ := hS.int
      obtain ⟨ad, S2, g1, rfl, h2⟩ := h1.ref
      split at h
      · rename_i B hc0
        obtain ⟨x, q, e1⟩ := Option.map_eq_some_iff.mp h
        cases e1
        obtain ⟨hj, hat⟩ := rdA_spec q
        obtain ⟨ad', g2, cl, Ar, z1, z2, z3⟩ := hH.at hc0
        rw [g1] at g2; cases g2
        have hin : ¬ (j < 0 ∨ cl.slots.size ≤ j.toNatClampNeg) := by
          have := (List.getElem?_eq_some_iff.mp hat).1
          rintro (y | y)
          · exact hj y
          · omega
        exact Nxt.pure X rfl hL ⟨_, _, rfl, rfl, h2⟩ hH hF (fun t z => X.baloadBooleans hx (j := j) (v := .int x) Ar.1 (State.isArrayOf_alike hZ.alike Ar.2.1) Ar.2.2 hin (z3 _ _ hat) (g := mkF m pc A _) rfl rfl hd t z)
      · cases h
    · cases h
  | laload =>
    obtain rfl : len = 1 := by simpa [lenOk] using hlen
    simp only [xI] at h
    split at h
    · rename_i j o S0
      obtain ⟨S1, rfl, h1⟩ := hS.int
      obtain ⟨ad, S2, g1, rfl, h2⟩ := h1.ref
      split at h
      · rename_i B hc0
        obtain ⟨x, q, e1⟩ := Option.map_eq_some_iff.mp h
        cases e1
        obtain ⟨hj, hat⟩ := rdA_spec q
        obtain ⟨ad', g2, cl, Ar, z1, z2, z3⟩ := hH.at hc0
        rw [g1] at g2; cases g2
        have hin : ¬ (j < 0 ∨ cl.slots.size ≤ j.toNatClampNeg) := by
          have := (List.getElem?_eq_some_iff.mp hat).1
          rintro (y | y)
          · exact hj y
          · omega
        exact Nxt.pure X rfl hL ⟨_, _, rfl, rfl, h2⟩ hH hF (fun t z => X.laload hx (j := j) (v := .long x) Ar.1 (State.isArrayOf_alike hZ.alike Ar.2.1) Ar.2.2 hin (z3 _ _ hat) (g := mkF m pc A _) rfl rfl hd t z)
      · cases h
    · cases h
  | iastore =>
    obtain rfl : len = 1 := by simpa [lenOk] using hlen
    simp only [xI] at h
    split at h
    · rename_i x j o S0
      obtain ⟨S1, rfl, h1⟩ := hS.int
      obtain ⟨S2, rfl, h2⟩ := h1.int
      obtain ⟨ad, S3, g1, rfl, h3⟩ := h2.ref
      split at h
      · rename_i B hc0
        split at h
        · rename_i enr
          obtain ⟨B', q, e1⟩ := Option.map_eq_some_iff.mp h
          cases e1
          obtain ⟨hj, hlt, rfl⟩ := wrA_spec q
          obtain ⟨ad', g2, cl, Ar, z1, z2, z3⟩ := hH.at hc0
          rw [g1] at g2; cases g2
          have hin : ¬ (j < 0 ∨ cl.slots.size ≤ j.toNatClampNeg) := by
            rintro (y | y)
            · exact hj y
            · omega
          obtain ⟨T2, h2', X2, e2, W2, st2⟩ := stI X hx hZ rfl Ar (j := j) (x := x) hin (g := mkF m pc A _) rfl rfl hd
          exact Nxt.mem X2 rfl hL h3 (by rw [e2]; exact hH.wrI g1 hc0 W2) (Fr.snoc X2 hF (hH.2.2.2.1 _ _ g1 enr)) st2
        · cases h
      · cases h
    · cases h
  | bastore =>
    obtain rfl : len = 1 := by simpa [lenOk] using hlen
    simp only [xI] at h
    split at h
    · rename_i x j o S0
      obtain ⟨S1, rfl, h1⟩ := hS.int
      obtain ⟨S2, rfl, h2⟩ := h1.int
      obtain ⟨ad, S3, g1, rfl, h3⟩ := h2.ref
      split at h
      · rename_i B hc0
        split at h
        · rename_i enr
          obtain ⟨B', q, e1⟩ := Option.map_eq_some_iff.mp h
          cases e1
          obtain ⟨hj, hlt, rfl⟩ := wrA_spec q
          obtain ⟨ad', g2, cl, Ar, z1, z2, z3⟩ := hH.at hc0
          rw [g1] at g2; cases g2
          have hin : ¬ (j < 0 ∨ cl.slots.size ≤ j.toNatClampNeg) := by
            rintro (y | y)
            · exact hj y
            · omega
          obtain ⟨T2, h2', X2, e2, W2, st2⟩ := stZ X hx hZ rfl Ar (j := j) (x := x) hin (g := mkF m pc A _) rfl rfl hd
          exact Nxt.mem X2 rfl hL h3 (by rw [e2]; exact hH.wrI g1 hc0 W2) (Fr.snoc X2 hF (hH.2.2.2.1 _ _ g1 enr)) st2
        · cases h
      · cases h
    · cases h
  | lastore =>
    obtain rfl : len = 1 := by simpa [lenOk] using hlen
    simp only [xI] at h
    split at h
    · rename_i x j o S0
      obtain ⟨S1, rfl, h1⟩ := hS.long
      obtain ⟨S2, rfl, h2⟩ := h1.int
      obtain ⟨ad, S3, g1, rfl, h3⟩ := h2.ref
      split at h
      · rename_i B hc0
        split at h
        · rename_i enr
          obtain ⟨B', q, e1⟩ := Option.map_eq_some_iff.mp h
          cases e1
          obtain ⟨hj, hlt, rfl⟩ := wrA_spec q
          obtain ⟨ad', g2, cl, Ar, z1, z2, z3⟩ := hH.at hc0
          rw [g1] at g2; cases g2
          have hin : ¬ (j < 0 ∨ cl.slots.size ≤ j.toNatClampNeg) := by
            rintro (y | y)
            · exact hj y
            · omega
          obtain ⟨T2, h2', X2, e2, W2, st2⟩ := stJ X hx hZ rfl Ar (j := j) (x := x) hin (g := mkF m pc A _) rfl rfl hd
          exact Nxt.mem X2 rfl hL h3 (by rw [e2]; exact hH.wrJ g1 hc0 W2) (Fr.snoc X2 hF (hH.2.2.2.1 _ _ g1 enr)) st2
        · cases h
      · cases h
    · cases h
  | arraylength =>
    obtain rfl : len = 1 := by simpa [lenOk] using hlen
    simp only [xI] at h
    split at h
    · rename_i o S0
      obtain ⟨ad, S1, g1, rfl, h1⟩ := hS.ref
      split at h
      · rename_i bb B hc0
        cases h
        obtain ⟨ad', g2, cl, Ar, z1, z2, z3⟩ := hH.at hc0
        rw [g1] at g2; cases g2
        exact Nxt.pure X rfl hL ⟨_, _, rfl, rfl, h1⟩ hH hF (fun t z => X.arraylength hx (cell := cl) Ar.1 (State.isArrayOf_alike hZ.alike Ar.2.1) (g := mkF m pc A _) rfl rfl hd t (by rw [z1]; exact z))
      · cases h
    · cases h
  | _ => simp [xI] at h
set_option maxHeartbeats 4000000 in
theorem stepN (X : Stand p l e R s m args below meth c T locs cells slots) (hx : p.tables.exec = Jvm.exec) (hZ : Z.Warmed39 s.vm) (hown : s.vm.findClass d.name.cls = some m.cls) (hP : chk P = true) (hW : ∀ w ∈ wordsOf P, w.before a0 Z = true) (hdm : d ∈ P.mth)
    {pc len a ks : Nat} {er : List Bool} {b : Int} {i : Instr} (hit : (pc, i, len, er, a, b) ∈ d.code) (hd : decode c.code pc = .ok (i, len)) (hlen : lenOk i len = true) {ρ : List Addr} {S S' Sc : List Value} {H H1 : AHeap} {A : Array Slot}
    (hS : SR ρ S Sc) (hH : HR P Z n0 T.heap ρ H) (h : xN P i a S H = some (S', H1, ks)) (hc : cells + 1 ≤ R.cells) (hl : slots + ks ≤ R.slots) :
    ∃ T' ad Sc', Stand p l e R s m args below meth c T' locs (cells + 1) (slots + ks) ∧ SR (ρ ++ [ad]) S' Sc' ∧ HR P Z n0 T'.heap (ρ ++ [ad]) H1 ∧
      ∀ target, Steps p.tables e below (T'.setTop (mkF m (pc + len) A Sc')) target → Steps p.tables e below (T.setTop (mkF m pc A Sc)) target := by
  have hWi : ∀ w ∈ iWords P d (pc, i, len, er, a, b), w.before a0 Z = true := fun w q => hW w (in_wordsOf hdm hit q)
  cases i with
  | new k =>
    obtain rfl : len = 3 := by simpa [lenOk] using hlen
    simp only [xN] at h
    split at h
    · rename_i cd q1
      cases h
      have hcm : cd ∈ P.cls := List.mem_of_getElem? q1
      have w1 := hWi (.classLink d.name.cls k cd.1) (by simp only [iWords, q1]; exact List.mem_singleton.mpr rfl)
      have w2 := hW (.instantiable cd.1 cd.2.1) (in_wordsC hcm (List.mem_cons_self ..))
      have w3 := hW (.initialized cd.1) (in_wordsC hcm (List.mem_cons_of_mem _ (List.mem_cons_self ..)))
      obtain ⟨T2, h2, X2, e2, E2, A2, D2, -, st2⟩ := newO X hx hZ hown w1 w2 w3 rfl (g := mkF m pc A Sc) rfl hd hc hl
      have hck := cChk_of hP hcm
      simp only [cChk, Bool.and_eq_true, List.all_eq_true] at hck
      have hcr : CR P Z h2 (ρ ++ [T.heap.size]) T.heap.size (.inl (a, cd.2.2.map fun f => dflt f.2.2.1)) := by
        refine ⟨cd, q1, A2, by simp, fun j v fd y1 y2 => ?_⟩
        rw [List.getElem?_map, y2] at y1
        cases y1
        have f1 := hck.2 _ (List.mem_of_getElem? y2)
        simp only [fChk, Bool.and_eq_true, decide_eq_true_eq] at f1
        exact ⟨_, dflt_sim f1.2, D2 (laid_of (hW _ (in_wordsC hcm (fWord_in (List.mem_of_getElem? y2))))) f1.1⟩
      refine ⟨T2, T.heap.size, _, X2, ⟨_, _, rfl, ⟨T.heap.size, ?_, rfl⟩, hS.mono⟩, (by rw [e2]; exact hH.push E2 hcr), st2⟩
      rw [← hH.2.1]; simp
    · cases h
  | newarray t =>
    obtain rfl : len = 2 := by simpa [lenOk] using hlen
    simp only [xN] at h
    split at h
    · rename_i n S0
      obtain ⟨S1, rfl, h1⟩ := hS.int
      split at h
      · cases h
      · rename_i hn
        have hn1 : ¬ n < 0 := fun z => hn (Or.inl z)
        have hn2 : n.toNatClampNeg ≤ 100000 := Nat.le_of_not_lt fun z => hn (Or.inr z)
        have w1 := hWi (.arrayClass (newarray.typeOf t)) (List.mem_singleton.mpr rfl)
        have top : (ρ ++ [T.heap.size])[H.length]? = some T.heap.size := by rw [← hH.2.1]; simp
        split at h
        · cases h
          obtain ⟨T2, h2, cA, X2, e2, E2, A2, st2⟩ := newP X hx hZ w1 rfl (g := mkF m pc A _) rfl hd rfl hn1 (cap := n.toNatClampNeg) (Nat.le_refl _) (by omega) hc hl
          have hcr : CR P Z h2 (ρ ++ [T.heap.size]) T.heap.size ((.inr (.inl (false, List.replicate n.toNatClampNeg 0)) : ACell)) := by
            refine ⟨_, A2, by simp [sz_new], by simp; omega, fun j x y => ?_⟩
            rw [List.getElem?_replicate] at y
            split at y
            · rename_i lt
              cases y
              simp [newA, lt, newarray.typeOf, defaultValue]
            · cases y
          exact ⟨T2, T.heap.size, _, X2, ⟨_, _, rfl, ⟨T.heap.size, top, rfl⟩, h1.mono⟩, (by rw [e2]; exact hH.push E2 hcr), st2⟩
        · cases h
          obtain ⟨T2, h2, cA, X2, e2, E2, A2, st2⟩ := newP X hx hZ w1 rfl (g := mkF m pc A _) rfl hd rfl hn1 (cap := n.toNatClampNeg) (Nat.le_refl _) (by omega) hc hl
          have hcr : CR P Z h2 (ρ ++ [T.heap.size]) T.heap.size ((.inr (.inl (true, List.replicate n.toNatClampNeg 0)) : ACell)) := by
            refine ⟨_, A2, by simp [sz_new], by simp; omega, fun j x y => ?_⟩
            rw [List.getElem?_replicate] at y
            split at y
            · rename_i lt
              cases y
              simp [newA, lt, newarray.typeOf, defaultValue]
            · cases y
          exact ⟨T2, T.heap.size, _, X2, ⟨_, _, rfl, ⟨T.heap.size, top, rfl⟩, h1.mono⟩, (by rw [e2]; exact hH.push E2 hcr), st2⟩
        · cases h
          obtain ⟨T2, h2, cA, X2, e2, E2, A2, st2⟩ := newP X hx hZ w1 rfl (g := mkF m pc A _) rfl hd rfl hn1 (cap := n.toNatClampNeg) (Nat.le_refl _) (by omega) hc hl
          have hcr : CR P Z h2 (ρ ++ [T.heap.size]) T.heap.size ((.inr (.inr (List.replicate n.toNatClampNeg 0)) : ACell)) := by
            refine ⟨_, A2, by simp [sz_new], by simp; omega, fun j x y => ?_⟩
            rw [List.getElem?_replicate] at y
            split at y
            · rename_i lt
              cases y
              simp [newA, lt, newarray.typeOf, defaultValue]
            · cases y
          exact ⟨T2, T.heap.size, _, X2, ⟨_, _, rfl, ⟨T.heap.size, top, rfl⟩, h1.mono⟩, (by rw [e2]; exact hH.push E2 hcr), st2⟩
        · cases h
    · cases h
  | _ => simp [xN] at h
end Step
end Jvm.Own
namespace Jvm.Own
open Jvm Jvm.ClassFile Sem Op Lib Jvm.Free Jvm.Stand Jvm.LawKit Jvm.RoadKit Bundle
theorem fetch_mem : ∀ {l : List (Nat × It)} {pc : Nat} {i : It}, fetch l pc = some i → (pc, i) ∈ l
  | [], _, _, h => by simp [fetch] at h
  | (q, j) :: r, pc, i, h => by
    unfold fetch at h
    split at h
    · rename_i e; cases h; subst e; exact List.mem_cons_self ..
    · exact List.mem_cons_of_mem _ (fetch_mem h)
theorem tgt_spec {pc q : Nat} {o : Int} (h : tgt pc o = some q) : 0 ≤ (pc : Int) + o ∧ ((pc : Int) + o).toNat = q := by
  unfold tgt at h
  split at h
  · rename_i z; cases h; exact ⟨z, rfl⟩
  · cases h
/-- the end of a method's run -/
def Done (P : PD) (Z : State) (n0 : Nat) (p : Program) (e : Env) (below : List Frame) (s : State) (ρ : List Addr) (v : Option Value) (H' : AHeap) (kc ks : Nat) (t0 : State) : Prop :=
  ∃ s₂ v' L' t, Steps p.tables e below t0 s₂ ∧ s₂.status = .running ∧ Ended s₂ below (.returned v') ∧ OV (ρ ++ t) v v' ∧ HR P Z n0 s₂.heap (ρ ++ t) H' ∧ Fr n0 L' ∧ FrameEnd s (.returned v') s₂ L' kc ks
def Cx (P : PD) (Z : State) (p : Program) (R : Room) (s : State) (m : MethodId) (meth : Method) (c : Code) (d : MD) : Prop :=
  p.tables.exec = Jvm.exec ∧ Z.Warmed39 s.vm ∧ c.code = d.bytes ∧ c.maxLocals = d.maxL ∧ s.vm.findClass d.name.cls = some m.cls ∧ meth.name = d.name.name ∧ meth.sig.returnType = d.ret ∧ meth.locks = false ∧ d.rf ≤ R.frames ∧ d.rw ≤ R.locals
/-- what the machine says of a run that has come to pc is what the model does -/
def Says (P : PD) (Z : State) (n0 : Nat) (l : Launch) (n : Nat) : Prop :=
  ∀ (mi pc : Nat) (L : List Slot) (S : List Value) (H : AHeap) (v : Option Value) (H' : AHeap) (kc ks : Nat), exe P n mi pc L S H = some (v, H', kc, ks) → ∀ d, P.mth[mi]? = some d →
    ∀ (p : Program) (e : Env) (R : Room) (s : State) (m : MethodId) (args : Array Value) (below : List Frame) (meth : Method) (c : Code) (T : State) (locs : List Loc) (cells slots : Nat),
      Stand p l e R s m args below meth c T locs cells slots → Cx P Z p R s m meth c d → cells + kc ≤ R.cells → slots + ks ≤ R.slots →
      ∀ (ρ : List Addr) (A : Array Slot) (Sc : List Value), LR ρ L A → L.length = d.maxL → SR ρ S Sc → HR P Z n0 T.heap ρ H → Fr n0 locs →
        Done P Z n0 p e below s ρ v H' (cells + kc) (slots + ks) (T.setTop (mkF m pc A Sc))
def QQ (P : PD) (Z : State) (n0 : Nat) (ρ : List Addr) (v : Option Value) (H1 : AHeap) (v' : Option Value) (h' : Heap) (L : List Loc) : Prop := Fr n0 L ∧ ∃ t, OV (ρ ++ t) v v' ∧ HR P Z n0 h' (ρ ++ t) H1
theorem met_of {P : PD} {Z : State} {n0 : Nat} {l : Launch} {n : Nat} (ih : Says P Z n0 l n) {j : Nat} {y : MD} (hy : P.mth[j]? = some y) (hpn : plainName y.name.cls = true) {as ws : List Value} {H H1 : AHeap} {v : Option Value} {kc ks : Nat} (he : exe P n j 0 (entL as y.maxL) [] H = some (v, H1, kc, ks)) {ρ : List Addr} (hS : SR ρ as ws) (hlen : (entA as).length ≤ y.maxL) {h : Heap} (hH : HR P Z n0 h ρ H) (w0 : List Jvm.Cond) (rm : Room) (r1 : y.rf ≤ rm.frames) (r2 : y.rw ≤ rm.locals) (r3 : kc ≤ rm.cells) (r4 : ks ≤ rm.slots) :
    MetFree l y.name (head1 (Jvm.Cond.code y.name y.bytes y.maxL y.ret :: w0) rm) (fun a U => a = ws.toArray ∧ Z.Warmed39 U.vm ∧ U.heap = h) (fun _ _ _ _ _ => True)
      (fun _ U o U' => ∃ v' L, o = .returned v' ∧ QQ P Z n0 ρ v H1 v' U'.heap L ∧ FrameEnd U o U' L kc ks) := by
  refine MetFree.of_bodySF (plainFor_of_name hpn) hisR ?_
  intro p e s m args below meth c s₁ Bd hml0 hP hK
  obtain ⟨rfl, hZ, hh⟩ := hP
  have X0 : Stand p l e rm s m ws.toArray below meth c s₁ [] 0 0 := Stand.of_body Bd
  have e0 : s₁.heap = h := by rw [← hh, Bd.state]; rfl
  obtain ⟨hL, hsz⟩ := LR.enter hS hlen
  have hLl : (entL as y.maxL).length = y.maxL := by rw [← hL.1]; exact hsz
  obtain ⟨s₂, v', L', t, h1, h2, h3, h4, h5, h6, h7⟩ := ih j 0 _ [] H v H1 kc ks he y hy p e _ s m ws.toArray below meth c s₁ [] 0 0 X0
    ⟨Bd.exec, hZ, Bd.bytes, hml0, findClass_of_methodNamed Bd.named, (name_of_methodNamed Bd.named Bd.method).1, Bd.returns, BodyLoose.notSynchronized Bd, r1, r2⟩
    (by rw [Nat.zero_add]; exact r3) (by rw [Nat.zero_add]; exact r4) ρ _ [] hL hLl rfl (by rw [e0]; exact hH) (Fr.nil n0)
  refine ⟨s₂, _, h1, h2, h3, v', L', rfl, ⟨h6, t, h4, h5⟩, ?_⟩
  rw [Nat.zero_add, Nat.zero_add] at h7
  exact h7
section Sound
variable {P : PD} {Z : State} {n0 : Nat} {a0 : Array Value} {l : Launch}
theorem Done.step {p : Program} {e : Env} {below : List Frame} {s : State} {ρ t : List Addr} {v : Option Value} {H' : AHeap} {kc ks : Nat} {t0 t1 : State} (h : Done P Z n0 p e below s (ρ ++ t) v H' kc ks t1) (k : ∀ target, Steps p.tables e below t1 target → Steps p.tables e below t0 target) : Done P Z n0 p e below s ρ v H' kc ks t0 := by
  obtain ⟨s₂, v', L', t', h1, h2, h3, h4, h5, h6, h7⟩ := h
  exact ⟨s₂, v', L', t ++ t', k _ h1, h2, h3, by rw [← List.append_assoc]; exact h4, by rw [← List.append_assoc]; exact h5, h6, h7⟩
theorem argsOf_spec {n : Nat} {S as rest : List Value} (h : argsOf n S = some (as, rest)) : n ≤ S.length ∧ as = (S.take n).reverse ∧ rest = S.drop n := by
  unfold argsOf at h
  split at h
  · rename_i z; cases h; exact ⟨z, rfl, rfl⟩
  · cases h
theorem res_ext {α : Type} {o : Option Res} {v : Option Value} {H' : AHeap} {kc ks c1 s1 : Nat} (h : (o.map fun r => addR r c1 s1) = some (v, H', kc, ks)) : ∃ kc' ks', o = some (v, H', kc', ks') ∧ kc = kc' + c1 ∧ ks = ks' + s1 := by
  obtain ⟨⟨v0, H0, c0, s0⟩, h1, h2⟩ := Option.map_eq_some_iff.mp h
  simp only [addR] at h2
  cases h2
  exact ⟨c0, s0, h1, rfl, rfl⟩
set_option maxHeartbeats 4000000 in
theorem sound (hP : chk P = true) (hW : ∀ w ∈ wordsOf P, w.before a0 Z = true) : ∀ n, Says P Z n0 l n
  | 0 => fun mi pc L S H v H' kc ks h => by simp [exe] at h
  | n + 1 => by
    have ih := sound hP hW n
    intro mi pc L S H v H' kc ks h d hmi
    unfold exe at h
    rw [hmi] at h
    simp only at h
    have hdm : d ∈ P.mth := List.mem_of_getElem? hmi
    split at h
    · cases h
    rename_i it i len er a b hft
    have hit := fetch_mem hft
    have hmc := mChk_of hP hdm
    simp only [mChk, Bool.and_eq_true] at hmc
    obtain ⟨⟨⟨⟨⟨⟨mc1, mc2⟩, mc3⟩, mc4⟩, mc5⟩, mc6⟩, mc7⟩ := hmc
    unfold codeChk at mc3
    rw [List.all_eq_true] at mc3
    have hci := mc3 _ hit
    simp only [Bool.and_eq_true, decide_eq_true_eq] at hci
    obtain ⟨hdec, hlenOk⟩ := hci
    -- a jump, or a fall through
    have jump : ∀ (q : Nat) (S1 : List Value) (h1 : exe P n mi q (forget er L) S1 H = some (v, H', kc, ks)),
        (∀ (p : Program) (e : Env) (R : Room) (s : State) (m : MethodId) (args : Array Value) (below : List Frame) (meth : Method) (c : Code) (T : State) (locs : List Loc) (cells slots : Nat),
          Stand p l e R s m args below meth c T locs cells slots → Cx P Z p R s m meth c d → ∀ (ρ : List Addr) (A : Array Slot) (Sc : List Value), LR ρ L A → SR ρ S Sc → ∃ Sc1, SR ρ S1 Sc1 ∧ ∀ target, Steps p.tables e below (T.setTop (mkF m q A Sc1)) target → Steps p.tables e below (T.setTop (mkF m pc A Sc)) target) →
        ∀ (p : Program) (e : Env) (R : Room) (s : State) (m : MethodId) (args : Array Value) (below : List Frame) (meth : Method) (c : Code) (T : State) (locs : List Loc) (cells slots : Nat),
          Stand p l e R s m args below meth c T locs cells slots → Cx P Z p R s m meth c d → cells + kc ≤ R.cells → slots + ks ≤ R.slots →
          ∀ (ρ : List Addr) (A : Array Slot) (Sc : List Value), LR ρ L A → L.length = d.maxL → SR ρ S Sc → HR P Z n0 T.heap ρ H → Fr n0 locs →
            Done P Z n0 p e below s ρ v H' (cells + kc) (slots + ks) (T.setTop (mkF m pc A Sc)) := by
      intro q S1 h1 st p e R s m args below meth c T locs cells slots X cx k1 k2 ρ A Sc hL hLl hS hH hF
      obtain ⟨Sc1, hS1, st1⟩ := st p e R s m args below meth c T locs cells slots X cx ρ A Sc hL hS
      have := ih mi q _ S1 H v H' kc ks h1 d hmi p e R s m args below meth c T locs cells slots X cx k1 k2 ρ A Sc1 (hL.forget er) (by rw [forget_len]; exact hLl) hS1 hH hF
      exact Done.step (t := []) (by rw [List.append_nil]; exact this) st1
    have dec : ∀ {c : Code}, c.code = d.bytes → decode c.code pc = .ok (i, len) := fun hc => by rw [hc]; exact hdec
    split at h
    · -- goto
      rename_i o
      split at h
      · rename_i q hq
        obtain ⟨t1, t2⟩ := tgt_spec hq
        have m3 := jump q S h
        obtain rfl : len = 3 := by simpa [lenOk] using hlenOk
        exact m3 fun p e R s m args below meth c T locs cells slots X cx ρ A Sc hL hS => ⟨Sc, hS, fun t z => XS.goto (g := mkF m pc A Sc) X.here cx.1 rfl (pc0 := pc) (pc' := q) rfl (dec cx.2.2.1) t1 t2 z⟩
      · cases h
    · -- if_icmp
      rename_i cd o
      split at h
      · rename_i y x S1
        obtain rfl : len = 3 := by simpa [lenOk] using hlenOk
        split at h
        · rename_i hc
          split at h
          · rename_i q hq
            obtain ⟨t1, t2⟩ := tgt_spec hq
            have m3 := jump q S1 h
            exact m3 fun p e R s m args below meth c T locs cells slots X cx ρ A Sc hL hS => by
              obtain ⟨Sa, rfl, ha⟩ := hS.int
              obtain ⟨Sb, rfl, hb⟩ := ha.int
              exact ⟨Sb, hb, fun t z => XS.icmpYes (g := mkF m pc A _) X.here cx.1 rfl (pc0 := pc) (pc' := q) rfl (dec cx.2.2.1) rfl hc t1 t2 z⟩
          · cases h
        · rename_i hc
          have m3 := jump (pc + 3) S1 h
          exact m3 fun p e R s m args below meth c T locs cells slots X cx ρ A Sc hL hS => by
            obtain ⟨Sa, rfl, ha⟩ := hS.int
            obtain ⟨Sb, rfl, hb⟩ := ha.int
            exact ⟨Sb, hb, fun t z => XS.icmpNo (g := mkF m pc A _) X.here cx.1 rfl (dec cx.2.2.1) rfl (by simpa using hc) z⟩
      · cases h
    · -- ifCond
      rename_i cd o
      split at h
      · rename_i x S1
        obtain rfl : len = 3 := by simpa [lenOk] using hlenOk
        split at h
        · rename_i hc
          split at h
          · rename_i q hq
            obtain ⟨t1, t2⟩ := tgt_spec hq
            have m3 := jump q S1 h
            exact m3 fun p e R s m args below meth c T locs cells slots X cx ρ A Sc hL hS => by
              obtain ⟨Sa, rfl, ha⟩ := hS.int
              exact ⟨Sa, ha, fun t z => XS.ifYes (g := mkF m pc A _) X.here cx.1 rfl (pc0 := pc) (pc' := q) rfl (dec cx.2.2.1) rfl hc t1 t2 z⟩
          · cases h
        · rename_i hc
          have m3 := jump (pc + 3) S1 h
          exact m3 fun p e R s m args below meth c T locs cells slots X cx ρ A Sc hL hS => by
            obtain ⟨Sa, rfl, ha⟩ := hS.int
            exact ⟨Sa, ha, fun t z => XS.ifNo (g := mkF m pc A _) X.here cx.1 rfl (dec cx.2.2.1) rfl (by simpa using hc) z⟩
      · cases h
    · -- ifnonnull
      rename_i o
      split at h
      · rename_i x S1
        split at h
        · rename_i q hq
          obtain ⟨t1, t2⟩ := tgt_spec hq
          have m3 := jump q S1 h
          obtain rfl : len = 3 := by simpa [lenOk] using hlenOk
          exact m3 fun p e R s m args below meth c T locs cells slots X cx ρ A Sc hL hS => by
            obtain ⟨ad, Sa, -, rfl, ha⟩ := hS.ref
            exact ⟨Sa, ha, fun t z => XT.ifnonnullYes (g := mkF m pc A _) X.here cx.1 rfl (pc0 := pc) (pc' := q) rfl (dec cx.2.2.1) rfl t1 t2 z⟩
        · cases h
      · cases h
    · -- ireturn
      split at h
      · rename_i x
        split at h
        · rename_i v0 hv0
          cases h
          obtain rfl : len = 1 := by simpa [lenOk] using hlenOk
          intro p e R s m args below meth c T locs cells slots X cx k1 k2 ρ A Sc hL hLl hS hH hF
          obtain ⟨hx, hZ, hby, hml, hown, hnm, hret, hlk, -, -⟩ := cx
          obtain ⟨Sa, rfl, ha⟩ := hS.int
          unfold retV at hv0
          split at hv0
          · rename_i hr0
            cases hv0
            obtain ⟨fs, hr, hrun, hended, hWm, hsame⟩ := X.leave (v := some (.int x)) (fun q => by rw [hret, hr0] at q; cases q) hlk
            exact ⟨_, _, locs, [], retI X hx (by rw [hret, hr0]) (dec hby) hr, hrun, hended, ⟨_, rfl, rfl⟩, by rw [List.append_nil]; exact hH, hF, ⟨_, rfl⟩, hWm, hsame⟩
          · rename_i hr0
            cases hv0
            obtain ⟨fs, hr, hrun, hended, hWm, hsame⟩ := X.leave (v := some (.int (x &&& 1))) (fun q => by rw [hret, hr0] at q; cases q) hlk
            exact ⟨_, _, locs, [], retN X hx (t := .boolean) (by rw [hret, hr0]) (by simp) (dec hby) hr, hrun, hended, ⟨_, rfl, rfl⟩, by rw [List.append_nil]; exact hH, hF, ⟨_, rfl⟩, hWm, hsame⟩
          · cases hv0
        · cases h
      · cases h
    · -- lreturn
      split at h
      · rename_i x
        split at h
        · rename_i hr0
          cases h
          obtain rfl : len = 1 := by simpa [lenOk] using hlenOk
          intro p e R s m args below meth c T locs cells slots X cx k1 k2 ρ A Sc hL hLl hS hH hF
          obtain ⟨hx, hZ, hby, hml, hown, hnm, hret, hlk, -, -⟩ := cx
          obtain ⟨Sa, rfl, ha⟩ := hS.long
          obtain rfl : Sa = [] := ha
          obtain ⟨fs, hr, hrun, hended, hWm, hsame⟩ := X.leave (v := some (.long x)) (fun q => by rw [hret, hr0] at q; cases q) hlk
          exact ⟨_, _, locs, [], X.lreturnOut hx (by rw [hret, hr0]) (dec hby) hr, hrun, hended, ⟨_, rfl, rfl⟩, by rw [List.append_nil]; exact hH, hF, ⟨_, rfl⟩, hWm, hsame⟩
        · cases h
      · cases h
    · -- return
      split at h
      · split at h
        · rename_i hr0
          cases h
          obtain rfl : len = 1 := by simpa [lenOk] using hlenOk
          intro p e R s m args below meth c T locs cells slots X cx k1 k2 ρ A Sc hL hLl hS hH hF
          obtain ⟨hx, hZ, hby, hml, hown, hnm, hret, hlk, -, -⟩ := cx
          obtain rfl : Sc = [] := hS
          obtain ⟨fs, hr, hrun, hended, hWm, hsame⟩ := X.leave (v := none) (fun _ => rfl) hlk
          exact ⟨_, _, locs, [], X.returnOut hx (by rw [hret, hr0]) (dec hby) hr, hrun, hended, rfl, by rw [List.append_nil]; exact hH, hF, ⟨_, rfl⟩, hWm, hsame⟩
        · cases h
      · cases h
    · -- a call, or a plain step
      split at h
      · rename_i hinv
        split at h
        · -- Object.<init>
          rename_i hb1
          subst hb1
          have hk : ∃ k x S1, i = .invokespecial k ∧ S = .ref x :: S1 ∧ (if 1 ≤ d.rf ∧ catSum S1 + 12 ≤ d.rw then exe P n mi (pc + 3) (forget er L) S1 H else none) = some (v, H', kc, ks) := by
            split at h
            · exact ⟨_, _, _, rfl, rfl, h⟩
            · cases h
          clear h
          obtain ⟨k, x, S1, rfl, rfl, h⟩ := hk
          · split at h
            · rename_i hroom
              have m3 := ih mi (pc + 3) _ S1 H v H' kc ks h d hmi
              obtain rfl : len = 3 := by simpa [lenOk] using hlenOk
              have hWi : ∀ w ∈ iWords P d (pc, .invokespecial k, 3, er, a, -1), w.before a0 Z = true := fun w q => hW w (in_wordsOf hdm hit q)
              have hWi' : ∀ w ∈ [Jvm.Cond.methodLink d.name.cls k Lib.objectInit, .instanceMethod Lib.objectInit, .code Lib.objectInit ⟨#[0xb1]⟩ 1 none], w.before a0 Z = true := hWi
              intro p e R s m args below meth c T locs cells slots X cx k1 k2 ρ A Sc hL hLl hS hH hF
              have cx0 := cx
              obtain ⟨hx, hZ, hby, hml, hown, hnm, hret, hlk, hrf, hrw⟩ := cx
              obtain ⟨ad, Sa, -, rfl, ha⟩ := hS.ref
              obtain ⟨T2, X2, e2, st2⟩ := initO X hx hZ hown (hWi' _ (by simp)) (hWi' _ (by simp)) (hWi' _ (by simp)) rfl (g := mkF m pc A (.ref ad :: Sa)) rfl (by rw [hml]; exact hL.1.trans hLl) rfl (dec hby) (by omega) (W := catSum S1) (by show 2 * 0 + _ ≤ _; rw [ha.cat]; omega) (by omega)
              have := m3 p e R s m args below meth c T2 locs cells slots X2 cx0 k1 k2 ρ A Sa (hL.forget er) (by rw [forget_len]; exact hLl) ha (by rw [e2]; exact hH) hF
              exact Done.step (t := []) (by rw [List.append_nil]; exact this) st2
            · cases h
        · rename_i hb1
          split at h
          · cases h
          rename_i y hy
          split at h
          · cases h
          rename_i as rest hao
          split at h
          · rename_i hcond
            simp only [Bool.and_eq_true, decide_eq_true_eq] at hcond
            obtain ⟨⟨⟨⟨hj, hik⟩, hrecv⟩, hroom⟩, hent⟩ := hcond
            split at h
            · rename_i v1 H1 c1 s1 hcal
              obtain ⟨c0, s0, hcon, rfl, rfl⟩ := res_ext (α := Unit) h
              have m3 := ih mi (pc + 3) _ _ H1 v H' c0 s0 hcon d hmi
              intro p e R s m args below meth c T locs cells slots X cx k1 k2 ρ A Sc hL hLl hS hH hF
              have cx0 := cx
              obtain ⟨hx, hZ, hby, hml, hown, hnm, hret, hlk, hrf, hrw⟩ := cx
              have hym : y ∈ P.mth := List.mem_of_getElem? hy
              have hyc := mChk_of hP hym
              simp only [mChk, Bool.and_eq_true, decide_eq_true_eq] at hyc
              obtain ⟨⟨⟨⟨⟨⟨yc1, yc2⟩, yc3⟩, yc4⟩, yc5⟩, yc6⟩, yc7⟩ := hyc
              simp only [fitsRoom, Bool.and_eq_true, decide_eq_true_eq] at hroom
              obtain ⟨hn, has, hrest⟩ := argsOf_spec hao
              have hnc : nargs y ≤ Sc.length := by rw [hS.len]; exact hn
              have hSa : SR ρ as (Sc.take (nargs y)).reverse := by rw [has]; exact (hS.take _).rev
              have hSr : SR ρ rest (Sc.drop (nargs y)) := by rw [hrest]; exact hS.drop _
              have hsplit : Sc = (Sc.take (nargs y)).reverse.reverse ++ Sc.drop (nargs y) := by rw [List.reverse_reverse, List.take_append_drop]
              obtain ⟨ws, hws⟩ : ∃ ws, ws = (Sc.take (nargs y)).reverse := ⟨_, rfl⟩
              obtain ⟨rc, hrc⟩ : ∃ rc, rc = Sc.drop (nargs y) := ⟨_, rfl⟩
              have hwl : ws.length = nargs y := by rw [hws]; simp; omega
              rw [← hws] at hSa hsplit
              rw [← hrc] at hSr hsplit
              have wcode := hW (.code y.name y.bytes y.maxL y.ret) (in_wordsM hy hj (List.mem_cons_self ..))
              have winit := hW (.initialized y.name.cls) (in_wordsM hy hj (List.mem_cons_of_mem _ (List.mem_cons_self ..)))
              have wmore : ∀ w ∈ (if y.kind = 0 then [Jvm.Cond.static y.name] else if y.kind = 1 then [.instanceMethod y.name] else if y.kind = 2 then [.instanceMethod y.name, .privateMethod y.name] else [.declares y.name, .selects y.name.cls y.name y.name, .instanceMethod y.name]), w.before a0 Z = true := fun w q => hW w (in_wordsM hy hj (List.mem_cons_of_mem _ (List.mem_cons_of_mem _ q)))
              have hMH : y.name.cls ≠ "java/lang/invoke/MethodHandle" ∧ y.name.cls ≠ "java/lang/invoke/VarHandle" := ⟨yc5, yc6⟩
              have back := backOf (W := catSum rest) (len := 3) (R := R) (p := p) (e := e) (below := below) (s := s) (args := args) (met_of ih hy yc1 hcal hSa hent hH [] ({ frames := y.rf, cells := c1, slots := s1, locals := y.rw } : Room) (Nat.le_refl _) (Nat.le_refl _) (Nat.le_refl _) (Nat.le_refl _)) hZ wcode winit (by show y.rf + 1 ≤ _; omega) (by show _ + y.rw ≤ _; omega)
              have hWW : 2 * (mkF m pc A Sc).monitorRoom + (rc.map fun v => v.category).sum ≤ catSum rest := by show 2 * 0 + _ ≤ _; rw [hSr.cat]; omega
              have hpar : ∀ sig, parseMethodDescriptor y.name.desc = some sig → sig.parameters.length = y.npar := fun sig q => by
                unfold sigChk at yc2
                rw [q] at yc2
                simpa using yc2
              have fin : ∀ (v1' : Option Value) (T2 : State) (Lc : List Loc), Stand p l e R s m args below meth c T2 (locs ++ Lc) (cells + c1) (slots + s1) → QQ P Z n0 ρ v1 H1 v1' T2.heap Lc →
                  (∀ target, Steps p.tables e below (T2.setTop (mkF m (pc + 3) A (v1'.toList ++ rc))) target → Steps p.tables e below (T.setTop (mkF m pc A Sc)) target) →
                  Done P Z n0 p e below s ρ v H' (cells + (c0 + c1)) (slots + (s0 + s1)) (T.setTop (mkF m pc A Sc)) := by
                intro v1' T2 Lc X2 hq st2
                obtain ⟨hF2, t, hov, hH2⟩ := hq
                have := m3 p e R s m args below meth c T2 (locs ++ Lc) _ _ X2 cx0 (by omega) (by omega) (ρ ++ t) A (v1'.toList ++ rc) (hL.forget er).mono (by rw [forget_len]; exact hLl) (hov.list.app hSr.mono) hH2 (hF.app hF2)
                have q1 : cells + c1 + c0 = cells + (c0 + c1) := by omega
                have q2 : slots + s1 + s0 = slots + (s0 + s1) := by omega
                rw [q1, q2] at this
                exact this.step st2
              have hcR : cells + c1 ≤ R.cells := by omega
              have hsR : slots + s1 ≤ R.slots := by omega
              cases i with
              | invokestatic k =>
                obtain rfl : len = 3 := by simpa [lenOk] using hlenOk
                have hk0 : y.kind = 0 := by simpa [invKind] using hik
                have wl := hW (.methodLink d.name.cls k y.name) (in_wordsOf hdm hit (by show _ ∈ mLink P d k a b; unfold mLink; rw [if_neg hb1, hy]; exact List.mem_singleton.mpr rfl))
                have wst := wmore (.static y.name) (by rw [if_pos hk0]; exact List.mem_singleton.mpr rfl)
                have hna : nargs y = y.npar := by simp [nargs, hk0]
                obtain ⟨v1', _, ⟨T2, L2, k2', n2⟩, -, X2, ⟨Lc, hQ, l2, y2, z2⟩, st2⟩ := Jvm.LawKit.callS X hx (y := y.name) hown (mvT hZ wl) (mvT hZ wst) (mvT hZ winit) (mvT hZ wcode) hMH back (g := mkF m pc A Sc) rfl (by rw [hml]; exact hL.1.trans hLl) (argsL := ws) (rest := rc) (fun sig q => by rw [hpar sig q, hwl, hna]) hsplit hWW (dec hby) (fun _ _ => ⟨rfl, rfl, hcR, hsR⟩)
                dsimp only [Pt.U, Pt.locs, Pt.cells, Pt.slots] at X2 l2 y2 z2 st2 hQ
                subst l2 y2 z2
                exact fin v1' T2 Lc X2 hQ st2
              | invokespecial k =>
                obtain rfl : len = 3 := by simpa [lenOk] using hlenOk
                have hk1 : y.kind = 1 := by simpa [invKind] using hik
                have wl := hW (.methodLink d.name.cls k y.name) (in_wordsOf hdm hit (by show _ ∈ mLink P d k a b; unfold mLink; rw [if_neg hb1, hy]; exact List.mem_singleton.mpr rfl))
                have wst := wmore (.instanceMethod y.name) (by rw [if_neg (by omega), if_pos hk1]; exact List.mem_singleton.mpr rfl)
                have hna : nargs y = y.npar + 1 := by simp [nargs, hk1]
                simp [hk1] at yc7
                have wcode' : (Jvm.Cond.code y.name y.bytes y.maxL none).before a0 Z = true := by rw [← yc7.2]; exact wcode
                unfold recvOk at hrecv
                rw [if_neg (by omega)] at hrecv
                split at hrecv
                · rename_i o as'
                  obtain ⟨ad, ws', g1, rfl, ha'⟩ := hSa.ref
                  have hst : Sc = ws'.reverse ++ .ref ad :: rc := by rw [hsplit]; simp
                  obtain ⟨v1', _, ⟨T2, L2, k2', n2⟩, -, X2, ⟨Lc, hQ, l2, y2, z2⟩, st2⟩ := X.specialBack hx (y := y.name) yc7.1 hown (mvT hZ wl) (mvT hZ wst) (mvT hZ wcode') hMH back (g := mkF m pc A Sc) rfl (by rw [hml]; exact hL.1.trans hLl) (Steps.refl _) (a := ad) (argsL := ws') (rest := rc) (fun sig q => by rw [hpar sig q]; simp [hna] at hwl; omega) hst hWW (dec hby) (fun _ _ => ⟨rfl, rfl, hcR, hsR⟩)
                  dsimp only [Pt.U, Pt.locs, Pt.cells, Pt.slots] at X2 l2 y2 z2 st2 hQ
                  subst l2 y2 z2
                  exact fin v1' T2 Lc X2 hQ fun t z => st2.trans z
                · cases hrecv
              | invokevirtual k =>
                obtain rfl : len = 3 := by simpa [lenOk] using hlenOk
                have wl := hW (.methodLink d.name.cls k y.name) (in_wordsOf hdm hit (by show _ ∈ mLink P d k a b; unfold mLink; rw [if_neg hb1, hy]; exact List.mem_singleton.mpr rfl))
                have hk23 : y.kind = 2 ∨ y.kind = 3 := by simpa [invKind] using hik
                have hk0 : ¬ y.kind = 0 := by omega
                have hk1 : ¬ y.kind = 1 := by omega
                have hna : nargs y = y.npar + 1 := by simp [nargs, hk0]
                unfold recvOk at hrecv
                rw [if_neg hk0] at hrecv
                split at hrecv
                · rename_i o as'
                  obtain ⟨ad, ws', g1, rfl, ha'⟩ := hSa.ref
                  have hst : Sc = ws'.reverse ++ .ref ad :: rc := by rw [hsplit]; simp
                  split at hrecv
                  · rename_i c0 fs hc0
                    obtain rfl : c0 = y.cid := by simpa using hrecv
                    obtain ⟨ad', g2, cd, q1, q2, q3, q4⟩ := hH.at hc0
                    rw [g1] at g2; cases g2
                    have hcd := cid_of hP hym q1
                    have hcm : cd ∈ P.cls := List.mem_of_getElem? q1
                    rw [hcd] at q2
                    by_cases hk2 : y.kind = 2
                    · have w1 := wmore (.instanceMethod y.name) (by rw [if_neg hk0, if_neg hk1, if_pos hk2]; simp)
                      have w2 := wmore (.privateMethod y.name) (by rw [if_neg hk0, if_neg hk1, if_pos hk2]; simp)
                      have w3 := hW (.instantiable cd.1 cd.2.1) (in_wordsC hcm (List.mem_cons_self ..))
                      rw [hcd] at w3
                      obtain ⟨cI, kI, i1, i2, i3, i4, -⟩ := Cond.instantiable_spec (mvT hZ w3 (args := args) : (Jvm.Cond.instantiable y.name.cls cd.2.1).before args s = true)
                      have hsel := selects_self_of_private (args := args) i1 i2 (by simp at i4; exact i4.1) (Cond.privateMethod_at (mvP hZ w2 (args := #[]))) (mvT hZ w1) hMH
                      obtain ⟨cq, hq1, hq2⟩ := q2.cell
                      obtain ⟨v1', _, ⟨T2, L2, k2', n2⟩, -, X2, ⟨Lc, hQ, l2, y2, z2⟩, st2⟩ := X.privateBack hx (y := y.name) hown (mvT hZ wl) (mvT hZ w1) hsel (Cond.privateMethod_at (mvP hZ w2 (args := #[]))) (mvT hZ wcode) hMH back (g := mkF m pc A Sc) rfl (by rw [hml]; exact hL.1.trans hLl) (Steps.refl _) (a := ad) hq1 hq2 (argsL := ws') (rest := rc) (fun sig q => by rw [hpar sig q]; simp [hna] at hwl; omega) hst hWW (dec hby) (fun _ _ => ⟨rfl, rfl, hcR, hsR⟩)
                      dsimp only [Pt.U, Pt.locs, Pt.cells, Pt.slots] at X2 l2 y2 z2 st2 hQ
                      subst l2 y2 z2
                      exact fin v1' T2 Lc X2 hQ fun t z => st2.trans z
                    · have w1 := wmore (.declares y.name) (by rw [if_neg hk0, if_neg hk1, if_neg hk2]; simp)
                      have w2 := wmore (.selects y.name.cls y.name y.name) (by rw [if_neg hk0, if_neg hk1, if_neg hk2]; simp)
                      have w3 := wmore (.instanceMethod y.name) (by rw [if_neg hk0, if_neg hk1, if_neg hk2]; simp)
                      obtain ⟨cq, kq, qa, qb, qc⟩ := isOf hZ rfl q2
                      obtain ⟨v1', _, ⟨T2, L2, k2', n2⟩, -, X2, ⟨Lc, hQ, l2, y2, z2⟩, st2⟩ := X.virtualBack hx (y := y.name) (z := y.name) hown (mvT hZ wl) (mvT hZ w1) (notFace_of_selects (args := #[]) (mvT hZ w2)) (mvT hZ w2) (mvT hZ w3) hMH back qa qc (g := mkF m pc A Sc) rfl (by rw [hml]; exact hL.1.trans hLl) (Steps.refl _) (argsL := ws') (rest := rc) (fun sig q => by rw [hpar sig q]; simp [hna] at hwl; omega) hst hWW (dec hby) (fun _ _ => ⟨rfl, rfl, hcR, hsR⟩)
                      dsimp only [Pt.U, Pt.locs, Pt.cells, Pt.slots] at X2 l2 y2 z2 st2 hQ
                      subst l2 y2 z2
                      exact fin v1' T2 Lc X2 hQ fun t z => st2.trans z
                  · cases hrecv
                · cases hrecv
              | _ => simp [isInv] at hinv
            · cases h
          · cases h
      · split at h
        · split at h
          · rename_i S1 H1 k1' hxN
            obtain ⟨c0, s0, hcon, rfl, rfl⟩ := res_ext (α := Unit) h
            have m3 := ih mi (pc + len) _ S1 H1 v H' c0 s0 hcon d hmi
            intro p e R s m args below meth c T locs cells slots X cx k1 k2 ρ A Sc hL hLl hS hH hF
            have cx0 := cx
            obtain ⟨hx, hZ, hby, hml, hown, hnm, hret, hlk, hrf, hrw⟩ := cx
            obtain ⟨T2, ad, Sc2, X2, hS2, hH2, st2⟩ := stepN (A := A) X hx hZ hown hP hW hdm hit (dec hby) hlenOk hS hH hxN (by omega) (by omega)
            have := m3 p e R s m args below meth c T2 locs _ _ X2 cx0 (by omega) (by omega) (ρ ++ [ad]) A Sc2 (hL.forget er).mono (by rw [forget_len]; exact hLl) hS2 hH2 hF
            have q1 : cells + 1 + c0 = cells + (c0 + 1) := by omega
            have q2 : slots + k1' + s0 = slots + (s0 + k1') := by omega
            rw [q1, q2] at this
            exact this.step st2
          · cases h
        · split at h
          · rename_i L1 S1 H1 hxI
            have m3 := ih mi (pc + len) L1 S1 H1 v H' kc ks h d hmi
            intro p e R s m args below meth c T locs cells slots X cx k1 k2 ρ A Sc hL hLl hS hH hF
            have cx0 := cx
            obtain ⟨hx, hZ, hby, hml, hown, hnm, hret, hlk, hrf, hrw⟩ := cx
            obtain ⟨T2, locs2, A2, Sc2, X2, x3, hL2, hS2, hH2, hF2, st2⟩ := stepX X hx hZ hown hnm hP hW hdm hit (dec hby) hlenOk (hL.forget er) hS hH hF hxI
            have := m3 p e R s m args below meth c T2 locs2 cells slots X2 cx0 k1 k2 ρ A2 Sc2 hL2 (by rw [x3, forget_len]; exact hLl) hS2 hH2 hF2
            exact Done.step (t := []) (by rw [List.append_nil]; exact this) st2
          · cases h
end Sound
end Jvm.Own
namespace Jvm.Own
open Jvm Jvm.ClassFile Sem Op Lib Jvm.Free Jvm.Stand Jvm.LawKit Jvm.RoadKit Bundle
/-! Runs of the plain machine, rule by rule -/
def OEnds (P : PD) (mi pc : Nat) (L : List Slot) (S : List Value) (H : AHeap) (r : Res) : Prop := ∃ n0, ∀ n, n0 ≤ n → exe P n mi pc L S H = some r
def plainI : Instr → Bool
  | .goto _ => false
  | .if_icmp _ _ => false
  | .ifCond _ _ => false
  | .ifnonnull _ => false
  | .ireturn => false
  | .lreturn => false
  | .return_ => false
  | .invokestatic _ => false
  | .invokespecial _ => false
  | .invokevirtual _ => false
  | .new _ => false
  | .newarray _ => false
  | _ => true
section Rules
variable {P : PD} {mi pc len a q : Nat} {er : List Bool} {b : Int} {i : Instr} {d y : MD} {L L' : List Slot} {S S' as rest : List Value} {H H' H1 : AHeap} {r : Res} {kc ks : Nat} {v : Option Value}
theorem OEnds.up (h : ∀ n, exe P n mi q L' S' H' = some r → exe P (n + 1) mi pc L S H = some r) (E : OEnds P mi q L' S' H' r) : OEnds P mi pc L S H r := by
  obtain ⟨n0, E⟩ := E
  refine ⟨n0 + 1, fun n hn => ?_⟩
  obtain ⟨k, rfl⟩ : ∃ k, n = k + 1 := ⟨n - 1, by omega⟩
  exact h k (E k (by omega))
theorem OEnds.plain (hm : P.mth[mi]? = some d) (hf : fetch d.code pc = some (i, len, er, a, b)) (hp : plainI i = true) (hx : xI P (d.name.name == "<init>") d.cid i a b (forget er L) S H = some (L', S', H')) (E : OEnds P mi (pc + len) L' S' H' r) : OEnds P mi pc L S H r := by
  refine E.up fun n h => ?_
  unfold exe
  rw [hm]
  simp only
  rw [hf]
  simp only
  split
  all_goals first | (simp [plainI] at hp; done) | skip
  have h1 : ¬ isInv i = true := by
    cases i <;> first | (simp [plainI] at hp; done) | simp [isInv]
  have h2 : ¬ isNew i = true := by
    cases i <;> first | (simp [plainI] at hp; done) | simp [isNew]
  rw [if_neg h1, if_neg h2, hx]
  exact h
theorem OEnds.goto {o : Int} (hm : P.mth[mi]? = some d) (hf : fetch d.code pc = some (.goto o, len, er, a, b)) (ht : tgt pc o = some q) (E : OEnds P mi q (forget er L) S H r) : OEnds P mi pc L S H r := by
  refine E.up fun n h => ?_
  unfold exe
  rw [hm]
  simp only
  rw [hf]
  simp only
  rw [ht]
  exact h
theorem OEnds.icmpT {o : Int} {cd : ClassFile.Cond} {x z : Int32} (hm : P.mth[mi]? = some d) (hf : fetch d.code pc = some (.if_icmp cd o, len, er, a, b)) (ht : tgt pc o = some q) (hc : if_icmp.holds cd x z = true) (E : OEnds P mi q (forget er L) S H r) : OEnds P mi pc L (.int z :: .int x :: S) H r := by
  refine E.up fun n h => ?_
  unfold exe
  rw [hm]
  simp only
  rw [hf]
  simp only
  rw [if_pos hc, ht]
  exact h
theorem OEnds.icmpF {o : Int} {cd : ClassFile.Cond} {x z : Int32} (hm : P.mth[mi]? = some d) (hf : fetch d.code pc = some (.if_icmp cd o, len, er, a, b)) (hc : if_icmp.holds cd x z = false) (E : OEnds P mi (pc + 3) (forget er L) S H r) : OEnds P mi pc L (.int z :: .int x :: S) H r := by
  refine E.up fun n h => ?_
  unfold exe
  rw [hm]
  simp only
  rw [hf]
  simp only
  rw [if_neg (by rw [hc]; exact Bool.false_ne_true)]
  exact h
theorem OEnds.ifT {o : Int} {cd : ClassFile.Cond} {x : Int32} (hm : P.mth[mi]? = some d) (hf : fetch d.code pc = some (.ifCond cd o, len, er, a, b)) (ht : tgt pc o = some q) (hc : if_icmp.holds cd x 0 = true) (E : OEnds P mi q (forget er L) S H r) : OEnds P mi pc L (.int x :: S) H r := by
  refine E.up fun n h => ?_
  unfold exe
  rw [hm]
  simp only
  rw [hf]
  simp only
  rw [if_pos ((if0 cd x).trans hc), ht]
  exact h
theorem OEnds.ifF {o : Int} {cd : ClassFile.Cond} {x : Int32} (hm : P.mth[mi]? = some d) (hf : fetch d.code pc = some (.ifCond cd o, len, er, a, b)) (hc : if_icmp.holds cd x 0 = false) (E : OEnds P mi (pc + 3) (forget er L) S H r) : OEnds P mi pc L (.int x :: S) H r := by
  refine E.up fun n h => ?_
  unfold exe
  rw [hm]
  simp only
  rw [hf]
  simp only
  rw [if_neg (by rw [if0 cd x, hc]; exact Bool.false_ne_true)]
  exact h
theorem OEnds.nonnull {o : Int} {x : Nat} (hm : P.mth[mi]? = some d) (hf : fetch d.code pc = some (.ifnonnull o, len, er, a, b)) (ht : tgt pc o = some q) (E : OEnds P mi q (forget er L) S H r) : OEnds P mi pc L (.ref x :: S) H r := by
  refine E.up fun n h => ?_
  unfold exe
  rw [hm]
  simp only
  rw [hf]
  simp only
  rw [ht]
  exact h
theorem OEnds.iret {x : Int32} {u : Value} (hm : P.mth[mi]? = some d) (hf : fetch d.code pc = some (.ireturn, len, er, a, b)) (hv : retV d.ret x = some u) : OEnds P mi pc L [.int x] H (some u, H, 0, 0) := by
  refine ⟨1, fun n hn => ?_⟩
  obtain ⟨k, rfl⟩ : ∃ k, n = k + 1 := ⟨n - 1, by omega⟩
  unfold exe
  rw [hm]
  simp only
  rw [hf]
  simp only
  rw [hv]
theorem OEnds.lret {x : Int64} (hm : P.mth[mi]? = some d) (hf : fetch d.code pc = some (.lreturn, len, er, a, b)) (hv : d.ret = some .long) : OEnds P mi pc L [.long x] H (some (.long x), H, 0, 0) := by
  refine ⟨1, fun n hn => ?_⟩
  obtain ⟨k, rfl⟩ : ∃ k, n = k + 1 := ⟨n - 1, by omega⟩
  unfold exe
  rw [hm]
  simp only
  rw [hf]
  simp only
  rw [if_pos hv]
theorem OEnds.vret (hm : P.mth[mi]? = some d) (hf : fetch d.code pc = some (.return_, len, er, a, b)) (hv : d.ret = none) : OEnds P mi pc L [] H (none, H, 0, 0) := by
  refine ⟨1, fun n hn => ?_⟩
  obtain ⟨k, rfl⟩ : ∃ k, n = k + 1 := ⟨n - 1, by omega⟩
  unfold exe
  rw [hm]
  simp only
  rw [hf]
  simp only
  rw [if_pos hv]
theorem OEnds.oinit {k x : Nat} (hm : P.mth[mi]? = some d) (hf : fetch d.code pc = some (.invokespecial k, len, er, a, -1)) (hr : 1 ≤ d.rf ∧ catSum S + 12 ≤ d.rw) (E : OEnds P mi (pc + 3) (forget er L) S H r) : OEnds P mi pc L (.ref x :: S) H r := by
  refine E.up fun n h => ?_
  unfold exe
  rw [hm]
  simp only
  rw [hf]
  simp only [isInv, if_true]
  rw [if_pos hr]
  exact h
theorem OEnds.call (hm : P.mth[mi]? = some d) (hf : fetch d.code pc = some (i, len, er, a, b)) (hi : isInv i = true) (hb : ¬ b = -1) (hy : P.mth[a]? = some y) (hao : argsOf (nargs y) S = some (as, rest))
    (hc : (decide (0 < a) && invKind i y.kind && recvOk P H y as && fitsRoom d y rest && decide ((entA as).length ≤ y.maxL)) = true) (E1 : OEnds P a 0 (entL as y.maxL) [] H (v, H1, kc, ks)) (E2 : OEnds P mi (pc + 3) (forget er L) (v.toList ++ rest) H1 r) : OEnds P mi pc L S H (addR r kc ks) := by
  obtain ⟨n1, E1⟩ := E1
  obtain ⟨n2, E2⟩ := E2
  refine ⟨n1 + n2 + 1, fun n hn => ?_⟩
  obtain ⟨k, rfl⟩ : ∃ k, n = k + 1 := ⟨n - 1, by omega⟩
  have e1 := E1 k (by omega)
  have e2 := E2 k (by omega)
  unfold exe
  rw [hm]
  simp only
  rw [hf]
  simp only
  split
  all_goals first | (simp [isInv] at hi; done) | skip
  rw [if_pos hi, if_neg hb, hy]
  simp only
  rw [hao]
  simp only
  rw [if_pos hc, e1]
  simp only
  rw [e2]
  rfl
theorem OEnds.call0 (hm : P.mth[mi]? = some d) (hf : fetch d.code pc = some (i, len, er, a, b)) (hi : isInv i = true) (hb : ¬ b = -1) (hy : P.mth[a]? = some y) (hao : argsOf (nargs y) S = some (as, rest))
    (hc : (decide (0 < a) && invKind i y.kind && recvOk P H y as && fitsRoom d y rest && decide ((entA as).length ≤ y.maxL)) = true) (E1 : OEnds P a 0 (entL as y.maxL) [] H (v, H1, 0, 0)) (E2 : OEnds P mi (pc + 3) (forget er L) (v.toList ++ rest) H1 r) : OEnds P mi pc L S H r :=
  OEnds.call (r := r) hm hf hi hb hy hao hc E1 E2
theorem OEnds.made (hm : P.mth[mi]? = some d) (hf : fetch d.code pc = some (i, len, er, a, b)) (hi : isNew i = true) (hx : xN P i a S H = some (S', H', ks)) (E : OEnds P mi (pc + len) (forget er L) S' H' r) : OEnds P mi pc L S H (addR r 1 ks) := by
  obtain ⟨n0, E⟩ := E
  refine ⟨n0 + 1, fun n hn => ?_⟩
  obtain ⟨k, rfl⟩ : ∃ k, n = k + 1 := ⟨n - 1, by omega⟩
  have e1 := E k (by omega)
  unfold exe
  rw [hm]
  simp only
  rw [hf]
  simp only
  split
  all_goals first | (simp [isNew] at hi; done) | skip
  have h1 : ¬ isInv i = true := by
    cases i <;> first | (simp [isNew] at hi; done) | simp [isInv]
  rw [if_neg h1, if_pos hi, hx]
  simp only
  rw [e1]
  rfl
end Rules
/-- k plain instructions and jumps in one go -/
def adv (P : PD) (d : MD) : Nat → Nat → List Slot → List Value → AHeap → Option (Nat × List Slot × List Value × AHeap)
  | 0, pc, L, S, H => some (pc, L, S, H)
  | k + 1, pc, L, S, H => match fetch d.code pc with
    | some (i, len, er, a, b) => match i with
      | .goto o => match tgt pc o with
        | some q => adv P d k q (forget er L) S H
        | none => none
      | i => if plainI i = true then match xI P (d.name.name == "<init>") d.cid i a b (forget er L) S H with
          | some (L', S', H') => adv P d k (pc + len) L' S' H'
          | none => none
        else none
    | none => none
theorem OEnds.adv {P : PD} {mi : Nat} {d : MD} (hm : P.mth[mi]? = some d) {r : Res} : ∀ (k : Nat) {pc pc' : Nat} {L L' : List Slot} {S S' : List Value} {H H' : AHeap}, adv P d k pc L S H = some (pc', L', S', H') → OEnds P mi pc' L' S' H' r → OEnds P mi pc L S H r
  | 0, _, _, _, _, _, _, _, _, h, E => by
    unfold Own.adv at h
    cases h
    exact E
  | k + 1, pc, pc', L, L', S, S', H, H', h, E => by
    unfold Own.adv at h
    split at h
    · rename_i it i len er a b hf
      split at h
      · rename_i o
        split at h
        · rename_i q hq
          exact OEnds.goto hm hf hq (OEnds.adv hm k h E)
        · cases h
      · split at h
        · rename_i hp
          split at h
          · rename_i L1 S1 H1 hx
            exact OEnds.plain hm hf hp hx (OEnds.adv hm k h E)
          · cases h
        · cases h
    · cases h
theorem x_iaload {P : PD} {ini : Bool} {cid a o : Nat} {b : Int} {L : List Slot} {S : List Value} {H : AHeap} {A : List Int32} {j x : Int32} (h : H[o]? = some (.inr (.inl (false, A)))) (hx : rdA A j = some x) : xI P ini cid .iaload a b L (.int j :: .ref o :: S) H = some (L, .int x :: S, H) := by simp [xI, h, hx]
theorem x_baload {P : PD} {ini : Bool} {cid a o : Nat} {b : Int} {L : List Slot} {S : List Value} {H : AHeap} {A : List Int32} {j x : Int32} (h : H[o]? = some (.inr (.inl (true, A)))) (hx : rdA A j = some x) : xI P ini cid .baload a b L (.int j :: .ref o :: S) H = some (L, .int x :: S, H) := by simp [xI, h, hx]
theorem x_laload {P : PD} {ini : Bool} {cid a o : Nat} {b : Int} {L : List Slot} {S : List Value} {H : AHeap} {A : List Int64} {j : Int32} {x : Int64} (h : H[o]? = some (.inr (.inr A))) (hx : rdA A j = some x) : xI P ini cid .laload a b L (.int j :: .ref o :: S) H = some (L, .long x :: S, H) := by simp [xI, h, hx]
theorem x_iastore {P : PD} {ini : Bool} {cid a o : Nat} {b : Int} {L : List Slot} {S : List Value} {H : AHeap} {A A' : List Int32} {j x : Int32} (h : H[o]? = some (.inr (.inl (false, A)))) (hn : P.nr ≤ o) (hx : wrA A j x = some A') : xI P ini cid .iastore a b L (.int x :: .int j :: .ref o :: S) H = some (L, S, H.set o (.inr (.inl (false, A')))) := by simp [xI, h, hx, hn]
theorem x_bastore {P : PD} {ini : Bool} {cid a o : Nat} {b : Int} {L : List Slot} {S : List Value} {H : AHeap} {A A' : List Int32} {j x : Int32} (h : H[o]? = some (.inr (.inl (true, A)))) (hn : P.nr ≤ o) (hx : wrA A j (x &&& 1) = some A') : xI P ini cid .bastore a b L (.int x :: .int j :: .ref o :: S) H = some (L, S, H.set o (.inr (.inl (true, A')))) := by simp [xI, h, hx, hn]
theorem x_lastore {P : PD} {ini : Bool} {cid a o : Nat} {b : Int} {L : List Slot} {S : List Value} {H : AHeap} {A A' : List Int64} {j : Int32} {x : Int64} (h : H[o]? = some (.inr (.inr A))) (hn : P.nr ≤ o) (hx : wrA A j x = some A') : xI P ini cid .lastore a b L (.long x :: .int j :: .ref o :: S) H = some (L, S, H.set o (.inr (.inr A'))) := by simp [xI, h, hx, hn]
theorem x_irem {P : PD} {ini : Bool} {cid a : Nat} {b : Int} {L : List Slot} {S : List Value} {H : AHeap} {x y : Int32} (h : ¬ y = 0) : xI P ini cid .irem a b L (.int y :: .int x :: S) H = some (L, .int (x % y) :: S, H) := by simp [xI, h]
theorem x_idiv {P : PD} {ini : Bool} {cid a : Nat} {b : Int} {L : List Slot} {S : List Value} {H : AHeap} {x y : Int32} (h : ¬ y = 0) : xI P ini cid .idiv a b L (.int y :: .int x :: S) H = some (L, .int (x / y) :: S, H) := by simp [xI, h]
theorem x_lrem {P : PD} {ini : Bool} {cid a : Nat} {b : Int} {L : List Slot} {S : List Value} {H : AHeap} {x y : Int64} (h : ¬ y = 0) : xI P ini cid .lrem a b L (.long y :: .long x :: S) H = some (L, .long (x % y) :: S, H) := by simp [xI, h]
theorem x_ldiv {P : PD} {ini : Bool} {cid a : Nat} {b : Int} {L : List Slot} {S : List Value} {H : AHeap} {x y : Int64} (h : ¬ y = 0) : xI P ini cid .ldiv a b L (.long y :: .long x :: S) H = some (L, .long (x / y) :: S, H) := by simp [xI, h]
theorem c_lt {x y : Int64} : XT.cmpL x y < 0 ↔ x < y := by
  unfold XT.cmpL; split <;> (try split) <;> simp_all [Int64.lt_iff_toInt_lt, ← Int64.toInt_inj] <;> omega
theorem c_gt {x y : Int64} : 0 < XT.cmpL x y ↔ y < x := by
  unfold XT.cmpL; split <;> (try split) <;> simp_all [Int64.lt_iff_toInt_lt, ← Int64.toInt_inj] <;> omega
theorem c_eq {x y : Int64} : XT.cmpL x y = 0 ↔ x = y := by
  unfold XT.cmpL; split <;> (try split) <;> simp_all [Int64.lt_iff_toInt_lt, ← Int64.toInt_inj] <;> omega
end Jvm.Own
namespace Jvm.Own
open Jvm Jvm.ClassFile Sem Op Lib Jvm.Free Jvm.Stand Jvm.LawKit Jvm.RoadKit Bundle
theorem bnd {α β : Type} {o : Option α} {f : α → Option β} {b : β} (h : o.bind f = some b) : ∃ a, o = some a ∧ f a = some b := Option.bind_eq_some_iff.mp h
theorem x_putZ {P : PD} {ini : Bool} {k cid a o : Nat} {b : Int} {L : List Slot} {S : List Value} {H : AHeap} {fs : List Value} {nm ds : String} {x : Int32} (h : H[o]? = some (.inl (cid, fs))) (hn : P.nr ≤ o) (hf : ((P.cls[cid]?).bind fun cd => cd.2.2[a]?) = some (nm, ds, .boolean, false)) (hx : x = 0 ∨ x = 1) :
    xI P ini cid (.putfield k) a b L (.int x :: .ref o :: S) H = some (L, S, H.set o (.inl (cid, fs.set a (.int x)))) := by
  rcases hx with rfl | rfl <;> simp [xI, h, hn, hf, putOk]
section Rules
variable {P : PD} {mi pc len a q : Nat} {er : List Bool} {b : Int} {i : Instr} {d y : MD} {L L' : List Slot} {S S' as rest : List Value} {H H' H1 : AHeap} {r : Res} {kc ks : Nat} {v : Option Value}
theorem OEnds.made1 {w : Option Value} {Hf : AHeap} (hm : P.mth[mi]? = some d) (hf : fetch d.code pc = some (i, len, er, a, b)) (hi : isNew i = true) (hx : xN P i a S H = some (S', H', ks)) {c0 s0 c1 s1 : Nat} (hr : (c1, s1) = (c0 + 1, s0 + ks)) (E : OEnds P mi (pc + len) (forget er L) S' H' (w, Hf, c0, s0)) : OEnds P mi pc L S H (w, Hf, c1, s1) := by
  cases hr
  exact OEnds.made (r := (w, Hf, c0, s0)) hm hf hi hx E
/-! The same, of a run whose end is told by a property -/
def OEndsQ (P : PD) (mi pc : Nat) (L : List Slot) (S : List Value) (H : AHeap) (Q : Res → Prop) : Prop := ∃ r, OEnds P mi pc L S H r ∧ Q r
variable {Q : Res → Prop}
theorem OEndsQ.plain (hm : P.mth[mi]? = some d) (hf : fetch d.code pc = some (i, len, er, a, b)) (hp : plainI i = true) (hx : xI P (d.name.name == "<init>") d.cid i a b (forget er L) S H = some (L', S', H')) (E : OEndsQ P mi (pc + len) L' S' H' Q) : OEndsQ P mi pc L S H Q := by
  obtain ⟨r, E, hq⟩ := E; exact ⟨r, OEnds.plain hm hf hp hx E, hq⟩
theorem OEndsQ.icmpT {o : Int} {cd : ClassFile.Cond} {x z : Int32} (hm : P.mth[mi]? = some d) (hf : fetch d.code pc = some (.if_icmp cd o, len, er, a, b)) (ht : tgt pc o = some q) (hc : if_icmp.holds cd x z = true) (E : OEndsQ P mi q (forget er L) S H Q) : OEndsQ P mi pc L (.int z :: .int x :: S) H Q := by
  obtain ⟨r, E, hq⟩ := E; exact ⟨r, OEnds.icmpT hm hf ht hc E, hq⟩
theorem OEndsQ.icmpF {o : Int} {cd : ClassFile.Cond} {x z : Int32} (hm : P.mth[mi]? = some d) (hf : fetch d.code pc = some (.if_icmp cd o, len, er, a, b)) (hc : if_icmp.holds cd x z = false) (E : OEndsQ P mi (pc + 3) (forget er L) S H Q) : OEndsQ P mi pc L (.int z :: .int x :: S) H Q := by
  obtain ⟨r, E, hq⟩ := E; exact ⟨r, OEnds.icmpF hm hf hc E, hq⟩
theorem OEndsQ.ifT {o : Int} {cd : ClassFile.Cond} {x : Int32} (hm : P.mth[mi]? = some d) (hf : fetch d.code pc = some (.ifCond cd o, len, er, a, b)) (ht : tgt pc o = some q) (hc : if_icmp.holds cd x 0 = true) (E : OEndsQ P mi q (forget er L) S H Q) : OEndsQ P mi pc L (.int x :: S) H Q := by
  obtain ⟨r, E, hq⟩ := E; exact ⟨r, OEnds.ifT hm hf ht hc E, hq⟩
theorem OEndsQ.ifF {o : Int} {cd : ClassFile.Cond} {x : Int32} (hm : P.mth[mi]? = some d) (hf : fetch d.code pc = some (.ifCond cd o, len, er, a, b)) (hc : if_icmp.holds cd x 0 = false) (E : OEndsQ P mi (pc + 3) (forget er L) S H Q) : OEndsQ P mi pc L (.int x :: S) H Q := by
  obtain ⟨r, E, hq⟩ := E; exact ⟨r, OEnds.ifF hm hf hc E, hq⟩
theorem OEndsQ.nonnull {o : Int} {x : Nat} (hm : P.mth[mi]? = some d) (hf : fetch d.code pc = some (.ifnonnull o, len, er, a, b)) (ht : tgt pc o = some q) (E : OEndsQ P mi q (forget er L) S H Q) : OEndsQ P mi pc L (.ref x :: S) H Q := by
  obtain ⟨r, E, hq⟩ := E; exact ⟨r, OEnds.nonnull hm hf ht E, hq⟩
theorem OEndsQ.call0 (hm : P.mth[mi]? = some d) (hf : fetch d.code pc = some (i, len, er, a, b)) (hi : isInv i = true) (hb : ¬ b = -1) (hy : P.mth[a]? = some y) (hao : argsOf (nargs y) S = some (as, rest))
    (hc : (decide (0 < a) && invKind i y.kind && recvOk P H y as && fitsRoom d y rest && decide ((entA as).length ≤ y.maxL)) = true) (E1 : OEnds P a 0 (entL as y.maxL) [] H (v, H1, 0, 0)) (E2 : OEndsQ P mi (pc + 3) (forget er L) (v.toList ++ rest) H1 Q) : OEndsQ P mi pc L S H Q := by
  obtain ⟨r, E, hq⟩ := E2; exact ⟨r, OEnds.call0 hm hf hi hb hy hao hc E1 E, hq⟩
theorem OEndsQ.adv (hm : P.mth[mi]? = some d) (k : Nat) {pc' : Nat} (h : adv P d k pc L S H = some (pc', L', S', H')) (E : OEndsQ P mi pc' L' S' H' Q) : OEndsQ P mi pc L S H Q := by
  obtain ⟨r, E, hq⟩ := E; exact ⟨r, OEnds.adv hm k h E, hq⟩
/-- what a law's run ends with: its answer, and at the most so many cells and slots made -/
def LawQ (x : Int32) (kc ks : Nat) (r : Res) : Prop := r.1 = some (.int x) ∧ r.2.2.1 ≤ kc ∧ r.2.2.2 ≤ ks
theorem OEndsQ.iret {x u : Int32} (hm : P.mth[mi]? = some d) (hf : fetch d.code pc = some (.ireturn, len, er, a, b)) (hv : retV d.ret x = some (.int u)) : OEndsQ P mi pc L [.int x] H (LawQ u kc ks) :=
  ⟨_, OEnds.iret hm hf hv, rfl, Nat.zero_le _, Nat.zero_le _⟩
theorem OEndsQ.weak {x : Int32} {c0 s0 : Nat} (h1 : c0 ≤ kc) (h2 : s0 ≤ ks) (E : OEndsQ P mi pc L S H (LawQ x c0 s0)) : OEndsQ P mi pc L S H (LawQ x kc ks) := by
  obtain ⟨r, E, q1, q2, q3⟩ := E; exact ⟨r, E, q1, Nat.le_trans q2 h1, Nat.le_trans q3 h2⟩
theorem OEndsQ.made {x : Int32} {c0 s0 c1 s1 : Nat} (hm : P.mth[mi]? = some d) (hf : fetch d.code pc = some (i, len, er, a, b)) (hi : isNew i = true) (hx : xN P i a S H = some (S', H', ks)) (h1 : c0 + 1 ≤ c1) (h2 : s0 + ks ≤ s1) (E : OEndsQ P mi (pc + len) (forget er L) S' H' (LawQ x c0 s0)) : OEndsQ P mi pc L S H (LawQ x c1 s1) := by
  obtain ⟨⟨v, Hf, k, n⟩, E, q1, q2, q3⟩ := E
  dsimp only at q1 q2 q3
  exact ⟨_, OEnds.made hm hf hi hx E, q1, by show k + 1 ≤ c1; omega, by show n + ks ≤ s1; omega⟩
theorem OEndsQ.callN {x : Int32} {c0 s0 c1 s1 : Nat} (hm : P.mth[mi]? = some d) (hf : fetch d.code pc = some (i, len, er, a, b)) (hi : isInv i = true) (hb : ¬ b = -1) (hy : P.mth[a]? = some y) (hao : argsOf (nargs y) S = some (as, rest))
    (hc : (decide (0 < a) && invKind i y.kind && recvOk P H y as && fitsRoom d y rest && decide ((entA as).length ≤ y.maxL)) = true) (E1 : OEnds P a 0 (entL as y.maxL) [] H (v, H1, kc, ks)) (h1 : c0 + kc ≤ c1) (h2 : s0 + ks ≤ s1) (E2 : OEndsQ P mi (pc + 3) (forget er L) (v.toList ++ rest) H1 (LawQ x c0 s0)) : OEndsQ P mi pc L S H (LawQ x c1 s1) := by
  obtain ⟨⟨v, Hf, k, n⟩, E, q1, q2, q3⟩ := E2
  dsimp only at q1 q2 q3
  exact ⟨_, OEnds.call hm hf hi hb hy hao hc E1 E, q1, by show k + kc ≤ c1; omega, by show n + ks ≤ s1; omega⟩
end Rules
/-! From the machine to the claim -/
theorem law_met {P : PD} {Z : State} {a0 : Array Value} {l : Launch} {y : MD} {as ws : List Value} {H : AHeap} {ρ : List Addr} {n0 kc ks : Nat} {h : Heap} (hP : chk P = true) (hW : ∀ w ∈ wordsOf P, w.before a0 Z = true) (hy : P.mth[0]? = some y)
    (E : OEndsQ P 0 0 (entL as y.maxL) [] H (LawQ 1 kc ks)) (hS : SR ρ as ws) (hlen : (entA as).length ≤ y.maxL) (hH : HR P Z n0 h ρ H) (w0 : List Jvm.Cond) (rm : Room) (r1 : y.rf ≤ rm.frames) (r2 : y.rw ≤ rm.locals) (r3 : kc ≤ rm.cells) (r4 : ks ≤ rm.slots) :
    MetFree l y.name (head1 (Jvm.Cond.code y.name y.bytes y.maxL y.ret :: w0) rm) (fun a U => a = ws.toArray ∧ Z.Warmed39 U.vm ∧ U.heap = h) (fun _ _ _ _ _ => True)
      (fun _ U o U' => ∃ L, o = .returned (some (.int 1)) ∧ Fr n0 L ∧ FrameEnd U o U' L kc ks) := by
  obtain ⟨⟨v, H1, c1, s1⟩, ⟨n, E⟩, q1, q2, q3⟩ := E
  dsimp only at q1 q2 q3
  subst q1
  have hpn : plainName y.name.cls = true := by
    have := mChk_of hP (List.mem_of_getElem? hy)
    simp only [mChk, Bool.and_eq_true] at this
    exact this.1.1.1.1.1.1
  have M := met_of (l := l) (n := n) (sound hP hW n) hy hpn (E n (Nat.le_refl _)) hS hlen hH w0 rm r1 r2 (Nat.le_trans q2 r3) (Nat.le_trans q3 r4)
  intro p e ha hc hk s m args below hf happ hp hK
  obtain ⟨n', o, h1, h2, h3, v', L, rfl, ⟨hF, t, ⟨u, rfl, hu⟩, -⟩, hq⟩ := M p e ha hc hk s m args below hf happ hp hK
  obtain rfl : u = .int 1 := hu
  exact ⟨n', _, h1, h2, h3, L, rfl, hF, hq.1, hq.2.1, hq.2.2.mono q2 q3⟩
end Jvm.Own
namespace Jvm.Own
open Jvm Jvm.ClassFile Sem Op Lib Jvm.Free Jvm.Stand Jvm.LawKit Jvm.RoadKit Bundle
/-- the law's script: an int array of at most 260 -/
theorem script_of {s : State} {ad : Addr} {cl : Cell} (hf : Fit s) (A : Arr s s.heap ad cl .int) (e0 : (Term.arg 0).eval #[.ref ad] s none [] s = some (.ref ad)) (hn : (Jvm.Cond.le (.length (.arg 0)) (.int 260)).value #[.ref ad] s none s [] = some true) :
    ∃ scr : List Int32, cl.slots.size = scr.length ∧ scr.length ≤ 260 ∧ ∀ (i : Nat) x, scr[i]? = some x → cl.slots[i]? = some (.int x) := by
  obtain ⟨u, v, g1, g2, -, -⟩ := cmp_v (Or.inr (Or.inr hn))
  obtain ⟨a', cl', z1, z2, z3⟩ := Term.length_spec g1
  have hat := A.fin (Vm.Alike.refl _)
  rw [e0] at z1
  cases z1
  rw [hat] at z2
  cases z2
  have hsz : cl.slots.size < 2 ^ 31 := by
    rcases Nat.lt_or_ge cl.slots.size (2 ^ 31) with q | q
    · exact q
    · exfalso
      simp [Term.eval, hat] at g1
      omega
  subst z3
  have hv : v = .int 260 := by simpa [Term.eval] using g2.symm
  subst hv
  have hle : cl.slots.size.toInt32 ≤ 260 := by
    simpa [Cond.value, g1, g2] using hn
  have hle' : cl.slots.size ≤ 260 := by
    rw [Int32.le_iff_toInt_le, len_toInt hsz] at hle
    have : (260 : Int32).toInt = 260 := rfl
    rw [this] at hle
    omega
  have key : ∀ i, i < cl.slots.size → ∃ x, cl.slots[i]? = some (.int x) := fun i hi => by
    have hj := idx_in hi hsz
    obtain ⟨v, e1, e2⟩ := elem_fit hf A hj
    have : i.toInt32.toNatClampNeg = i := by
      have h1 : i.toInt32.toInt = i := len_toInt (by omega)
      simp [Int32.toNatClampNeg, h1]
    rw [this] at e1
    obtain ⟨x, rfl⟩ := fit_I e2 (Or.inl rfl)
    exact ⟨x, e1⟩
  refine ⟨cl.slots.toList.map fun v => match v with | .int x => x | _ => 0, by simp, by simpa using hle', fun i x hx => ?_⟩
  rw [List.getElem?_map] at hx
  obtain ⟨v, h1, h2⟩ := Option.map_eq_some_iff.mp hx
  have h1' : cl.slots[i]? = some v := by simpa using h1
  obtain ⟨y, hy⟩ := key i (Array.getElem?_eq_some_iff.mp h1').1
  rw [h1'] at hy
  cases hy
  rw [h1']
  simp at h2
  rw [h2]
theorem hr_script {P : PD} {s : State} {ad : Addr} {cl : Cell} {scr : List Int32} (hnr : P.nr = 1) (A : Arr s s.heap ad cl .int) (h1 : cl.slots.size = scr.length) (h2 : scr.length ≤ 260) (h3 : ∀ (i : Nat) x, scr[i]? = some x → cl.slots[i]? = some (.int x)) : HR P s s.heap.size s.heap [ad] [.inr (.inl (false, scr))] := by
  refine ⟨Nat.le_refl _, rfl, fun i j a g1 g2 => ?_, fun k a g1 g2 => ?_, fun k a c g1 g2 => ?_⟩
  · match i, j, g1, g2 with
    | 0, 0, _, _ => rfl
    | i + 1, _, g1, _ => simp at g1
    | 0, j + 1, _, g2 => simp at g2
  · match k, g1, g2 with
    | 0, _, g2 => rw [hnr] at g2; omega
    | k + 1, g1, _ => simp at g1
  · match k, g1, g2 with
    | 0, g1, g2 =>
      simp at g1 g2
      subst g1 g2
      exact ⟨cl, A, h1, by omega, h3⟩
    | k + 1, g1, _ => simp at g1
end Jvm.Own
namespace Jvm.Own
open Jvm
/-! Ints in range, arrays -/
theorem ilt {a b : Int32} : a < b ↔ a.toInt < b.toInt := Int32.lt_iff_toInt_lt
theorem ile {a b : Int32} : a ≤ b ↔ a.toInt ≤ b.toInt := Int32.le_iff_toInt_le
theorem ieq {a b : Int32} : a = b ↔ a.toInt = b.toInt := Int32.toInt_inj.symm
theorem irng (a : Int32) : -2147483648 ≤ a.toInt ∧ a.toInt < 2147483648 := ⟨Int32.le_toInt a, Int32.toInt_lt a⟩
theorem iadd_i {a b : Int32} (h1 : -2147483648 ≤ a.toInt + b.toInt) (h2 : a.toInt + b.toInt < 2147483648) : (a + b).toInt = a.toInt + b.toInt := by
  rw [Int32.toInt_add]; exact Int.bmod_eq_of_le (by omega) (by omega)
theorem isub_i {a b : Int32} (h1 : -2147483648 ≤ a.toInt - b.toInt) (h2 : a.toInt - b.toInt < 2147483648) : (a - b).toInt = a.toInt - b.toInt := by
  rw [Int32.toInt_sub]; exact Int.bmod_eq_of_le (by omega) (by omega)
theorem imul_i {a b : Int32} (h1 : -2147483648 ≤ a.toInt * b.toInt) (h2 : a.toInt * b.toInt < 2147483648) : (a * b).toInt = a.toInt * b.toInt := by
  rw [Int32.toInt_mul]; exact Int.bmod_eq_of_le (by omega) (by omega)
theorem rdA_nn {α : Type} {L : List α} {j : Int32} (h0 : 0 ≤ j.toInt) : rdA L j = L[j.toInt.toNat]? := by
  unfold rdA
  rw [if_neg (by rw [ilt]; exact Int.not_lt.mpr h0)]
  rfl
theorem rdA_in {α : Type} {L : List α} {j : Int32} (h0 : 0 ≤ j.toInt) (h1 : j.toInt.toNat < L.length) : rdA L j = some L[j.toInt.toNat] := by
  rw [rdA_nn h0, List.getElem?_eq_getElem h1]
theorem wrA_in {α : Type} {L : List α} {j : Int32} {x : α} (h0 : 0 ≤ j.toInt) (h1 : j.toInt.toNat < L.length) : wrA L j x = some (L.set j.toInt.toNat x) := by
  unfold wrA
  rw [if_neg (by rw [ilt]; exact Int.not_lt.mpr h0)]
  exact if_pos h1
theorem rdA_rep {α : Type} {n : Nat} {x : α} {j : Int32} (h0 : 0 ≤ j.toInt) (h1 : j.toInt < n) : rdA (List.replicate n x) j = some x := by
  rw [rdA_nn h0, List.getElem?_replicate, if_pos (by omega)]
end Jvm.Own
namespace Jvm.Own
open Jvm
/-! Sums of ints with their wrap, for omega; runs that answer, and what they answer -/
theorem bmod32 (x : Int) : x.bmod (2 ^ 32) = (x + 2147483648) % 4294967296 - 2147483648 := by
  rw [Int.bmod_def]
  split <;> omega
theorem iadd_e (a b : Int32) : (a + b).toInt = (a.toInt + b.toInt + 2147483648) % 4294967296 - 2147483648 := by
  rw [Int32.toInt_add, bmod32]
theorem isub_e (a b : Int32) : (a - b).toInt = (a.toInt - b.toInt + 2147483648) % 4294967296 - 2147483648 := by
  rw [Int32.toInt_sub, bmod32]
theorem imul_e (a b : Int32) : (a * b).toInt = (a.toInt * b.toInt + 2147483648) % 4294967296 - 2147483648 := by
  rw [Int32.toInt_mul, bmod32]
theorem iscr {n : Nat} (h : n ≤ 260) : (n.toInt32).toInt = n := Int32.toInt_ofNat_of_lt (by omega)
def Tot {α : Type} (x : Option α) (P : α → Prop) : Prop := ∃ r, x = some r ∧ P r
theorem Tot.mk {α : Type} {P : α → Prop} {a : α} (h : P a) : Tot (some a) P := ⟨a, rfl, h⟩
theorem Tot.bind {α β : Type} {x : Option α} {f : α → Option β} {P : α → Prop} {Q : β → Prop} (h : Tot x P) (g : ∀ a, P a → Tot (f a) Q) : Tot (x.bind f) Q := by
  obtain ⟨r, e, p⟩ := h
  rw [e]
  exact g r p
theorem Tot.mono {α : Type} {x : Option α} {P Q : α → Prop} (h : Tot x P) (g : ∀ a, P a → Q a) : Tot x Q := by
  obtain ⟨r, e, p⟩ := h
  exact ⟨r, e, g r p⟩
theorem Tot.ite {α : Type} {c : Prop} [Decidable c] {a b : Option α} {Q : α → Prop} (h1 : c → Tot a Q) (h2 : ¬ c → Tot b Q) : Tot (if c then a else b) Q := by
  by_cases h : c
  · rw [if_pos h]; exact h1 h
  · rw [if_neg h]; exact h2 h
theorem Tot.rd {α β : Type} {L : List α} {j : Int32} {f : α → Option β} {Q : β → Prop} (h0 : 0 ≤ j.toInt) (h1 : j.toInt < L.length) (g : ∀ a, L[j.toInt.toNat]? = some a → Tot (f a) Q) : Tot ((rdA L j).bind f) Q := by
  have h2 : j.toInt.toNat < L.length := by omega
  rw [rdA_in h0 h2]
  exact g _ (List.getElem?_eq_getElem h2)
theorem Tot.wr {α β : Type} {L : List α} {j : Int32} {x : α} {f : List α → Option β} {Q : β → Prop} (h0 : 0 ≤ j.toInt) (h1 : j.toInt < L.length) (g : ∀ L' : List α, L' = L.set j.toInt.toNat x → L'.length = L.length → Tot (f L') Q) : Tot ((wrA L j x).bind f) Q := by
  rw [wrA_in h0 (by omega)]
  exact g _ rfl (by simp)
theorem Tot.eq {α : Type} {x : Option α} {a : α} (h : Tot x (fun r => r = a)) : x = some a := by
  obtain ⟨r, e, p⟩ := h
  rw [e, p]
theorem Tot.of {α : Type} {x : Option α} {a : α} {P : α → Prop} (e : x = some a) (p : P a) : Tot x P := ⟨a, e, p⟩
/-- a bit mask at 15, 31 .. -/
theorem iand_rng (x : Int32) (m : Int32) (h : 0 ≤ m.toInt) : 0 ≤ (x &&& m).toInt ∧ (x &&& m).toInt ≤ m.toInt := by
  have hm : m.toBitVec.msb = false := by
    rw [BitVec.msb_eq_toInt]; simpa using h
  have hx : (x &&& m).toBitVec.msb = false := by
    rw [Int32.toBitVec_and, BitVec.msb_and, hm, Bool.and_false]
  have e1 : m.toInt = (m.toBitVec.toNat : Int) := BitVec.toInt_eq_toNat_of_msb hm
  have e2 : (x &&& m).toInt = (((x &&& m).toBitVec).toNat : Int) := BitVec.toInt_eq_toNat_of_msb hx
  have e3 : ((x &&& m).toBitVec).toNat ≤ m.toBitVec.toNat := by
    rw [Int32.toBitVec_and, BitVec.toNat_and]; exact Nat.and_le_right
  omega
def gI (L : List Int32) (j : Int32) : Int32 := (rdA L j).getD 0
theorem rdg {L : List Int32} {j : Int32} (h0 : 0 ≤ j.toInt) (h1 : j.toInt < L.length) : rdA L j = some (gI L j) := by
  have h2 : j.toInt.toNat < L.length := by omega
  unfold gI
  rw [rdA_in h0 h2]
  (first | done | rfl | simp)
theorem gset {L : List Int32} {i j : Int32} {x : Int32} (hi : 0 ≤ i.toInt) (hl : i.toInt < L.length) (hj : 0 ≤ j.toInt) : gI (L.set i.toInt.toNat x) j = if i = j then x else gI L j := by
  unfold gI
  rw [rdA_nn hj, rdA_nn hj]
  by_cases h : i = j
  · subst h
    rw [if_pos rfl, List.getElem?_set_self (by omega)]
    (first | done | rfl | simp)
  · rw [if_neg h, List.getElem?_set_ne (by rw [ieq] at h; omega)]
theorem gext {A B : List Int32} (hl : A.length < 100000) (ha : A.length = B.length) (h : ∀ i : Int32, 0 ≤ i.toInt → i.toInt < A.length → gI A i = gI B i) : A = B := by
  apply List.ext_getElem ha
  intro k h1 h2
  have e : (Int32.ofNat k).toInt = k := Int32.toInt_ofNat_of_lt (by omega)
  have q := h (Int32.ofNat k) (by omega) (by omega)
  unfold gI at q
  rw [rdA_nn (by omega), rdA_nn (by omega), e] at q
  simpa [h1, h2] using q
theorem Tot.rdI {β : Type} {L : List Int32} {j : Int32} {f : Int32 → Option β} {Q : β → Prop} (h0 : 0 ≤ j.toInt) (h1 : j.toInt < L.length) (g : Tot (f (gI L j)) Q) : Tot ((rdA L j).bind f) Q := by
  rw [rdg h0 h1]
  exact g
theorem gI_rep {n : Nat} {x : Int32} {j : Int32} (h0 : 0 ≤ j.toInt) (h1 : j.toInt < n) : gI (List.replicate n x) j = x := by
  unfold gI
  rw [rdA_rep h0 h1]
  (first | done | rfl | simp)
/-! Longs -/
theorem lltI {a b : Int64} : a < b ↔ a.toInt < b.toInt := Int64.lt_iff_toInt_lt
theorem leqI {a b : Int64} : a = b ↔ a.toInt = b.toInt := Int64.toInt_inj.symm
theorem lrng (a : Int64) : -9223372036854775808 ≤ a.toInt ∧ a.toInt < 9223372036854775808 := ⟨Int64.le_toInt a, Int64.toInt_lt a⟩
theorem ladd_i {a b : Int64} (h1 : -9223372036854775808 ≤ a.toInt + b.toInt) (h2 : a.toInt + b.toInt < 9223372036854775808) : (a + b).toInt = a.toInt + b.toInt := by
  rw [Int64.toInt_add]; exact Int.bmod_eq_of_le (by omega) (by omega)
theorem lsub_i {a b : Int64} (h1 : -9223372036854775808 ≤ a.toInt - b.toInt) (h2 : a.toInt - b.toInt < 9223372036854775808) : (a - b).toInt = a.toInt - b.toInt := by
  rw [Int64.toInt_sub]; exact Int.bmod_eq_of_le (by omega) (by omega)
theorem lmul_i {a b : Int64} (h1 : -9223372036854775808 ≤ a.toInt * b.toInt) (h2 : a.toInt * b.toInt < 9223372036854775808) : (a * b).toInt = a.toInt * b.toInt := by
  rw [Int64.toInt_mul]; exact Int.bmod_eq_of_le (by omega) (by omega)
theorem lmod_i {a b : Int64} (h : 0 ≤ a.toInt) : (a % b).toInt = a.toInt % b.toInt := by
  rw [Int64.toInt_mod, Int.tmod_eq_emod_of_nonneg h]
theorem lback {a : Int64} (h1 : -2147483648 ≤ a.toInt) (h2 : a.toInt < 2147483648) : a.toInt32.toInt64 = a := by
  rw [leqI, Int32.toInt_toInt64, Int64.toInt_toInt32, bmod32]
  omega
theorem mulb {a b M : Int} (h0 : 0 ≤ a) (h1 : a ≤ M) (h2 : 0 ≤ b) (h3 : b ≤ M) : 0 ≤ a * b ∧ a * b ≤ M * M :=
  ⟨Int.mul_nonneg h0 h2, Int.mul_le_mul h1 h3 h2 (by omega)⟩
end Jvm.Own
namespace Jvm.Pilot.@@N@@
open Jvm Jvm.ClassFile Sem Op Lib Jvm.Free Jvm.Stand Jvm.LawKit Jvm.RoadKit Bundle Jvm.Own Jvm.Pilot.@@N@@.Jvm.D
def d_0 : MD := (x, code, maxLocals, ret, 0, 1, 999, 5, 81, [(0, .aload_n 0, 1, [], 0, 0), (1, .iconst 0, 1, [], 0, 0), (2, .invokestatic 7, 3, [], 1, 0), (5, .iconst 3, 1, [], 0, 0), (6, .iand, 1, [], 0, 0), (7, .iconst 1, 1, [], 0, 0), (8, .iadd, 1, [], 0, 0), (9, .istore_n 1, 1, [], 0, 0), (10, .iconst 1, 1, [], 0, 0), (11, .iload_n 1, 1, [], 0, 0), (12, .ishl, 1, [], 0, 0), (13, .istore_n 2, 1, [], 0, 0), (14, .new 13, 3, [], 0, 0), (17, .dup, 1, [], 0, 0), (18, .iload_n 1, 1, [], 0, 0), (19, .invokespecial 15, 3, [], 2, 0), (22, .astore_n 3, 1, [], 0, 0), (23, .iconst 0, 1, [], 0, 0), (24, .istore 4, 2, [], 0, 0), (26, .iconst 0, 1, [], 0, 0), (27, .istore 5, 2, [], 0, 0), (29, .iconst 0, 1, [], 0, 0), (30, .istore 6, 2, [], 0, 0), (32, .iconst 0, 1, [], 0, 0), (33, .istore 7, 2, [], 0, 0), (35, .iconst (-1), 1, [], 0, 0), (36, .istore 8, 2, [], 0, 0), (38, .iconst 0, 1, [], 0, 0), (39, .istore 9, 2, [], 0, 0), (41, .iconst 0, 1, [], 0, 0), (42, .istore 10, 2, [], 0, 0), (44, .iconst 0, 1, [], 0, 0), (45, .istore 11, 2, [], 0, 0), (47, .aload_n 0, 1, [], 0, 0), (48, .iconst 0, 1, [], 0, 0), (49, .invokestatic 7, 3, [], 1, 0), (52, .iconst 2, 1, [], 0, 0), (53, .iushr, 1, [], 0, 0), (54, .iconst 1, 1, [], 0, 0), (55, .iand, 1, [], 0, 0), (56, .ifCond .ne 24, 3, [], 0, 0), (59, .aload_n 3, 1, [], 0, 0), (60, .aload_n 0, 1, [], 0, 0), (61, .iconst 1, 1, [], 0, 0), (62, .invokestatic 7, 3, [], 1, 0), (65, .invokevirtual 18, 3, [], 3, 0), (68, .ifCond .eq 12, 3, [], 0, 0), (71, .iconst 1, 1, [], 0, 0), (72, .istore 4, 2, [], 0, 0), (74, .aload_n 3, 1, [], 0, 0), (75, .invokevirtual 22, 3, [], 15, 0), (78, .istore 5, 2, [], 0, 0), (80, .iconst 2, 1, [], 0, 0), (81, .istore 12, 2, [], 0, 0), (83, .iload 12, 2, [false, true, false, false, false, false, false, false, false, false, false, false, false, true, true, true, true, true], 0, 0), (85, .aload_n 0, 1, [], 0, 0), (86, .arraylength, 1, [], 0, 0), (87, .if_icmp .ge 364, 3, [], 0, 0), (90, .aload_n 0, 1, [], 0, 0), (91, .iload 12, 2, [], 0, 0), (93, .invokestatic 7, 3, [], 1, 0), (96, .bipush 7, 2, [], 0, 0), (98, .iand, 1, [], 0, 0), (99, .istore 13, 2, [], 0, 0), (101, .aload_n 0, 1, [], 0, 0), (102, .iload 12, 2, [], 0, 0), (104, .iconst 1, 1, [], 0, 0), (105, .iadd, 1, [], 0, 0), (106, .invokestatic 7, 3, [], 1, 0), (109, .istore 14, 2, [], 0, 0), (111, .iload 13, 2, [], 0, 0), (113, .ifCond .ne 30, 3, [], 0, 0), (116, .aload_n 3, 1, [], 0, 0), (117, .iload 14, 2, [], 0, 0), (119, .invokevirtual 18, 3, [], 3, 0), (122, .istore 15, 2, [], 0, 0), (124, .iload 15, 2, [], 0, 0), (126, .ifCond .eq 17, 3, [], 0, 0), (129, .iload 4, 2, [], 0, 0), (131, .ifCond .ne 12, 3, [], 0, 0), (134, .iconst 1, 1, [], 0, 0), (135, .istore 4, 2, [], 0, 0), (137, .aload_n 3, 1, [], 0, 0), (138, .invokevirtual 22, 3, [], 15, 0), (141, .istore 5, 2, [], 0, 0), (143, .iload 13, 2, [false, true, false, false, false, false, false, false, false, false, false, false, false, false, false, true, true, true], 0, 0), (145, .iconst 1, 1, [], 0, 0), (146, .if_icmp .eq 10, 3, [], 0, 0), (149, .iload 13, 2, [], 0, 0), (151, .bipush 6, 2, [], 0, 0), (153, .if_icmp .ne 72, 3, [], 0, 0), (156, .aload_n 3, 1, [false, true, false, false, false, false, false, true, false, false, true, false, false, false, false, true, true, true], 0, 0), (157, .iload 14, 2, [], 0, 0), (159, .invokevirtual 26, 3, [], 16, 0), (162, .istore 15, 2, [], 0, 0), (164, .iload 4, 2, [], 0, 0), (166, .ifCond .ne 7, 3, [], 0, 0), (169, .iconst (-1), 1, [], 0, 0), (170, .goto 16, 3, [], 0, 0), (173, .iload 6, 2, [], 0, 0), (175, .iload_n 2, 1, [], 0, 0), (176, .if_icmp .ne 8, 3, [], 0, 0), (179, .bipush (-2), 2, [], 0, 0), (181, .goto 5, 3, [], 0, 0), (184, .iload 6, 2, [], 0, 0), (186, .istore 16, 2, [false, true, false, false, false, false, false, true, false, false, true, false, false, false, false, false, true, true], 0, 0), (188, .iload 15, 2, [], 0, 0), (190, .iload 16, 2, [], 0, 0), (192, .if_icmp .eq 5, 3, [], 0, 0), (195, .iconst 0, 1, [], 0, 0), (196, .ireturn, 1, [], 0, 0), (197, .iload 15, 2, [], 0, 0), (199, .ifCond .lt 20, 3, [], 0, 0), (202, .iinc 6 1, 3, [], 0, 0), (205, .iconst 1, 1, [], 0, 0), (206, .istore 7, 2, [], 0, 0), (208, .iload 15, 2, [], 0, 0), (210, .istore 8, 2, [], 0, 0), (212, .iload 14, 2, [], 0, 0), (214, .istore 9, 2, [], 0, 0), (216, .goto 6, 3, [], 0, 0), (219, .iconst 0, 1, [], 0, 0), (220, .istore 7, 2, [], 0, 0), (222, .iconst 0, 1, [], 0, 0), (223, .istore 10, 2, [], 0, 0), (225, .iload 13, 2, [false, true, false, false, false, false, false, false, false, false, false, false, false, false, false, true, true, true], 0, 0), (227, .iconst 2, 1, [], 0, 0), (228, .if_icmp .eq 10, 3, [], 0, 0), (231, .iload 13, 2, [], 0, 0), (233, .bipush 6, 2, [], 0, 0), (235, .if_icmp .ne 45, 3, [], 0, 0), (238, .aload_n 3, 1, [false, true, false, false, false, false, false, false, false, false, true, false, false, false, false, true, true, true], 0, 0), (239, .invokevirtual 30, 3, [], 19, 0), (242, .istore 15, 2, [], 0, 0), (244, .iload 7, 2, [], 0, 0), (246, .ifCond .eq 31, 3, [], 0, 0), (249, .iload 15, 2, [], 0, 0), (251, .ifCond .ne 5, 3, [], 0, 0), (254, .iconst 0, 1, [], 0, 0), (255, .ireturn, 1, [], 0, 0), (256, .aload_n 3, 1, [], 0, 0), (257, .invokevirtual 34, 3, [], 20, 0), (260, .iload 8, 2, [], 0, 0), (262, .if_icmp .eq 5, 3, [], 0, 0), (265, .iconst 0, 1, [], 0, 0), (266, .ireturn, 1, [], 0, 0), (267, .iconst 1, 1, [], 0, 0), (268, .istore 10, 2, [], 0, 0), (270, .iload 9, 2, [], 0, 0), (272, .istore 11, 2, [], 0, 0), (274, .goto 6, 3, [], 0, 0), (277, .iconst 0, 1, [], 0, 0), (278, .istore 10, 2, [], 0, 0), (280, .iload 13, 2, [false, true, false, false, false, false, false, false, false, false, false, false, false, false, false, true, true, true], 0, 0), (282, .iconst 3, 1, [], 0, 0), (283, .if_icmp .eq 10, 3, [], 0, 0), (286, .iload 13, 2, [], 0, 0), (288, .bipush 6, 2, [], 0, 0), (290, .if_icmp .ne 19, 3, [], 0, 0), (293, .iload 10, 2, [false, true, false, false, false, false, false, false, false, false, false, false, false, false, false, true, true, true], 0, 0), (295, .ifCond .eq 14, 3, [], 0, 0), (298, .aload_n 3, 1, [], 0, 0), (299, .iload 11, 2, [], 0, 0), (301, .invokevirtual 37, 3, [], 21, 0), (304, .ifCond .ne 5, 3, [], 0, 0), (307, .iconst 0, 1, [], 0, 0), (308, .ireturn, 1, [], 0, 0), (309, .iload 13, 2, [false, true, false, false, false, false, false, false, false, false, false, false, false, false, false, true, true, true], 0, 0), (311, .iconst 4, 1, [], 0, 0), (312, .if_icmp .ne 16, 3, [], 0, 0), (315, .aload_n 3, 1, [], 0, 0), (316, .iload 14, 2, [], 0, 0), (318, .bipush 15, 2, [], 0, 0), (320, .iand, 1, [], 0, 0), (321, .invokevirtual 40, 3, [], 25, 0), (324, .pop, 1, [], 0, 0), (325, .iconst 0, 1, [], 0, 0), (326, .istore 10, 2, [], 0, 0), (328, .iload 13, 2, [false, true, false, false, false, false, false, false, false, false, false, false, false, false, false, true, true, true], 0, 0), (330, .iconst 5, 1, [], 0, 0), (331, .if_icmp .ne 20, 3, [], 0, 0), (334, .aload_n 3, 1, [], 0, 0), (335, .iload 14, 2, [], 0, 0), (337, .bipush 15, 2, [], 0, 0), (339, .iand, 1, [], 0, 0), (340, .iload 14, 2, [], 0, 0), (342, .iconst 4, 1, [], 0, 0), (343, .iushr, 1, [], 0, 0), (344, .invokevirtual 43, 3, [], 24, 0), (347, .pop, 1, [], 0, 0), (348, .iconst 0, 1, [], 0, 0), (349, .istore 10, 2, [], 0, 0), (351, .iload 13, 2, [false, true, false, false, false, false, false, false, false, false, false, false, false, false, false, true, true, true], 0, 0), (353, .bipush 7, 2, [], 0, 0), (355, .if_icmp .ne 74, 3, [], 0, 0), (358, .iload 14, 2, [], 0, 0), (360, .aload_n 0, 1, [], 0, 0), (361, .iload 12, 2, [], 0, 0), (363, .iconst 2, 1, [], 0, 0), (364, .iadd, 1, [], 0, 0), (365, .invokestatic 7, 3, [], 1, 0), (368, .ixor, 1, [], 0, 0), (369, .istore 15, 2, [], 0, 0), (371, .iinc 12 1, 3, [], 0, 0), (374, .iload 15, 2, [], 0, 0), (376, .iload 14, 2, [], 0, 0), (378, .if_icmp .eq 51, 3, [], 0, 0), (381, .iconst 0, 1, [], 0, 0), (382, .istore 16, 2, [], 0, 0), (384, .iconst 0, 1, [], 0, 0), (385, .istore 17, 2, [], 0, 0), (387, .iload 17, 2, [false, true, false, false, false, false, false, false, false, false, false, false, false, true], 0, 0), (389, .bipush 10, 2, [], 0, 0), (391, .if_icmp .ge 31, 3, [], 0, 0), (394, .aload_n 3, 1, [], 0, 0), (395, .iload 15, 2, [], 0, 0), (397, .iload 17, 2, [], 0, 0), (399, .invokevirtual 47, 3, [], 23, 0), (402, .aload_n 3, 1, [], 0, 0), (403, .iload 14, 2, [], 0, 0), (405, .iload 17, 2, [], 0, 0), (407, .invokevirtual 47, 3, [], 23, 0), (410, .if_icmp .ge 6, 3, [], 0, 0), (413, .iconst 1, 1, [], 0, 0), (414, .istore 16, 2, [], 0, 0), (416, .iinc 17 1, 3, [], 0, 0), (419, .goto (-32), 3, [], 0, 0), (422, .iload 16, 2, [false, true, false, false, false, false, false, false, false, false, false, false, false, true, true, true, false, true], 0, 0), (424, .ifCond .ne 5, 3, [], 0, 0), (427, .iconst 0, 1, [], 0, 0), (428, .ireturn, 1, [], 0, 0), (429, .iload 4, 2, [false, true, false, false, false, false, false, false, false, false, false, false, false, true, true, true, true, true], 0, 0), (431, .ifCond .eq 14, 3, [], 0, 0), (434, .aload_n 3, 1, [], 0, 0), (435, .invokevirtual 22, 3, [], 15, 0), (438, .iload 5, 2, [], 0, 0), (440, .if_icmp .eq 5, 3, [], 0, 0), (443, .iconst 0, 1, [], 0, 0), (444, .ireturn, 1, [], 0, 0), (445, .iinc 12 2, 3, [], 0, 0), (448, .goto (-365), 3, [], 0, 0), (451, .iconst 1, 1, [], 0, 0), (452, .ireturn, 1, [], 0, 0)])
def d_1 : MD := (⟨"ChainTreeSignerOwnLaw", "cell", "([II)I"⟩, method_2_code, 2, some .int, 0, 2, 999, 0, 0, [(0, .iload_n 1, 1, [], 0, 0), (1, .aload_n 0, 1, [], 0, 0), (2, .arraylength, 1, [], 0, 0), (3, .if_icmp .ge 9, 3, [], 0, 0), (6, .aload_n 0, 1, [], 0, 0), (7, .iload_n 1, 1, [], 0, 0), (8, .iaload, 1, [], 0, 0), (9, .goto 4, 3, [], 0, 0), (12, .iconst 0, 1, [], 0, 0), (13, .ireturn, 1, [], 0, 0)])
def d_2 : MD := (⟨"ChainTreeSigner", "<init>", "(I)V"⟩, prog_1_method_1_code, 3, none, 1, 1, 0, 1, 12, [(0, .aload_n 0, 1, [], 0, 0), (1, .invokespecial 1, 3, [], 0, -1), (4, .aload_n 0, 1, [], 0, 0), (5, .bipush 14, 2, [], 0, 0), (7, .newarray .int, 2, [], 0, 0), (9, .putfield 7, 3, [], 0, 0), (12, .aload_n 0, 1, [], 0, 0), (13, .bipush 14, 2, [], 0, 0), (15, .newarray .int, 2, [], 0, 0), (17, .putfield 13, 3, [], 1, 0), (20, .aload_n 0, 1, [], 0, 0), (21, .bipush 80, 2, [], 0, 0), (23, .newarray .int, 2, [], 0, 0), (25, .putfield 16, 3, [], 2, 0), (28, .aload_n 0, 1, [], 0, 0), (29, .sipush 160, 3, [], 0, 0), (32, .newarray .int, 2, [], 0, 0), (34, .putfield 19, 3, [], 3, 0), (37, .aload_n 0, 1, [], 0, 0), (38, .bipush 10, 2, [], 0, 0), (40, .newarray .int, 2, [], 0, 0), (42, .putfield 22, 3, [], 4, 0), (45, .aload_n 0, 1, [], 0, 0), (46, .bipush 10, 2, [], 0, 0), (48, .newarray .int, 2, [], 0, 0), (50, .putfield 25, 3, [], 5, 0), (53, .iload_n 1, 1, [], 0, 0), (54, .istore_n 2, 1, [], 0, 0), (55, .iload_n 2, 1, [], 0, 0), (56, .iconst 1, 1, [], 0, 0), (57, .if_icmp .ge 5, 3, [], 0, 0), (60, .iconst 1, 1, [], 0, 0), (61, .istore_n 2, 1, [], 0, 0), (62, .iload_n 2, 1, [false, true], 0, 0), (63, .iconst 4, 1, [], 0, 0), (64, .if_icmp .le 5, 3, [], 0, 0), (67, .iconst 4, 1, [], 0, 0), (68, .istore_n 2, 1, [], 0, 0), (69, .aload_n 0, 1, [false, true], 0, 0), (70, .iload_n 2, 1, [], 0, 0), (71, .putfield 28, 3, [], 6, 0), (74, .aload_n 0, 1, [], 0, 0), (75, .iconst 1, 1, [], 0, 0), (76, .iload_n 2, 1, [], 0, 0), (77, .ishl, 1, [], 0, 0), (78, .putfield 32, 3, [], 7, 0), (81, .aload_n 0, 1, [], 0, 0), (82, .iconst 0, 1, [], 0, 0), (83, .putfield 35, 3, [], 8, 0), (86, .aload_n 0, 1, [], 0, 0), (87, .iconst 0, 1, [], 0, 0), (88, .putfield 39, 3, [], 9, 0), (91, .aload_n 0, 1, [], 0, 0), (92, .iconst 0, 1, [], 0, 0), (93, .putfield 42, 3, [], 10, 0), (96, .aload_n 0, 1, [], 0, 0), (97, .iconst 0, 1, [], 0, 0), (98, .putfield 45, 3, [], 11, 0), (101, .aload_n 0, 1, [], 0, 0), (102, .iconst (-1), 1, [], 0, 0), (103, .putfield 48, 3, [], 12, 0), (106, .aload_n 0, 1, [], 0, 0), (107, .iconst 0, 1, [], 0, 0), (108, .putfield 51, 3, [], 13, 0), (111, .return_, 1, [], 0, 0)])
def d_3 : MD := (⟨"ChainTreeSigner", "keygen", "(I)Z"⟩, prog_1_method_4_code, 2, some .boolean, 3, 1, 0, 4, 68, [(0, .aload_n 0, 1, [], 0, 0), (1, .getfield 35, 3, [], 8, 0), (4, .ifCond .eq 5, 3, [], 0, 0), (7, .iconst 0, 1, [], 0, 0), (8, .ireturn, 1, [], 0, 0), (9, .aload_n 0, 1, [], 0, 0), (10, .iload_n 1, 1, [], 0, 0), (11, .putfield 39, 3, [], 9, 0), (14, .aload_n 0, 1, [], 0, 0), (15, .invokevirtual 63, 3, [], 4, 0), (18, .aload_n 0, 1, [], 0, 0), (19, .invokevirtual 66, 3, [], 13, 0), (22, .aload_n 0, 1, [], 0, 0), (23, .aload_n 0, 1, [], 0, 0), (24, .getfield 16, 3, [], 2, 0), (27, .aload_n 0, 1, [], 0, 0), (28, .getfield 28, 3, [], 6, 0), (31, .bipush 16, 2, [], 0, 0), (33, .imul, 1, [], 0, 0), (34, .iaload, 1, [], 0, 0), (35, .putfield 42, 3, [], 10, 0), (38, .aload_n 0, 1, [], 0, 0), (39, .iconst 1, 1, [], 0, 0), (40, .putfield 35, 3, [], 8, 0), (43, .aload_n 0, 1, [], 0, 0), (44, .iconst 0, 1, [], 0, 0), (45, .putfield 45, 3, [], 11, 0), (48, .iconst 1, 1, [], 0, 0), (49, .ireturn, 1, [], 0, 0)])
def d_4 : MD := (⟨"ChainTreeSigner", "buildLeaves", "()V"⟩, prog_1_method_28_code, 5, none, 2, 0, 0, 3, 52, [(0, .iconst 0, 1, [], 0, 0), (1, .istore_n 1, 1, [], 0, 0), (2, .iload_n 1, 1, [false, false, true, true, true], 0, 0), (3, .aload_n 0, 1, [], 0, 0), (4, .getfield 32, 3, [], 7, 0), (7, .if_icmp .ge 80, 3, [], 0, 0), (10, .iload_n 1, 1, [], 0, 0), (11, .bipush 16, 2, [], 0, 0), (13, .if_icmp .ge 74, 3, [], 0, 0), (16, .iconst 0, 1, [], 0, 0), (17, .istore_n 2, 1, [], 0, 0), (18, .iload_n 2, 1, [false, false, false, true, true], 0, 0), (19, .bipush 10, 2, [], 0, 0), (21, .if_icmp .ge 49, 3, [], 0, 0), (24, .aload_n 0, 1, [], 0, 0), (25, .iload_n 1, 1, [], 0, 0), (26, .iload_n 2, 1, [], 0, 0), (27, .invokevirtual 69, 3, [], 5, 0), (30, .istore_n 3, 1, [], 0, 0), (31, .aload_n 0, 1, [], 0, 0), (32, .iload_n 1, 1, [], 0, 0), (33, .iload_n 2, 1, [], 0, 0), (34, .iload_n 3, 1, [], 0, 0), (35, .iconst 0, 1, [], 0, 0), (36, .bipush 15, 2, [], 0, 0), (38, .invokevirtual 72, 3, [], 9, 0), (41, .istore 4, 2, [], 0, 0), (43, .aload_n 0, 1, [], 0, 0), (44, .getfield 19, 3, [], 3, 0), (47, .iload_n 1, 1, [], 0, 0), (48, .bipush 10, 2, [], 0, 0), (50, .imul, 1, [], 0, 0), (51, .iload_n 2, 1, [], 0, 0), (52, .iadd, 1, [], 0, 0), (53, .iload 4, 2, [], 0, 0), (55, .iastore, 1, [], 0, 0), (56, .aload_n 0, 1, [], 0, 0), (57, .getfield 25, 3, [], 5, 0), (60, .iload_n 2, 1, [], 0, 0), (61, .iload 4, 2, [], 0, 0), (63, .iastore, 1, [], 0, 0), (64, .iinc 2 1, 3, [], 0, 0), (67, .goto (-49), 3, [], 0, 0), (70, .aload_n 0, 1, [false, false, true, true, true], 0, 0), (71, .getfield 16, 3, [], 2, 0), (74, .iload_n 1, 1, [], 0, 0), (75, .aload_n 0, 1, [], 0, 0), (76, .iload_n 1, 1, [], 0, 0), (77, .invokevirtual 79, 3, [], 11, 0), (80, .iastore, 1, [], 0, 0), (81, .iinc 1 1, 3, [], 0, 0), (84, .goto (-82), 3, [], 0, 0), (87, .return_, 1, [], 0, 0)])
def d_5 : MD := (⟨"ChainTreeSigner", "secretKey", "(II)I"⟩, prog_1_method_24_code, 4, some .int, 2, 2, 0, 2, 32, [(0, .aload_n 0, 1, [], 0, 0), (1, .iload_n 1, 1, [], 0, 0), (2, .iload_n 2, 1, [], 0, 0), (3, .invokevirtual 89, 3, [], 6, 0), (6, .istore_n 3, 1, [], 0, 0), (7, .aload_n 0, 1, [], 0, 0), (8, .iload_n 3, 1, [], 0, 0), (9, .aload_n 0, 1, [], 0, 0), (10, .getfield 39, 3, [], 9, 0), (13, .iconst 0, 1, [], 0, 0), (14, .invokevirtual 92, 3, [], 7, 0), (17, .ireturn, 1, [], 0, 0)])
def d_6 : MD := (⟨"ChainTreeSigner", "secretTweak", "(II)I"⟩, prog_1_method_20_code, 3, some .int, 2, 2, 0, 0, 0, [(0, .iload_n 1, 1, [], 0, 0), (1, .bipush 16, 2, [], 0, 0), (3, .ishl, 1, [], 0, 0), (4, .iload_n 2, 1, [], 0, 0), (5, .bipush 8, 2, [], 0, 0), (7, .ishl, 1, [], 0, 0), (8, .ior, 1, [], 0, 0), (9, .ireturn, 1, [], 0, 0)])
def d_7 : MD := (⟨"ChainTreeSigner", "hash", "(III)I"⟩, prog_1_method_2_code, 7, some .int, 3, 3, 0, 1, 14, [(0, .iload_n 2, 1, [], 0, 0), (1, .iload_n 1, 1, [], 0, 0), (2, .ixor, 1, [], 0, 0), (3, .istore 4, 2, [], 0, 0), (5, .iload_n 3, 1, [], 0, 0), (6, .ldc 54, 2, [], 0, -1640531527), (8, .iadd, 1, [], 0, 0), (9, .istore 5, 2, [], 0, 0), (11, .iconst 0, 1, [], 0, 0), (12, .istore 6, 2, [], 0, 0), (14, .iload 6, 2, [false, false, true, true], 0, 0), (16, .iconst 4, 1, [], 0, 0), (17, .if_icmp .ge 44, 3, [], 0, 0), (20, .iload 4, 2, [], 0, 0), (22, .iload 5, 2, [], 0, 0), (24, .iadd, 1, [], 0, 0), (25, .istore 4, 2, [], 0, 0), (27, .aload_n 0, 1, [], 0, 0), (28, .iload 5, 2, [], 0, 0), (30, .bipush 7, 2, [], 0, 0), (32, .invokevirtual 55, 3, [], 8, 0), (35, .iload 4, 2, [], 0, 0), (37, .ixor, 1, [], 0, 0), (38, .istore 5, 2, [], 0, 0), (40, .aload_n 0, 1, [], 0, 0), (41, .iload 4, 2, [], 0, 0), (43, .bipush 13, 2, [], 0, 0), (45, .invokevirtual 55, 3, [], 8, 0), (48, .iload_n 1, 1, [], 0, 0), (49, .iadd, 1, [], 0, 0), (50, .iload 6, 2, [], 0, 0), (52, .iadd, 1, [], 0, 0), (53, .istore 4, 2, [], 0, 0), (55, .iinc 6 1, 3, [], 0, 0), (58, .goto (-44), 3, [], 0, 0), (61, .iload 4, 2, [], 0, 0), (63, .iload 5, 2, [], 0, 0), (65, .ixor, 1, [], 0, 0), (66, .ireturn, 1, [], 0, 0)])
def d_8 : MD := (⟨"ChainTreeSigner", "rotl", "(II)I"⟩, prog_1_method_19_code, 3, some .int, 2, 2, 0, 0, 0, [(0, .iload_n 1, 1, [], 0, 0), (1, .iload_n 2, 1, [], 0, 0), (2, .ishl, 1, [], 0, 0), (3, .iload_n 1, 1, [], 0, 0), (4, .bipush 32, 2, [], 0, 0), (6, .iload_n 2, 1, [], 0, 0), (7, .isub, 1, [], 0, 0), (8, .iushr, 1, [], 0, 0), (9, .ior, 1, [], 0, 0), (10, .ireturn, 1, [], 0, 0)])
def d_9 : MD := (⟨"ChainTreeSigner", "walk", "(IIIII)I"⟩, prog_1_method_25_code, 9, some .int, 2, 5, 0, 2, 32, [(0, .iload_n 3, 1, [], 0, 0), (1, .istore 6, 2, [], 0, 0), (3, .iconst 0, 1, [], 0, 0), (4, .istore 7, 2, [], 0, 0), (6, .iload 7, 2, [false, false, false, true, false, false, false, false, true], 0, 0), (8, .iload 5, 2, [], 0, 0), (10, .if_icmp .ge 40, 3, [], 0, 0), (13, .iload 7, 2, [], 0, 0), (15, .bipush 16, 2, [], 0, 0), (17, .if_icmp .ge 33, 3, [], 0, 0), (20, .aload_n 0, 1, [], 0, 0), (21, .iload_n 1, 1, [], 0, 0), (22, .iload_n 2, 1, [], 0, 0), (23, .iload 4, 2, [], 0, 0), (25, .iload 7, 2, [], 0, 0), (27, .iadd, 1, [], 0, 0), (28, .invokevirtual 96, 3, [], 10, 0), (31, .istore 8, 2, [], 0, 0), (33, .aload_n 0, 1, [], 0, 0), (34, .iload 8, 2, [], 0, 0), (36, .iload 6, 2, [], 0, 0), (38, .iconst 0, 1, [], 0, 0), (39, .invokevirtual 92, 3, [], 7, 0), (42, .istore 6, 2, [], 0, 0), (44, .iinc 7 1, 3, [], 0, 0), (47, .goto (-41), 3, [], 0, 0), (50, .iload 6, 2, [], 0, 0), (52, .ireturn, 1, [], 0, 0)])
def d_10 : MD := (⟨"ChainTreeSigner", "stepTweak", "(III)I"⟩, prog_1_method_21_code, 4, some .int, 2, 3, 0, 0, 0, [(0, .ldc 86, 2, [], 0, 268435456), (2, .iload_n 1, 1, [], 0, 0), (3, .bipush 16, 2, [], 0, 0), (5, .ishl, 1, [], 0, 0), (6, .ior, 1, [], 0, 0), (7, .iload_n 2, 1, [], 0, 0), (8, .bipush 8, 2, [], 0, 0), (10, .ishl, 1, [], 0, 0), (11, .ior, 1, [], 0, 0), (12, .iload_n 3, 1, [], 0, 0), (13, .ior, 1, [], 0, 0), (14, .ireturn, 1, [], 0, 0)])
def d_11 : MD := (⟨"ChainTreeSigner", "foldEnds", "(I)I"⟩, prog_1_method_26_code, 5, some .int, 2, 1, 0, 2, 32, [(0, .aload_n 0, 1, [], 0, 0), (1, .getfield 25, 3, [], 5, 0), (4, .iconst 0, 1, [], 0, 0), (5, .iaload, 1, [], 0, 0), (6, .istore_n 2, 1, [], 0, 0), (7, .iconst 1, 1, [], 0, 0), (8, .istore_n 3, 1, [], 0, 0), (9, .iload_n 3, 1, [false, false, false, false, true], 0, 0), (10, .bipush 10, 2, [], 0, 0), (12, .if_icmp .ge 31, 3, [], 0, 0), (15, .aload_n 0, 1, [], 0, 0), (16, .iload_n 1, 1, [], 0, 0), (17, .iload_n 3, 1, [], 0, 0), (18, .invokevirtual 99, 3, [], 12, 0), (21, .istore 4, 2, [], 0, 0), (23, .aload_n 0, 1, [], 0, 0), (24, .iload 4, 2, [], 0, 0), (26, .iload_n 2, 1, [], 0, 0), (27, .aload_n 0, 1, [], 0, 0), (28, .getfield 25, 3, [], 5, 0), (31, .iload_n 3, 1, [], 0, 0), (32, .iaload, 1, [], 0, 0), (33, .invokevirtual 92, 3, [], 7, 0), (36, .istore_n 2, 1, [], 0, 0), (37, .iinc 3 1, 3, [], 0, 0), (40, .goto (-31), 3, [], 0, 0), (43, .iload_n 2, 1, [], 0, 0), (44, .ireturn, 1, [], 0, 0)])
def d_12 : MD := (⟨"ChainTreeSigner", "foldTweak", "(II)I"⟩, prog_1_method_22_code, 3, some .int, 2, 2, 0, 0, 0, [(0, .ldc 87, 2, [], 0, 536870912), (2, .iload_n 1, 1, [], 0, 0), (3, .bipush 16, 2, [], 0, 0), (5, .ishl, 1, [], 0, 0), (6, .ior, 1, [], 0, 0), (7, .iload_n 2, 1, [], 0, 0), (8, .ior, 1, [], 0, 0), (9, .ireturn, 1, [], 0, 0)])
def d_13 : MD := (⟨"ChainTreeSigner", "buildUpperLevels", "()V"⟩, prog_1_method_29_code, 7, none, 2, 0, 0, 2, 34, [(0, .iconst 1, 1, [], 0, 0), (1, .istore_n 1, 1, [], 0, 0), (2, .iload_n 1, 1, [false, false, true, true, true, true, true], 0, 0), (3, .aload_n 0, 1, [], 0, 0), (4, .getfield 28, 3, [], 6, 0), (7, .if_icmp .gt 105, 3, [], 0, 0), (10, .iload_n 1, 1, [], 0, 0), (11, .iconst 4, 1, [], 0, 0), (12, .if_icmp .gt 100, 3, [], 0, 0), (15, .aload_n 0, 1, [], 0, 0), (16, .getfield 32, 3, [], 7, 0), (19, .iload_n 1, 1, [], 0, 0), (20, .ishr, 1, [], 0, 0), (21, .istore_n 2, 1, [], 0, 0), (22, .iconst 0, 1, [], 0, 0), (23, .istore_n 3, 1, [], 0, 0), (24, .iload_n 3, 1, [false, false, false, false, true, true, true], 0, 0), (25, .iload_n 2, 1, [], 0, 0), (26, .if_icmp .ge 80, 3, [], 0, 0), (29, .iload_n 3, 1, [], 0, 0), (30, .bipush 16, 2, [], 0, 0), (32, .if_icmp .ge 74, 3, [], 0, 0), (35, .aload_n 0, 1, [], 0, 0), (36, .iload_n 1, 1, [], 0, 0), (37, .iload_n 3, 1, [], 0, 0), (38, .invokevirtual 102, 3, [], 14, 0), (41, .istore 4, 2, [], 0, 0), (43, .aload_n 0, 1, [], 0, 0), (44, .getfield 16, 3, [], 2, 0), (47, .iload_n 1, 1, [], 0, 0), (48, .iconst 1, 1, [], 0, 0), (49, .isub, 1, [], 0, 0), (50, .bipush 16, 2, [], 0, 0), (52, .imul, 1, [], 0, 0), (53, .iconst 2, 1, [], 0, 0), (54, .iload_n 3, 1, [], 0, 0), (55, .imul, 1, [], 0, 0), (56, .iadd, 1, [], 0, 0), (57, .iaload, 1, [], 0, 0), (58, .istore 5, 2, [], 0, 0), (60, .aload_n 0, 1, [], 0, 0), (61, .getfield 16, 3, [], 2, 0), (64, .iload_n 1, 1, [], 0, 0), (65, .iconst 1, 1, [], 0, 0), (66, .isub, 1, [], 0, 0), (67, .bipush 16, 2, [], 0, 0), (69, .imul, 1, [], 0, 0), (70, .iconst 2, 1, [], 0, 0), (71, .iload_n 3, 1, [], 0, 0), (72, .imul, 1, [], 0, 0), (73, .iadd, 1, [], 0, 0), (74, .iconst 1, 1, [], 0, 0), (75, .iadd, 1, [], 0, 0), (76, .iaload, 1, [], 0, 0), (77, .istore 6, 2, [], 0, 0), (79, .aload_n 0, 1, [], 0, 0), (80, .getfield 16, 3, [], 2, 0), (83, .iload_n 1, 1, [], 0, 0), (84, .bipush 16, 2, [], 0, 0), (86, .imul, 1, [], 0, 0), (87, .iload_n 3, 1, [], 0, 0), (88, .iadd, 1, [], 0, 0), (89, .aload_n 0, 1, [], 0, 0), (90, .iload 4, 2, [], 0, 0), (92, .iload 5, 2, [], 0, 0), (94, .iload 6, 2, [], 0, 0), (96, .invokevirtual 92, 3, [], 7, 0), (99, .iastore, 1, [], 0, 0), (100, .iinc 3 1, 3, [], 0, 0), (103, .goto (-79), 3, [], 0, 0), (106, .iinc 1 1, 3, [], 0, 0), (109, .goto (-107), 3, [], 0, 0), (112, .return_, 1, [], 0, 0)])
def d_14 : MD := (⟨"ChainTreeSigner", "nodeTweak", "(II)I"⟩, prog_1_method_23_code, 3, some .int, 2, 2, 0, 0, 0, [(0, .ldc 88, 2, [], 0, 805306368), (2, .iload_n 1, 1, [], 0, 0), (3, .bipush 16, 2, [], 0, 0), (5, .ishl, 1, [], 0, 0), (6, .ior, 1, [], 0, 0), (7, .iload_n 2, 1, [], 0, 0), (8, .ior, 1, [], 0, 0), (9, .ireturn, 1, [], 0, 0)])
def d_15 : MD := (⟨"ChainTreeSigner", "getRoot", "()I"⟩, prog_1_method_5_code, 1, some .int, 3, 0, 0, 0, 0, [(0, .aload_n 0, 1, [], 0, 0), (1, .getfield 35, 3, [], 8, 0), (4, .ifCond .ne 5, 3, [], 0, 0), (7, .iconst 0, 1, [], 0, 0), (8, .ireturn, 1, [], 0, 0), (9, .aload_n 0, 1, [], 0, 0), (10, .getfield 42, 3, [], 10, 0), (13, .ireturn, 1, [], 0, 0)])
def d_16 : MD := (⟨"ChainTreeSigner", "sign", "(I)I"⟩, prog_1_method_7_code, 5, some .int, 3, 1, 0, 3, 54, [(0, .aload_n 0, 1, [], 0, 0), (1, .getfield 35, 3, [], 8, 0), (4, .ifCond .ne 5, 3, [], 0, 0), (7, .iconst (-1), 1, [], 0, 0), (8, .ireturn, 1, [], 0, 0), (9, .aload_n 0, 1, [], 0, 0), (10, .getfield 45, 3, [], 11, 0), (13, .aload_n 0, 1, [], 0, 0), (14, .getfield 32, 3, [], 7, 0), (17, .if_icmp .lt 6, 3, [], 0, 0), (20, .bipush (-2), 2, [], 0, 0), (22, .ireturn, 1, [], 0, 0), (23, .aload_n 0, 1, [], 0, 0), (24, .getfield 45, 3, [], 11, 0), (27, .istore_n 2, 1, [], 0, 0), (28, .aload_n 0, 1, [], 0, 0), (29, .iload_n 1, 1, [], 0, 0), (30, .invokevirtual 59, 3, [], 17, 0), (33, .iconst 0, 1, [], 0, 0), (34, .istore_n 3, 1, [], 0, 0), (35, .iload_n 3, 1, [false, true, false, false, true], 0, 0), (36, .bipush 10, 2, [], 0, 0), (38, .if_icmp .ge 38, 3, [], 0, 0), (41, .aload_n 0, 1, [], 0, 0), (42, .iload_n 2, 1, [], 0, 0), (43, .iload_n 3, 1, [], 0, 0), (44, .invokevirtual 69, 3, [], 5, 0), (47, .istore 4, 2, [], 0, 0), (49, .aload_n 0, 1, [], 0, 0), (50, .getfield 7, 3, [], 0, 0), (53, .iload_n 3, 1, [], 0, 0), (54, .aload_n 0, 1, [], 0, 0), (55, .iload_n 2, 1, [], 0, 0), (56, .iload_n 3, 1, [], 0, 0), (57, .iload 4, 2, [], 0, 0), (59, .iconst 0, 1, [], 0, 0), (60, .aload_n 0, 1, [], 0, 0), (61, .getfield 22, 3, [], 4, 0), (64, .iload_n 3, 1, [], 0, 0), (65, .iaload, 1, [], 0, 0), (66, .invokevirtual 72, 3, [], 9, 0), (69, .iastore, 1, [], 0, 0), (70, .iinc 3 1, 3, [], 0, 0), (73, .goto (-38), 3, [], 0, 0), (76, .aload_n 0, 1, [false, true, false, true, true], 0, 0), (77, .iload_n 2, 1, [], 0, 0), (78, .invokevirtual 76, 3, [], 18, 0), (81, .aload_n 0, 1, [], 0, 0), (82, .iload_n 2, 1, [], 0, 0), (83, .putfield 48, 3, [], 12, 0), (86, .aload_n 0, 1, [], 0, 0), (87, .iload_n 2, 1, [], 0, 0), (88, .iconst 1, 1, [], 0, 0), (89, .iadd, 1, [], 0, 0), (90, .putfield 45, 3, [], 11, 0), (93, .iload_n 2, 1, [], 0, 0), (94, .ireturn, 1, [], 0, 0)])
def d_17 : MD := (⟨"ChainTreeSigner", "fillDigits", "(I)V"⟩, prog_1_method_27_code, 5, none, 2, 1, 0, 0, 0, [(0, .iconst 0, 1, [], 0, 0), (1, .istore_n 2, 1, [], 0, 0), (2, .iconst 0, 1, [], 0, 0), (3, .istore_n 3, 1, [], 0, 0), (4, .iload_n 3, 1, [false, false, false, false, true], 0, 0), (5, .bipush 8, 2, [], 0, 0), (7, .if_icmp .ge 38, 3, [], 0, 0), (10, .iload_n 1, 1, [], 0, 0), (11, .bipush 28, 2, [], 0, 0), (13, .iconst 4, 1, [], 0, 0), (14, .iload_n 3, 1, [], 0, 0), (15, .imul, 1, [], 0, 0), (16, .isub, 1, [], 0, 0), (17, .iushr, 1, [], 0, 0), (18, .bipush 15, 2, [], 0, 0), (20, .iand, 1, [], 0, 0), (21, .istore 4, 2, [], 0, 0), (23, .aload_n 0, 1, [], 0, 0), (24, .getfield 22, 3, [], 4, 0), (27, .iload_n 3, 1, [], 0, 0), (28, .iload 4, 2, [], 0, 0), (30, .iastore, 1, [], 0, 0), (31, .iload_n 2, 1, [], 0, 0), (32, .bipush 15, 2, [], 0, 0), (34, .iload 4, 2, [], 0, 0), (36, .isub, 1, [], 0, 0), (37, .iadd, 1, [], 0, 0), (38, .istore_n 2, 1, [], 0, 0), (39, .iinc 3 1, 3, [], 0, 0), (42, .goto (-38), 3, [], 0, 0), (45, .aload_n 0, 1, [false, true, false, true, true], 0, 0), (46, .getfield 22, 3, [], 4, 0), (49, .bipush 8, 2, [], 0, 0), (51, .iload_n 2, 1, [], 0, 0), (52, .iconst 4, 1, [], 0, 0), (53, .iushr, 1, [], 0, 0), (54, .bipush 15, 2, [], 0, 0), (56, .iand, 1, [], 0, 0), (57, .iastore, 1, [], 0, 0), (58, .aload_n 0, 1, [], 0, 0), (59, .getfield 22, 3, [], 4, 0), (62, .bipush 9, 2, [], 0, 0), (64, .iload_n 2, 1, [], 0, 0), (65, .bipush 15, 2, [], 0, 0), (67, .iand, 1, [], 0, 0), (68, .iastore, 1, [], 0, 0), (69, .return_, 1, [], 0, 0)])
def d_18 : MD := (⟨"ChainTreeSigner", "fillPath", "(I)V"⟩, prog_1_method_30_code, 5, none, 2, 1, 0, 0, 0, [(0, .iconst 0, 1, [], 0, 0), (1, .istore_n 2, 1, [], 0, 0), (2, .iload_n 2, 1, [false, false, false, true, true], 0, 0), (3, .iconst 4, 1, [], 0, 0), (4, .if_icmp .ge 52, 3, [], 0, 0), (7, .iconst 0, 1, [], 0, 0), (8, .istore_n 3, 1, [], 0, 0), (9, .iload_n 2, 1, [], 0, 0), (10, .aload_n 0, 1, [], 0, 0), (11, .getfield 28, 3, [], 6, 0), (14, .if_icmp .ge 26, 3, [], 0, 0), (17, .iload_n 1, 1, [], 0, 0), (18, .iload_n 2, 1, [], 0, 0), (19, .iushr, 1, [], 0, 0), (20, .iconst 1, 1, [], 0, 0), (21, .ixor, 1, [], 0, 0), (22, .bipush 15, 2, [], 0, 0), (24, .iand, 1, [], 0, 0), (25, .istore 4, 2, [], 0, 0), (27, .aload_n 0, 1, [], 0, 0), (28, .getfield 16, 3, [], 2, 0), (31, .iload_n 2, 1, [], 0, 0), (32, .bipush 16, 2, [], 0, 0), (34, .imul, 1, [], 0, 0), (35, .iload 4, 2, [], 0, 0), (37, .iadd, 1, [], 0, 0), (38, .iaload, 1, [], 0, 0), (39, .istore_n 3, 1, [], 0, 0), (40, .aload_n 0, 1, [false, false, false, false, true], 0, 0), (41, .getfield 7, 3, [], 0, 0), (44, .bipush 10, 2, [], 0, 0), (46, .iload_n 2, 1, [], 0, 0), (47, .iadd, 1, [], 0, 0), (48, .iload_n 3, 1, [], 0, 0), (49, .iastore, 1, [], 0, 0), (50, .iinc 2 1, 3, [], 0, 0), (53, .goto (-51), 3, [], 0, 0), (56, .return_, 1, [], 0, 0)])
def d_19 : MD := (⟨"ChainTreeSigner", "loadIssued", "()Z"⟩, prog_1_method_12_code, 2, some .boolean, 3, 0, 0, 0, 0, [(0, .aload_n 0, 1, [], 0, 0), (1, .getfield 48, 3, [], 12, 0), (4, .iconst (-1), 1, [], 0, 0), (5, .if_icmp .ne 5, 3, [], 0, 0), (8, .iconst 0, 1, [], 0, 0), (9, .ireturn, 1, [], 0, 0), (10, .aload_n 0, 1, [], 0, 0), (11, .aload_n 0, 1, [], 0, 0), (12, .getfield 48, 3, [], 12, 0), (15, .putfield 51, 3, [], 13, 0), (18, .iconst 0, 1, [], 0, 0), (19, .istore_n 1, 1, [], 0, 0), (20, .iload_n 1, 1, [], 0, 0), (21, .bipush 14, 2, [], 0, 0), (23, .if_icmp .ge 21, 3, [], 0, 0), (26, .aload_n 0, 1, [], 0, 0), (27, .getfield 13, 3, [], 1, 0), (30, .iload_n 1, 1, [], 0, 0), (31, .aload_n 0, 1, [], 0, 0), (32, .getfield 7, 3, [], 0, 0), (35, .iload_n 1, 1, [], 0, 0), (36, .iaload, 1, [], 0, 0), (37, .iastore, 1, [], 0, 0), (38, .iinc 1 1, 3, [], 0, 0), (41, .goto (-21), 3, [], 0, 0), (44, .iconst 1, 1, [], 0, 0), (45, .ireturn, 1, [], 0, 0)])
def d_20 : MD := (⟨"ChainTreeSigner", "candidateLeaf", "()I"⟩, prog_1_method_15_code, 1, some .int, 3, 0, 0, 0, 0, [(0, .aload_n 0, 1, [], 0, 0), (1, .getfield 51, 3, [], 13, 0), (4, .ireturn, 1, [], 0, 0)])
def d_21 : MD := (⟨"ChainTreeSigner", "verify", "(I)Z"⟩, prog_1_method_18_code, 5, some .boolean, 3, 1, 0, 3, 54, [(0, .aload_n 0, 1, [], 0, 0), (1, .getfield 35, 3, [], 8, 0), (4, .ifCond .ne 5, 3, [], 0, 0), (7, .iconst 0, 1, [], 0, 0), (8, .ireturn, 1, [], 0, 0), (9, .aload_n 0, 1, [], 0, 0), (10, .getfield 51, 3, [], 13, 0), (13, .istore_n 2, 1, [], 0, 0), (14, .iload_n 2, 1, [], 0, 0), (15, .ifCond .lt 11, 3, [], 0, 0), (18, .iload_n 2, 1, [], 0, 0), (19, .aload_n 0, 1, [], 0, 0), (20, .getfield 32, 3, [], 7, 0), (23, .if_icmp .lt 5, 3, [], 0, 0), (26, .iconst 0, 1, [], 0, 0), (27, .ireturn, 1, [], 0, 0), (28, .aload_n 0, 1, [], 0, 0), (29, .iload_n 1, 1, [], 0, 0), (30, .invokevirtual 59, 3, [], 17, 0), (33, .iconst 0, 1, [], 0, 0), (34, .istore_n 3, 1, [], 0, 0), (35, .iload_n 3, 1, [false, true, false, false, true], 0, 0), (36, .bipush 10, 2, [], 0, 0), (38, .if_icmp .ge 42, 3, [], 0, 0), (41, .aload_n 0, 1, [], 0, 0), (42, .getfield 22, 3, [], 4, 0), (45, .iload_n 3, 1, [], 0, 0), (46, .iaload, 1, [], 0, 0), (47, .istore 4, 2, [], 0, 0), (49, .aload_n 0, 1, [], 0, 0), (50, .getfield 25, 3, [], 5, 0), (53, .iload_n 3, 1, [], 0, 0), (54, .aload_n 0, 1, [], 0, 0), (55, .iload_n 2, 1, [], 0, 0), (56, .iload_n 3, 1, [], 0, 0), (57, .aload_n 0, 1, [], 0, 0), (58, .getfield 13, 3, [], 1, 0), (61, .iload_n 3, 1, [], 0, 0), (62, .iaload, 1, [], 0, 0), (63, .iload 4, 2, [], 0, 0), (65, .bipush 15, 2, [], 0, 0), (67, .iload 4, 2, [], 0, 0), (69, .isub, 1, [], 0, 0), (70, .invokevirtual 72, 3, [], 9, 0), (73, .iastore, 1, [], 0, 0), (74, .iinc 3 1, 3, [], 0, 0), (77, .goto (-42), 3, [], 0, 0), (80, .aload_n 0, 1, [false, true, false, true, true], 0, 0), (81, .iload_n 2, 1, [], 0, 0), (82, .invokevirtual 79, 3, [], 11, 0), (85, .istore_n 3, 1, [], 0, 0), (86, .aload_n 0, 1, [], 0, 0), (87, .iload_n 2, 1, [], 0, 0), (88, .iload_n 3, 1, [], 0, 0), (89, .invokevirtual 83, 3, [], 22, 0), (92, .istore_n 3, 1, [], 0, 0), (93, .iload_n 3, 1, [], 0, 0), (94, .aload_n 0, 1, [], 0, 0), (95, .getfield 42, 3, [], 10, 0), (98, .if_icmp .ne 7, 3, [], 0, 0), (101, .iconst 1, 1, [], 0, 0), (102, .goto 4, 3, [], 0, 0), (105, .iconst 0, 1, [], 0, 0), (106, .ireturn, 1, [], 0, 0)])
def d_22 : MD := (⟨"ChainTreeSigner", "climb", "(II)I"⟩, prog_1_method_31_code, 9, some .int, 2, 2, 0, 2, 32, [(0, .iload_n 2, 1, [], 0, 0), (1, .istore_n 3, 1, [], 0, 0), (2, .iconst 0, 1, [], 0, 0), (3, .istore 4, 2, [], 0, 0), (5, .iload 4, 2, [false, false, true, false, false, true, true, true, true], 0, 0), (7, .aload_n 0, 1, [], 0, 0), (8, .getfield 28, 3, [], 6, 0), (11, .if_icmp .ge 81, 3, [], 0, 0), (14, .iload 4, 2, [], 0, 0), (16, .iconst 4, 1, [], 0, 0), (17, .if_icmp .ge 75, 3, [], 0, 0), (20, .iload_n 1, 1, [], 0, 0), (21, .iload 4, 2, [], 0, 0), (23, .iushr, 1, [], 0, 0), (24, .istore 5, 2, [], 0, 0), (26, .iload 5, 2, [], 0, 0), (28, .iconst 1, 1, [], 0, 0), (29, .iushr, 1, [], 0, 0), (30, .istore 6, 2, [], 0, 0), (32, .aload_n 0, 1, [], 0, 0), (33, .iload 4, 2, [], 0, 0), (35, .iconst 1, 1, [], 0, 0), (36, .iadd, 1, [], 0, 0), (37, .iload 6, 2, [], 0, 0), (39, .invokevirtual 102, 3, [], 14, 0), (42, .istore 7, 2, [], 0, 0), (44, .aload_n 0, 1, [], 0, 0), (45, .getfield 13, 3, [], 1, 0), (48, .bipush 10, 2, [], 0, 0), (50, .iload 4, 2, [], 0, 0), (52, .iadd, 1, [], 0, 0), (53, .iaload, 1, [], 0, 0), (54, .istore 8, 2, [], 0, 0), (56, .iload 5, 2, [], 0, 0), (58, .iconst 1, 1, [], 0, 0), (59, .iand, 1, [], 0, 0), (60, .ifCond .ne 16, 3, [], 0, 0), (63, .aload_n 0, 1, [], 0, 0), (64, .iload 7, 2, [], 0, 0), (66, .iload_n 3, 1, [], 0, 0), (67, .iload 8, 2, [], 0, 0), (69, .invokevirtual 92, 3, [], 7, 0), (72, .istore_n 3, 1, [], 0, 0), (73, .goto 13, 3, [], 0, 0), (76, .aload_n 0, 1, [], 0, 0), (77, .iload 7, 2, [], 0, 0), (79, .iload 8, 2, [], 0, 0), (81, .iload_n 3, 1, [], 0, 0), (82, .invokevirtual 92, 3, [], 7, 0), (85, .istore_n 3, 1, [], 0, 0), (86, .iinc 4 1, 3, [], 0, 0), (89, .goto (-84), 3, [], 0, 0), (92, .iload_n 3, 1, [], 0, 0), (93, .ireturn, 1, [], 0, 0)])
def d_23 : MD := (⟨"ChainTreeSigner", "digit", "(II)I"⟩, prog_1_method_3_code, 3, some .int, 3, 2, 0, 1, 16, [(0, .iload_n 2, 1, [], 0, 0), (1, .ifCond .lt 9, 3, [], 0, 0), (4, .iload_n 2, 1, [], 0, 0), (5, .bipush 9, 2, [], 0, 0), (7, .if_icmp .le 5, 3, [], 0, 0), (10, .iconst (-1), 1, [], 0, 0), (11, .ireturn, 1, [], 0, 0), (12, .aload_n 0, 1, [], 0, 0), (13, .iload_n 1, 1, [], 0, 0), (14, .invokevirtual 59, 3, [], 17, 0), (17, .aload_n 0, 1, [], 0, 0), (18, .getfield 22, 3, [], 4, 0), (21, .iload_n 2, 1, [], 0, 0), (22, .iaload, 1, [], 0, 0), (23, .ireturn, 1, [], 0, 0)])
def d_24 : MD := (⟨"ChainTreeSigner", "setCandidateValue", "(II)Z"⟩, prog_1_method_14_code, 3, some .boolean, 3, 2, 0, 0, 0, [(0, .iload_n 1, 1, [], 0, 0), (1, .ifCond .lt 14, 3, [], 0, 0), (4, .iload_n 1, 1, [], 0, 0), (5, .bipush 10, 2, [], 0, 0), (7, .aload_n 0, 1, [], 0, 0), (8, .getfield 28, 3, [], 6, 0), (11, .iadd, 1, [], 0, 0), (12, .if_icmp .lt 5, 3, [], 0, 0), (15, .iconst 0, 1, [], 0, 0), (16, .ireturn, 1, [], 0, 0), (17, .aload_n 0, 1, [], 0, 0), (18, .getfield 13, 3, [], 1, 0), (21, .iload_n 1, 1, [], 0, 0), (22, .iload_n 2, 1, [], 0, 0), (23, .iastore, 1, [], 0, 0), (24, .iconst 1, 1, [], 0, 0), (25, .ireturn, 1, [], 0, 0)])
def d_25 : MD := (⟨"ChainTreeSigner", "setCandidateLeaf", "(I)Z"⟩, prog_1_method_13_code, 2, some .boolean, 3, 1, 0, 0, 0, [(0, .iload_n 1, 1, [], 0, 0), (1, .ifCond .lt 11, 3, [], 0, 0), (4, .iload_n 1, 1, [], 0, 0), (5, .aload_n 0, 1, [], 0, 0), (6, .getfield 32, 3, [], 7, 0), (9, .if_icmp .lt 5, 3, [], 0, 0), (12, .iconst 0, 1, [], 0, 0), (13, .ireturn, 1, [], 0, 0), (14, .aload_n 0, 1, [], 0, 0), (15, .iload_n 1, 1, [], 0, 0), (16, .putfield 51, 3, [], 13, 0), (19, .iconst 1, 1, [], 0, 0), (20, .ireturn, 1, [], 0, 0)])
def own_P : PD := ([("ChainTreeSigner", 14, [("issued", "[I", (.array .int), true), ("cand", "[I", (.array .int), true), ("tree", "[I", (.array .int), true), ("ends", "[I", (.array .int), true), ("dig", "[I", (.array .int), true), ("ev", "[I", (.array .int), true), ("h", "I", .int, false), ("leafCount", "I", .int, false), ("keyed", "Z", .boolean, false), ("seed", "I", .int, false), ("root", "I", .int, false), ("next", "I", .int, false), ("issuedQ", "I", .int, false), ("candQ", "I", .int, false)])], [d_0, d_1, d_2, d_3, d_4, d_5, d_6, d_7, d_8, d_9, d_10, d_11, d_12, d_13, d_14, d_15, d_16, d_17, d_18, d_19, d_20, d_21, d_22, d_23, d_24, d_25], 1)
theorem hm_0 : own_P.mth[0]? = some d_0 := rfl
theorem hm_1 : own_P.mth[1]? = some d_1 := rfl
theorem hm_2 : own_P.mth[2]? = some d_2 := rfl
theorem hm_3 : own_P.mth[3]? = some d_3 := rfl
theorem hm_4 : own_P.mth[4]? = some d_4 := rfl
theorem hm_5 : own_P.mth[5]? = some d_5 := rfl
theorem hm_6 : own_P.mth[6]? = some d_6 := rfl
theorem hm_7 : own_P.mth[7]? = some d_7 := rfl
theorem hm_8 : own_P.mth[8]? = some d_8 := rfl
theorem hm_9 : own_P.mth[9]? = some d_9 := rfl
theorem hm_10 : own_P.mth[10]? = some d_10 := rfl
theorem hm_11 : own_P.mth[11]? = some d_11 := rfl
theorem hm_12 : own_P.mth[12]? = some d_12 := rfl
theorem hm_13 : own_P.mth[13]? = some d_13 := rfl
theorem hm_14 : own_P.mth[14]? = some d_14 := rfl
theorem hm_15 : own_P.mth[15]? = some d_15 := rfl
theorem hm_16 : own_P.mth[16]? = some d_16 := rfl
theorem hm_17 : own_P.mth[17]? = some d_17 := rfl
theorem hm_18 : own_P.mth[18]? = some d_18 := rfl
theorem hm_19 : own_P.mth[19]? = some d_19 := rfl
theorem hm_20 : own_P.mth[20]? = some d_20 := rfl
theorem hm_21 : own_P.mth[21]? = some d_21 := rfl
theorem hm_22 : own_P.mth[22]? = some d_22 := rfl
theorem hm_23 : own_P.mth[23]? = some d_23 := rfl
theorem hm_24 : own_P.mth[24]? = some d_24 := rfl
theorem hm_25 : own_P.mth[25]? = some d_25 := rfl
set_option maxRecDepth 100000 in
theorem own_chk : chk own_P = true := by decide +kernel
def own_ix : List Nat := [5, 6, 15, 17, 19, 21, 23, 25, 27, 29, 31, 33, 35, 37, 39, 41, 3, 2, 1, 9, 6, 8, 46, 6, 43, 45, 44, 50, 6, 48, 49, 54, 6, 52, 53, 58, 6, 56, 57, 63, 6, 60, 62, 61, 68, 6, 66, 67, 72, 6, 70, 71, 76, 6, 74, 75, 81, 6, 79, 80, 85, 6, 83, 84, 90, 6, 88, 89, 94, 6, 92, 93, 100, 6, 97, 99, 98, 105, 6, 102, 104, 103, 109, 6, 107, 108, 113, 6, 111, 112, 118, 6, 115, 117, 116, 123, 6, 120, 122, 121, 128, 6, 125, 127, 126, 132, 6, 130, 131, 137, 6, 134, 136, 135, 142, 6, 139, 141, 140, 147, 6, 144, 146, 145, 0, 4, 7, 0, 0, 42, 96, 0, 0, 42, 96, 101, 114, 119, 124, 143, 138, 0, 133, 133, 96, 10, 11, 12, 13, 14, 13, 16, 13, 18, 13, 20, 13, 22, 13, 24, 26, 28, 30, 32, 34, 36, 38, 40, 30, 32, 47, 87, 18, 26, 34, 30, 36, 28, 51, 69, 20, 24, 18, 78, 55, 32, 59, 64, 65, 65, 73, 59, 77, 24, 82, 24, 59, 86, 26, 28, 91, 18, 18, 18, 59, 95, 30, 34, 30, 36, 28, 36, 106, 51, 14, 22, 69, 110, 38, 36, 22, 22, 22, 26, 18, 14, 38, 38, 40, 16, 14, 40, 30, 40, 28, 106, 22, 24, 16, 69, 78, 129, 34, 26, 91, 16, 59, 59, 106, 22, 26, 16, 28, 40]
set_option maxRecDepth 100000 in
theorem own_words : (wordsOf own_P).map some = own_ix.map fun k => tables_1[k]? := rfl
theorem own_in : ∀ d ∈ wordsOf own_P, d ∈ tables_1 := fun d hd => by
  have h1 : some d ∈ (wordsOf own_P).map some := List.mem_map.mpr ⟨d, hd, rfl⟩
  rw [own_words] at h1
  obtain ⟨k, -, hk⟩ := List.mem_map.mp h1
  exact List.mem_of_getElem? hk
abbrev bk0 (s_issued : List Int32) (s_cand : List Int32) (s_tree : List Int32) (s_ends : List Int32) (s_dig : List Int32) (s_ev : List Int32) (s_h : Int32) (s_leafCount : Int32) (s_keyed : Int32) (s_seed : Int32) (s_root : Int32) (s_next : Int32) (s_issuedQ : Int32) (s_candQ : Int32) (po : List ACell) : List ACell := .inl (0, [.ref 2, .ref 3, .ref 4, .ref 5, .ref 6, .ref 7, .int s_h, .int s_leafCount, .int s_keyed, .int s_seed, .int s_root, .int s_next, .int s_issuedQ, .int s_candQ]) :: .inr (.inl (false, s_issued)) :: .inr (.inl (false, s_cand)) :: .inr (.inl (false, s_tree)) :: .inr (.inl (false, s_ends)) :: .inr (.inl (false, s_dig)) :: .inr (.inl (false, s_ev)) :: po
def f_L_cell (scr : List Int32) (v1 : Int32) : Option (Int32) :=
  if v1 < scr.length.toInt32 then
    (rdA scr v1).bind fun x1 =>
    some x1
  else
    some (0 : Int32)
def f_init_69 (o_issued : List Int32) (o_cand : List Int32) (o_tree : List Int32) (o_ends : List Int32) (o_dig : List Int32) (o_ev : List Int32) (o_h : Int32) (o_leafCount : Int32) (o_keyed : Int32) (o_seed : Int32) (o_root : Int32) (o_next : Int32) (o_issuedQ : Int32) (o_candQ : Int32) (v2 : Int32) : Option (List Int32 × List Int32 × List Int32 × List Int32 × List Int32 × List Int32 × Int32 × Int32 × Int32 × Int32 × Int32 × Int32 × Int32 × Int32) :=
  some (o_issued, o_cand, o_tree, o_ends, o_dig, o_ev, v2, ((1 : Int32) <<< (v2 &&& 31)), (0 : Int32), (0 : Int32), (0 : Int32), (0 : Int32), (-1 : Int32), (0 : Int32))
def f_init_62 (o_issued : List Int32) (o_cand : List Int32) (o_tree : List Int32) (o_ends : List Int32) (o_dig : List Int32) (o_ev : List Int32) (o_h : Int32) (o_leafCount : Int32) (o_keyed : Int32) (o_seed : Int32) (o_root : Int32) (o_next : Int32) (o_issuedQ : Int32) (o_candQ : Int32) (v2 : Int32) : Option (List Int32 × List Int32 × List Int32 × List Int32 × List Int32 × List Int32 × Int32 × Int32 × Int32 × Int32 × Int32 × Int32 × Int32 × Int32) :=
  f_init_69 o_issued o_cand o_tree o_ends o_dig o_ev o_h o_leafCount o_keyed o_seed o_root o_next o_issuedQ o_candQ (if (4 : Int32) < v2 then (4 : Int32) else v2)
def f_init (v1 : Int32) : Option (List Int32 × List Int32 × List Int32 × List Int32 × List Int32 × List Int32 × Int32 × Int32 × Int32 × Int32 × Int32 × Int32 × Int32 × Int32) :=
  f_init_62 (List.replicate 14 0) (List.replicate 14 0) (List.replicate 80 0) (List.replicate 160 0) (List.replicate 10 0) (List.replicate 10 0) (0 : Int32) (0 : Int32) (0 : Int32) (0 : Int32) (0 : Int32) (0 : Int32) (0 : Int32) (0 : Int32) (if v1 < (1 : Int32) then (1 : Int32) else v1)
def f_secretTweak (v1 : Int32) (v2 : Int32) : Option (Int32) :=
  some ((v1 <<< ((16 : Int32) &&& 31)) ||| (v2 <<< ((8 : Int32) &&& 31)))
def f_rotl (v1 : Int32) (v2 : Int32) : Option (Int32) :=
  some ((v1 <<< (v2 &&& 31)) ||| (XT.ushr v1 ((32 : Int32) - v2)))
def f_hash_14 : Nat → Int32 → Int32 → Int32 → Int32 → Option (Int32)
  | 0, _, _, _, _ => none
  | n + 1, v1, v4, v5, v6 =>
    if v6 < (4 : Int32) then
      (f_rotl v5 (7 : Int32)).bind fun r2 =>
      (f_rotl (v4 + v5) (13 : Int32)).bind fun r3 =>
      f_hash_14 n v1 ((r3 + v1) + v6) (r2 ^^^ (v4 + v5)) (v6 + (1 : Int32))
    else
      some (v4 ^^^ v5)
def f_hash (v1 : Int32) (v2 : Int32) (v3 : Int32) : Option (Int32) :=
  f_hash_14 100000 v1 (v2 ^^^ v1) (v3 + (-1640531527 : Int32)) (0 : Int32)
def f_secretKey (o_seed : Int32) (v1 : Int32) (v2 : Int32) : Option (Int32) :=
  (f_secretTweak v1 v2).bind fun r4 =>
  (f_hash r4 o_seed (0 : Int32)).bind fun r5 =>
  some r5
def f_stepTweak (v1 : Int32) (v2 : Int32) (v3 : Int32) : Option (Int32) :=
  some ((((268435456 : Int32) ||| (v1 <<< ((16 : Int32) &&& 31))) ||| (v2 <<< ((8 : Int32) &&& 31))) ||| v3)
def f_walk_6 : Nat → Int32 → Int32 → Int32 → Int32 → Int32 → Int32 → Option (Int32)
  | 0, _, _, _, _, _, _ => none
  | n + 1, v1, v2, v4, v5, v6, v7 =>
    if v7 < v5 then
      if v7 < (16 : Int32) then
        (f_stepTweak v1 v2 (v4 + v7)).bind fun r6 =>
        (f_hash r6 v6 (0 : Int32)).bind fun r7 =>
        f_walk_6 n v1 v2 v4 v5 r7 (v7 + (1 : Int32))
      else
        some v6
    else
      some v6
def f_walk (v1 : Int32) (v2 : Int32) (v3 : Int32) (v4 : Int32) (v5 : Int32) : Option (Int32) :=
  f_walk_6 100000 v1 v2 v4 v5 v3 (0 : Int32)
def f_foldTweak (v1 : Int32) (v2 : Int32) : Option (Int32) :=
  some (((536870912 : Int32) ||| (v1 <<< ((16 : Int32) &&& 31))) ||| v2)
def f_foldEnds_9 (o_ev : List Int32) : Nat → Int32 → Int32 → Int32 → Option (Int32)
  | 0, _, _, _ => none
  | n + 1, v1, v2, v3 =>
    if v3 < (10 : Int32) then
      (f_foldTweak v1 v3).bind fun r9 =>
      (rdA o_ev v3).bind fun x10 =>
      (f_hash r9 v2 x10).bind fun r11 =>
      f_foldEnds_9 o_ev n v1 r11 (v3 + (1 : Int32))
    else
      some v2
def f_foldEnds (o_ev : List Int32) (v1 : Int32) : Option (Int32) :=
  (rdA o_ev (0 : Int32)).bind fun x8 =>
  f_foldEnds_9 o_ev 100000 v1 x8 (1 : Int32)
def f_buildLeaves_70 (kb : List Int32 → List Int32 → List Int32 → Int32 → Option (List Int32 × List Int32 × List Int32)) (o_leafCount : Int32) (o_seed : Int32) (o_tree : List Int32) (o_ends : List Int32) (o_ev : List Int32) (v1 : Int32) : Option (List Int32 × List Int32 × List Int32) :=
  (f_foldEnds o_ev v1).bind fun r16 =>
  (wrA o_tree v1 r16).bind fun A17 =>
  kb A17 o_ends o_ev (v1 + (1 : Int32))
def f_buildLeaves_18 (k70 : List Int32 → List Int32 → List Int32 → Int32 → Option (List Int32 × List Int32 × List Int32)) (o_leafCount : Int32) (o_seed : Int32) : Nat → List Int32 → List Int32 → List Int32 → Int32 → Int32 → Option (List Int32 × List Int32 × List Int32)
  | 0, _, _, _, _, _ => none
  | n + 1, o_tree, o_ends, o_ev, v1, v2 =>
    if v2 < (10 : Int32) then
      (f_secretKey o_seed v1 v2).bind fun r12 =>
      (f_walk v1 v2 r12 (0 : Int32) (15 : Int32)).bind fun r13 =>
      (wrA o_ends ((v1 * (10 : Int32)) + v2) r13).bind fun A14 =>
      (wrA o_ev v2 r13).bind fun A15 =>
      f_buildLeaves_18 k70 o_leafCount o_seed n o_tree A14 A15 v1 (v2 + (1 : Int32))
    else
      k70 o_tree o_ends o_ev v1
def f_buildLeaves_2 (o_leafCount : Int32) (o_seed : Int32) : Nat → List Int32 → List Int32 → List Int32 → Int32 → Option (List Int32 × List Int32 × List Int32)
  | 0, _, _, _, _ => none
  | n + 1, o_tree, o_ends, o_ev, v1 =>
    if v1 < o_leafCount then
      if v1 < (16 : Int32) then
        f_buildLeaves_18 (f_buildLeaves_70 (f_buildLeaves_2 o_leafCount o_seed n) o_leafCount o_seed) o_leafCount o_seed 100000 o_tree o_ends o_ev v1 (0 : Int32)
      else
        some (o_tree, o_ends, o_ev)
    else
      some (o_tree, o_ends, o_ev)
def f_buildLeaves (o_leafCount : Int32) (o_seed : Int32) (o_tree : List Int32) (o_ends : List Int32) (o_ev : List Int32) : Option (List Int32 × List Int32 × List Int32) :=
  f_buildLeaves_2 o_leafCount o_seed 100000 o_tree o_ends o_ev (0 : Int32)
def f_nodeTweak (v1 : Int32) (v2 : Int32) : Option (Int32) :=
  some (((805306368 : Int32) ||| (v1 <<< ((16 : Int32) &&& 31))) ||| v2)
def f_buildUpperLevels_24 (k2 : List Int32 → Int32 → Option (List Int32)) (o_h : Int32) (o_leafCount : Int32) : Nat → List Int32 → Int32 → Int32 → Int32 → Option (List Int32)
  | 0, _, _, _, _ => none
  | n + 1, o_tree, v1, v2, v3 =>
    if v3 < v2 then
      if v3 < (16 : Int32) then
        (f_nodeTweak v1 v3).bind fun r18 =>
        (rdA o_tree (((v1 - (1 : Int32)) * (16 : Int32)) + ((2 : Int32) * v3))).bind fun x19 =>
        (rdA o_tree ((((v1 - (1 : Int32)) * (16 : Int32)) + ((2 : Int32) * v3)) + (1 : Int32))).bind fun x20 =>
        (f_hash r18 x19 x20).bind fun r21 =>
        (wrA o_tree ((v1 * (16 : Int32)) + v3) r21).bind fun A22 =>
        f_buildUpperLevels_24 k2 o_h o_leafCount n A22 v1 v2 (v3 + (1 : Int32))
      else
        k2 o_tree (v1 + (1 : Int32))
    else
      k2 o_tree (v1 + (1 : Int32))
def f_buildUpperLevels_2 (o_h : Int32) (o_leafCount : Int32) : Nat → List Int32 → Int32 → Option (List Int32)
  | 0, _, _ => none
  | n + 1, o_tree, v1 =>
    if o_h < v1 then
      some o_tree
    else
      if (4 : Int32) < v1 then
        some o_tree
      else
        f_buildUpperLevels_24 (f_buildUpperLevels_2 o_h o_leafCount n) o_h o_leafCount 100000 o_tree v1 (o_leafCount >>> (v1 &&& 31)) (0 : Int32)
def f_buildUpperLevels (o_h : Int32) (o_leafCount : Int32) (o_tree : List Int32) : Option (List Int32) :=
  f_buildUpperLevels_2 o_h o_leafCount 100000 o_tree (1 : Int32)
def f_keygen (o_h : Int32) (o_leafCount : Int32) (o_tree : List Int32) (o_ends : List Int32) (o_ev : List Int32) (o_keyed : Int32) (o_seed : Int32) (o_root : Int32) (o_next : Int32) (v1 : Int32) : Option (Int32 × List Int32 × List Int32 × List Int32 × Int32 × Int32 × Int32 × Int32) :=
  if o_keyed = (0 : Int32) then
    (f_buildLeaves o_leafCount v1 o_tree o_ends o_ev).bind fun (s23, s24, s25) =>
    (f_buildUpperLevels o_h o_leafCount s23).bind fun s26 =>
    (rdA s26 (o_h * (16 : Int32))).bind fun x27 =>
    some ((1 : Int32), s26, s24, s25, (1 : Int32), v1, x27, (0 : Int32))
  else
    some ((0 : Int32), o_tree, o_ends, o_ev, o_keyed, o_seed, o_root, o_next)
def f_getRoot (o_keyed : Int32) (o_root : Int32) : Option (Int32) :=
  some (if o_keyed = (0 : Int32) then (0 : Int32) else o_root)
def f_fillDigits_45 (o_dig : List Int32) (v2 : Int32) : Option (List Int32) :=
  (wrA o_dig (8 : Int32) ((XT.ushr v2 (4 : Int32)) &&& (15 : Int32))).bind fun A29 =>
  (wrA A29 (9 : Int32) (v2 &&& (15 : Int32))).bind fun A30 =>
  some A30
def f_fillDigits_4 (k45 : List Int32 → Int32 → Option (List Int32)) : Nat → List Int32 → Int32 → Int32 → Int32 → Option (List Int32)
  | 0, _, _, _, _ => none
  | n + 1, o_dig, v1, v2, v3 =>
    if v3 < (8 : Int32) then
      (wrA o_dig v3 ((XT.ushr v1 ((28 : Int32) - ((4 : Int32) * v3))) &&& (15 : Int32))).bind fun A28 =>
      f_fillDigits_4 k45 n A28 v1 (v2 + ((15 : Int32) - ((XT.ushr v1 ((28 : Int32) - ((4 : Int32) * v3))) &&& (15 : Int32)))) (v3 + (1 : Int32))
    else
      k45 o_dig v2
def f_fillDigits (o_dig : List Int32) (v1 : Int32) : Option (List Int32) :=
  f_fillDigits_4 f_fillDigits_45 100000 o_dig v1 (0 : Int32) (0 : Int32)
def f_fillPath_40 (kb : List Int32 → Int32 → Int32 → Option (List Int32)) (o_tree : List Int32) (o_h : Int32) (o_issued : List Int32) (v1 : Int32) (v2 : Int32) (v3 : Int32) : Option (List Int32) :=
  (wrA o_issued ((10 : Int32) + v2) v3).bind fun A32 =>
  kb A32 v1 (v2 + (1 : Int32))
def f_fillPath_2 (o_tree : List Int32) (o_h : Int32) : Nat → List Int32 → Int32 → Int32 → Option (List Int32)
  | 0, _, _, _ => none
  | n + 1, o_issued, v1, v2 =>
    if v2 < (4 : Int32) then
      if v2 < o_h then
        (rdA o_tree ((v2 * (16 : Int32)) + (((XT.ushr v1 v2) ^^^ (1 : Int32)) &&& (15 : Int32)))).bind fun x31 =>
        f_fillPath_40 (f_fillPath_2 o_tree o_h n) o_tree o_h o_issued v1 v2 x31
      else
        f_fillPath_40 (f_fillPath_2 o_tree o_h n) o_tree o_h o_issued v1 v2 (0 : Int32)
    else
      some o_issued
def f_fillPath (o_tree : List Int32) (o_h : Int32) (o_issued : List Int32) (v1 : Int32) : Option (List Int32) :=
  f_fillPath_2 o_tree o_h 100000 o_issued v1 (0 : Int32)
def f_sign_76 (o_tree : List Int32) (o_h : Int32) (o_leafCount : Int32) (o_keyed : Int32) (o_seed : Int32) (o_issued : List Int32) (o_dig : List Int32) (o_next : Int32) (o_issuedQ : Int32) (v2 : Int32) : Option (Int32 × List Int32 × List Int32 × Int32 × Int32) :=
  (f_fillPath o_tree o_h o_issued v2).bind fun s38 =>
  some (v2, s38, o_dig, (v2 + (1 : Int32)), v2)
def f_sign_35 (k76 : List Int32 → List Int32 → Int32 → Int32 → Int32 → Option (Int32 × List Int32 × List Int32 × Int32 × Int32)) (o_tree : List Int32) (o_h : Int32) (o_leafCount : Int32) (o_keyed : Int32) (o_seed : Int32) : Nat → List Int32 → List Int32 → Int32 → Int32 → Int32 → Int32 → Option (Int32 × List Int32 × List Int32 × Int32 × Int32)
  | 0, _, _, _, _, _, _ => none
  | n + 1, o_issued, o_dig, o_next, o_issuedQ, v2, v3 =>
    if v3 < (10 : Int32) then
      (f_secretKey o_seed v2 v3).bind fun r34 =>
      (rdA o_dig v3).bind fun x35 =>
      (f_walk v2 v3 r34 (0 : Int32) x35).bind fun r36 =>
      (wrA o_issued v3 r36).bind fun A37 =>
      f_sign_35 k76 o_tree o_h o_leafCount o_keyed o_seed n A37 o_dig o_next o_issuedQ v2 (v3 + (1 : Int32))
    else
      k76 o_issued o_dig o_next o_issuedQ v2
def f_sign (o_tree : List Int32) (o_h : Int32) (o_leafCount : Int32) (o_keyed : Int32) (o_seed : Int32) (o_issued : List Int32) (o_dig : List Int32) (o_next : Int32) (o_issuedQ : Int32) (v1 : Int32) : Option (Int32 × List Int32 × List Int32 × Int32 × Int32) :=
  if o_keyed = (0 : Int32) then
    some ((-1 : Int32), o_issued, o_dig, o_next, o_issuedQ)
  else
    if o_next < o_leafCount then
      (f_fillDigits o_dig v1).bind fun s33 =>
      f_sign_35 (f_sign_76 o_tree o_h o_leafCount o_keyed o_seed) o_tree o_h o_leafCount o_keyed o_seed 100000 o_issued s33 o_next o_issuedQ o_next (0 : Int32)
    else
      some ((-2 : Int32), o_issued, o_dig, o_next, o_issuedQ)
def f_loadIssued_20 (o_issued : List Int32) (o_issuedQ : Int32) : Nat → List Int32 → Int32 → Int32 → Option (Int32 × List Int32 × Int32)
  | 0, _, _, _ => none
  | n + 1, o_cand, o_candQ, v1 =>
    if v1 < (14 : Int32) then
      (rdA o_issued v1).bind fun x39 =>
      (wrA o_cand v1 x39).bind fun A40 =>
      f_loadIssued_20 o_issued o_issuedQ n A40 o_candQ (v1 + (1 : Int32))
    else
      some ((1 : Int32), o_cand, o_candQ)
def f_loadIssued (o_issued : List Int32) (o_issuedQ : Int32) (o_cand : List Int32) (o_candQ : Int32) : Option (Int32 × List Int32 × Int32) :=
  if o_issuedQ = (-1 : Int32) then
    some ((0 : Int32), o_cand, o_candQ)
  else
    f_loadIssued_20 o_issued o_issuedQ 100000 o_cand o_issuedQ (0 : Int32)
def f_candidateLeaf (o_candQ : Int32) : Option (Int32) :=
  some o_candQ
def f_climb_5 (o_cand : List Int32) (o_h : Int32) : Nat → Int32 → Int32 → Int32 → Option (Int32)
  | 0, _, _, _ => none
  | n + 1, v1, v3, v4 =>
    if v4 < o_h then
      if v4 < (4 : Int32) then
        (f_nodeTweak (v4 + (1 : Int32)) (XT.ushr (XT.ushr v1 v4) (1 : Int32))).bind fun r41 =>
        (rdA o_cand ((10 : Int32) + v4)).bind fun x42 =>
        if ((XT.ushr v1 v4) &&& (1 : Int32)) = (0 : Int32) then
          (f_hash r41 v3 x42).bind fun r44 =>
          f_climb_5 o_cand o_h n v1 r44 (v4 + (1 : Int32))
        else
          (f_hash r41 x42 v3).bind fun r43 =>
          f_climb_5 o_cand o_h n v1 r43 (v4 + (1 : Int32))
      else
        some v3
    else
      some v3
def f_climb (o_cand : List Int32) (o_h : Int32) (v1 : Int32) (v2 : Int32) : Option (Int32) :=
  f_climb_5 o_cand o_h 100000 v1 v2 (0 : Int32)
def f_verify_80 (o_cand : List Int32) (o_h : Int32) (o_leafCount : Int32) (o_keyed : Int32) (o_root : Int32) (o_candQ : Int32) (o_dig : List Int32) (o_ev : List Int32) (v2 : Int32) : Option (Int32 × List Int32 × List Int32) :=
  (f_foldEnds o_ev v2).bind fun r50 =>
  (f_climb o_cand o_h v2 r50).bind fun r51 =>
  some ((if r51 = o_root then (1 : Int32) else (0 : Int32)), o_dig, o_ev)
def f_verify_35 (k80 : List Int32 → List Int32 → Int32 → Option (Int32 × List Int32 × List Int32)) (o_cand : List Int32) (o_h : Int32) (o_leafCount : Int32) (o_keyed : Int32) (o_root : Int32) (o_candQ : Int32) : Nat → List Int32 → List Int32 → Int32 → Int32 → Option (Int32 × List Int32 × List Int32)
  | 0, _, _, _, _ => none
  | n + 1, o_dig, o_ev, v2, v3 =>
    if v3 < (10 : Int32) then
      (rdA o_dig v3).bind fun x46 =>
      (rdA o_cand v3).bind fun x47 =>
      (f_walk v2 v3 x47 x46 ((15 : Int32) - x46)).bind fun r48 =>
      (wrA o_ev v3 r48).bind fun A49 =>
      f_verify_35 k80 o_cand o_h o_leafCount o_keyed o_root o_candQ n o_dig A49 v2 (v3 + (1 : Int32))
    else
      k80 o_dig o_ev v2
def f_verify (o_cand : List Int32) (o_h : Int32) (o_leafCount : Int32) (o_keyed : Int32) (o_root : Int32) (o_candQ : Int32) (o_dig : List Int32) (o_ev : List Int32) (v1 : Int32) : Option (Int32 × List Int32 × List Int32) :=
  if o_keyed = (0 : Int32) then
    some ((0 : Int32), o_dig, o_ev)
  else
    if o_candQ < (0 : Int32) then
      some ((0 : Int32), o_dig, o_ev)
    else
      if o_candQ < o_leafCount then
        (f_fillDigits o_dig v1).bind fun s45 =>
        f_verify_35 (f_verify_80 o_cand o_h o_leafCount o_keyed o_root o_candQ) o_cand o_h o_leafCount o_keyed o_root o_candQ 100000 s45 o_ev o_candQ (0 : Int32)
      else
        some ((0 : Int32), o_dig, o_ev)
def f_setCandidateLeaf (o_leafCount : Int32) (o_candQ : Int32) (v1 : Int32) : Option (Int32 × Int32) :=
  some ((if v1 < (0 : Int32) then (0 : Int32) else (if v1 < o_leafCount then (1 : Int32) else (0 : Int32))), (if v1 < (0 : Int32) then o_candQ else (if v1 < o_leafCount then v1 else o_candQ)))
def f_setCandidateValue (o_h : Int32) (o_cand : List Int32) (v1 : Int32) (v2 : Int32) : Option (Int32 × List Int32) :=
  if v1 < (0 : Int32) then
    some ((0 : Int32), o_cand)
  else
    if v1 < ((10 : Int32) + o_h) then
      (wrA o_cand v1 v2).bind fun A52 =>
      some ((1 : Int32), A52)
    else
      some ((0 : Int32), o_cand)
def f_digit (o_dig : List Int32) (v1 : Int32) (v2 : Int32) : Option (Int32 × List Int32) :=
  if v2 < (0 : Int32) then
    some ((-1 : Int32), o_dig)
  else
    if (9 : Int32) < v2 then
      some ((-1 : Int32), o_dig)
    else
      (f_fillDigits o_dig v1).bind fun s53 =>
      (rdA s53 v2).bind fun x54 =>
      some (x54, s53)
def f_L_law_429 (kb : List Int32 → List Int32 → List Int32 → List Int32 → List Int32 → List Int32 → Int32 → Int32 → Int32 → Int32 → Int32 → Int32 → Int32 → Int32 → Int32 → Int32 → Int32 → Int32 → Int32 → Int32 → Int32 → Int32 → Int32 → Int32 → Option (Int32)) (scr : List Int32) (n0_issued : List Int32) (n0_cand : List Int32) (n0_tree : List Int32) (n0_ends : List Int32) (n0_dig : List Int32) (n0_ev : List Int32) (n0_h : Int32) (n0_leafCount : Int32) (n0_keyed : Int32) (n0_seed : Int32) (n0_root : Int32) (n0_next : Int32) (n0_issuedQ : Int32) (n0_candQ : Int32) (v2 : Int32) (v4 : Int32) (v5 : Int32) (v6 : Int32) (v7 : Int32) (v8 : Int32) (v9 : Int32) (v10 : Int32) (v11 : Int32) (v12 : Int32) : Option (Int32) :=
  if v4 = (0 : Int32) then
    kb n0_issued n0_cand n0_tree n0_ends n0_dig n0_ev n0_h n0_leafCount n0_keyed n0_seed n0_root n0_next n0_issuedQ n0_candQ v2 v4 v5 v6 v7 v8 v9 v10 v11 (v12 + (2 : Int32))
  else
    (f_getRoot n0_keyed n0_root).bind fun r101 =>
    if r101 = v5 then
      kb n0_issued n0_cand n0_tree n0_ends n0_dig n0_ev n0_h n0_leafCount n0_keyed n0_seed n0_root n0_next n0_issuedQ n0_candQ v2 v4 v5 v6 v7 v8 v9 v10 v11 (v12 + (2 : Int32))
    else
      some (0 : Int32)
def f_L_law_422 (kb : List Int32 → List Int32 → List Int32 → List Int32 → List Int32 → List Int32 → Int32 → Int32 → Int32 → Int32 → Int32 → Int32 → Int32 → Int32 → Int32 → Int32 → Int32 → Int32 → Int32 → Int32 → Int32 → Int32 → Int32 → Int32 → Option (Int32)) (scr : List Int32) (n0_issued : List Int32) (n0_cand : List Int32) (n0_tree : List Int32) (n0_ends : List Int32) (n0_dig : List Int32) (n0_ev : List Int32) (n0_h : Int32) (n0_leafCount : Int32) (n0_keyed : Int32) (n0_seed : Int32) (n0_root : Int32) (n0_next : Int32) (n0_issuedQ : Int32) (n0_candQ : Int32) (v2 : Int32) (v4 : Int32) (v5 : Int32) (v6 : Int32) (v7 : Int32) (v8 : Int32) (v9 : Int32) (v10 : Int32) (v11 : Int32) (v12 : Int32) (v16 : Int32) : Option (Int32) :=
  if v16 = (0 : Int32) then
    some (0 : Int32)
  else
    f_L_law_429 kb scr n0_issued n0_cand n0_tree n0_ends n0_dig n0_ev n0_h n0_leafCount n0_keyed n0_seed n0_root n0_next n0_issuedQ n0_candQ v2 v4 v5 v6 v7 v8 v9 v10 v11 v12
def f_L_law_387 (k422 : List Int32 → List Int32 → List Int32 → List Int32 → List Int32 → List Int32 → Int32 → Int32 → Int32 → Int32 → Int32 → Int32 → Int32 → Int32 → Int32 → Int32 → Int32 → Int32 → Int32 → Int32 → Int32 → Int32 → Int32 → Int32 → Int32 → Option (Int32)) (scr : List Int32) : Nat → List Int32 → List Int32 → List Int32 → List Int32 → List Int32 → List Int32 → Int32 → Int32 → Int32 → Int32 → Int32 → Int32 → Int32 → Int32 → Int32 → Int32 → Int32 → Int32 → Int32 → Int32 → Int32 → Int32 → Int32 → Int32 → Int32 → Int32 → Int32 → Int32 → Option (Int32)
  | 0, _, _, _, _, _, _, _, _, _, _, _, _, _, _, _, _, _, _, _, _, _, _, _, _, _, _, _, _ => none
  | n + 1, n0_issued, n0_cand, n0_tree, n0_ends, n0_dig, n0_ev, n0_h, n0_leafCount, n0_keyed, n0_seed, n0_root, n0_next, n0_issuedQ, n0_candQ, v2, v4, v5, v6, v7, v8, v9, v10, v11, v12, v14, v15, v16, v17 =>
    if v17 < (10 : Int32) then
      (f_digit n0_dig v15 v17).bind fun (r97, s98) =>
      (f_digit s98 v14 v17).bind fun (r99, s100) =>
      f_L_law_387 k422 scr n n0_issued n0_cand n0_tree n0_ends s100 n0_ev n0_h n0_leafCount n0_keyed n0_seed n0_root n0_next n0_issuedQ n0_candQ v2 v4 v5 v6 v7 v8 v9 v10 v11 v12 v14 v15 (if r97 < r99 then (1 : Int32) else v16) (v17 + (1 : Int32))
    else
      k422 n0_issued n0_cand n0_tree n0_ends n0_dig n0_ev n0_h n0_leafCount n0_keyed n0_seed n0_root n0_next n0_issuedQ n0_candQ v2 v4 v5 v6 v7 v8 v9 v10 v11 v12 v16
def f_L_law_351 (kb : List Int32 → List Int32 → List Int32 → List Int32 → List Int32 → List Int32 → Int32 → Int32 → Int32 → Int32 → Int32 → Int32 → Int32 → Int32 → Int32 → Int32 → Int32 → Int32 → Int32 → Int32 → Int32 → Int32 → Int32 → Int32 → Option (Int32)) (scr : List Int32) (n0_issued : List Int32) (n0_cand : List Int32) (n0_tree : List Int32) (n0_ends : List Int32) (n0_dig : List Int32) (n0_ev : List Int32) (n0_h : Int32) (n0_leafCount : Int32) (n0_keyed : Int32) (n0_seed : Int32) (n0_root : Int32) (n0_next : Int32) (n0_issuedQ : Int32) (n0_candQ : Int32) (v2 : Int32) (v4 : Int32) (v5 : Int32) (v6 : Int32) (v7 : Int32) (v8 : Int32) (v9 : Int32) (v10 : Int32) (v11 : Int32) (v12 : Int32) (v13 : Int32) (v14 : Int32) : Option (Int32) :=
  if v13 = (7 : Int32) then
    (f_L_cell scr (v12 + (2 : Int32))).bind fun r96 =>
    if (v14 ^^^ r96) = v14 then
      f_L_law_429 kb scr n0_issued n0_cand n0_tree n0_ends n0_dig n0_ev n0_h n0_leafCount n0_keyed n0_seed n0_root n0_next n0_issuedQ n0_candQ v2 v4 v5 v6 v7 v8 v9 v10 v11 (v12 + (1 : Int32))
    else
      f_L_law_387 (f_L_law_422 kb scr) scr 100000 n0_issued n0_cand n0_tree n0_ends n0_dig n0_ev n0_h n0_leafCount n0_keyed n0_seed n0_root n0_next n0_issuedQ n0_candQ v2 v4 v5 v6 v7 v8 v9 v10 v11 (v12 + (1 : Int32)) v14 (v14 ^^^ r96) (0 : Int32) (0 : Int32)
  else
    f_L_law_429 kb scr n0_issued n0_cand n0_tree n0_ends n0_dig n0_ev n0_h n0_leafCount n0_keyed n0_seed n0_root n0_next n0_issuedQ n0_candQ v2 v4 v5 v6 v7 v8 v9 v10 v11 v12
def f_L_law_328 (kb : List Int32 → List Int32 → List Int32 → List Int32 → List Int32 → List Int32 → Int32 → Int32 → Int32 → Int32 → Int32 → Int32 → Int32 → Int32 → Int32 → Int32 → Int32 → Int32 → Int32 → Int32 → Int32 → Int32 → Int32 → Int32 → Option (Int32)) (scr : List Int32) (n0_issued : List Int32) (n0_cand : List Int32) (n0_tree : List Int32) (n0_ends : List Int32) (n0_dig : List Int32) (n0_ev : List Int32) (n0_h : Int32) (n0_leafCount : Int32) (n0_keyed : Int32) (n0_seed : Int32) (n0_root : Int32) (n0_next : Int32) (n0_issuedQ : Int32) (n0_candQ : Int32) (v2 : Int32) (v4 : Int32) (v5 : Int32) (v6 : Int32) (v7 : Int32) (v8 : Int32) (v9 : Int32) (v10 : Int32) (v11 : Int32) (v12 : Int32) (v13 : Int32) (v14 : Int32) : Option (Int32) :=
  if v13 = (5 : Int32) then
    (f_setCandidateValue n0_h n0_cand (v14 &&& (15 : Int32)) (XT.ushr v14 (4 : Int32))).bind fun (r94, s95) =>
    f_L_law_351 kb scr n0_issued s95 n0_tree n0_ends n0_dig n0_ev n0_h n0_leafCount n0_keyed n0_seed n0_root n0_next n0_issuedQ n0_candQ v2 v4 v5 v6 v7 v8 v9 (0 : Int32) v11 v12 v13 v14
  else
    f_L_law_351 kb scr n0_issued n0_cand n0_tree n0_ends n0_dig n0_ev n0_h n0_leafCount n0_keyed n0_seed n0_root n0_next n0_issuedQ n0_candQ v2 v4 v5 v6 v7 v8 v9 v10 v11 v12 v13 v14
def f_L_law_309 (kb : List Int32 → List Int32 → List Int32 → List Int32 → List Int32 → List Int32 → Int32 → Int32 → Int32 → Int32 → Int32 → Int32 → Int32 → Int32 → Int32 → Int32 → Int32 → Int32 → Int32 → Int32 → Int32 → Int32 → Int32 → Int32 → Option (Int32)) (scr : List Int32) (n0_issued : List Int32) (n0_cand : List Int32) (n0_tree : List Int32) (n0_ends : List Int32) (n0_dig : List Int32) (n0_ev : List Int32) (n0_h : Int32) (n0_leafCount : Int32) (n0_keyed : Int32) (n0_seed : Int32) (n0_root : Int32) (n0_next : Int32) (n0_issuedQ : Int32) (n0_candQ : Int32) (v2 : Int32) (v4 : Int32) (v5 : Int32) (v6 : Int32) (v7 : Int32) (v8 : Int32) (v9 : Int32) (v10 : Int32) (v11 : Int32) (v12 : Int32) (v13 : Int32) (v14 : Int32) : Option (Int32) :=
  if v13 = (4 : Int32) then
    (f_setCandidateLeaf n0_leafCount n0_candQ (v14 &&& (15 : Int32))).bind fun (r92, s93) =>
    f_L_law_328 kb scr n0_issued n0_cand n0_tree n0_ends n0_dig n0_ev n0_h n0_leafCount n0_keyed n0_seed n0_root n0_next n0_issuedQ s93 v2 v4 v5 v6 v7 v8 v9 (0 : Int32) v11 v12 v13 v14
  else
    f_L_law_328 kb scr n0_issued n0_cand n0_tree n0_ends n0_dig n0_ev n0_h n0_leafCount n0_keyed n0_seed n0_root n0_next n0_issuedQ n0_candQ v2 v4 v5 v6 v7 v8 v9 v10 v11 v12 v13 v14
def f_L_law_293 (kb : List Int32 → List Int32 → List Int32 → List Int32 → List Int32 → List Int32 → Int32 → Int32 → Int32 → Int32 → Int32 → Int32 → Int32 → Int32 → Int32 → Int32 → Int32 → Int32 → Int32 → Int32 → Int32 → Int32 → Int32 → Int32 → Option (Int32)) (scr : List Int32) (n0_issued : List Int32) (n0_cand : List Int32) (n0_tree : List Int32) (n0_ends : List Int32) (n0_dig : List Int32) (n0_ev : List Int32) (n0_h : Int32) (n0_leafCount : Int32) (n0_keyed : Int32) (n0_seed : Int32) (n0_root : Int32) (n0_next : Int32) (n0_issuedQ : Int32) (n0_candQ : Int32) (v2 : Int32) (v4 : Int32) (v5 : Int32) (v6 : Int32) (v7 : Int32) (v8 : Int32) (v9 : Int32) (v10 : Int32) (v11 : Int32) (v12 : Int32) (v13 : Int32) (v14 : Int32) : Option (Int32) :=
  if v10 = (0 : Int32) then
    f_L_law_309 kb scr n0_issued n0_cand n0_tree n0_ends n0_dig n0_ev n0_h n0_leafCount n0_keyed n0_seed n0_root n0_next n0_issuedQ n0_candQ v2 v4 v5 v6 v7 v8 v9 v10 v11 v12 v13 v14
  else
    (f_verify n0_cand n0_h n0_leafCount n0_keyed n0_root n0_candQ n0_dig n0_ev v11).bind fun (r102, s103, s104) =>
    if r102 = (0 : Int32) then
      some (0 : Int32)
    else
      f_L_law_309 kb scr n0_issued n0_cand n0_tree n0_ends s103 s104 n0_h n0_leafCount n0_keyed n0_seed n0_root n0_next n0_issuedQ n0_candQ v2 v4 v5 v6 v7 v8 v9 v10 v11 v12 v13 v14
def f_L_law_280 (kb : List Int32 → List Int32 → List Int32 → List Int32 → List Int32 → List Int32 → Int32 → Int32 → Int32 → Int32 → Int32 → Int32 → Int32 → Int32 → Int32 → Int32 → Int32 → Int32 → Int32 → Int32 → Int32 → Int32 → Int32 → Int32 → Option (Int32)) (scr : List Int32) (n0_issued : List Int32) (n0_cand : List Int32) (n0_tree : List Int32) (n0_ends : List Int32) (n0_dig : List Int32) (n0_ev : List Int32) (n0_h : Int32) (n0_leafCount : Int32) (n0_keyed : Int32) (n0_seed : Int32) (n0_root : Int32) (n0_next : Int32) (n0_issuedQ : Int32) (n0_candQ : Int32) (v2 : Int32) (v4 : Int32) (v5 : Int32) (v6 : Int32) (v7 : Int32) (v8 : Int32) (v9 : Int32) (v10 : Int32) (v11 : Int32) (v12 : Int32) (v13 : Int32) (v14 : Int32) : Option (Int32) :=
  if v13 = (3 : Int32) then
    f_L_law_293 kb scr n0_issued n0_cand n0_tree n0_ends n0_dig n0_ev n0_h n0_leafCount n0_keyed n0_seed n0_root n0_next n0_issuedQ n0_candQ v2 v4 v5 v6 v7 v8 v9 v10 v11 v12 v13 v14
  else
    if v13 = (6 : Int32) then
      f_L_law_293 kb scr n0_issued n0_cand n0_tree n0_ends n0_dig n0_ev n0_h n0_leafCount n0_keyed n0_seed n0_root n0_next n0_issuedQ n0_candQ v2 v4 v5 v6 v7 v8 v9 v10 v11 v12 v13 v14
    else
      f_L_law_309 kb scr n0_issued n0_cand n0_tree n0_ends n0_dig n0_ev n0_h n0_leafCount n0_keyed n0_seed n0_root n0_next n0_issuedQ n0_candQ v2 v4 v5 v6 v7 v8 v9 v10 v11 v12 v13 v14
def f_L_law_238 (kb : List Int32 → List Int32 → List Int32 → List Int32 → List Int32 → List Int32 → Int32 → Int32 → Int32 → Int32 → Int32 → Int32 → Int32 → Int32 → Int32 → Int32 → Int32 → Int32 → Int32 → Int32 → Int32 → Int32 → Int32 → Int32 → Option (Int32)) (scr : List Int32) (n0_issued : List Int32) (n0_cand : List Int32) (n0_tree : List Int32) (n0_ends : List Int32) (n0_dig : List Int32) (n0_ev : List Int32) (n0_h : Int32) (n0_leafCount : Int32) (n0_keyed : Int32) (n0_seed : Int32) (n0_root : Int32) (n0_next : Int32) (n0_issuedQ : Int32) (n0_candQ : Int32) (v2 : Int32) (v4 : Int32) (v5 : Int32) (v6 : Int32) (v7 : Int32) (v8 : Int32) (v9 : Int32) (v11 : Int32) (v12 : Int32) (v13 : Int32) (v14 : Int32) : Option (Int32) :=
  (f_loadIssued n0_issued n0_issuedQ n0_cand n0_candQ).bind fun (r105, s106, s107) =>
  if v7 = (0 : Int32) then
    f_L_law_280 kb scr n0_issued s106 n0_tree n0_ends n0_dig n0_ev n0_h n0_leafCount n0_keyed n0_seed n0_root n0_next n0_issuedQ s107 v2 v4 v5 v6 v7 v8 v9 (0 : Int32) v11 v12 v13 v14
  else
    if r105 = (0 : Int32) then
      some (0 : Int32)
    else
      (f_candidateLeaf s107).bind fun r108 =>
      if r108 = v8 then
        f_L_law_280 kb scr n0_issued s106 n0_tree n0_ends n0_dig n0_ev n0_h n0_leafCount n0_keyed n0_seed n0_root n0_next n0_issuedQ s107 v2 v4 v5 v6 v7 v8 v9 (1 : Int32) v9 v12 v13 v14
      else
        some (0 : Int32)
def f_L_law_225 (kb : List Int32 → List Int32 → List Int32 → List Int32 → List Int32 → List Int32 → Int32 → Int32 → Int32 → Int32 → Int32 → Int32 → Int32 → Int32 → Int32 → Int32 → Int32 → Int32 → Int32 → Int32 → Int32 → Int32 → Int32 → Int32 → Option (Int32)) (scr : List Int32) (n0_issued : List Int32) (n0_cand : List Int32) (n0_tree : List Int32) (n0_ends : List Int32) (n0_dig : List Int32) (n0_ev : List Int32) (n0_h : Int32) (n0_leafCount : Int32) (n0_keyed : Int32) (n0_seed : Int32) (n0_root : Int32) (n0_next : Int32) (n0_issuedQ : Int32) (n0_candQ : Int32) (v2 : Int32) (v4 : Int32) (v5 : Int32) (v6 : Int32) (v7 : Int32) (v8 : Int32) (v9 : Int32) (v10 : Int32) (v11 : Int32) (v12 : Int32) (v13 : Int32) (v14 : Int32) : Option (Int32) :=
  if v13 = (2 : Int32) then
    f_L_law_238 kb scr n0_issued n0_cand n0_tree n0_ends n0_dig n0_ev n0_h n0_leafCount n0_keyed n0_seed n0_root n0_next n0_issuedQ n0_candQ v2 v4 v5 v6 v7 v8 v9 v11 v12 v13 v14
  else
    if v13 = (6 : Int32) then
      f_L_law_238 kb scr n0_issued n0_cand n0_tree n0_ends n0_dig n0_ev n0_h n0_leafCount n0_keyed n0_seed n0_root n0_next n0_issuedQ n0_candQ v2 v4 v5 v6 v7 v8 v9 v11 v12 v13 v14
    else
      f_L_law_280 kb scr n0_issued n0_cand n0_tree n0_ends n0_dig n0_ev n0_h n0_leafCount n0_keyed n0_seed n0_root n0_next n0_issuedQ n0_candQ v2 v4 v5 v6 v7 v8 v9 v10 v11 v12 v13 v14
def f_L_law_186 (kb : List Int32 → List Int32 → List Int32 → List Int32 → List Int32 → List Int32 → Int32 → Int32 → Int32 → Int32 → Int32 → Int32 → Int32 → Int32 → Int32 → Int32 → Int32 → Int32 → Int32 → Int32 → Int32 → Int32 → Int32 → Int32 → Option (Int32)) (scr : List Int32) (n0_issued : List Int32) (n0_cand : List Int32) (n0_tree : List Int32) (n0_ends : List Int32) (n0_dig : List Int32) (n0_ev : List Int32) (n0_h : Int32) (n0_leafCount : Int32) (n0_keyed : Int32) (n0_seed : Int32) (n0_root : Int32) (n0_next : Int32) (n0_issuedQ : Int32) (n0_candQ : Int32) (v2 : Int32) (v4 : Int32) (v5 : Int32) (v6 : Int32) (v8 : Int32) (v9 : Int32) (v11 : Int32) (v12 : Int32) (v13 : Int32) (v14 : Int32) (v15 : Int32) (t0 : Int32) : Option (Int32) :=
  if v15 = t0 then
    f_L_law_225 kb scr n0_issued n0_cand n0_tree n0_ends n0_dig n0_ev n0_h n0_leafCount n0_keyed n0_seed n0_root n0_next n0_issuedQ n0_candQ v2 v4 v5 (if v15 < (0 : Int32) then v6 else (v6 + (1 : Int32))) (if v15 < (0 : Int32) then (0 : Int32) else (1 : Int32)) (if v15 < (0 : Int32) then v8 else v15) (if v15 < (0 : Int32) then v9 else v14) (0 : Int32) v11 v12 v13 v14
  else
    some (0 : Int32)
def f_L_law_156 (kb : List Int32 → List Int32 → List Int32 → List Int32 → List Int32 → List Int32 → Int32 → Int32 → Int32 → Int32 → Int32 → Int32 → Int32 → Int32 → Int32 → Int32 → Int32 → Int32 → Int32 → Int32 → Int32 → Int32 → Int32 → Int32 → Option (Int32)) (scr : List Int32) (n0_issued : List Int32) (n0_cand : List Int32) (n0_tree : List Int32) (n0_ends : List Int32) (n0_dig : List Int32) (n0_ev : List Int32) (n0_h : Int32) (n0_leafCount : Int32) (n0_keyed : Int32) (n0_seed : Int32) (n0_root : Int32) (n0_next : Int32) (n0_issuedQ : Int32) (n0_candQ : Int32) (v2 : Int32) (v4 : Int32) (v5 : Int32) (v6 : Int32) (v8 : Int32) (v9 : Int32) (v11 : Int32) (v12 : Int32) (v13 : Int32) (v14 : Int32) : Option (Int32) :=
  (f_sign n0_tree n0_h n0_leafCount n0_keyed n0_seed n0_issued n0_dig n0_next n0_issuedQ v14).bind fun (r109, s110, s111, s112, s113) =>
  f_L_law_186 kb scr s110 n0_cand n0_tree n0_ends s111 n0_ev n0_h n0_leafCount n0_keyed n0_seed n0_root s112 s113 n0_candQ v2 v4 v5 v6 v8 v9 v11 v12 v13 v14 r109 (if v4 = (0 : Int32) then (-1 : Int32) else (if v6 = v2 then (-2 : Int32) else v6))
def f_L_law_143 (kb : List Int32 → List Int32 → List Int32 → List Int32 → List Int32 → List Int32 → Int32 → Int32 → Int32 → Int32 → Int32 → Int32 → Int32 → Int32 → Int32 → Int32 → Int32 → Int32 → Int32 → Int32 → Int32 → Int32 → Int32 → Int32 → Option (Int32)) (scr : List Int32) (n0_issued : List Int32) (n0_cand : List Int32) (n0_tree : List Int32) (n0_ends : List Int32) (n0_dig : List Int32) (n0_ev : List Int32) (n0_h : Int32) (n0_leafCount : Int32) (n0_keyed : Int32) (n0_seed : Int32) (n0_root : Int32) (n0_next : Int32) (n0_issuedQ : Int32) (n0_candQ : Int32) (v2 : Int32) (v4 : Int32) (v5 : Int32) (v6 : Int32) (v7 : Int32) (v8 : Int32) (v9 : Int32) (v10 : Int32) (v11 : Int32) (v12 : Int32) (v13 : Int32) (v14 : Int32) : Option (Int32) :=
  if v13 = (1 : Int32) then
    f_L_law_156 kb scr n0_issued n0_cand n0_tree n0_ends n0_dig n0_ev n0_h n0_leafCount n0_keyed n0_seed n0_root n0_next n0_issuedQ n0_candQ v2 v4 v5 v6 v8 v9 v11 v12 v13 v14
  else
    if v13 = (6 : Int32) then
      f_L_law_156 kb scr n0_issued n0_cand n0_tree n0_ends n0_dig n0_ev n0_h n0_leafCount n0_keyed n0_seed n0_root n0_next n0_issuedQ n0_candQ v2 v4 v5 v6 v8 v9 v11 v12 v13 v14
    else
      f_L_law_225 kb scr n0_issued n0_cand n0_tree n0_ends n0_dig n0_ev n0_h n0_leafCount n0_keyed n0_seed n0_root n0_next n0_issuedQ n0_candQ v2 v4 v5 v6 v7 v8 v9 v10 v11 v12 v13 v14
def f_L_law_83 (scr : List Int32) : Nat → List Int32 → List Int32 → List Int32 → List Int32 → List Int32 → List Int32 → Int32 → Int32 → Int32 → Int32 → Int32 → Int32 → Int32 → Int32 → Int32 → Int32 → Int32 → Int32 → Int32 → Int32 → Int32 → Int32 → Int32 → Int32 → Option (Int32)
  | 0, _, _, _, _, _, _, _, _, _, _, _, _, _, _, _, _, _, _, _, _, _, _, _, _ => none
  | n + 1, n0_issued, n0_cand, n0_tree, n0_ends, n0_dig, n0_ev, n0_h, n0_leafCount, n0_keyed, n0_seed, n0_root, n0_next, n0_issuedQ, n0_candQ, v2, v4, v5, v6, v7, v8, v9, v10, v11, v12 =>
    if v12 < scr.length.toInt32 then
      (f_L_cell scr v12).bind fun r81 =>
      (f_L_cell scr (v12 + (1 : Int32))).bind fun r82 =>
      if (r81 &&& (7 : Int32)) = (0 : Int32) then
        (f_keygen n0_h n0_leafCount n0_tree n0_ends n0_ev n0_keyed n0_seed n0_root n0_next r82).bind fun (r83, s84, s85, s86, s87, s88, s89, s90) =>
        if r83 = (0 : Int32) then
          f_L_law_143 (f_L_law_83 scr n) scr n0_issued n0_cand s84 s85 n0_dig s86 n0_h n0_leafCount s87 s88 s89 s90 n0_issuedQ n0_candQ v2 v4 v5 v6 v7 v8 v9 v10 v11 v12 (r81 &&& (7 : Int32)) r82
        else
          if v4 = (0 : Int32) then
            (f_getRoot s87 s89).bind fun r91 =>
            f_L_law_143 (f_L_law_83 scr n) scr n0_issued n0_cand s84 s85 n0_dig s86 n0_h n0_leafCount s87 s88 s89 s90 n0_issuedQ n0_candQ v2 (1 : Int32) r91 v6 v7 v8 v9 v10 v11 v12 (r81 &&& (7 : Int32)) r82
          else
            f_L_law_143 (f_L_law_83 scr n) scr n0_issued n0_cand s84 s85 n0_dig s86 n0_h n0_leafCount s87 s88 s89 s90 n0_issuedQ n0_candQ v2 v4 v5 v6 v7 v8 v9 v10 v11 v12 (r81 &&& (7 : Int32)) r82
      else
        f_L_law_143 (f_L_law_83 scr n) scr n0_issued n0_cand n0_tree n0_ends n0_dig n0_ev n0_h n0_leafCount n0_keyed n0_seed n0_root n0_next n0_issuedQ n0_candQ v2 v4 v5 v6 v7 v8 v9 v10 v11 v12 (r81 &&& (7 : Int32)) r82
    else
      some (1 : Int32)
def f_L_law (scr : List Int32) : Option (Int32) :=
  (f_L_cell scr (0 : Int32)).bind fun r55 =>
  (f_init ((r55 &&& (3 : Int32)) + (1 : Int32))).bind fun (s56, s57, s58, s59, s60, s61, s62, s63, s64, s65, s66, s67, s68, s69) =>
  (f_L_cell scr (0 : Int32)).bind fun r70 =>
  if ((XT.ushr r70 (2 : Int32)) &&& (1 : Int32)) = (0 : Int32) then
    (f_L_cell scr (1 : Int32)).bind fun r71 =>
    (f_keygen s62 s63 s58 s59 s61 s64 s65 s66 s67 r71).bind fun (r72, s73, s74, s75, s76, s77, s78, s79) =>
    if r72 = (0 : Int32) then
      f_L_law_83 scr 100000 s56 s57 s73 s74 s60 s75 s62 s63 s76 s77 s78 s79 s68 s69 ((1 : Int32) <<< (((r55 &&& (3 : Int32)) + (1 : Int32)) &&& 31)) (0 : Int32) (0 : Int32) (0 : Int32) (0 : Int32) (-1 : Int32) (0 : Int32) (0 : Int32) (0 : Int32) (2 : Int32)
    else
      (f_getRoot s76 s78).bind fun r80 =>
      f_L_law_83 scr 100000 s56 s57 s73 s74 s60 s75 s62 s63 s76 s77 s78 s79 s68 s69 ((1 : Int32) <<< (((r55 &&& (3 : Int32)) + (1 : Int32)) &&& 31)) (1 : Int32) r80 (0 : Int32) (0 : Int32) (-1 : Int32) (0 : Int32) (0 : Int32) (0 : Int32) (2 : Int32)
  else
    f_L_law_83 scr 100000 s56 s57 s58 s59 s60 s61 s62 s63 s64 s65 s66 s67 s68 s69 ((1 : Int32) <<< (((r55 &&& (3 : Int32)) + (1 : Int32)) &&& 31)) (0 : Int32) (0 : Int32) (0 : Int32) (0 : Int32) (-1 : Int32) (0 : Int32) (0 : Int32) (0 : Int32) (2 : Int32)
set_option maxHeartbeats 4000000
set_option maxRecDepth 10000
theorem ok_L_cell {scr : List Int32} {po : List ACell} {v1 : Int32} {res : Int32} (h : f_L_cell scr v1 = some res) : OEnds own_P 1 0 [.val (.ref 0), .val (.int v1)] [] ((.inr (.inl (false, scr)) : ACell) :: po) (some (.int res), ((.inr (.inl (false, scr)) : ACell) :: po), 0, 0) := by
  unfold f_L_cell at h
  refine OEnds.adv hm_1 3 (pc' := 3) (L' := [.val (.ref 0), .val (.int v1)]) (S' := [.int scr.length.toInt32, .int v1]) (H' := ((.inr (.inl (false, scr)) : ACell) :: po)) rfl ?_
  by_cases hc1 : v1 < scr.length.toInt32
  · simp only [if_pos hc1] at h
    refine OEnds.icmpF hm_1 rfl ((tlt hc1).2.1) ?_
    refine OEnds.adv hm_1 2 (pc' := 8) (L' := [.val (.ref 0), .val (.int v1)]) (S' := [.int v1, .ref 0]) (H' := ((.inr (.inl (false, scr)) : ACell) :: po)) rfl ?_
    obtain ⟨x1, hx1, h⟩ := bnd h
    refine OEnds.plain hm_1 rfl rfl (x_iaload rfl hx1) ?_
    refine OEnds.adv hm_1 1 (pc' := 13) (L' := [.val (.ref 0), .val (.int v1)]) (S' := [.int x1]) (H' := ((.inr (.inl (false, scr)) : ACell) :: po)) rfl ?_
    cases h
    exact OEnds.iret hm_1 rfl rfl
  · simp only [if_neg hc1] at h
    refine OEnds.icmpT hm_1 rfl (q := 12) rfl ((flt hc1).2.1) ?_
    refine OEnds.adv hm_1 1 (pc' := 13) (L' := [.val (.ref 0), .val (.int v1)]) (S' := [.int 0]) (H' := ((.inr (.inl (false, scr)) : ACell) :: po)) rfl ?_
    cases h
    exact OEnds.iret hm_1 rfl rfl
theorem ok_init_69 {c0 : ACell} : ∀ {o_issued : List Int32} {o_cand : List Int32} {o_tree : List Int32} {o_ends : List Int32} {o_dig : List Int32} {o_ev : List Int32} {o_h : Int32} {o_leafCount : Int32} {o_keyed : Int32} {o_seed : Int32} {o_root : Int32} {o_next : Int32} {o_issuedQ : Int32} {o_candQ : Int32} {v2 : Int32} {d1 : Slot} {w_o_issued : List Int32} {w_o_cand : List Int32} {w_o_tree : List Int32} {w_o_ends : List Int32} {w_o_dig : List Int32} {w_o_ev : List Int32} {w_o_h : Int32} {w_o_leafCount : Int32} {w_o_keyed : Int32} {w_o_seed : Int32} {w_o_root : Int32} {w_o_next : Int32} {w_o_issuedQ : Int32} {w_o_candQ : Int32}, f_init_69 o_issued o_cand o_tree o_ends o_dig o_ev o_h o_leafCount o_keyed o_seed o_root o_next o_issuedQ o_candQ v2 = some (w_o_issued, w_o_cand, w_o_tree, w_o_ends, w_o_dig, w_o_ev, w_o_h, w_o_leafCount, w_o_keyed, w_o_seed, w_o_root, w_o_next, w_o_issuedQ, w_o_candQ) → OEnds own_P 2 69 [.val (.ref 1), d1, .val (.int v2)] [] (c0 :: bk0 o_issued o_cand o_tree o_ends o_dig o_ev o_h o_leafCount o_keyed o_seed o_root o_next o_issuedQ o_candQ []) (none, (c0 :: bk0 w_o_issued w_o_cand w_o_tree w_o_ends w_o_dig w_o_ev w_o_h w_o_leafCount w_o_keyed w_o_seed w_o_root w_o_next w_o_issuedQ w_o_candQ []), 0, 0) := by
  intro o_issued o_cand o_tree o_ends o_dig o_ev o_h o_leafCount o_keyed o_seed o_root o_next o_issuedQ o_candQ v2 d1 w_o_issued w_o_cand w_o_tree w_o_ends w_o_dig w_o_ev w_o_h w_o_leafCount w_o_keyed w_o_seed w_o_root w_o_next w_o_issuedQ w_o_candQ h
  unfold f_init_69 at h
  refine OEnds.adv hm_2 26 (pc' := 111) (L' := [.val (.ref 1), .unset, .val (.int v2)]) (S' := []) (H' := (c0 :: bk0 o_issued o_cand o_tree o_ends o_dig o_ev v2 ((1 : Int32) <<< (v2 &&& 31)) 0 0 0 0 (-1) 0 [])) rfl ?_
  cases h
  exact OEnds.vret hm_2 rfl rfl
theorem ok_init_62 {c0 : ACell} : ∀ {o_issued : List Int32} {o_cand : List Int32} {o_tree : List Int32} {o_ends : List Int32} {o_dig : List Int32} {o_ev : List Int32} {o_h : Int32} {o_leafCount : Int32} {o_keyed : Int32} {o_seed : Int32} {o_root : Int32} {o_next : Int32} {o_issuedQ : Int32} {o_candQ : Int32} {v2 : Int32} {d1 : Slot} {w_o_issued : List Int32} {w_o_cand : List Int32} {w_o_tree : List Int32} {w_o_ends : List Int32} {w_o_dig : List Int32} {w_o_ev : List Int32} {w_o_h : Int32} {w_o_leafCount : Int32} {w_o_keyed : Int32} {w_o_seed : Int32} {w_o_root : Int32} {w_o_next : Int32} {w_o_issuedQ : Int32} {w_o_candQ : Int32}, f_init_62 o_issued o_cand o_tree o_ends o_dig o_ev o_h o_leafCount o_keyed o_seed o_root o_next o_issuedQ o_candQ v2 = some (w_o_issued, w_o_cand, w_o_tree, w_o_ends, w_o_dig, w_o_ev, w_o_h, w_o_leafCount, w_o_keyed, w_o_seed, w_o_root, w_o_next, w_o_issuedQ, w_o_candQ) → OEnds own_P 2 62 [.val (.ref 1), d1, .val (.int v2)] [] (c0 :: bk0 o_issued o_cand o_tree o_ends o_dig o_ev o_h o_leafCount o_keyed o_seed o_root o_next o_issuedQ o_candQ []) (none, (c0 :: bk0 w_o_issued w_o_cand w_o_tree w_o_ends w_o_dig w_o_ev w_o_h w_o_leafCount w_o_keyed w_o_seed w_o_root w_o_next w_o_issuedQ w_o_candQ []), 0, 0) := by
  intro o_issued o_cand o_tree o_ends o_dig o_ev o_h o_leafCount o_keyed o_seed o_root o_next o_issuedQ o_candQ v2 d1 w_o_issued w_o_cand w_o_tree w_o_ends w_o_dig w_o_ev w_o_h w_o_leafCount w_o_keyed w_o_seed w_o_root w_o_next w_o_issuedQ w_o_candQ h
  unfold f_init_62 at h
  refine OEnds.adv hm_2 2 (pc' := 64) (L' := [.val (.ref 1), .unset, .val (.int v2)]) (S' := [.int 4, .int v2]) (H' := (c0 :: bk0 o_issued o_cand o_tree o_ends o_dig o_ev o_h o_leafCount o_keyed o_seed o_root o_next o_issuedQ o_candQ [])) rfl ?_
  by_cases hc2 : (4 : Int32) < v2
  · simp only [if_pos hc2] at h
    refine OEnds.icmpF hm_2 rfl ((tlt hc2).2.2.2) ?_
    refine OEnds.adv hm_2 2 (pc' := 69) (L' := [.val (.ref 1), .unset, .val (.int 4)]) (S' := []) (H' := (c0 :: bk0 o_issued o_cand o_tree o_ends o_dig o_ev o_h o_leafCount o_keyed o_seed o_root o_next o_issuedQ o_candQ [])) rfl ?_
    exact ok_init_69 h
  · simp only [if_neg hc2] at h
    refine OEnds.icmpT hm_2 rfl (q := 69) rfl ((flt hc2).2.2.2) ?_
    show OEnds own_P 2 69 [.val (.ref 1), .unset, .val (.int v2)] [] (c0 :: bk0 o_issued o_cand o_tree o_ends o_dig o_ev o_h o_leafCount o_keyed o_seed o_root o_next o_issuedQ o_candQ []) _
    exact ok_init_69 h
theorem ok_init {c0 : ACell} {v1 : Int32} {w_o_issued : List Int32} {w_o_cand : List Int32} {w_o_tree : List Int32} {w_o_ends : List Int32} {w_o_dig : List Int32} {w_o_ev : List Int32} {w_o_h : Int32} {w_o_leafCount : Int32} {w_o_keyed : Int32} {w_o_seed : Int32} {w_o_root : Int32} {w_o_next : Int32} {w_o_issuedQ : Int32} {w_o_candQ : Int32} (h : f_init v1 = some (w_o_issued, w_o_cand, w_o_tree, w_o_ends, w_o_dig, w_o_ev, w_o_h, w_o_leafCount, w_o_keyed, w_o_seed, w_o_root, w_o_next, w_o_issuedQ, w_o_candQ)) : OEnds own_P 2 0 [.val (.ref 1), .val (.int v1), .unset] [] (c0 :: (.inl (0, [.null, .null, .null, .null, .null, .null, .int 0, .int 0, .int 0, .int 0, .int 0, .int 0, .int 0, .int 0]) : ACell) :: []) (none, (c0 :: bk0 w_o_issued w_o_cand w_o_tree w_o_ends w_o_dig w_o_ev w_o_h w_o_leafCount w_o_keyed w_o_seed w_o_root w_o_next w_o_issuedQ w_o_candQ []), 6, 288) := by
  unfold f_init at h
  refine OEnds.adv hm_2 1 (pc' := 1) (L' := [.val (.ref 1), .val (.int v1), .unset]) (S' := [.ref 1]) (H' := (c0 :: (.inl (0, [.null, .null, .null, .null, .null, .null, .int 0, .int 0, .int 0, .int 0, .int 0, .int 0, .int 0, .int 0]) : ACell) :: [])) rfl ?_
  refine OEnds.oinit hm_2 rfl ⟨Nat.le_of_ble_eq_true rfl, Nat.le_of_ble_eq_true rfl⟩ ?_
  refine OEnds.adv hm_2 2 (pc' := 7) (L' := [.val (.ref 1), .val (.int v1), .unset]) (S' := [.int 14, .ref 1]) (H' := (c0 :: (.inl (0, [.null, .null, .null, .null, .null, .null, .int 0, .int 0, .int 0, .int 0, .int 0, .int 0, .int 0, .int 0]) : ACell) :: [])) rfl ?_
  refine OEnds.made1 hm_2 rfl rfl (ks := 14) rfl rfl ?_
  refine OEnds.adv hm_2 3 (pc' := 15) (L' := [.val (.ref 1), .val (.int v1), .unset]) (S' := [.int 14, .ref 1]) (H' := (c0 :: (.inl (0, [.ref 2, .null, .null, .null, .null, .null, .int 0, .int 0, .int 0, .int 0, .int 0, .int 0, .int 0, .int 0]) : ACell) :: .inr (.inl (false, (List.replicate 14 0))) :: [])) rfl ?_
  refine OEnds.made1 hm_2 rfl rfl (ks := 14) rfl rfl ?_
  refine OEnds.adv hm_2 3 (pc' := 23) (L' := [.val (.ref 1), .val (.int v1), .unset]) (S' := [.int 80, .ref 1]) (H' := (c0 :: (.inl (0, [.ref 2, .ref 3, .null, .null, .null, .null, .int 0, .int 0, .int 0, .int 0, .int 0, .int 0, .int 0, .int 0]) : ACell) :: .inr (.inl (false, (List.replicate 14 0))) :: .inr (.inl (false, (List.replicate 14 0))) :: [])) rfl ?_
  refine OEnds.made1 hm_2 rfl rfl (ks := 80) rfl rfl ?_
  refine OEnds.adv hm_2 3 (pc' := 32) (L' := [.val (.ref 1), .val (.int v1), .unset]) (S' := [.int 160, .ref 1]) (H' := (c0 :: (.inl (0, [.ref 2, .ref 3, .ref 4, .null, .null, .null, .int 0, .int 0, .int 0, .int 0, .int 0, .int 0, .int 0, .int 0]) : ACell) :: .inr (.inl (false, (List.replicate 14 0))) :: .inr (.inl (false, (List.replicate 14 0))) :: .inr (.inl (false, (List.replicate 80 0))) :: [])) rfl ?_
  refine OEnds.made1 hm_2 rfl rfl (ks := 160) rfl rfl ?_
  refine OEnds.adv hm_2 3 (pc' := 40) (L' := [.val (.ref 1), .val (.int v1), .unset]) (S' := [.int 10, .ref 1]) (H' := (c0 :: (.inl (0, [.ref 2, .ref 3, .ref 4, .ref 5, .null, .null, .int 0, .int 0, .int 0, .int 0, .int 0, .int 0, .int 0, .int 0]) : ACell) :: .inr (.inl (false, (List.replicate 14 0))) :: .inr (.inl (false, (List.replicate 14 0))) :: .inr (.inl (false, (List.replicate 80 0))) :: .inr (.inl (false, (List.replicate 160 0))) :: [])) rfl ?_
  refine OEnds.made1 hm_2 rfl rfl (ks := 10) rfl rfl ?_
  refine OEnds.adv hm_2 3 (pc' := 48) (L' := [.val (.ref 1), .val (.int v1), .unset]) (S' := [.int 10, .ref 1]) (H' := (c0 :: (.inl (0, [.ref 2, .ref 3, .ref 4, .ref 5, .ref 6, .null, .int 0, .int 0, .int 0, .int 0, .int 0, .int 0, .int 0, .int 0]) : ACell) :: .inr (.inl (false, (List.replicate 14 0))) :: .inr (.inl (false, (List.replicate 14 0))) :: .inr (.inl (false, (List.replicate 80 0))) :: .inr (.inl (false, (List.replicate 160 0))) :: .inr (.inl (false, (List.replicate 10 0))) :: [])) rfl ?_
  refine OEnds.made1 hm_2 rfl rfl (ks := 10) rfl rfl ?_
  refine OEnds.adv hm_2 5 (pc' := 57) (L' := [.val (.ref 1), .val (.int v1), .val (.int v1)]) (S' := [.int 1, .int v1]) (H' := (c0 :: bk0 (List.replicate 14 0) (List.replicate 14 0) (List.replicate 80 0) (List.replicate 160 0) (List.replicate 10 0) (List.replicate 10 0) 0 0 0 0 0 0 0 0 [])) rfl ?_
  by_cases hc3 : v1 < (1 : Int32)
  · simp only [if_pos hc3] at h
    refine OEnds.icmpF hm_2 rfl ((tlt hc3).2.1) ?_
    refine OEnds.adv hm_2 2 (pc' := 62) (L' := [.val (.ref 1), .val (.int v1), .val (.int 1)]) (S' := []) (H' := (c0 :: bk0 (List.replicate 14 0) (List.replicate 14 0) (List.replicate 80 0) (List.replicate 160 0) (List.replicate 10 0) (List.replicate 10 0) 0 0 0 0 0 0 0 0 [])) rfl ?_
    exact ok_init_62 h
  · simp only [if_neg hc3] at h
    refine OEnds.icmpT hm_2 rfl (q := 62) rfl ((flt hc3).2.1) ?_
    show OEnds own_P 2 62 [.val (.ref 1), .val (.int v1), .val (.int v1)] [] (c0 :: bk0 (List.replicate 14 0) (List.replicate 14 0) (List.replicate 80 0) (List.replicate 160 0) (List.replicate 10 0) (List.replicate 10 0) 0 0 0 0 0 0 0 0 []) _
    exact ok_init_62 h
theorem ok_secretTweak {o_issued : List Int32} {o_cand : List Int32} {o_tree : List Int32} {o_ends : List Int32} {o_dig : List Int32} {o_ev : List Int32} {o_h : Int32} {o_leafCount : Int32} {o_keyed : Int32} {o_seed : Int32} {o_root : Int32} {o_next : Int32} {o_issuedQ : Int32} {o_candQ : Int32} {c0 : ACell} {po : List ACell} {v1 : Int32} {v2 : Int32} {res : Int32} (h : f_secretTweak v1 v2 = some res) : OEnds own_P 6 0 [.val (.ref 1), .val (.int v1), .val (.int v2)] [] (c0 :: bk0 o_issued o_cand o_tree o_ends o_dig o_ev o_h o_leafCount o_keyed o_seed o_root o_next o_issuedQ o_candQ po) (some (.int res), (c0 :: bk0 o_issued o_cand o_tree o_ends o_dig o_ev o_h o_leafCount o_keyed o_seed o_root o_next o_issuedQ o_candQ po), 0, 0) := by
  unfold f_secretTweak at h
  refine OEnds.adv hm_6 7 (pc' := 9) (L' := [.val (.ref 1), .val (.int v1), .val (.int v2)]) (S' := [.int ((v1 <<< ((16 : Int32) &&& 31)) ||| (v2 <<< ((8 : Int32) &&& 31)))]) (H' := (c0 :: bk0 o_issued o_cand o_tree o_ends o_dig o_ev o_h o_leafCount o_keyed o_seed o_root o_next o_issuedQ o_candQ po)) rfl ?_
  cases h
  exact OEnds.iret hm_6 rfl rfl
theorem ok_rotl {o_issued : List Int32} {o_cand : List Int32} {o_tree : List Int32} {o_ends : List Int32} {o_dig : List Int32} {o_ev : List Int32} {o_h : Int32} {o_leafCount : Int32} {o_keyed : Int32} {o_seed : Int32} {o_root : Int32} {o_next : Int32} {o_issuedQ : Int32} {o_candQ : Int32} {c0 : ACell} {po : List ACell} {v1 : Int32} {v2 : Int32} {res : Int32} (h : f_rotl v1 v2 = some res) : OEnds own_P 8 0 [.val (.ref 1), .val (.int v1), .val (.int v2)] [] (c0 :: bk0 o_issued o_cand o_tree o_ends o_dig o_ev o_h o_leafCount o_keyed o_seed o_root o_next o_issuedQ o_candQ po) (some (.int res), (c0 :: bk0 o_issued o_cand o_tree o_ends o_dig o_ev o_h o_leafCount o_keyed o_seed o_root o_next o_issuedQ o_candQ po), 0, 0) := by
  unfold f_rotl at h
  refine OEnds.adv hm_8 9 (pc' := 10) (L' := [.val (.ref 1), .val (.int v1), .val (.int v2)]) (S' := [.int ((v1 <<< (v2 &&& 31)) ||| (XT.ushr v1 ((32 : Int32) - v2)))]) (H' := (c0 :: bk0 o_issued o_cand o_tree o_ends o_dig o_ev o_h o_leafCount o_keyed o_seed o_root o_next o_issuedQ o_candQ po)) rfl ?_
  cases h
  exact OEnds.iret hm_8 rfl rfl
theorem ok_hash_14 {o_issued : List Int32} {o_cand : List Int32} {o_tree : List Int32} {o_ends : List Int32} {o_dig : List Int32} {o_ev : List Int32} {o_h : Int32} {o_leafCount : Int32} {o_keyed : Int32} {o_seed : Int32} {o_root : Int32} {o_next : Int32} {o_issuedQ : Int32} {o_candQ : Int32} {c0 : ACell} {po : List ACell} : ∀ (n : Nat), ∀ {v1 : Int32} {v4 : Int32} {v5 : Int32} {v6 : Int32} {d2 d3 : Slot} {res : Int32}, f_hash_14 n v1 v4 v5 v6 = some res → OEnds own_P 7 14 [.val (.ref 1), .val (.int v1), d2, d3, .val (.int v4), .val (.int v5), .val (.int v6)] [] (c0 :: bk0 o_issued o_cand o_tree o_ends o_dig o_ev o_h o_leafCount o_keyed o_seed o_root o_next o_issuedQ o_candQ po) (some (.int res), (c0 :: bk0 o_issued o_cand o_tree o_ends o_dig o_ev o_h o_leafCount o_keyed o_seed o_root o_next o_issuedQ o_candQ po), 0, 0) := by
  intro n
  induction n with
  | zero => intro v1 v4 v5 v6 d2 d3 res h; cases h
  | succ n ih =>
    intro v1 v4 v5 v6 d2 d3 res h
    unfold f_hash_14 at h
    refine OEnds.adv hm_7 2 (pc' := 17) (L' := [.val (.ref 1), .val (.int v1), .unset, .unset, .val (.int v4), .val (.int v5), .val (.int v6)]) (S' := [.int 4, .int v6]) (H' := (c0 :: bk0 o_issued o_cand o_tree o_ends o_dig o_ev o_h o_leafCount o_keyed o_seed o_root o_next o_issuedQ o_candQ po)) rfl ?_
    by_cases hc4 : v6 < (4 : Int32)
    · simp only [if_pos hc4] at h
      refine OEnds.icmpF hm_7 rfl ((tlt hc4).2.1) ?_
      refine OEnds.adv hm_7 7 (pc' := 32) (L' := [.val (.ref 1), .val (.int v1), .unset, .unset, .val (.int (v4 + v5)), .val (.int v5), .val (.int v6)]) (S' := [.int 7, .int v5, .ref 1]) (H' := (c0 :: bk0 o_issued o_cand o_tree o_ends o_dig o_ev o_h o_leafCount o_keyed o_seed o_root o_next o_issuedQ o_candQ po)) rfl ?_
      obtain ⟨r2, hq5, h⟩ := bnd h
      refine OEnds.call0 hm_7 rfl rfl (by decide) rfl (as := [.ref 1, .int v5, .int 7]) (rest := []) rfl rfl (ok_rotl hq5) ?_
      refine OEnds.adv hm_7 6 (pc' := 45) (L' := [.val (.ref 1), .val (.int v1), .unset, .unset, .val (.int (v4 + v5)), .val (.int (r2 ^^^ (v4 + v5))), .val (.int v6)]) (S' := [.int 13, .int (v4 + v5), .ref 1]) (H' := (c0 :: bk0 o_issued o_cand o_tree o_ends o_dig o_ev o_h o_leafCount o_keyed o_seed o_root o_next o_issuedQ o_candQ po)) rfl ?_
      obtain ⟨r3, hq6, h⟩ := bnd h
      refine OEnds.call0 hm_7 rfl rfl (by decide) rfl (as := [.ref 1, .int (v4 + v5), .int 13]) (rest := []) rfl rfl (ok_rotl hq6) ?_
      refine OEnds.adv hm_7 7 (pc' := 14) (L' := [.val (.ref 1), .val (.int v1), .unset, .unset, .val (.int ((r3 + v1) + v6)), .val (.int (r2 ^^^ (v4 + v5))), .val (.int (v6 + (1 : Int32)))]) (S' := []) (H' := (c0 :: bk0 o_issued o_cand o_tree o_ends o_dig o_ev o_h o_leafCount o_keyed o_seed o_root o_next o_issuedQ o_candQ po)) rfl ?_
      exact ih h
    · simp only [if_neg hc4] at h
      refine OEnds.icmpT hm_7 rfl (q := 61) rfl ((flt hc4).2.1) ?_
      refine OEnds.adv hm_7 3 (pc' := 66) (L' := [.val (.ref 1), .val (.int v1), .unset, .unset, .val (.int v4), .val (.int v5), .val (.int v6)]) (S' := [.int (v4 ^^^ v5)]) (H' := (c0 :: bk0 o_issued o_cand o_tree o_ends o_dig o_ev o_h o_leafCount o_keyed o_seed o_root o_next o_issuedQ o_candQ po)) rfl ?_
      cases h
      exact OEnds.iret hm_7 rfl rfl
theorem ok_hash {o_issued : List Int32} {o_cand : List Int32} {o_tree : List Int32} {o_ends : List Int32} {o_dig : List Int32} {o_ev : List Int32} {o_h : Int32} {o_leafCount : Int32} {o_keyed : Int32} {o_seed : Int32} {o_root : Int32} {o_next : Int32} {o_issuedQ : Int32} {o_candQ : Int32} {c0 : ACell} {po : List ACell} {v1 : Int32} {v2 : Int32} {v3 : Int32} {res : Int32} (h : f_hash v1 v2 v3 = some res) : OEnds own_P 7 0 [.val (.ref 1), .val (.int v1), .val (.int v2), .val (.int v3), .unset, .unset, .unset] [] (c0 :: bk0 o_issued o_cand o_tree o_ends o_dig o_ev o_h o_leafCount o_keyed o_seed o_root o_next o_issuedQ o_candQ po) (some (.int res), (c0 :: bk0 o_issued o_cand o_tree o_ends o_dig o_ev o_h o_leafCount o_keyed o_seed o_root o_next o_issuedQ o_candQ po), 0, 0) := by
  unfold f_hash at h
  refine OEnds.adv hm_7 10 (pc' := 14) (L' := [.val (.ref 1), .val (.int v1), .val (.int v2), .val (.int v3), .val (.int (v2 ^^^ v1)), .val (.int (v3 + (-1640531527 : Int32))), .val (.int 0)]) (S' := []) (H' := (c0 :: bk0 o_issued o_cand o_tree o_ends o_dig o_ev o_h o_leafCount o_keyed o_seed o_root o_next o_issuedQ o_candQ po)) rfl ?_
  exact ok_hash_14 100000 h
theorem ok_secretKey {o_issued : List Int32} {o_cand : List Int32} {o_tree : List Int32} {o_ends : List Int32} {o_dig : List Int32} {o_ev : List Int32} {o_h : Int32} {o_leafCount : Int32} {o_keyed : Int32} {o_seed : Int32} {o_root : Int32} {o_next : Int32} {o_issuedQ : Int32} {o_candQ : Int32} {c0 : ACell} {po : List ACell} {v1 : Int32} {v2 : Int32} {res : Int32} (h : f_secretKey o_seed v1 v2 = some res) : OEnds own_P 5 0 [.val (.ref 1), .val (.int v1), .val (.int v2), .unset] [] (c0 :: bk0 o_issued o_cand o_tree o_ends o_dig o_ev o_h o_leafCount o_keyed o_seed o_root o_next o_issuedQ o_candQ po) (some (.int res), (c0 :: bk0 o_issued o_cand o_tree o_ends o_dig o_ev o_h o_leafCount o_keyed o_seed o_root o_next o_issuedQ o_candQ po), 0, 0) := by
  unfold f_secretKey at h
  refine OEnds.adv hm_5 3 (pc' := 3) (L' := [.val (.ref 1), .val (.int v1), .val (.int v2), .unset]) (S' := [.int v2, .int v1, .ref 1]) (H' := (c0 :: bk0 o_issued o_cand o_tree o_ends o_dig o_ev o_h o_leafCount o_keyed o_seed o_root o_next o_issuedQ o_candQ po)) rfl ?_
  obtain ⟨r4, hq7, h⟩ := bnd h
  refine OEnds.call0 hm_5 rfl rfl (by decide) rfl (as := [.ref 1, .int v1, .int v2]) (rest := []) rfl rfl (ok_secretTweak hq7) ?_
  refine OEnds.adv hm_5 6 (pc' := 14) (L' := [.val (.ref 1), .val (.int v1), .val (.int v2), .val (.int r4)]) (S' := [.int 0, .int o_seed, .int r4, .ref 1]) (H' := (c0 :: bk0 o_issued o_cand o_tree o_ends o_dig o_ev o_h o_leafCount o_keyed o_seed o_root o_next o_issuedQ o_candQ po)) rfl ?_
  obtain ⟨r5, hq8, h⟩ := bnd h
  refine OEnds.call0 hm_5 rfl rfl (by decide) rfl (as := [.ref 1, .int r4, .int o_seed, .int 0]) (rest := []) rfl rfl (ok_hash hq8) ?_
  show OEnds own_P 5 17 [.val (.ref 1), .val (.int v1), .val (.int v2), .val (.int r4)] [.int r5] (c0 :: bk0 o_issued o_cand o_tree o_ends o_dig o_ev o_h o_leafCount o_keyed o_seed o_root o_next o_issuedQ o_candQ po) _
  cases h
  exact OEnds.iret hm_5 rfl rfl
theorem ok_stepTweak {o_issued : List Int32} {o_cand : List Int32} {o_tree : List Int32} {o_ends : List Int32} {o_dig : List Int32} {o_ev : List Int32} {o_h : Int32} {o_leafCount : Int32} {o_keyed : Int32} {o_seed : Int32} {o_root : Int32} {o_next : Int32} {o_issuedQ : Int32} {o_candQ : Int32} {c0 : ACell} {po : List ACell} {v1 : Int32} {v2 : Int32} {v3 : Int32} {res : Int32} (h : f_stepTweak v1 v2 v3 = some res) : OEnds own_P 10 0 [.val (.ref 1), .val (.int v1), .val (.int v2), .val (.int v3)] [] (c0 :: bk0 o_issued o_cand o_tree o_ends o_dig o_ev o_h o_leafCount o_keyed o_seed o_root o_next o_issuedQ o_candQ po) (some (.int res), (c0 :: bk0 o_issued o_cand o_tree o_ends o_dig o_ev o_h o_leafCount o_keyed o_seed o_root o_next o_issuedQ o_candQ po), 0, 0) := by
  unfold f_stepTweak at h
  refine OEnds.adv hm_10 11 (pc' := 14) (L' := [.val (.ref 1), .val (.int v1), .val (.int v2), .val (.int v3)]) (S' := [.int ((((268435456 : Int32) ||| (v1 <<< ((16 : Int32) &&& 31))) ||| (v2 <<< ((8 : Int32) &&& 31))) ||| v3)]) (H' := (c0 :: bk0 o_issued o_cand o_tree o_ends o_dig o_ev o_h o_leafCount o_keyed o_seed o_root o_next o_issuedQ o_candQ po)) rfl ?_
  cases h
  exact OEnds.iret hm_10 rfl rfl
theorem ok_walk_6 {o_issued : List Int32} {o_cand : List Int32} {o_tree : List Int32} {o_ends : List Int32} {o_dig : List Int32} {o_ev : List Int32} {o_h : Int32} {o_leafCount : Int32} {o_keyed : Int32} {o_seed : Int32} {o_root : Int32} {o_next : Int32} {o_issuedQ : Int32} {o_candQ : Int32} {c0 : ACell} {po : List ACell} : ∀ (n : Nat), ∀ {v1 : Int32} {v2 : Int32} {v4 : Int32} {v5 : Int32} {v6 : Int32} {v7 : Int32} {d3 d8 : Slot} {res : Int32}, f_walk_6 n v1 v2 v4 v5 v6 v7 = some res → OEnds own_P 9 6 [.val (.ref 1), .val (.int v1), .val (.int v2), d3, .val (.int v4), .val (.int v5), .val (.int v6), .val (.int v7), d8] [] (c0 :: bk0 o_issued o_cand o_tree o_ends o_dig o_ev o_h o_leafCount o_keyed o_seed o_root o_next o_issuedQ o_candQ po) (some (.int res), (c0 :: bk0 o_issued o_cand o_tree o_ends o_dig o_ev o_h o_leafCount o_keyed o_seed o_root o_next o_issuedQ o_candQ po), 0, 0) := by
  intro n
  induction n with
  | zero => intro v1 v2 v4 v5 v6 v7 d3 d8 res h; cases h
  | succ n ih =>
    intro v1 v2 v4 v5 v6 v7 d3 d8 res h
    unfold f_walk_6 at h
    refine OEnds.adv hm_9 2 (pc' := 10) (L' := [.val (.ref 1), .val (.int v1), .val (.int v2), .unset, .val (.int v4), .val (.int v5), .val (.int v6), .val (.int v7), .unset]) (S' := [.int v5, .int v7]) (H' := (c0 :: bk0 o_issued o_cand o_tree o_ends o_dig o_ev o_h o_leafCount o_keyed o_seed o_root o_next o_issuedQ o_candQ po)) rfl ?_
    by_cases hc9 : v7 < v5
    · simp only [if_pos hc9] at h
      refine OEnds.icmpF hm_9 rfl ((tlt hc9).2.1) ?_
      refine OEnds.adv hm_9 2 (pc' := 17) (L' := [.val (.ref 1), .val (.int v1), .val (.int v2), .unset, .val (.int v4), .val (.int v5), .val (.int v6), .val (.int v7), .unset]) (S' := [.int 16, .int v7]) (H' := (c0 :: bk0 o_issued o_cand o_tree o_ends o_dig o_ev o_h o_leafCount o_keyed o_seed o_root o_next o_issuedQ o_candQ po)) rfl ?_
      by_cases hc10 : v7 < (16 : Int32)
      · simp only [if_pos hc10] at h
        refine OEnds.icmpF hm_9 rfl ((tlt hc10).2.1) ?_
        refine OEnds.adv hm_9 6 (pc' := 28) (L' := [.val (.ref 1), .val (.int v1), .val (.int v2), .unset, .val (.int v4), .val (.int v5), .val (.int v6), .val (.int v7), .unset]) (S' := [.int (v4 + v7), .int v2, .int v1, .ref 1]) (H' := (c0 :: bk0 o_issued o_cand o_tree o_ends o_dig o_ev o_h o_leafCount o_keyed o_seed o_root o_next o_issuedQ o_candQ po)) rfl ?_
        obtain ⟨r6, hq11, h⟩ := bnd h
        refine OEnds.call0 hm_9 rfl rfl (by decide) rfl (as := [.ref 1, .int v1, .int v2, .int (v4 + v7)]) (rest := []) rfl rfl (ok_stepTweak hq11) ?_
        refine OEnds.adv hm_9 5 (pc' := 39) (L' := [.val (.ref 1), .val (.int v1), .val (.int v2), .unset, .val (.int v4), .val (.int v5), .val (.int v6), .val (.int v7), .val (.int r6)]) (S' := [.int 0, .int v6, .int r6, .ref 1]) (H' := (c0 :: bk0 o_issued o_cand o_tree o_ends o_dig o_ev o_h o_leafCount o_keyed o_seed o_root o_next o_issuedQ o_candQ po)) rfl ?_
        obtain ⟨r7, hq12, h⟩ := bnd h
        refine OEnds.call0 hm_9 rfl rfl (by decide) rfl (as := [.ref 1, .int r6, .int v6, .int 0]) (rest := []) rfl rfl (ok_hash hq12) ?_
        refine OEnds.adv hm_9 3 (pc' := 6) (L' := [.val (.ref 1), .val (.int v1), .val (.int v2), .unset, .val (.int v4), .val (.int v5), .val (.int r7), .val (.int (v7 + (1 : Int32))), .val (.int r6)]) (S' := []) (H' := (c0 :: bk0 o_issued o_cand o_tree o_ends o_dig o_ev o_h o_leafCount o_keyed o_seed o_root o_next o_issuedQ o_candQ po)) rfl ?_
        exact ih h
      · simp only [if_neg hc10] at h
        refine OEnds.icmpT hm_9 rfl (q := 50) rfl ((flt hc10).2.1) ?_
        refine OEnds.adv hm_9 1 (pc' := 52) (L' := [.val (.ref 1), .val (.int v1), .val (.int v2), .unset, .val (.int v4), .val (.int v5), .val (.int v6), .val (.int v7), .unset]) (S' := [.int v6]) (H' := (c0 :: bk0 o_issued o_cand o_tree o_ends o_dig o_ev o_h o_leafCount o_keyed o_seed o_root o_next o_issuedQ o_candQ po)) rfl ?_
        cases h
        exact OEnds.iret hm_9 rfl rfl
    · simp only [if_neg hc9] at h
      refine OEnds.icmpT hm_9 rfl (q := 50) rfl ((flt hc9).2.1) ?_
      refine OEnds.adv hm_9 1 (pc' := 52) (L' := [.val (.ref 1), .val (.int v1), .val (.int v2), .unset, .val (.int v4), .val (.int v5), .val (.int v6), .val (.int v7), .unset]) (S' := [.int v6]) (H' := (c0 :: bk0 o_issued o_cand o_tree o_ends o_dig o_ev o_h o_leafCount o_keyed o_seed o_root o_next o_issuedQ o_candQ po)) rfl ?_
      cases h
      exact OEnds.iret hm_9 rfl rfl
theorem ok_walk {o_issued : List Int32} {o_cand : List Int32} {o_tree : List Int32} {o_ends : List Int32} {o_dig : List Int32} {o_ev : List Int32} {o_h : Int32} {o_leafCount : Int32} {o_keyed : Int32} {o_seed : Int32} {o_root : Int32} {o_next : Int32} {o_issuedQ : Int32} {o_candQ : Int32} {c0 : ACell} {po : List ACell} {v1 : Int32} {v2 : Int32} {v3 : Int32} {v4 : Int32} {v5 : Int32} {res : Int32} (h : f_walk v1 v2 v3 v4 v5 = some res) : OEnds own_P 9 0 [.val (.ref 1), .val (.int v1), .val (.int v2), .val (.int v3), .val (.int v4), .val (.int v5), .unset, .unset, .unset] [] (c0 :: bk0 o_issued o_cand o_tree o_ends o_dig o_ev o_h o_leafCount o_keyed o_seed o_root o_next o_issuedQ o_candQ po) (some (.int res), (c0 :: bk0 o_issued o_cand o_tree o_ends o_dig o_ev o_h o_leafCount o_keyed o_seed o_root o_next o_issuedQ o_candQ po), 0, 0) := by
  unfold f_walk at h
  refine OEnds.adv hm_9 4 (pc' := 6) (L' := [.val (.ref 1), .val (.int v1), .val (.int v2), .val (.int v3), .val (.int v4), .val (.int v5), .val (.int v3), .val (.int 0), .unset]) (S' := []) (H' := (c0 :: bk0 o_issued o_cand o_tree o_ends o_dig o_ev o_h o_leafCount o_keyed o_seed o_root o_next o_issuedQ o_candQ po)) rfl ?_
  exact ok_walk_6 100000 h
theorem ok_foldTweak {o_issued : List Int32} {o_cand : List Int32} {o_tree : List Int32} {o_ends : List Int32} {o_dig : List Int32} {o_ev : List Int32} {o_h : Int32} {o_leafCount : Int32} {o_keyed : Int32} {o_seed : Int32} {o_root : Int32} {o_next : Int32} {o_issuedQ : Int32} {o_candQ : Int32} {c0 : ACell} {po : List ACell} {v1 : Int32} {v2 : Int32} {res : Int32} (h : f_foldTweak v1 v2 = some res) : OEnds own_P 12 0 [.val (.ref 1), .val (.int v1), .val (.int v2)] [] (c0 :: bk0 o_issued o_cand o_tree o_ends o_dig o_ev o_h o_leafCount o_keyed o_seed o_root o_next o_issuedQ o_candQ po) (some (.int res), (c0 :: bk0 o_issued o_cand o_tree o_ends o_dig o_ev o_h o_leafCount o_keyed o_seed o_root o_next o_issuedQ o_candQ po), 0, 0) := by
  unfold f_foldTweak at h
  refine OEnds.adv hm_12 7 (pc' := 9) (L' := [.val (.ref 1), .val (.int v1), .val (.int v2)]) (S' := [.int (((536870912 : Int32) ||| (v1 <<< ((16 : Int32) &&& 31))) ||| v2)]) (H' := (c0 :: bk0 o_issued o_cand o_tree o_ends o_dig o_ev o_h o_leafCount o_keyed o_seed o_root o_next o_issuedQ o_candQ po)) rfl ?_
  cases h
  exact OEnds.iret hm_12 rfl rfl
theorem ok_foldEnds_9 {o_issued : List Int32} {o_cand : List Int32} {o_tree : List Int32} {o_ends : List Int32} {o_dig : List Int32} {o_ev : List Int32} {o_h : Int32} {o_leafCount : Int32} {o_keyed : Int32} {o_seed : Int32} {o_root : Int32} {o_next : Int32} {o_issuedQ : Int32} {o_candQ : Int32} {c0 : ACell} {po : List ACell} : ∀ (n : Nat), ∀ {v1 : Int32} {v2 : Int32} {v3 : Int32} {d4 : Slot} {res : Int32}, f_foldEnds_9 o_ev n v1 v2 v3 = some res → OEnds own_P 11 9 [.val (.ref 1), .val (.int v1), .val (.int v2), .val (.int v3), d4] [] (c0 :: bk0 o_issued o_cand o_tree o_ends o_dig o_ev o_h o_leafCount o_keyed o_seed o_root o_next o_issuedQ o_candQ po) (some (.int res), (c0 :: bk0 o_issued o_cand o_tree o_ends o_dig o_ev o_h o_leafCount o_keyed o_seed o_root o_next o_issuedQ o_candQ po), 0, 0) := by
  intro n
  induction n with
  | zero => intro v1 v2 v3 d4 res h; cases h
  | succ n ih =>
    intro v1 v2 v3 d4 res h
    unfold f_foldEnds_9 at h
    refine OEnds.adv hm_11 2 (pc' := 12) (L' := [.val (.ref 1), .val (.int v1), .val (.int v2), .val (.int v3), .unset]) (S' := [.int 10, .int v3]) (H' := (c0 :: bk0 o_issued o_cand o_tree o_ends o_dig o_ev o_h o_leafCount o_keyed o_seed o_root o_next o_issuedQ o_candQ po)) rfl ?_
    by_cases hc13 : v3 < (10 : Int32)
    · simp only [if_pos hc13] at h
      refine OEnds.icmpF hm_11 rfl ((tlt hc13).2.1) ?_
      refine OEnds.adv hm_11 3 (pc' := 18) (L' := [.val (.ref 1), .val (.int v1), .val (.int v2), .val (.int v3), .unset]) (S' := [.int v3, .int v1, .ref 1]) (H' := (c0 :: bk0 o_issued o_cand o_tree o_ends o_dig o_ev o_h o_leafCount o_keyed o_seed o_root o_next o_issuedQ o_candQ po)) rfl ?_
      obtain ⟨r9, hq14, h⟩ := bnd h
      refine OEnds.call0 hm_11 rfl rfl (by decide) rfl (as := [.ref 1, .int v1, .int v3]) (rest := []) rfl rfl (ok_foldTweak hq14) ?_
      refine OEnds.adv hm_11 7 (pc' := 32) (L' := [.val (.ref 1), .val (.int v1), .val (.int v2), .val (.int v3), .val (.int r9)]) (S' := [.int v3, .ref 7, .int v2, .int r9, .ref 1]) (H' := (c0 :: bk0 o_issued o_cand o_tree o_ends o_dig o_ev o_h o_leafCount o_keyed o_seed o_root o_next o_issuedQ o_candQ po)) rfl ?_
      obtain ⟨x10, hx10, h⟩ := bnd h
      refine OEnds.plain hm_11 rfl rfl (x_iaload rfl hx10) ?_
      show OEnds own_P 11 33 [.val (.ref 1), .val (.int v1), .val (.int v2), .val (.int v3), .val (.int r9)] [.int x10, .int v2, .int r9, .ref 1] (c0 :: bk0 o_issued o_cand o_tree o_ends o_dig o_ev o_h o_leafCount o_keyed o_seed o_root o_next o_issuedQ o_candQ po) _
      obtain ⟨r11, hq15, h⟩ := bnd h
      refine OEnds.call0 hm_11 rfl rfl (by decide) rfl (as := [.ref 1, .int r9, .int v2, .int x10]) (rest := []) rfl rfl (ok_hash hq15) ?_
      refine OEnds.adv hm_11 3 (pc' := 9) (L' := [.val (.ref 1), .val (.int v1), .val (.int r11), .val (.int (v3 + (1 : Int32))), .val (.int r9)]) (S' := []) (H' := (c0 :: bk0 o_issued o_cand o_tree o_ends o_dig o_ev o_h o_leafCount o_keyed o_seed o_root o_next o_issuedQ o_candQ po)) rfl ?_
      exact ih h
    · simp only [if_neg hc13] at h
      refine OEnds.icmpT hm_11 rfl (q := 43) rfl ((flt hc13).2.1) ?_
      refine OEnds.adv hm_11 1 (pc' := 44) (L' := [.val (.ref 1), .val (.int v1), .val (.int v2), .val (.int v3), .unset]) (S' := [.int v2]) (H' := (c0 :: bk0 o_issued o_cand o_tree o_ends o_dig o_ev o_h o_leafCount o_keyed o_seed o_root o_next o_issuedQ o_candQ po)) rfl ?_
      cases h
      exact OEnds.iret hm_11 rfl rfl
theorem ok_foldEnds {o_issued : List Int32} {o_cand : List Int32} {o_tree : List Int32} {o_ends : List Int32} {o_dig : List Int32} {o_ev : List Int32} {o_h : Int32} {o_leafCount : Int32} {o_keyed : Int32} {o_seed : Int32} {o_root : Int32} {o_next : Int32} {o_issuedQ : Int32} {o_candQ : Int32} {c0 : ACell} {po : List ACell} {v1 : Int32} {res : Int32} (h : f_foldEnds o_ev v1 = some res) : OEnds own_P 11 0 [.val (.ref 1), .val (.int v1), .unset, .unset, .unset] [] (c0 :: bk0 o_issued o_cand o_tree o_ends o_dig o_ev o_h o_leafCount o_keyed o_seed o_root o_next o_issuedQ o_candQ po) (some (.int res), (c0 :: bk0 o_issued o_cand o_tree o_ends o_dig o_ev o_h o_leafCount o_keyed o_seed o_root o_next o_issuedQ o_candQ po), 0, 0) := by
  unfold f_foldEnds at h
  refine OEnds.adv hm_11 3 (pc' := 5) (L' := [.val (.ref 1), .val (.int v1), .unset, .unset, .unset]) (S' := [.int 0, .ref 7]) (H' := (c0 :: bk0 o_issued o_cand o_tree o_ends o_dig o_ev o_h o_leafCount o_keyed o_seed o_root o_next o_issuedQ o_candQ po)) rfl ?_
  obtain ⟨x8, hx8, h⟩ := bnd h
  refine OEnds.plain hm_11 rfl rfl (x_iaload rfl hx8) ?_
  refine OEnds.adv hm_11 3 (pc' := 9) (L' := [.val (.ref 1), .val (.int v1), .val (.int x8), .val (.int 1), .unset]) (S' := []) (H' := (c0 :: bk0 o_issued o_cand o_tree o_ends o_dig o_ev o_h o_leafCount o_keyed o_seed o_root o_next o_issuedQ o_candQ po)) rfl ?_
  exact ok_foldEnds_9 100000 h
theorem ok_buildLeaves_70 {o_issued : List Int32} {o_cand : List Int32} {o_dig : List Int32} {o_h : Int32} {o_leafCount : Int32} {o_keyed : Int32} {o_seed : Int32} {o_root : Int32} {o_next : Int32} {o_issuedQ : Int32} {o_candQ : Int32} {c0 : ACell} {po : List ACell} {kb : List Int32 → List Int32 → List Int32 → Int32 → Option (List Int32 × List Int32 × List Int32)} (hkb : ∀ {o_tree : List Int32} {o_ends : List Int32} {o_ev : List Int32} {v1 : Int32} {d2 d3 d4 : Slot} {w_o_tree : List Int32} {w_o_ends : List Int32} {w_o_ev : List Int32}, kb o_tree o_ends o_ev v1 = some (w_o_tree, w_o_ends, w_o_ev) → OEnds own_P 4 2 [.val (.ref 1), .val (.int v1), d2, d3, d4] [] (c0 :: bk0 o_issued o_cand o_tree o_ends o_dig o_ev o_h o_leafCount o_keyed o_seed o_root o_next o_issuedQ o_candQ po) (none, (c0 :: bk0 o_issued o_cand w_o_tree w_o_ends o_dig w_o_ev o_h o_leafCount o_keyed o_seed o_root o_next o_issuedQ o_candQ po), 0, 0)) : ∀ {o_tree : List Int32} {o_ends : List Int32} {o_ev : List Int32} {v1 : Int32} {d2 d3 d4 : Slot} {w_o_tree : List Int32} {w_o_ends : List Int32} {w_o_ev : List Int32}, f_buildLeaves_70 kb o_leafCount o_seed o_tree o_ends o_ev v1 = some (w_o_tree, w_o_ends, w_o_ev) → OEnds own_P 4 70 [.val (.ref 1), .val (.int v1), d2, d3, d4] [] (c0 :: bk0 o_issued o_cand o_tree o_ends o_dig o_ev o_h o_leafCount o_keyed o_seed o_root o_next o_issuedQ o_candQ po) (none, (c0 :: bk0 o_issued o_cand w_o_tree w_o_ends o_dig w_o_ev o_h o_leafCount o_keyed o_seed o_root o_next o_issuedQ o_candQ po), 0, 0) := by
  intro o_tree o_ends o_ev v1 d2 d3 d4 w_o_tree w_o_ends w_o_ev h
  unfold f_buildLeaves_70 at h
  refine OEnds.adv hm_4 5 (pc' := 77) (L' := [.val (.ref 1), .val (.int v1), .unset, .unset, .unset]) (S' := [.int v1, .ref 1, .int v1, .ref 4]) (H' := (c0 :: bk0 o_issued o_cand o_tree o_ends o_dig o_ev o_h o_leafCount o_keyed o_seed o_root o_next o_issuedQ o_candQ po)) rfl ?_
  obtain ⟨r16, hq16, h⟩ := bnd h
  refine OEnds.call0 hm_4 rfl rfl (by decide) rfl (as := [.ref 1, .int v1]) (rest := [.int v1, .ref 4]) rfl rfl (ok_foldEnds hq16) ?_
  show OEnds own_P 4 80 [.val (.ref 1), .val (.int v1), .unset, .unset, .unset] [.int r16, .int v1, .ref 4] (c0 :: bk0 o_issued o_cand o_tree o_ends o_dig o_ev o_h o_leafCount o_keyed o_seed o_root o_next o_issuedQ o_candQ po) _
  obtain ⟨A17, hA17, h⟩ := bnd h
  refine OEnds.plain hm_4 rfl rfl (x_iastore rfl (Nat.le_of_ble_eq_true rfl) hA17) ?_
  refine OEnds.adv hm_4 2 (pc' := 2) (L' := [.val (.ref 1), .val (.int (v1 + (1 : Int32))), .unset, .unset, .unset]) (S' := []) (H' := (c0 :: bk0 o_issued o_cand A17 o_ends o_dig o_ev o_h o_leafCount o_keyed o_seed o_root o_next o_issuedQ o_candQ po)) rfl ?_
  exact hkb h
theorem ok_buildLeaves_18 {o_issued : List Int32} {o_cand : List Int32} {o_dig : List Int32} {o_h : Int32} {o_leafCount : Int32} {o_keyed : Int32} {o_seed : Int32} {o_root : Int32} {o_next : Int32} {o_issuedQ : Int32} {o_candQ : Int32} {c0 : ACell} {po : List ACell} {k70 : List Int32 → List Int32 → List Int32 → Int32 → Option (List Int32 × List Int32 × List Int32)} (hk70 : ∀ {o_tree : List Int32} {o_ends : List Int32} {o_ev : List Int32} {v1 : Int32} {d2 d3 d4 : Slot} {w_o_tree : List Int32} {w_o_ends : List Int32} {w_o_ev : List Int32}, k70 o_tree o_ends o_ev v1 = some (w_o_tree, w_o_ends, w_o_ev) → OEnds own_P 4 70 [.val (.ref 1), .val (.int v1), d2, d3, d4] [] (c0 :: bk0 o_issued o_cand o_tree o_ends o_dig o_ev o_h o_leafCount o_keyed o_seed o_root o_next o_issuedQ o_candQ po) (none, (c0 :: bk0 o_issued o_cand w_o_tree w_o_ends o_dig w_o_ev o_h o_leafCount o_keyed o_seed o_root o_next o_issuedQ o_candQ po), 0, 0)) : ∀ (n : Nat), ∀ {o_tree : List Int32} {o_ends : List Int32} {o_ev : List Int32} {v1 : Int32} {v2 : Int32} {d3 d4 : Slot} {w_o_tree : List Int32} {w_o_ends : List Int32} {w_o_ev : List Int32}, f_buildLeaves_18 k70 o_leafCount o_seed n o_tree o_ends o_ev v1 v2 = some (w_o_tree, w_o_ends, w_o_ev) → OEnds own_P 4 18 [.val (.ref 1), .val (.int v1), .val (.int v2), d3, d4] [] (c0 :: bk0 o_issued o_cand o_tree o_ends o_dig o_ev o_h o_leafCount o_keyed o_seed o_root o_next o_issuedQ o_candQ po) (none, (c0 :: bk0 o_issued o_cand w_o_tree w_o_ends o_dig w_o_ev o_h o_leafCount o_keyed o_seed o_root o_next o_issuedQ o_candQ po), 0, 0) := by
  intro n
  induction n with
  | zero => intro o_tree o_ends o_ev v1 v2 d3 d4 w_o_tree w_o_ends w_o_ev h; cases h
  | succ n ih =>
    intro o_tree o_ends o_ev v1 v2 d3 d4 w_o_tree w_o_ends w_o_ev h
    unfold f_buildLeaves_18 at h
    refine OEnds.adv hm_4 2 (pc' := 21) (L' := [.val (.ref 1), .val (.int v1), .val (.int v2), .unset, .unset]) (S' := [.int 10, .int v2]) (H' := (c0 :: bk0 o_issued o_cand o_tree o_ends o_dig o_ev o_h o_leafCount o_keyed o_seed o_root o_next o_issuedQ o_candQ po)) rfl ?_
    by_cases hc17 : v2 < (10 : Int32)
    · simp only [if_pos hc17] at h
      refine OEnds.icmpF hm_4 rfl ((tlt hc17).2.1) ?_
      refine OEnds.adv hm_4 3 (pc' := 27) (L' := [.val (.ref 1), .val (.int v1), .val (.int v2), .unset, .unset]) (S' := [.int v2, .int v1, .ref 1]) (H' := (c0 :: bk0 o_issued o_cand o_tree o_ends o_dig o_ev o_h o_leafCount o_keyed o_seed o_root o_next o_issuedQ o_candQ po)) rfl ?_
      obtain ⟨r12, hq18, h⟩ := bnd h
      refine OEnds.call0 hm_4 rfl rfl (by decide) rfl (as := [.ref 1, .int v1, .int v2]) (rest := []) rfl rfl (ok_secretKey hq18) ?_
      refine OEnds.adv hm_4 7 (pc' := 38) (L' := [.val (.ref 1), .val (.int v1), .val (.int v2), .val (.int r12), .unset]) (S' := [.int 15, .int 0, .int r12, .int v2, .int v1, .ref 1]) (H' := (c0 :: bk0 o_issued o_cand o_tree o_ends o_dig o_ev o_h o_leafCount o_keyed o_seed o_root o_next o_issuedQ o_candQ po)) rfl ?_
      obtain ⟨r13, hq19, h⟩ := bnd h
      refine OEnds.call0 hm_4 rfl rfl (by decide) rfl (as := [.ref 1, .int v1, .int v2, .int r12, .int 0, .int 15]) (rest := []) rfl rfl (ok_walk hq19) ?_
      refine OEnds.adv hm_4 9 (pc' := 55) (L' := [.val (.ref 1), .val (.int v1), .val (.int v2), .val (.int r12), .val (.int r13)]) (S' := [.int r13, .int ((v1 * (10 : Int32)) + v2), .ref 5]) (H' := (c0 :: bk0 o_issued o_cand o_tree o_ends o_dig o_ev o_h o_leafCount o_keyed o_seed o_root o_next o_issuedQ o_candQ po)) rfl ?_
      obtain ⟨A14, hA14, h⟩ := bnd h
      refine OEnds.plain hm_4 rfl rfl (x_iastore rfl (Nat.le_of_ble_eq_true rfl) hA14) ?_
      refine OEnds.adv hm_4 4 (pc' := 63) (L' := [.val (.ref 1), .val (.int v1), .val (.int v2), .val (.int r12), .val (.int r13)]) (S' := [.int r13, .int v2, .ref 7]) (H' := (c0 :: bk0 o_issued o_cand o_tree A14 o_dig o_ev o_h o_leafCount o_keyed o_seed o_root o_next o_issuedQ o_candQ po)) rfl ?_
      obtain ⟨A15, hA15, h⟩ := bnd h
      refine OEnds.plain hm_4 rfl rfl (x_iastore rfl (Nat.le_of_ble_eq_true rfl) hA15) ?_
      refine OEnds.adv hm_4 2 (pc' := 18) (L' := [.val (.ref 1), .val (.int v1), .val (.int (v2 + (1 : Int32))), .val (.int r12), .val (.int r13)]) (S' := []) (H' := (c0 :: bk0 o_issued o_cand o_tree A14 o_dig A15 o_h o_leafCount o_keyed o_seed o_root o_next o_issuedQ o_candQ po)) rfl ?_
      exact ih h
    · simp only [if_neg hc17] at h
      refine OEnds.icmpT hm_4 rfl (q := 70) rfl ((flt hc17).2.1) ?_
      show OEnds own_P 4 70 [.val (.ref 1), .val (.int v1), .val (.int v2), .unset, .unset] [] (c0 :: bk0 o_issued o_cand o_tree o_ends o_dig o_ev o_h o_leafCount o_keyed o_seed o_root o_next o_issuedQ o_candQ po) _
      exact hk70 h
theorem ok_buildLeaves_2 {o_issued : List Int32} {o_cand : List Int32} {o_dig : List Int32} {o_h : Int32} {o_leafCount : Int32} {o_keyed : Int32} {o_seed : Int32} {o_root : Int32} {o_next : Int32} {o_issuedQ : Int32} {o_candQ : Int32} {c0 : ACell} {po : List ACell} : ∀ (n : Nat), ∀ {o_tree : List Int32} {o_ends : List Int32} {o_ev : List Int32} {v1 : Int32} {d2 d3 d4 : Slot} {w_o_tree : List Int32} {w_o_ends : List Int32} {w_o_ev : List Int32}, f_buildLeaves_2 o_leafCount o_seed n o_tree o_ends o_ev v1 = some (w_o_tree, w_o_ends, w_o_ev) → OEnds own_P 4 2 [.val (.ref 1), .val (.int v1), d2, d3, d4] [] (c0 :: bk0 o_issued o_cand o_tree o_ends o_dig o_ev o_h o_leafCount o_keyed o_seed o_root o_next o_issuedQ o_candQ po) (none, (c0 :: bk0 o_issued o_cand w_o_tree w_o_ends o_dig w_o_ev o_h o_leafCount o_keyed o_seed o_root o_next o_issuedQ o_candQ po), 0, 0) := by
  intro n
  induction n with
  | zero => intro o_tree o_ends o_ev v1 d2 d3 d4 w_o_tree w_o_ends w_o_ev h; cases h
  | succ n ih =>
    intro o_tree o_ends o_ev v1 d2 d3 d4 w_o_tree w_o_ends w_o_ev h
    unfold f_buildLeaves_2 at h
    refine OEnds.adv hm_4 3 (pc' := 7) (L' := [.val (.ref 1), .val (.int v1), .unset, .unset, .unset]) (S' := [.int o_leafCount, .int v1]) (H' := (c0 :: bk0 o_issued o_cand o_tree o_ends o_dig o_ev o_h o_leafCount o_keyed o_seed o_root o_next o_issuedQ o_candQ po)) rfl ?_
    by_cases hc20 : v1 < o_leafCount
    · simp only [if_pos hc20] at h
      refine OEnds.icmpF hm_4 rfl ((tlt hc20).2.1) ?_
      refine OEnds.adv hm_4 2 (pc' := 13) (L' := [.val (.ref 1), .val (.int v1), .unset, .unset, .unset]) (S' := [.int 16, .int v1]) (H' := (c0 :: bk0 o_issued o_cand o_tree o_ends o_dig o_ev o_h o_leafCount o_keyed o_seed o_root o_next o_issuedQ o_candQ po)) rfl ?_
      by_cases hc21 : v1 < (16 : Int32)
      · simp only [if_pos hc21] at h
        refine OEnds.icmpF hm_4 rfl ((tlt hc21).2.1) ?_
        refine OEnds.adv hm_4 2 (pc' := 18) (L' := [.val (.ref 1), .val (.int v1), .val (.int 0), .unset, .unset]) (S' := []) (H' := (c0 :: bk0 o_issued o_cand o_tree o_ends o_dig o_ev o_h o_leafCount o_keyed o_seed o_root o_next o_issuedQ o_candQ po)) rfl ?_
        exact ok_buildLeaves_18 (ok_buildLeaves_70 ih) 100000 h
      · simp only [if_neg hc21] at h
        refine OEnds.icmpT hm_4 rfl (q := 87) rfl ((flt hc21).2.1) ?_
        show OEnds own_P 4 87 [.val (.ref 1), .val (.int v1), .unset, .unset, .unset] [] (c0 :: bk0 o_issued o_cand o_tree o_ends o_dig o_ev o_h o_leafCount o_keyed o_seed o_root o_next o_issuedQ o_candQ po) _
        cases h
        exact OEnds.vret hm_4 rfl rfl
    · simp only [if_neg hc20] at h
      refine OEnds.icmpT hm_4 rfl (q := 87) rfl ((flt hc20).2.1) ?_
      show OEnds own_P 4 87 [.val (.ref 1), .val (.int v1), .unset, .unset, .unset] [] (c0 :: bk0 o_issued o_cand o_tree o_ends o_dig o_ev o_h o_leafCount o_keyed o_seed o_root o_next o_issuedQ o_candQ po) _
      cases h
      exact OEnds.vret hm_4 rfl rfl
theorem ok_buildLeaves {o_issued : List Int32} {o_cand : List Int32} {o_dig : List Int32} {o_h : Int32} {o_leafCount : Int32} {o_keyed : Int32} {o_seed : Int32} {o_root : Int32} {o_next : Int32} {o_issuedQ : Int32} {o_candQ : Int32} {c0 : ACell} {po : List ACell} {o_tree : List Int32} {o_ends : List Int32} {o_ev : List Int32} {w_o_tree : List Int32} {w_o_ends : List Int32} {w_o_ev : List Int32} (h : f_buildLeaves o_leafCount o_seed o_tree o_ends o_ev = some (w_o_tree, w_o_ends, w_o_ev)) : OEnds own_P 4 0 [.val (.ref 1), .unset, .unset, .unset, .unset] [] (c0 :: bk0 o_issued o_cand o_tree o_ends o_dig o_ev o_h o_leafCount o_keyed o_seed o_root o_next o_issuedQ o_candQ po) (none, (c0 :: bk0 o_issued o_cand w_o_tree w_o_ends o_dig w_o_ev o_h o_leafCount o_keyed o_seed o_root o_next o_issuedQ o_candQ po), 0, 0) := by
  unfold f_buildLeaves at h
  refine OEnds.adv hm_4 2 (pc' := 2) (L' := [.val (.ref 1), .val (.int 0), .unset, .unset, .unset]) (S' := []) (H' := (c0 :: bk0 o_issued o_cand o_tree o_ends o_dig o_ev o_h o_leafCount o_keyed o_seed o_root o_next o_issuedQ o_candQ po)) rfl ?_
  exact ok_buildLeaves_2 100000 h
theorem ok_nodeTweak {o_issued : List Int32} {o_cand : List Int32} {o_tree : List Int32} {o_ends : List Int32} {o_dig : List Int32} {o_ev : List Int32} {o_h : Int32} {o_leafCount : Int32} {o_keyed : Int32} {o_seed : Int32} {o_root : Int32} {o_next : Int32} {o_issuedQ : Int32} {o_candQ : Int32} {c0 : ACell} {po : List ACell} {v1 : Int32} {v2 : Int32} {res : Int32} (h : f_nodeTweak v1 v2 = some res) : OEnds own_P 14 0 [.val (.ref 1), .val (.int v1), .val (.int v2)] [] (c0 :: bk0 o_issued o_cand o_tree o_ends o_dig o_ev o_h o_leafCount o_keyed o_seed o_root o_next o_issuedQ o_candQ po) (some (.int res), (c0 :: bk0 o_issued o_cand o_tree o_ends o_dig o_ev o_h o_leafCount o_keyed o_seed o_root o_next o_issuedQ o_candQ po), 0, 0) := by
  unfold f_nodeTweak at h
  refine OEnds.adv hm_14 7 (pc' := 9) (L' := [.val (.ref 1), .val (.int v1), .val (.int v2)]) (S' := [.int (((805306368 : Int32) ||| (v1 <<< ((16 : Int32) &&& 31))) ||| v2)]) (H' := (c0 :: bk0 o_issued o_cand o_tree o_ends o_dig o_ev o_h o_leafCount o_keyed o_seed o_root o_next o_issuedQ o_candQ po)) rfl ?_
  cases h
  exact OEnds.iret hm_14 rfl rfl
theorem ok_buildUpperLevels_24 {o_issued : List Int32} {o_cand : List Int32} {o_ends : List Int32} {o_dig : List Int32} {o_ev : List Int32} {o_h : Int32} {o_leafCount : Int32} {o_keyed : Int32} {o_seed : Int32} {o_root : Int32} {o_next : Int32} {o_issuedQ : Int32} {o_candQ : Int32} {c0 : ACell} {po : List ACell} {k2 : List Int32 → Int32 → Option (List Int32)} (hk2 : ∀ {o_tree : List Int32} {v1 : Int32} {d2 d3 d4 d5 d6 : Slot} {w_o_tree : List Int32}, k2 o_tree v1 = some w_o_tree → OEnds own_P 13 2 [.val (.ref 1), .val (.int v1), d2, d3, d4, d5, d6] [] (c0 :: bk0 o_issued o_cand o_tree o_ends o_dig o_ev o_h o_leafCount o_keyed o_seed o_root o_next o_issuedQ o_candQ po) (none, (c0 :: bk0 o_issued o_cand w_o_tree o_ends o_dig o_ev o_h o_leafCount o_keyed o_seed o_root o_next o_issuedQ o_candQ po), 0, 0)) : ∀ (n : Nat), ∀ {o_tree : List Int32} {v1 : Int32} {v2 : Int32} {v3 : Int32} {d4 d5 d6 : Slot} {w_o_tree : List Int32}, f_buildUpperLevels_24 k2 o_h o_leafCount n o_tree v1 v2 v3 = some w_o_tree → OEnds own_P 13 24 [.val (.ref 1), .val (.int v1), .val (.int v2), .val (.int v3), d4, d5, d6] [] (c0 :: bk0 o_issued o_cand o_tree o_ends o_dig o_ev o_h o_leafCount o_keyed o_seed o_root o_next o_issuedQ o_candQ po) (none, (c0 :: bk0 o_issued o_cand w_o_tree o_ends o_dig o_ev o_h o_leafCount o_keyed o_seed o_root o_next o_issuedQ o_candQ po), 0, 0) := by
  intro n
  induction n with
  | zero => intro o_tree v1 v2 v3 d4 d5 d6 w_o_tree h; cases h
  | succ n ih =>
    intro o_tree v1 v2 v3 d4 d5 d6 w_o_tree h
    unfold f_buildUpperLevels_24 at h
    refine OEnds.adv hm_13 2 (pc' := 26) (L' := [.val (.ref 1), .val (.int v1), .val (.int v2), .val (.int v3), .unset, .unset, .unset]) (S' := [.int v2, .int v3]) (H' := (c0 :: bk0 o_issued o_cand o_tree o_ends o_dig o_ev o_h o_leafCount o_keyed o_seed o_root o_next o_issuedQ o_candQ po)) rfl ?_
    by_cases hc22 : v3 < v2
    · simp only [if_pos hc22] at h
      refine OEnds.icmpF hm_13 rfl ((tlt hc22).2.1) ?_
      refine OEnds.adv hm_13 2 (pc' := 32) (L' := [.val (.ref 1), .val (.int v1), .val (.int v2), .val (.int v3), .unset, .unset, .unset]) (S' := [.int 16, .int v3]) (H' := (c0 :: bk0 o_issued o_cand o_tree o_ends o_dig o_ev o_h o_leafCount o_keyed o_seed o_root o_next o_issuedQ o_candQ po)) rfl ?_
      by_cases hc23 : v3 < (16 : Int32)
      · simp only [if_pos hc23] at h
        refine OEnds.icmpF hm_13 rfl ((tlt hc23).2.1) ?_
        refine OEnds.adv hm_13 3 (pc' := 38) (L' := [.val (.ref 1), .val (.int v1), .val (.int v2), .val (.int v3), .unset, .unset, .unset]) (S' := [.int v3, .int v1, .ref 1]) (H' := (c0 :: bk0 o_issued o_cand o_tree o_ends o_dig o_ev o_h o_leafCount o_keyed o_seed o_root o_next o_issuedQ o_candQ po)) rfl ?_
        obtain ⟨r18, hq24, h⟩ := bnd h
        refine OEnds.call0 hm_13 rfl rfl (by decide) rfl (as := [.ref 1, .int v1, .int v3]) (rest := []) rfl rfl (ok_nodeTweak hq24) ?_
        refine OEnds.adv hm_13 12 (pc' := 57) (L' := [.val (.ref 1), .val (.int v1), .val (.int v2), .val (.int v3), .val (.int r18), .unset, .unset]) (S' := [.int (((v1 - (1 : Int32)) * (16 : Int32)) + ((2 : Int32) * v3)), .ref 4]) (H' := (c0 :: bk0 o_issued o_cand o_tree o_ends o_dig o_ev o_h o_leafCount o_keyed o_seed o_root o_next o_issuedQ o_candQ po)) rfl ?_
        obtain ⟨x19, hx19, h⟩ := bnd h
        refine OEnds.plain hm_13 rfl rfl (x_iaload rfl hx19) ?_
        refine OEnds.adv hm_13 14 (pc' := 76) (L' := [.val (.ref 1), .val (.int v1), .val (.int v2), .val (.int v3), .val (.int r18), .val (.int x19), .unset]) (S' := [.int ((((v1 - (1 : Int32)) * (16 : Int32)) + ((2 : Int32) * v3)) + (1 : Int32)), .ref 4]) (H' := (c0 :: bk0 o_issued o_cand o_tree o_ends o_dig o_ev o_h o_leafCount o_keyed o_seed o_root o_next o_issuedQ o_candQ po)) rfl ?_
        obtain ⟨x20, hx20, h⟩ := bnd h
        refine OEnds.plain hm_13 rfl rfl (x_iaload rfl hx20) ?_
        refine OEnds.adv hm_13 12 (pc' := 96) (L' := [.val (.ref 1), .val (.int v1), .val (.int v2), .val (.int v3), .val (.int r18), .val (.int x19), .val (.int x20)]) (S' := [.int x20, .int x19, .int r18, .ref 1, .int ((v1 * (16 : Int32)) + v3), .ref 4]) (H' := (c0 :: bk0 o_issued o_cand o_tree o_ends o_dig o_ev o_h o_leafCount o_keyed o_seed o_root o_next o_issuedQ o_candQ po)) rfl ?_
        obtain ⟨r21, hq25, h⟩ := bnd h
        refine OEnds.call0 hm_13 rfl rfl (by decide) rfl (as := [.ref 1, .int r18, .int x19, .int x20]) (rest := [.int ((v1 * (16 : Int32)) + v3), .ref 4]) rfl rfl (ok_hash hq25) ?_
        show OEnds own_P 13 99 [.val (.ref 1), .val (.int v1), .val (.int v2), .val (.int v3), .val (.int r18), .val (.int x19), .val (.int x20)] [.int r21, .int ((v1 * (16 : Int32)) + v3), .ref 4] (c0 :: bk0 o_issued o_cand o_tree o_ends o_dig o_ev o_h o_leafCount o_keyed o_seed o_root o_next o_issuedQ o_candQ po) _
        obtain ⟨A22, hA22, h⟩ := bnd h
        refine OEnds.plain hm_13 rfl rfl (x_iastore rfl (Nat.le_of_ble_eq_true rfl) hA22) ?_
        refine OEnds.adv hm_13 2 (pc' := 24) (L' := [.val (.ref 1), .val (.int v1), .val (.int v2), .val (.int (v3 + (1 : Int32))), .val (.int r18), .val (.int x19), .val (.int x20)]) (S' := []) (H' := (c0 :: bk0 o_issued o_cand A22 o_ends o_dig o_ev o_h o_leafCount o_keyed o_seed o_root o_next o_issuedQ o_candQ po)) rfl ?_
        exact ih h
      · simp only [if_neg hc23] at h
        refine OEnds.icmpT hm_13 rfl (q := 106) rfl ((flt hc23).2.1) ?_
        refine OEnds.adv hm_13 2 (pc' := 2) (L' := [.val (.ref 1), .val (.int (v1 + (1 : Int32))), .val (.int v2), .val (.int v3), .unset, .unset, .unset]) (S' := []) (H' := (c0 :: bk0 o_issued o_cand o_tree o_ends o_dig o_ev o_h o_leafCount o_keyed o_seed o_root o_next o_issuedQ o_candQ po)) rfl ?_
        exact hk2 h
    · simp only [if_neg hc22] at h
      refine OEnds.icmpT hm_13 rfl (q := 106) rfl ((flt hc22).2.1) ?_
      refine OEnds.adv hm_13 2 (pc' := 2) (L' := [.val (.ref 1), .val (.int (v1 + (1 : Int32))), .val (.int v2), .val (.int v3), .unset, .unset, .unset]) (S' := []) (H' := (c0 :: bk0 o_issued o_cand o_tree o_ends o_dig o_ev o_h o_leafCount o_keyed o_seed o_root o_next o_issuedQ o_candQ po)) rfl ?_
      exact hk2 h
theorem ok_buildUpperLevels_2 {o_issued : List Int32} {o_cand : List Int32} {o_ends : List Int32} {o_dig : List Int32} {o_ev : List Int32} {o_h : Int32} {o_leafCount : Int32} {o_keyed : Int32} {o_seed : Int32} {o_root : Int32} {o_next : Int32} {o_issuedQ : Int32} {o_candQ : Int32} {c0 : ACell} {po : List ACell} : ∀ (n : Nat), ∀ {o_tree : List Int32} {v1 : Int32} {d2 d3 d4 d5 d6 : Slot} {w_o_tree : List Int32}, f_buildUpperLevels_2 o_h o_leafCount n o_tree v1 = some w_o_tree → OEnds own_P 13 2 [.val (.ref 1), .val (.int v1), d2, d3, d4, d5, d6] [] (c0 :: bk0 o_issued o_cand o_tree o_ends o_dig o_ev o_h o_leafCount o_keyed o_seed o_root o_next o_issuedQ o_candQ po) (none, (c0 :: bk0 o_issued o_cand w_o_tree o_ends o_dig o_ev o_h o_leafCount o_keyed o_seed o_root o_next o_issuedQ o_candQ po), 0, 0) := by
  intro n
  induction n with
  | zero => intro o_tree v1 d2 d3 d4 d5 d6 w_o_tree h; cases h
  | succ n ih =>
    intro o_tree v1 d2 d3 d4 d5 d6 w_o_tree h
    unfold f_buildUpperLevels_2 at h
    refine OEnds.adv hm_13 3 (pc' := 7) (L' := [.val (.ref 1), .val (.int v1), .unset, .unset, .unset, .unset, .unset]) (S' := [.int o_h, .int v1]) (H' := (c0 :: bk0 o_issued o_cand o_tree o_ends o_dig o_ev o_h o_leafCount o_keyed o_seed o_root o_next o_issuedQ o_candQ po)) rfl ?_
    by_cases hc26 : o_h < v1
    · simp only [if_pos hc26] at h
      refine OEnds.icmpT hm_13 rfl (q := 112) rfl ((tlt hc26).2.2.1) ?_
      show OEnds own_P 13 112 [.val (.ref 1), .val (.int v1), .unset, .unset, .unset, .unset, .unset] [] (c0 :: bk0 o_issued o_cand o_tree o_ends o_dig o_ev o_h o_leafCount o_keyed o_seed o_root o_next o_issuedQ o_candQ po) _
      cases h
      exact OEnds.vret hm_13 rfl rfl
    · simp only [if_neg hc26] at h
      refine OEnds.icmpF hm_13 rfl ((flt hc26).2.2.1) ?_
      refine OEnds.adv hm_13 2 (pc' := 12) (L' := [.val (.ref 1), .val (.int v1), .unset, .unset, .unset, .unset, .unset]) (S' := [.int 4, .int v1]) (H' := (c0 :: bk0 o_issued o_cand o_tree o_ends o_dig o_ev o_h o_leafCount o_keyed o_seed o_root o_next o_issuedQ o_candQ po)) rfl ?_
      by_cases hc27 : (4 : Int32) < v1
      · simp only [if_pos hc27] at h
        refine OEnds.icmpT hm_13 rfl (q := 112) rfl ((tlt hc27).2.2.1) ?_
        show OEnds own_P 13 112 [.val (.ref 1), .val (.int v1), .unset, .unset, .unset, .unset, .unset] [] (c0 :: bk0 o_issued o_cand o_tree o_ends o_dig o_ev o_h o_leafCount o_keyed o_seed o_root o_next o_issuedQ o_candQ po) _
        cases h
        exact OEnds.vret hm_13 rfl rfl
      · simp only [if_neg hc27] at h
        refine OEnds.icmpF hm_13 rfl ((flt hc27).2.2.1) ?_
        refine OEnds.adv hm_13 7 (pc' := 24) (L' := [.val (.ref 1), .val (.int v1), .val (.int (o_leafCount >>> (v1 &&& 31))), .val (.int 0), .unset, .unset, .unset]) (S' := []) (H' := (c0 :: bk0 o_issued o_cand o_tree o_ends o_dig o_ev o_h o_leafCount o_keyed o_seed o_root o_next o_issuedQ o_candQ po)) rfl ?_
        exact ok_buildUpperLevels_24 ih 100000 h
theorem ok_buildUpperLevels {o_issued : List Int32} {o_cand : List Int32} {o_ends : List Int32} {o_dig : List Int32} {o_ev : List Int32} {o_h : Int32} {o_leafCount : Int32} {o_keyed : Int32} {o_seed : Int32} {o_root : Int32} {o_next : Int32} {o_issuedQ : Int32} {o_candQ : Int32} {c0 : ACell} {po : List ACell} {o_tree : List Int32} {w_o_tree : List Int32} (h : f_buildUpperLevels o_h o_leafCount o_tree = some w_o_tree) : OEnds own_P 13 0 [.val (.ref 1), .unset, .unset, .unset, .unset, .unset, .unset] [] (c0 :: bk0 o_issued o_cand o_tree o_ends o_dig o_ev o_h o_leafCount o_keyed o_seed o_root o_next o_issuedQ o_candQ po) (none, (c0 :: bk0 o_issued o_cand w_o_tree o_ends o_dig o_ev o_h o_leafCount o_keyed o_seed o_root o_next o_issuedQ o_candQ po), 0, 0) := by
  unfold f_buildUpperLevels at h
  refine OEnds.adv hm_13 2 (pc' := 2) (L' := [.val (.ref 1), .val (.int 1), .unset, .unset, .unset, .unset, .unset]) (S' := []) (H' := (c0 :: bk0 o_issued o_cand o_tree o_ends o_dig o_ev o_h o_leafCount o_keyed o_seed o_root o_next o_issuedQ o_candQ po)) rfl ?_
  exact ok_buildUpperLevels_2 100000 h
theorem ok_keygen {o_issued : List Int32} {o_cand : List Int32} {o_dig : List Int32} {o_h : Int32} {o_leafCount : Int32} {o_issuedQ : Int32} {o_candQ : Int32} {c0 : ACell} {po : List ACell} {o_tree : List Int32} {o_ends : List Int32} {o_ev : List Int32} {o_keyed : Int32} {o_seed : Int32} {o_root : Int32} {o_next : Int32} {v1 : Int32} {res : Int32} {w_o_tree : List Int32} {w_o_ends : List Int32} {w_o_ev : List Int32} {w_o_keyed : Int32} {w_o_seed : Int32} {w_o_root : Int32} {w_o_next : Int32} (h : f_keygen o_h o_leafCount o_tree o_ends o_ev o_keyed o_seed o_root o_next v1 = some (res, w_o_tree, w_o_ends, w_o_ev, w_o_keyed, w_o_seed, w_o_root, w_o_next)) : OEnds own_P 3 0 [.val (.ref 1), .val (.int v1)] [] (c0 :: bk0 o_issued o_cand o_tree o_ends o_dig o_ev o_h o_leafCount o_keyed o_seed o_root o_next o_issuedQ o_candQ po) (some (.int res), (c0 :: bk0 o_issued o_cand w_o_tree w_o_ends o_dig w_o_ev o_h o_leafCount w_o_keyed w_o_seed w_o_root w_o_next o_issuedQ o_candQ po), 0, 0) := by
  unfold f_keygen at h
  refine OEnds.adv hm_3 2 (pc' := 4) (L' := [.val (.ref 1), .val (.int v1)]) (S' := [.int o_keyed]) (H' := (c0 :: bk0 o_issued o_cand o_tree o_ends o_dig o_ev o_h o_leafCount o_keyed o_seed o_root o_next o_issuedQ o_candQ po)) rfl ?_
  by_cases hc28 : o_keyed = (0 : Int32)
  · simp only [if_pos hc28] at h
    refine OEnds.ifT hm_3 rfl (q := 9) rfl ((teq hc28).1) ?_
    refine OEnds.adv hm_3 4 (pc' := 15) (L' := [.val (.ref 1), .val (.int v1)]) (S' := [.ref 1]) (H' := (c0 :: bk0 o_issued o_cand o_tree o_ends o_dig o_ev o_h o_leafCount o_keyed v1 o_root o_next o_issuedQ o_candQ po)) rfl ?_
    obtain ⟨⟨s23, s24, s25⟩, hq29, h⟩ := bnd h
    refine OEnds.call0 hm_3 rfl rfl (by decide) rfl (as := [.ref 1]) (rest := []) rfl rfl (ok_buildLeaves hq29) ?_
    refine OEnds.adv hm_3 1 (pc' := 19) (L' := [.val (.ref 1), .val (.int v1)]) (S' := [.ref 1]) (H' := (c0 :: bk0 o_issued o_cand s23 s24 o_dig s25 o_h o_leafCount o_keyed v1 o_root o_next o_issuedQ o_candQ po)) rfl ?_
    obtain ⟨s26, hq30, h⟩ := bnd h
    refine OEnds.call0 hm_3 rfl rfl (by decide) rfl (as := [.ref 1]) (rest := []) rfl rfl (ok_buildUpperLevels hq30) ?_
    refine OEnds.adv hm_3 7 (pc' := 34) (L' := [.val (.ref 1), .val (.int v1)]) (S' := [.int (o_h * (16 : Int32)), .ref 4, .ref 1]) (H' := (c0 :: bk0 o_issued o_cand s26 s24 o_dig s25 o_h o_leafCount o_keyed v1 o_root o_next o_issuedQ o_candQ po)) rfl ?_
    obtain ⟨x27, hx27, h⟩ := bnd h
    refine OEnds.plain hm_3 rfl rfl (x_iaload rfl hx27) ?_
    refine OEnds.adv hm_3 8 (pc' := 49) (L' := [.val (.ref 1), .val (.int v1)]) (S' := [.int 1]) (H' := (c0 :: bk0 o_issued o_cand s26 s24 o_dig s25 o_h o_leafCount 1 v1 x27 0 o_issuedQ o_candQ po)) rfl ?_
    cases h
    exact OEnds.iret hm_3 rfl rfl
  · simp only [if_neg hc28] at h
    refine OEnds.ifF hm_3 rfl ((feq hc28).1) ?_
    refine OEnds.adv hm_3 1 (pc' := 8) (L' := [.val (.ref 1), .val (.int v1)]) (S' := [.int 0]) (H' := (c0 :: bk0 o_issued o_cand o_tree o_ends o_dig o_ev o_h o_leafCount o_keyed o_seed o_root o_next o_issuedQ o_candQ po)) rfl ?_
    cases h
    exact OEnds.iret hm_3 rfl rfl
theorem ok_getRoot {o_issued : List Int32} {o_cand : List Int32} {o_tree : List Int32} {o_ends : List Int32} {o_dig : List Int32} {o_ev : List Int32} {o_h : Int32} {o_leafCount : Int32} {o_keyed : Int32} {o_seed : Int32} {o_root : Int32} {o_next : Int32} {o_issuedQ : Int32} {o_candQ : Int32} {c0 : ACell} {po : List ACell} {res : Int32} (h : f_getRoot o_keyed o_root = some res) : OEnds own_P 15 0 [.val (.ref 1)] [] (c0 :: bk0 o_issued o_cand o_tree o_ends o_dig o_ev o_h o_leafCount o_keyed o_seed o_root o_next o_issuedQ o_candQ po) (some (.int res), (c0 :: bk0 o_issued o_cand o_tree o_ends o_dig o_ev o_h o_leafCount o_keyed o_seed o_root o_next o_issuedQ o_candQ po), 0, 0) := by
  unfold f_getRoot at h
  refine OEnds.adv hm_15 2 (pc' := 4) (L' := [.val (.ref 1)]) (S' := [.int o_keyed]) (H' := (c0 :: bk0 o_issued o_cand o_tree o_ends o_dig o_ev o_h o_leafCount o_keyed o_seed o_root o_next o_issuedQ o_candQ po)) rfl ?_
  by_cases hc31 : o_keyed = (0 : Int32)
  · simp only [if_pos hc31] at h
    refine OEnds.ifF hm_15 rfl ((teq hc31).2) ?_
    refine OEnds.adv hm_15 1 (pc' := 8) (L' := [.val (.ref 1)]) (S' := [.int 0]) (H' := (c0 :: bk0 o_issued o_cand o_tree o_ends o_dig o_ev o_h o_leafCount o_keyed o_seed o_root o_next o_issuedQ o_candQ po)) rfl ?_
    cases h
    exact OEnds.iret hm_15 rfl rfl
  · simp only [if_neg hc31] at h
    refine OEnds.ifT hm_15 rfl (q := 9) rfl ((feq hc31).2) ?_
    refine OEnds.adv hm_15 2 (pc' := 13) (L' := [.val (.ref 1)]) (S' := [.int o_root]) (H' := (c0 :: bk0 o_issued o_cand o_tree o_ends o_dig o_ev o_h o_leafCount o_keyed o_seed o_root o_next o_issuedQ o_candQ po)) rfl ?_
    cases h
    exact OEnds.iret hm_15 rfl rfl
theorem ok_setCandidateLeaf {o_issued : List Int32} {o_cand : List Int32} {o_tree : List Int32} {o_ends : List Int32} {o_dig : List Int32} {o_ev : List Int32} {o_h : Int32} {o_leafCount : Int32} {o_keyed : Int32} {o_seed : Int32} {o_root : Int32} {o_next : Int32} {o_issuedQ : Int32} {c0 : ACell} {po : List ACell} {o_candQ : Int32} {v1 : Int32} {res : Int32} {w_o_candQ : Int32} (h : f_setCandidateLeaf o_leafCount o_candQ v1 = some (res, w_o_candQ)) : OEnds own_P 25 0 [.val (.ref 1), .val (.int v1)] [] (c0 :: bk0 o_issued o_cand o_tree o_ends o_dig o_ev o_h o_leafCount o_keyed o_seed o_root o_next o_issuedQ o_candQ po) (some (.int res), (c0 :: bk0 o_issued o_cand o_tree o_ends o_dig o_ev o_h o_leafCount o_keyed o_seed o_root o_next o_issuedQ w_o_candQ po), 0, 0) := by
  unfold f_setCandidateLeaf at h
  refine OEnds.adv hm_25 1 (pc' := 1) (L' := [.val (.ref 1), .val (.int v1)]) (S' := [.int v1]) (H' := (c0 :: bk0 o_issued o_cand o_tree o_ends o_dig o_ev o_h o_leafCount o_keyed o_seed o_root o_next o_issuedQ o_candQ po)) rfl ?_
  by_cases hc32 : v1 < (0 : Int32)
  · simp only [if_pos hc32] at h
    refine OEnds.ifT hm_25 rfl (q := 12) rfl ((tlt hc32).1) ?_
    refine OEnds.adv hm_25 1 (pc' := 13) (L' := [.val (.ref 1), .val (.int v1)]) (S' := [.int 0]) (H' := (c0 :: bk0 o_issued o_cand o_tree o_ends o_dig o_ev o_h o_leafCount o_keyed o_seed o_root o_next o_issuedQ o_candQ po)) rfl ?_
    cases h
    exact OEnds.iret hm_25 rfl rfl
  · simp only [if_neg hc32] at h
    refine OEnds.ifF hm_25 rfl ((flt hc32).1) ?_
    refine OEnds.adv hm_25 3 (pc' := 9) (L' := [.val (.ref 1), .val (.int v1)]) (S' := [.int o_leafCount, .int v1]) (H' := (c0 :: bk0 o_issued o_cand o_tree o_ends o_dig o_ev o_h o_leafCount o_keyed o_seed o_root o_next o_issuedQ o_candQ po)) rfl ?_
    by_cases hc33 : v1 < o_leafCount
    · simp only [if_pos hc33] at h
      refine OEnds.icmpT hm_25 rfl (q := 14) rfl ((tlt hc33).1) ?_
      refine OEnds.adv hm_25 4 (pc' := 20) (L' := [.val (.ref 1), .val (.int v1)]) (S' := [.int 1]) (H' := (c0 :: bk0 o_issued o_cand o_tree o_ends o_dig o_ev o_h o_leafCount o_keyed o_seed o_root o_next o_issuedQ v1 po)) rfl ?_
      cases h
      exact OEnds.iret hm_25 rfl rfl
    · simp only [if_neg hc33] at h
      refine OEnds.icmpF hm_25 rfl ((flt hc33).1) ?_
      refine OEnds.adv hm_25 1 (pc' := 13) (L' := [.val (.ref 1), .val (.int v1)]) (S' := [.int 0]) (H' := (c0 :: bk0 o_issued o_cand o_tree o_ends o_dig o_ev o_h o_leafCount o_keyed o_seed o_root o_next o_issuedQ o_candQ po)) rfl ?_
      cases h
      exact OEnds.iret hm_25 rfl rfl
theorem ok_setCandidateValue {o_issued : List Int32} {o_tree : List Int32} {o_ends : List Int32} {o_dig : List Int32} {o_ev : List Int32} {o_h : Int32} {o_leafCount : Int32} {o_keyed : Int32} {o_seed : Int32} {o_root : Int32} {o_next : Int32} {o_issuedQ : Int32} {o_candQ : Int32} {c0 : ACell} {po : List ACell} {o_cand : List Int32} {v1 : Int32} {v2 : Int32} {res : Int32} {w_o_cand : List Int32} (h : f_setCandidateValue o_h o_cand v1 v2 = some (res, w_o_cand)) : OEnds own_P 24 0 [.val (.ref 1), .val (.int v1), .val (.int v2)] [] (c0 :: bk0 o_issued o_cand o_tree o_ends o_dig o_ev o_h o_leafCount o_keyed o_seed o_root o_next o_issuedQ o_candQ po) (some (.int res), (c0 :: bk0 o_issued w_o_cand o_tree o_ends o_dig o_ev o_h o_leafCount o_keyed o_seed o_root o_next o_issuedQ o_candQ po), 0, 0) := by
  unfold f_setCandidateValue at h
  refine OEnds.adv hm_24 1 (pc' := 1) (L' := [.val (.ref 1), .val (.int v1), .val (.int v2)]) (S' := [.int v1]) (H' := (c0 :: bk0 o_issued o_cand o_tree o_ends o_dig o_ev o_h o_leafCount o_keyed o_seed o_root o_next o_issuedQ o_candQ po)) rfl ?_
  by_cases hc34 : v1 < (0 : Int32)
  · simp only [if_pos hc34] at h
    refine OEnds.ifT hm_24 rfl (q := 15) rfl ((tlt hc34).1) ?_
    refine OEnds.adv hm_24 1 (pc' := 16) (L' := [.val (.ref 1), .val (.int v1), .val (.int v2)]) (S' := [.int 0]) (H' := (c0 :: bk0 o_issued o_cand o_tree o_ends o_dig o_ev o_h o_leafCount o_keyed o_seed o_root o_next o_issuedQ o_candQ po)) rfl ?_
    cases h
    exact OEnds.iret hm_24 rfl rfl
  · simp only [if_neg hc34] at h
    refine OEnds.ifF hm_24 rfl ((flt hc34).1) ?_
    refine OEnds.adv hm_24 5 (pc' := 12) (L' := [.val (.ref 1), .val (.int v1), .val (.int v2)]) (S' := [.int ((10 : Int32) + o_h), .int v1]) (H' := (c0 :: bk0 o_issued o_cand o_tree o_ends o_dig o_ev o_h o_leafCount o_keyed o_seed o_root o_next o_issuedQ o_candQ po)) rfl ?_
    by_cases hc35 : v1 < ((10 : Int32) + o_h)
    · simp only [if_pos hc35] at h
      refine OEnds.icmpT hm_24 rfl (q := 17) rfl ((tlt hc35).1) ?_
      refine OEnds.adv hm_24 4 (pc' := 23) (L' := [.val (.ref 1), .val (.int v1), .val (.int v2)]) (S' := [.int v2, .int v1, .ref 3]) (H' := (c0 :: bk0 o_issued o_cand o_tree o_ends o_dig o_ev o_h o_leafCount o_keyed o_seed o_root o_next o_issuedQ o_candQ po)) rfl ?_
      obtain ⟨A52, hA52, h⟩ := bnd h
      refine OEnds.plain hm_24 rfl rfl (x_iastore rfl (Nat.le_of_ble_eq_true rfl) hA52) ?_
      refine OEnds.adv hm_24 1 (pc' := 25) (L' := [.val (.ref 1), .val (.int v1), .val (.int v2)]) (S' := [.int 1]) (H' := (c0 :: bk0 o_issued A52 o_tree o_ends o_dig o_ev o_h o_leafCount o_keyed o_seed o_root o_next o_issuedQ o_candQ po)) rfl ?_
      cases h
      exact OEnds.iret hm_24 rfl rfl
    · simp only [if_neg hc35] at h
      refine OEnds.icmpF hm_24 rfl ((flt hc35).1) ?_
      refine OEnds.adv hm_24 1 (pc' := 16) (L' := [.val (.ref 1), .val (.int v1), .val (.int v2)]) (S' := [.int 0]) (H' := (c0 :: bk0 o_issued o_cand o_tree o_ends o_dig o_ev o_h o_leafCount o_keyed o_seed o_root o_next o_issuedQ o_candQ po)) rfl ?_
      cases h
      exact OEnds.iret hm_24 rfl rfl
theorem ok_fillDigits_45 {o_issued : List Int32} {o_cand : List Int32} {o_tree : List Int32} {o_ends : List Int32} {o_ev : List Int32} {o_h : Int32} {o_leafCount : Int32} {o_keyed : Int32} {o_seed : Int32} {o_root : Int32} {o_next : Int32} {o_issuedQ : Int32} {o_candQ : Int32} {c0 : ACell} {po : List ACell} : ∀ {o_dig : List Int32} {v2 : Int32} {d1 d3 d4 : Slot} {w_o_dig : List Int32}, f_fillDigits_45 o_dig v2 = some w_o_dig → OEnds own_P 17 45 [.val (.ref 1), d1, .val (.int v2), d3, d4] [] (c0 :: bk0 o_issued o_cand o_tree o_ends o_dig o_ev o_h o_leafCount o_keyed o_seed o_root o_next o_issuedQ o_candQ po) (none, (c0 :: bk0 o_issued o_cand o_tree o_ends w_o_dig o_ev o_h o_leafCount o_keyed o_seed o_root o_next o_issuedQ o_candQ po), 0, 0) := by
  intro o_dig v2 d1 d3 d4 w_o_dig h
  unfold f_fillDigits_45 at h
  refine OEnds.adv hm_17 8 (pc' := 57) (L' := [.val (.ref 1), .unset, .val (.int v2), .unset, .unset]) (S' := [.int ((XT.ushr v2 (4 : Int32)) &&& (15 : Int32)), .int 8, .ref 6]) (H' := (c0 :: bk0 o_issued o_cand o_tree o_ends o_dig o_ev o_h o_leafCount o_keyed o_seed o_root o_next o_issuedQ o_candQ po)) rfl ?_
  obtain ⟨A29, hA29, h⟩ := bnd h
  refine OEnds.plain hm_17 rfl rfl (x_iastore rfl (Nat.le_of_ble_eq_true rfl) hA29) ?_
  refine OEnds.adv hm_17 6 (pc' := 68) (L' := [.val (.ref 1), .unset, .val (.int v2), .unset, .unset]) (S' := [.int (v2 &&& (15 : Int32)), .int 9, .ref 6]) (H' := (c0 :: bk0 o_issued o_cand o_tree o_ends A29 o_ev o_h o_leafCount o_keyed o_seed o_root o_next o_issuedQ o_candQ po)) rfl ?_
  obtain ⟨A30, hA30, h⟩ := bnd h
  refine OEnds.plain hm_17 rfl rfl (x_iastore rfl (Nat.le_of_ble_eq_true rfl) hA30) ?_
  show OEnds own_P 17 69 [.val (.ref 1), .unset, .val (.int v2), .unset, .unset] [] (c0 :: bk0 o_issued o_cand o_tree o_ends A30 o_ev o_h o_leafCount o_keyed o_seed o_root o_next o_issuedQ o_candQ po) _
  cases h
  exact OEnds.vret hm_17 rfl rfl
theorem ok_fillDigits_4 {o_issued : List Int32} {o_cand : List Int32} {o_tree : List Int32} {o_ends : List Int32} {o_ev : List Int32} {o_h : Int32} {o_leafCount : Int32} {o_keyed : Int32} {o_seed : Int32} {o_root : Int32} {o_next : Int32} {o_issuedQ : Int32} {o_candQ : Int32} {c0 : ACell} {po : List ACell} {k45 : List Int32 → Int32 → Option (List Int32)} (hk45 : ∀ {o_dig : List Int32} {v2 : Int32} {d1 d3 d4 : Slot} {w_o_dig : List Int32}, k45 o_dig v2 = some w_o_dig → OEnds own_P 17 45 [.val (.ref 1), d1, .val (.int v2), d3, d4] [] (c0 :: bk0 o_issued o_cand o_tree o_ends o_dig o_ev o_h o_leafCount o_keyed o_seed o_root o_next o_issuedQ o_candQ po) (none, (c0 :: bk0 o_issued o_cand o_tree o_ends w_o_dig o_ev o_h o_leafCount o_keyed o_seed o_root o_next o_issuedQ o_candQ po), 0, 0)) : ∀ (n : Nat), ∀ {o_dig : List Int32} {v1 : Int32} {v2 : Int32} {v3 : Int32} {d4 : Slot} {w_o_dig : List Int32}, f_fillDigits_4 k45 n o_dig v1 v2 v3 = some w_o_dig → OEnds own_P 17 4 [.val (.ref 1), .val (.int v1), .val (.int v2), .val (.int v3), d4] [] (c0 :: bk0 o_issued o_cand o_tree o_ends o_dig o_ev o_h o_leafCount o_keyed o_seed o_root o_next o_issuedQ o_candQ po) (none, (c0 :: bk0 o_issued o_cand o_tree o_ends w_o_dig o_ev o_h o_leafCount o_keyed o_seed o_root o_next o_issuedQ o_candQ po), 0, 0) := by
  intro n
  induction n with
  | zero => intro o_dig v1 v2 v3 d4 w_o_dig h; cases h
  | succ n ih =>
    intro o_dig v1 v2 v3 d4 w_o_dig h
    unfold f_fillDigits_4 at h
    refine OEnds.adv hm_17 2 (pc' := 7) (L' := [.val (.ref 1), .val (.int v1), .val (.int v2), .val (.int v3), .unset]) (S' := [.int 8, .int v3]) (H' := (c0 :: bk0 o_issued o_cand o_tree o_ends o_dig o_ev o_h o_leafCount o_keyed o_seed o_root o_next o_issuedQ o_candQ po)) rfl ?_
    by_cases hc36 : v3 < (8 : Int32)
    · simp only [if_pos hc36] at h
      refine OEnds.icmpF hm_17 rfl ((tlt hc36).2.1) ?_
      refine OEnds.adv hm_17 14 (pc' := 30) (L' := [.val (.ref 1), .val (.int v1), .val (.int v2), .val (.int v3), .val (.int ((XT.ushr v1 ((28 : Int32) - ((4 : Int32) * v3))) &&& (15 : Int32)))]) (S' := [.int ((XT.ushr v1 ((28 : Int32) - ((4 : Int32) * v3))) &&& (15 : Int32)), .int v3, .ref 6]) (H' := (c0 :: bk0 o_issued o_cand o_tree o_ends o_dig o_ev o_h o_leafCount o_keyed o_seed o_root o_next o_issuedQ o_candQ po)) rfl ?_
      obtain ⟨A28, hA28, h⟩ := bnd h
      refine OEnds.plain hm_17 rfl rfl (x_iastore rfl (Nat.le_of_ble_eq_true rfl) hA28) ?_
      refine OEnds.adv hm_17 8 (pc' := 4) (L' := [.val (.ref 1), .val (.int v1), .val (.int (v2 + ((15 : Int32) - ((XT.ushr v1 ((28 : Int32) - ((4 : Int32) * v3))) &&& (15 : Int32))))), .val (.int (v3 + (1 : Int32))), .val (.int ((XT.ushr v1 ((28 : Int32) - ((4 : Int32) * v3))) &&& (15 : Int32)))]) (S' := []) (H' := (c0 :: bk0 o_issued o_cand o_tree o_ends A28 o_ev o_h o_leafCount o_keyed o_seed o_root o_next o_issuedQ o_candQ po)) rfl ?_
      exact ih h
    · simp only [if_neg hc36] at h
      refine OEnds.icmpT hm_17 rfl (q := 45) rfl ((flt hc36).2.1) ?_
      show OEnds own_P 17 45 [.val (.ref 1), .val (.int v1), .val (.int v2), .val (.int v3), .unset] [] (c0 :: bk0 o_issued o_cand o_tree o_ends o_dig o_ev o_h o_leafCount o_keyed o_seed o_root o_next o_issuedQ o_candQ po) _
      exact hk45 h
theorem ok_fillDigits {o_issued : List Int32} {o_cand : List Int32} {o_tree : List Int32} {o_ends : List Int32} {o_ev : List Int32} {o_h : Int32} {o_leafCount : Int32} {o_keyed : Int32} {o_seed : Int32} {o_root : Int32} {o_next : Int32} {o_issuedQ : Int32} {o_candQ : Int32} {c0 : ACell} {po : List ACell} {o_dig : List Int32} {v1 : Int32} {w_o_dig : List Int32} (h : f_fillDigits o_dig v1 = some w_o_dig) : OEnds own_P 17 0 [.val (.ref 1), .val (.int v1), .unset, .unset, .unset] [] (c0 :: bk0 o_issued o_cand o_tree o_ends o_dig o_ev o_h o_leafCount o_keyed o_seed o_root o_next o_issuedQ o_candQ po) (none, (c0 :: bk0 o_issued o_cand o_tree o_ends w_o_dig o_ev o_h o_leafCount o_keyed o_seed o_root o_next o_issuedQ o_candQ po), 0, 0) := by
  unfold f_fillDigits at h
  refine OEnds.adv hm_17 4 (pc' := 4) (L' := [.val (.ref 1), .val (.int v1), .val (.int 0), .val (.int 0), .unset]) (S' := []) (H' := (c0 :: bk0 o_issued o_cand o_tree o_ends o_dig o_ev o_h o_leafCount o_keyed o_seed o_root o_next o_issuedQ o_candQ po)) rfl ?_
  exact ok_fillDigits_4 ok_fillDigits_45 100000 h
theorem ok_digit {o_issued : List Int32} {o_cand : List Int32} {o_tree : List Int32} {o_ends : List Int32} {o_ev : List Int32} {o_h : Int32} {o_leafCount : Int32} {o_keyed : Int32} {o_seed : Int32} {o_root : Int32} {o_next : Int32} {o_issuedQ : Int32} {o_candQ : Int32} {c0 : ACell} {po : List ACell} {o_dig : List Int32} {v1 : Int32} {v2 : Int32} {res : Int32} {w_o_dig : List Int32} (h : f_digit o_dig v1 v2 = some (res, w_o_dig)) : OEnds own_P 23 0 [.val (.ref 1), .val (.int v1), .val (.int v2)] [] (c0 :: bk0 o_issued o_cand o_tree o_ends o_dig o_ev o_h o_leafCount o_keyed o_seed o_root o_next o_issuedQ o_candQ po) (some (.int res), (c0 :: bk0 o_issued o_cand o_tree o_ends w_o_dig o_ev o_h o_leafCount o_keyed o_seed o_root o_next o_issuedQ o_candQ po), 0, 0) := by
  unfold f_digit at h
  refine OEnds.adv hm_23 1 (pc' := 1) (L' := [.val (.ref 1), .val (.int v1), .val (.int v2)]) (S' := [.int v2]) (H' := (c0 :: bk0 o_issued o_cand o_tree o_ends o_dig o_ev o_h o_leafCount o_keyed o_seed o_root o_next o_issuedQ o_candQ po)) rfl ?_
  by_cases hc37 : v2 < (0 : Int32)
  · simp only [if_pos hc37] at h
    refine OEnds.ifT hm_23 rfl (q := 10) rfl ((tlt hc37).1) ?_
    refine OEnds.adv hm_23 1 (pc' := 11) (L' := [.val (.ref 1), .val (.int v1), .val (.int v2)]) (S' := [.int (-1)]) (H' := (c0 :: bk0 o_issued o_cand o_tree o_ends o_dig o_ev o_h o_leafCount o_keyed o_seed o_root o_next o_issuedQ o_candQ po)) rfl ?_
    cases h
    exact OEnds.iret hm_23 rfl rfl
  · simp only [if_neg hc37] at h
    refine OEnds.ifF hm_23 rfl ((flt hc37).1) ?_
    refine OEnds.adv hm_23 2 (pc' := 7) (L' := [.val (.ref 1), .val (.int v1), .val (.int v2)]) (S' := [.int 9, .int v2]) (H' := (c0 :: bk0 o_issued o_cand o_tree o_ends o_dig o_ev o_h o_leafCount o_keyed o_seed o_root o_next o_issuedQ o_candQ po)) rfl ?_
    by_cases hc38 : (9 : Int32) < v2
    · simp only [if_pos hc38] at h
      refine OEnds.icmpF hm_23 rfl ((tlt hc38).2.2.2) ?_
      refine OEnds.adv hm_23 1 (pc' := 11) (L' := [.val (.ref 1), .val (.int v1), .val (.int v2)]) (S' := [.int (-1)]) (H' := (c0 :: bk0 o_issued o_cand o_tree o_ends o_dig o_ev o_h o_leafCount o_keyed o_seed o_root o_next o_issuedQ o_candQ po)) rfl ?_
      cases h
      exact OEnds.iret hm_23 rfl rfl
    · simp only [if_neg hc38] at h
      refine OEnds.icmpT hm_23 rfl (q := 12) rfl ((flt hc38).2.2.2) ?_
      refine OEnds.adv hm_23 2 (pc' := 14) (L' := [.val (.ref 1), .val (.int v1), .val (.int v2)]) (S' := [.int v1, .ref 1]) (H' := (c0 :: bk0 o_issued o_cand o_tree o_ends o_dig o_ev o_h o_leafCount o_keyed o_seed o_root o_next o_issuedQ o_candQ po)) rfl ?_
      obtain ⟨s53, hq39, h⟩ := bnd h
      refine OEnds.call0 hm_23 rfl rfl (by decide) rfl (as := [.ref 1, .int v1]) (rest := []) rfl rfl (ok_fillDigits hq39) ?_
      refine OEnds.adv hm_23 3 (pc' := 22) (L' := [.val (.ref 1), .val (.int v1), .val (.int v2)]) (S' := [.int v2, .ref 6]) (H' := (c0 :: bk0 o_issued o_cand o_tree o_ends s53 o_ev o_h o_leafCount o_keyed o_seed o_root o_next o_issuedQ o_candQ po)) rfl ?_
      obtain ⟨x54, hx54, h⟩ := bnd h
      refine OEnds.plain hm_23 rfl rfl (x_iaload rfl hx54) ?_
      show OEnds own_P 23 23 [.val (.ref 1), .val (.int v1), .val (.int v2)] [.int x54] (c0 :: bk0 o_issued o_cand o_tree o_ends s53 o_ev o_h o_leafCount o_keyed o_seed o_root o_next o_issuedQ o_candQ po) _
      cases h
      exact OEnds.iret hm_23 rfl rfl
theorem ok_climb_5 {o_issued : List Int32} {o_cand : List Int32} {o_tree : List Int32} {o_ends : List Int32} {o_dig : List Int32} {o_ev : List Int32} {o_h : Int32} {o_leafCount : Int32} {o_keyed : Int32} {o_seed : Int32} {o_root : Int32} {o_next : Int32} {o_issuedQ : Int32} {o_candQ : Int32} {c0 : ACell} {po : List ACell} : ∀ (n : Nat), ∀ {v1 : Int32} {v3 : Int32} {v4 : Int32} {d2 d5 d6 d7 d8 : Slot} {res : Int32}, f_climb_5 o_cand o_h n v1 v3 v4 = some res → OEnds own_P 22 5 [.val (.ref 1), .val (.int v1), d2, .val (.int v3), .val (.int v4), d5, d6, d7, d8] [] (c0 :: bk0 o_issued o_cand o_tree o_ends o_dig o_ev o_h o_leafCount o_keyed o_seed o_root o_next o_issuedQ o_candQ po) (some (.int res), (c0 :: bk0 o_issued o_cand o_tree o_ends o_dig o_ev o_h o_leafCount o_keyed o_seed o_root o_next o_issuedQ o_candQ po), 0, 0) := by
  intro n
  induction n with
  | zero => intro v1 v3 v4 d2 d5 d6 d7 d8 res h; cases h
  | succ n ih =>
    intro v1 v3 v4 d2 d5 d6 d7 d8 res h
    unfold f_climb_5 at h
    refine OEnds.adv hm_22 3 (pc' := 11) (L' := [.val (.ref 1), .val (.int v1), .unset, .val (.int v3), .val (.int v4), .unset, .unset, .unset, .unset]) (S' := [.int o_h, .int v4]) (H' := (c0 :: bk0 o_issued o_cand o_tree o_ends o_dig o_ev o_h o_leafCount o_keyed o_seed o_root o_next o_issuedQ o_candQ po)) rfl ?_
    by_cases hc40 : v4 < o_h
    · simp only [if_pos hc40] at h
      refine OEnds.icmpF hm_22 rfl ((tlt hc40).2.1) ?_
      refine OEnds.adv hm_22 2 (pc' := 17) (L' := [.val (.ref 1), .val (.int v1), .unset, .val (.int v3), .val (.int v4), .unset, .unset, .unset, .unset]) (S' := [.int 4, .int v4]) (H' := (c0 :: bk0 o_issued o_cand o_tree o_ends o_dig o_ev o_h o_leafCount o_keyed o_seed o_root o_next o_issuedQ o_candQ po)) rfl ?_
      by_cases hc41 : v4 < (4 : Int32)
      · simp only [if_pos hc41] at h
        refine OEnds.icmpF hm_22 rfl ((tlt hc41).2.1) ?_
        refine OEnds.adv hm_22 13 (pc' := 39) (L' := [.val (.ref 1), .val (.int v1), .unset, .val (.int v3), .val (.int v4), .val (.int (XT.ushr v1 v4)), .val (.int (XT.ushr (XT.ushr v1 v4) (1 : Int32))), .unset, .unset]) (S' := [.int (XT.ushr (XT.ushr v1 v4) (1 : Int32)), .int (v4 + (1 : Int32)), .ref 1]) (H' := (c0 :: bk0 o_issued o_cand o_tree o_ends o_dig o_ev o_h o_leafCount o_keyed o_seed o_root o_next o_issuedQ o_candQ po)) rfl ?_
        obtain ⟨r41, hq42, h⟩ := bnd h
        refine OEnds.call0 hm_22 rfl rfl (by decide) rfl (as := [.ref 1, .int (v4 + (1 : Int32)), .int (XT.ushr (XT.ushr v1 v4) (1 : Int32))]) (rest := []) rfl rfl (ok_nodeTweak hq42) ?_
        refine OEnds.adv hm_22 6 (pc' := 53) (L' := [.val (.ref 1), .val (.int v1), .unset, .val (.int v3), .val (.int v4), .val (.int (XT.ushr v1 v4)), .val (.int (XT.ushr (XT.ushr v1 v4) (1 : Int32))), .val (.int r41), .unset]) (S' := [.int ((10 : Int32) + v4), .ref 3]) (H' := (c0 :: bk0 o_issued o_cand o_tree o_ends o_dig o_ev o_h o_leafCount o_keyed o_seed o_root o_next o_issuedQ o_candQ po)) rfl ?_
        obtain ⟨x42, hx42, h⟩ := bnd h
        refine OEnds.plain hm_22 rfl rfl (x_iaload rfl hx42) ?_
        refine OEnds.adv hm_22 4 (pc' := 60) (L' := [.val (.ref 1), .val (.int v1), .unset, .val (.int v3), .val (.int v4), .val (.int (XT.ushr v1 v4)), .val (.int (XT.ushr (XT.ushr v1 v4) (1 : Int32))), .val (.int r41), .val (.int x42)]) (S' := [.int ((XT.ushr v1 v4) &&& (1 : Int32))]) (H' := (c0 :: bk0 o_issued o_cand o_tree o_ends o_dig o_ev o_h o_leafCount o_keyed o_seed o_root o_next o_issuedQ o_candQ po)) rfl ?_
        by_cases hc43 : ((XT.ushr v1 v4) &&& (1 : Int32)) = (0 : Int32)
        · simp only [if_pos hc43] at h
          refine OEnds.ifF hm_22 rfl ((teq hc43).2) ?_
          refine OEnds.adv hm_22 4 (pc' := 69) (L' := [.val (.ref 1), .val (.int v1), .unset, .val (.int v3), .val (.int v4), .val (.int (XT.ushr v1 v4)), .val (.int (XT.ushr (XT.ushr v1 v4) (1 : Int32))), .val (.int r41), .val (.int x42)]) (S' := [.int x42, .int v3, .int r41, .ref 1]) (H' := (c0 :: bk0 o_issued o_cand o_tree o_ends o_dig o_ev o_h o_leafCount o_keyed o_seed o_root o_next o_issuedQ o_candQ po)) rfl ?_
          obtain ⟨r44, hq44, h⟩ := bnd h
          refine OEnds.call0 hm_22 rfl rfl (by decide) rfl (as := [.ref 1, .int r41, .int v3, .int x42]) (rest := []) rfl rfl (ok_hash hq44) ?_
          refine OEnds.adv hm_22 4 (pc' := 5) (L' := [.val (.ref 1), .val (.int v1), .unset, .val (.int r44), .val (.int (v4 + (1 : Int32))), .val (.int (XT.ushr v1 v4)), .val (.int (XT.ushr (XT.ushr v1 v4) (1 : Int32))), .val (.int r41), .val (.int x42)]) (S' := []) (H' := (c0 :: bk0 o_issued o_cand o_tree o_ends o_dig o_ev o_h o_leafCount o_keyed o_seed o_root o_next o_issuedQ o_candQ po)) rfl ?_
          exact ih h
        · simp only [if_neg hc43] at h
          refine OEnds.ifT hm_22 rfl (q := 76) rfl ((feq hc43).2) ?_
          refine OEnds.adv hm_22 4 (pc' := 82) (L' := [.val (.ref 1), .val (.int v1), .unset, .val (.int v3), .val (.int v4), .val (.int (XT.ushr v1 v4)), .val (.int (XT.ushr (XT.ushr v1 v4) (1 : Int32))), .val (.int r41), .val (.int x42)]) (S' := [.int v3, .int x42, .int r41, .ref 1]) (H' := (c0 :: bk0 o_issued o_cand o_tree o_ends o_dig o_ev o_h o_leafCount o_keyed o_seed o_root o_next o_issuedQ o_candQ po)) rfl ?_
          obtain ⟨r43, hq45, h⟩ := bnd h
          refine OEnds.call0 hm_22 rfl rfl (by decide) rfl (as := [.ref 1, .int r41, .int x42, .int v3]) (rest := []) rfl rfl (ok_hash hq45) ?_
          refine OEnds.adv hm_22 3 (pc' := 5) (L' := [.val (.ref 1), .val (.int v1), .unset, .val (.int r43), .val (.int (v4 + (1 : Int32))), .val (.int (XT.ushr v1 v4)), .val (.int (XT.ushr (XT.ushr v1 v4) (1 : Int32))), .val (.int r41), .val (.int x42)]) (S' := []) (H' := (c0 :: bk0 o_issued o_cand o_tree o_ends o_dig o_ev o_h o_leafCount o_keyed o_seed o_root o_next o_issuedQ o_candQ po)) rfl ?_
          exact ih h
      · simp only [if_neg hc41] at h
        refine OEnds.icmpT hm_22 rfl (q := 92) rfl ((flt hc41).2.1) ?_
        refine OEnds.adv hm_22 1 (pc' := 93) (L' := [.val (.ref 1), .val (.int v1), .unset, .val (.int v3), .val (.int v4), .unset, .unset, .unset, .unset]) (S' := [.int v3]) (H' := (c0 :: bk0 o_issued o_cand o_tree o_ends o_dig o_ev o_h o_leafCount o_keyed o_seed o_root o_next o_issuedQ o_candQ po)) rfl ?_
        cases h
        exact OEnds.iret hm_22 rfl rfl
    · simp only [if_neg hc40] at h
      refine OEnds.icmpT hm_22 rfl (q := 92) rfl ((flt hc40).2.1) ?_
      refine OEnds.adv hm_22 1 (pc' := 93) (L' := [.val (.ref 1), .val (.int v1), .unset, .val (.int v3), .val (.int v4), .unset, .unset, .unset, .unset]) (S' := [.int v3]) (H' := (c0 :: bk0 o_issued o_cand o_tree o_ends o_dig o_ev o_h o_leafCount o_keyed o_seed o_root o_next o_issuedQ o_candQ po)) rfl ?_
      cases h
      exact OEnds.iret hm_22 rfl rfl
theorem ok_climb {o_issued : List Int32} {o_cand : List Int32} {o_tree : List Int32} {o_ends : List Int32} {o_dig : List Int32} {o_ev : List Int32} {o_h : Int32} {o_leafCount : Int32} {o_keyed : Int32} {o_seed : Int32} {o_root : Int32} {o_next : Int32} {o_issuedQ : Int32} {o_candQ : Int32} {c0 : ACell} {po : List ACell} {v1 : Int32} {v2 : Int32} {res : Int32} (h : f_climb o_cand o_h v1 v2 = some res) : OEnds own_P 22 0 [.val (.ref 1), .val (.int v1), .val (.int v2), .unset, .unset, .unset, .unset, .unset, .unset] [] (c0 :: bk0 o_issued o_cand o_tree o_ends o_dig o_ev o_h o_leafCount o_keyed o_seed o_root o_next o_issuedQ o_candQ po) (some (.int res), (c0 :: bk0 o_issued o_cand o_tree o_ends o_dig o_ev o_h o_leafCount o_keyed o_seed o_root o_next o_issuedQ o_candQ po), 0, 0) := by
  unfold f_climb at h
  refine OEnds.adv hm_22 4 (pc' := 5) (L' := [.val (.ref 1), .val (.int v1), .val (.int v2), .val (.int v2), .val (.int 0), .unset, .unset, .unset, .unset]) (S' := []) (H' := (c0 :: bk0 o_issued o_cand o_tree o_ends o_dig o_ev o_h o_leafCount o_keyed o_seed o_root o_next o_issuedQ o_candQ po)) rfl ?_
  exact ok_climb_5 100000 h
theorem ok_verify_80 {o_issued : List Int32} {o_cand : List Int32} {o_tree : List Int32} {o_ends : List Int32} {o_h : Int32} {o_leafCount : Int32} {o_keyed : Int32} {o_seed : Int32} {o_root : Int32} {o_next : Int32} {o_issuedQ : Int32} {o_candQ : Int32} {c0 : ACell} {po : List ACell} : ∀ {o_dig : List Int32} {o_ev : List Int32} {v2 : Int32} {d1 d3 d4 : Slot} {res : Int32} {w_o_dig : List Int32} {w_o_ev : List Int32}, f_verify_80 o_cand o_h o_leafCount o_keyed o_root o_candQ o_dig o_ev v2 = some (res, w_o_dig, w_o_ev) → OEnds own_P 21 80 [.val (.ref 1), d1, .val (.int v2), d3, d4] [] (c0 :: bk0 o_issued o_cand o_tree o_ends o_dig o_ev o_h o_leafCount o_keyed o_seed o_root o_next o_issuedQ o_candQ po) (some (.int res), (c0 :: bk0 o_issued o_cand o_tree o_ends w_o_dig w_o_ev o_h o_leafCount o_keyed o_seed o_root o_next o_issuedQ o_candQ po), 0, 0) := by
  intro o_dig o_ev v2 d1 d3 d4 res w_o_dig w_o_ev h
  unfold f_verify_80 at h
  refine OEnds.adv hm_21 2 (pc' := 82) (L' := [.val (.ref 1), .unset, .val (.int v2), .unset, .unset]) (S' := [.int v2, .ref 1]) (H' := (c0 :: bk0 o_issued o_cand o_tree o_ends o_dig o_ev o_h o_leafCount o_keyed o_seed o_root o_next o_issuedQ o_candQ po)) rfl ?_
  obtain ⟨r50, hq46, h⟩ := bnd h
  refine OEnds.call0 hm_21 rfl rfl (by decide) rfl (as := [.ref 1, .int v2]) (rest := []) rfl rfl (ok_foldEnds hq46) ?_
  refine OEnds.adv hm_21 4 (pc' := 89) (L' := [.val (.ref 1), .unset, .val (.int v2), .val (.int r50), .unset]) (S' := [.int r50, .int v2, .ref 1]) (H' := (c0 :: bk0 o_issued o_cand o_tree o_ends o_dig o_ev o_h o_leafCount o_keyed o_seed o_root o_next o_issuedQ o_candQ po)) rfl ?_
  obtain ⟨r51, hq47, h⟩ := bnd h
  refine OEnds.call0 hm_21 rfl rfl (by decide) rfl (as := [.ref 1, .int v2, .int r50]) (rest := []) rfl rfl (ok_climb hq47) ?_
  refine OEnds.adv hm_21 4 (pc' := 98) (L' := [.val (.ref 1), .unset, .val (.int v2), .val (.int r51), .unset]) (S' := [.int o_root, .int r51]) (H' := (c0 :: bk0 o_issued o_cand o_tree o_ends o_dig o_ev o_h o_leafCount o_keyed o_seed o_root o_next o_issuedQ o_candQ po)) rfl ?_
  by_cases hc48 : r51 = o_root
  · simp only [if_pos hc48] at h
    refine OEnds.icmpF hm_21 rfl ((teq hc48).2) ?_
    refine OEnds.adv hm_21 2 (pc' := 106) (L' := [.val (.ref 1), .unset, .val (.int v2), .val (.int r51), .unset]) (S' := [.int 1]) (H' := (c0 :: bk0 o_issued o_cand o_tree o_ends o_dig o_ev o_h o_leafCount o_keyed o_seed o_root o_next o_issuedQ o_candQ po)) rfl ?_
    cases h
    exact OEnds.iret hm_21 rfl rfl
  · simp only [if_neg hc48] at h
    refine OEnds.icmpT hm_21 rfl (q := 105) rfl ((feq hc48).2) ?_
    refine OEnds.adv hm_21 1 (pc' := 106) (L' := [.val (.ref 1), .unset, .val (.int v2), .val (.int r51), .unset]) (S' := [.int 0]) (H' := (c0 :: bk0 o_issued o_cand o_tree o_ends o_dig o_ev o_h o_leafCount o_keyed o_seed o_root o_next o_issuedQ o_candQ po)) rfl ?_
    cases h
    exact OEnds.iret hm_21 rfl rfl
theorem ok_verify_35 {o_issued : List Int32} {o_cand : List Int32} {o_tree : List Int32} {o_ends : List Int32} {o_h : Int32} {o_leafCount : Int32} {o_keyed : Int32} {o_seed : Int32} {o_root : Int32} {o_next : Int32} {o_issuedQ : Int32} {o_candQ : Int32} {c0 : ACell} {po : List ACell} {k80 : List Int32 → List Int32 → Int32 → Option (Int32 × List Int32 × List Int32)} (hk80 : ∀ {o_dig : List Int32} {o_ev : List Int32} {v2 : Int32} {d1 d3 d4 : Slot} {res : Int32} {w_o_dig : List Int32} {w_o_ev : List Int32}, k80 o_dig o_ev v2 = some (res, w_o_dig, w_o_ev) → OEnds own_P 21 80 [.val (.ref 1), d1, .val (.int v2), d3, d4] [] (c0 :: bk0 o_issued o_cand o_tree o_ends o_dig o_ev o_h o_leafCount o_keyed o_seed o_root o_next o_issuedQ o_candQ po) (some (.int res), (c0 :: bk0 o_issued o_cand o_tree o_ends w_o_dig w_o_ev o_h o_leafCount o_keyed o_seed o_root o_next o_issuedQ o_candQ po), 0, 0)) : ∀ (n : Nat), ∀ {o_dig : List Int32} {o_ev : List Int32} {v2 : Int32} {v3 : Int32} {d1 d4 : Slot} {res : Int32} {w_o_dig : List Int32} {w_o_ev : List Int32}, f_verify_35 k80 o_cand o_h o_leafCount o_keyed o_root o_candQ n o_dig o_ev v2 v3 = some (res, w_o_dig, w_o_ev) → OEnds own_P 21 35 [.val (.ref 1), d1, .val (.int v2), .val (.int v3), d4] [] (c0 :: bk0 o_issued o_cand o_tree o_ends o_dig o_ev o_h o_leafCount o_keyed o_seed o_root o_next o_issuedQ o_candQ po) (some (.int res), (c0 :: bk0 o_issued o_cand o_tree o_ends w_o_dig w_o_ev o_h o_leafCount o_keyed o_seed o_root o_next o_issuedQ o_candQ po), 0, 0) := by
  intro n
  induction n with
  | zero => intro o_dig o_ev v2 v3 d1 d4 res w_o_dig w_o_ev h; cases h
  | succ n ih =>
    intro o_dig o_ev v2 v3 d1 d4 res w_o_dig w_o_ev h
    unfold f_verify_35 at h
    refine OEnds.adv hm_21 2 (pc' := 38) (L' := [.val (.ref 1), .unset, .val (.int v2), .val (.int v3), .unset]) (S' := [.int 10, .int v3]) (H' := (c0 :: bk0 o_issued o_cand o_tree o_ends o_dig o_ev o_h o_leafCount o_keyed o_seed o_root o_next o_issuedQ o_candQ po)) rfl ?_
    by_cases hc49 : v3 < (10 : Int32)
    · simp only [if_pos hc49] at h
      refine OEnds.icmpF hm_21 rfl ((tlt hc49).2.1) ?_
      refine OEnds.adv hm_21 3 (pc' := 46) (L' := [.val (.ref 1), .unset, .val (.int v2), .val (.int v3), .unset]) (S' := [.int v3, .ref 6]) (H' := (c0 :: bk0 o_issued o_cand o_tree o_ends o_dig o_ev o_h o_leafCount o_keyed o_seed o_root o_next o_issuedQ o_candQ po)) rfl ?_
      obtain ⟨x46, hx46, h⟩ := bnd h
      refine OEnds.plain hm_21 rfl rfl (x_iaload rfl hx46) ?_
      refine OEnds.adv hm_21 10 (pc' := 62) (L' := [.val (.ref 1), .unset, .val (.int v2), .val (.int v3), .val (.int x46)]) (S' := [.int v3, .ref 3, .int v3, .int v2, .ref 1, .int v3, .ref 7]) (H' := (c0 :: bk0 o_issued o_cand o_tree o_ends o_dig o_ev o_h o_leafCount o_keyed o_seed o_root o_next o_issuedQ o_candQ po)) rfl ?_
      obtain ⟨x47, hx47, h⟩ := bnd h
      refine OEnds.plain hm_21 rfl rfl (x_iaload rfl hx47) ?_
      refine OEnds.adv hm_21 4 (pc' := 70) (L' := [.val (.ref 1), .unset, .val (.int v2), .val (.int v3), .val (.int x46)]) (S' := [.int ((15 : Int32) - x46), .int x46, .int x47, .int v3, .int v2, .ref 1, .int v3, .ref 7]) (H' := (c0 :: bk0 o_issued o_cand o_tree o_ends o_dig o_ev o_h o_leafCount o_keyed o_seed o_root o_next o_issuedQ o_candQ po)) rfl ?_
      obtain ⟨r48, hq50, h⟩ := bnd h
      refine OEnds.call0 hm_21 rfl rfl (by decide) rfl (as := [.ref 1, .int v2, .int v3, .int x47, .int x46, .int ((15 : Int32) - x46)]) (rest := [.int v3, .ref 7]) rfl rfl (ok_walk hq50) ?_
      show OEnds own_P 21 73 [.val (.ref 1), .unset, .val (.int v2), .val (.int v3), .val (.int x46)] [.int r48, .int v3, .ref 7] (c0 :: bk0 o_issued o_cand o_tree o_ends o_dig o_ev o_h o_leafCount o_keyed o_seed o_root o_next o_issuedQ o_candQ po) _
      obtain ⟨A49, hA49, h⟩ := bnd h
      refine OEnds.plain hm_21 rfl rfl (x_iastore rfl (Nat.le_of_ble_eq_true rfl) hA49) ?_
      refine OEnds.adv hm_21 2 (pc' := 35) (L' := [.val (.ref 1), .unset, .val (.int v2), .val (.int (v3 + (1 : Int32))), .val (.int x46)]) (S' := []) (H' := (c0 :: bk0 o_issued o_cand o_tree o_ends o_dig A49 o_h o_leafCount o_keyed o_seed o_root o_next o_issuedQ o_candQ po)) rfl ?_
      exact ih h
    · simp only [if_neg hc49] at h
      refine OEnds.icmpT hm_21 rfl (q := 80) rfl ((flt hc49).2.1) ?_
      show OEnds own_P 21 80 [.val (.ref 1), .unset, .val (.int v2), .val (.int v3), .unset] [] (c0 :: bk0 o_issued o_cand o_tree o_ends o_dig o_ev o_h o_leafCount o_keyed o_seed o_root o_next o_issuedQ o_candQ po) _
      exact hk80 h
theorem ok_verify {o_issued : List Int32} {o_cand : List Int32} {o_tree : List Int32} {o_ends : List Int32} {o_h : Int32} {o_leafCount : Int32} {o_keyed : Int32} {o_seed : Int32} {o_root : Int32} {o_next : Int32} {o_issuedQ : Int32} {o_candQ : Int32} {c0 : ACell} {po : List ACell} {o_dig : List Int32} {o_ev : List Int32} {v1 : Int32} {res : Int32} {w_o_dig : List Int32} {w_o_ev : List Int32} (h : f_verify o_cand o_h o_leafCount o_keyed o_root o_candQ o_dig o_ev v1 = some (res, w_o_dig, w_o_ev)) : OEnds own_P 21 0 [.val (.ref 1), .val (.int v1), .unset, .unset, .unset] [] (c0 :: bk0 o_issued o_cand o_tree o_ends o_dig o_ev o_h o_leafCount o_keyed o_seed o_root o_next o_issuedQ o_candQ po) (some (.int res), (c0 :: bk0 o_issued o_cand o_tree o_ends w_o_dig w_o_ev o_h o_leafCount o_keyed o_seed o_root o_next o_issuedQ o_candQ po), 0, 0) := by
  unfold f_verify at h
  refine OEnds.adv hm_21 2 (pc' := 4) (L' := [.val (.ref 1), .val (.int v1), .unset, .unset, .unset]) (S' := [.int o_keyed]) (H' := (c0 :: bk0 o_issued o_cand o_tree o_ends o_dig o_ev o_h o_leafCount o_keyed o_seed o_root o_next o_issuedQ o_candQ po)) rfl ?_
  by_cases hc51 : o_keyed = (0 : Int32)
  · simp only [if_pos hc51] at h
    refine OEnds.ifF hm_21 rfl ((teq hc51).2) ?_
    refine OEnds.adv hm_21 1 (pc' := 8) (L' := [.val (.ref 1), .val (.int v1), .unset, .unset, .unset]) (S' := [.int 0]) (H' := (c0 :: bk0 o_issued o_cand o_tree o_ends o_dig o_ev o_h o_leafCount o_keyed o_seed o_root o_next o_issuedQ o_candQ po)) rfl ?_
    cases h
    exact OEnds.iret hm_21 rfl rfl
  · simp only [if_neg hc51] at h
    refine OEnds.ifT hm_21 rfl (q := 9) rfl ((feq hc51).2) ?_
    refine OEnds.adv hm_21 4 (pc' := 15) (L' := [.val (.ref 1), .val (.int v1), .val (.int o_candQ), .unset, .unset]) (S' := [.int o_candQ]) (H' := (c0 :: bk0 o_issued o_cand o_tree o_ends o_dig o_ev o_h o_leafCount o_keyed o_seed o_root o_next o_issuedQ o_candQ po)) rfl ?_
    by_cases hc52 : o_candQ < (0 : Int32)
    · simp only [if_pos hc52] at h
      refine OEnds.ifT hm_21 rfl (q := 26) rfl ((tlt hc52).1) ?_
      refine OEnds.adv hm_21 1 (pc' := 27) (L' := [.val (.ref 1), .val (.int v1), .val (.int o_candQ), .unset, .unset]) (S' := [.int 0]) (H' := (c0 :: bk0 o_issued o_cand o_tree o_ends o_dig o_ev o_h o_leafCount o_keyed o_seed o_root o_next o_issuedQ o_candQ po)) rfl ?_
      cases h
      exact OEnds.iret hm_21 rfl rfl
    · simp only [if_neg hc52] at h
      refine OEnds.ifF hm_21 rfl ((flt hc52).1) ?_
      refine OEnds.adv hm_21 3 (pc' := 23) (L' := [.val (.ref 1), .val (.int v1), .val (.int o_candQ), .unset, .unset]) (S' := [.int o_leafCount, .int o_candQ]) (H' := (c0 :: bk0 o_issued o_cand o_tree o_ends o_dig o_ev o_h o_leafCount o_keyed o_seed o_root o_next o_issuedQ o_candQ po)) rfl ?_
      by_cases hc53 : o_candQ < o_leafCount
      · simp only [if_pos hc53] at h
        refine OEnds.icmpT hm_21 rfl (q := 28) rfl ((tlt hc53).1) ?_
        refine OEnds.adv hm_21 2 (pc' := 30) (L' := [.val (.ref 1), .val (.int v1), .val (.int o_candQ), .unset, .unset]) (S' := [.int v1, .ref 1]) (H' := (c0 :: bk0 o_issued o_cand o_tree o_ends o_dig o_ev o_h o_leafCount o_keyed o_seed o_root o_next o_issuedQ o_candQ po)) rfl ?_
        obtain ⟨s45, hq54, h⟩ := bnd h
        refine OEnds.call0 hm_21 rfl rfl (by decide) rfl (as := [.ref 1, .int v1]) (rest := []) rfl rfl (ok_fillDigits hq54) ?_
        refine OEnds.adv hm_21 2 (pc' := 35) (L' := [.val (.ref 1), .val (.int v1), .val (.int o_candQ), .val (.int 0), .unset]) (S' := []) (H' := (c0 :: bk0 o_issued o_cand o_tree o_ends s45 o_ev o_h o_leafCount o_keyed o_seed o_root o_next o_issuedQ o_candQ po)) rfl ?_
        exact ok_verify_35 ok_verify_80 100000 h
      · simp only [if_neg hc53] at h
        refine OEnds.icmpF hm_21 rfl ((flt hc53).1) ?_
        refine OEnds.adv hm_21 1 (pc' := 27) (L' := [.val (.ref 1), .val (.int v1), .val (.int o_candQ), .unset, .unset]) (S' := [.int 0]) (H' := (c0 :: bk0 o_issued o_cand o_tree o_ends o_dig o_ev o_h o_leafCount o_keyed o_seed o_root o_next o_issuedQ o_candQ po)) rfl ?_
        cases h
        exact OEnds.iret hm_21 rfl rfl
theorem ok_loadIssued_20 {o_issued : List Int32} {o_tree : List Int32} {o_ends : List Int32} {o_dig : List Int32} {o_ev : List Int32} {o_h : Int32} {o_leafCount : Int32} {o_keyed : Int32} {o_seed : Int32} {o_root : Int32} {o_next : Int32} {o_issuedQ : Int32} {c0 : ACell} {po : List ACell} : ∀ (n : Nat), ∀ {o_cand : List Int32} {o_candQ : Int32} {v1 : Int32} {res : Int32} {w_o_cand : List Int32} {w_o_candQ : Int32}, f_loadIssued_20 o_issued o_issuedQ n o_cand o_candQ v1 = some (res, w_o_cand, w_o_candQ) → OEnds own_P 19 20 [.val (.ref 1), .val (.int v1)] [] (c0 :: bk0 o_issued o_cand o_tree o_ends o_dig o_ev o_h o_leafCount o_keyed o_seed o_root o_next o_issuedQ o_candQ po) (some (.int res), (c0 :: bk0 o_issued w_o_cand o_tree o_ends o_dig o_ev o_h o_leafCount o_keyed o_seed o_root o_next o_issuedQ w_o_candQ po), 0, 0) := by
  intro n
  induction n with
  | zero => intro o_cand o_candQ v1 res w_o_cand w_o_candQ h; cases h
  | succ n ih =>
    intro o_cand o_candQ v1 res w_o_cand w_o_candQ h
    unfold f_loadIssued_20 at h
    refine OEnds.adv hm_19 2 (pc' := 23) (L' := [.val (.ref 1), .val (.int v1)]) (S' := [.int 14, .int v1]) (H' := (c0 :: bk0 o_issued o_cand o_tree o_ends o_dig o_ev o_h o_leafCount o_keyed o_seed o_root o_next o_issuedQ o_candQ po)) rfl ?_
    by_cases hc55 : v1 < (14 : Int32)
    · simp only [if_pos hc55] at h
      refine OEnds.icmpF hm_19 rfl ((tlt hc55).2.1) ?_
      refine OEnds.adv hm_19 6 (pc' := 36) (L' := [.val (.ref 1), .val (.int v1)]) (S' := [.int v1, .ref 2, .int v1, .ref 3]) (H' := (c0 :: bk0 o_issued o_cand o_tree o_ends o_dig o_ev o_h o_leafCount o_keyed o_seed o_root o_next o_issuedQ o_candQ po)) rfl ?_
      obtain ⟨x39, hx39, h⟩ := bnd h
      refine OEnds.plain hm_19 rfl rfl (x_iaload rfl hx39) ?_
      show OEnds own_P 19 37 [.val (.ref 1), .val (.int v1)] [.int x39, .int v1, .ref 3] (c0 :: bk0 o_issued o_cand o_tree o_ends o_dig o_ev o_h o_leafCount o_keyed o_seed o_root o_next o_issuedQ o_candQ po) _
      obtain ⟨A40, hA40, h⟩ := bnd h
      refine OEnds.plain hm_19 rfl rfl (x_iastore rfl (Nat.le_of_ble_eq_true rfl) hA40) ?_
      refine OEnds.adv hm_19 2 (pc' := 20) (L' := [.val (.ref 1), .val (.int (v1 + (1 : Int32)))]) (S' := []) (H' := (c0 :: bk0 o_issued A40 o_tree o_ends o_dig o_ev o_h o_leafCount o_keyed o_seed o_root o_next o_issuedQ o_candQ po)) rfl ?_
      exact ih h
    · simp only [if_neg hc55] at h
      refine OEnds.icmpT hm_19 rfl (q := 44) rfl ((flt hc55).2.1) ?_
      refine OEnds.adv hm_19 1 (pc' := 45) (L' := [.val (.ref 1), .val (.int v1)]) (S' := [.int 1]) (H' := (c0 :: bk0 o_issued o_cand o_tree o_ends o_dig o_ev o_h o_leafCount o_keyed o_seed o_root o_next o_issuedQ o_candQ po)) rfl ?_
      cases h
      exact OEnds.iret hm_19 rfl rfl
theorem ok_loadIssued {o_issued : List Int32} {o_tree : List Int32} {o_ends : List Int32} {o_dig : List Int32} {o_ev : List Int32} {o_h : Int32} {o_leafCount : Int32} {o_keyed : Int32} {o_seed : Int32} {o_root : Int32} {o_next : Int32} {o_issuedQ : Int32} {c0 : ACell} {po : List ACell} {o_cand : List Int32} {o_candQ : Int32} {res : Int32} {w_o_cand : List Int32} {w_o_candQ : Int32} (h : f_loadIssued o_issued o_issuedQ o_cand o_candQ = some (res, w_o_cand, w_o_candQ)) : OEnds own_P 19 0 [.val (.ref 1), .unset] [] (c0 :: bk0 o_issued o_cand o_tree o_ends o_dig o_ev o_h o_leafCount o_keyed o_seed o_root o_next o_issuedQ o_candQ po) (some (.int res), (c0 :: bk0 o_issued w_o_cand o_tree o_ends o_dig o_ev o_h o_leafCount o_keyed o_seed o_root o_next o_issuedQ w_o_candQ po), 0, 0) := by
  unfold f_loadIssued at h
  refine OEnds.adv hm_19 3 (pc' := 5) (L' := [.val (.ref 1), .unset]) (S' := [.int (-1), .int o_issuedQ]) (H' := (c0 :: bk0 o_issued o_cand o_tree o_ends o_dig o_ev o_h o_leafCount o_keyed o_seed o_root o_next o_issuedQ o_candQ po)) rfl ?_
  by_cases hc56 : o_issuedQ = (-1 : Int32)
  · simp only [if_pos hc56] at h
    refine OEnds.icmpF hm_19 rfl ((teq hc56).2) ?_
    refine OEnds.adv hm_19 1 (pc' := 9) (L' := [.val (.ref 1), .unset]) (S' := [.int 0]) (H' := (c0 :: bk0 o_issued o_cand o_tree o_ends o_dig o_ev o_h o_leafCount o_keyed o_seed o_root o_next o_issuedQ o_candQ po)) rfl ?_
    cases h
    exact OEnds.iret hm_19 rfl rfl
  · simp only [if_neg hc56] at h
    refine OEnds.icmpT hm_19 rfl (q := 10) rfl ((feq hc56).2) ?_
    refine OEnds.adv hm_19 6 (pc' := 20) (L' := [.val (.ref 1), .val (.int 0)]) (S' := []) (H' := (c0 :: bk0 o_issued o_cand o_tree o_ends o_dig o_ev o_h o_leafCount o_keyed o_seed o_root o_next o_issuedQ o_issuedQ po)) rfl ?_
    exact ok_loadIssued_20 100000 h
theorem ok_candidateLeaf {o_issued : List Int32} {o_cand : List Int32} {o_tree : List Int32} {o_ends : List Int32} {o_dig : List Int32} {o_ev : List Int32} {o_h : Int32} {o_leafCount : Int32} {o_keyed : Int32} {o_seed : Int32} {o_root : Int32} {o_next : Int32} {o_issuedQ : Int32} {o_candQ : Int32} {c0 : ACell} {po : List ACell} {res : Int32} (h : f_candidateLeaf o_candQ = some res) : OEnds own_P 20 0 [.val (.ref 1)] [] (c0 :: bk0 o_issued o_cand o_tree o_ends o_dig o_ev o_h o_leafCount o_keyed o_seed o_root o_next o_issuedQ o_candQ po) (some (.int res), (c0 :: bk0 o_issued o_cand o_tree o_ends o_dig o_ev o_h o_leafCount o_keyed o_seed o_root o_next o_issuedQ o_candQ po), 0, 0) := by
  unfold f_candidateLeaf at h
  refine OEnds.adv hm_20 2 (pc' := 4) (L' := [.val (.ref 1)]) (S' := [.int o_candQ]) (H' := (c0 :: bk0 o_issued o_cand o_tree o_ends o_dig o_ev o_h o_leafCount o_keyed o_seed o_root o_next o_issuedQ o_candQ po)) rfl ?_
  cases h
  exact OEnds.iret hm_20 rfl rfl
theorem ok_fillPath_40 {o_cand : List Int32} {o_tree : List Int32} {o_ends : List Int32} {o_dig : List Int32} {o_ev : List Int32} {o_h : Int32} {o_leafCount : Int32} {o_keyed : Int32} {o_seed : Int32} {o_root : Int32} {o_next : Int32} {o_issuedQ : Int32} {o_candQ : Int32} {c0 : ACell} {po : List ACell} {kb : List Int32 → Int32 → Int32 → Option (List Int32)} (hkb : ∀ {o_issued : List Int32} {v1 : Int32} {v2 : Int32} {d3 d4 : Slot} {w_o_issued : List Int32}, kb o_issued v1 v2 = some w_o_issued → OEnds own_P 18 2 [.val (.ref 1), .val (.int v1), .val (.int v2), d3, d4] [] (c0 :: bk0 o_issued o_cand o_tree o_ends o_dig o_ev o_h o_leafCount o_keyed o_seed o_root o_next o_issuedQ o_candQ po) (none, (c0 :: bk0 w_o_issued o_cand o_tree o_ends o_dig o_ev o_h o_leafCount o_keyed o_seed o_root o_next o_issuedQ o_candQ po), 0, 0)) : ∀ {o_issued : List Int32} {v1 : Int32} {v2 : Int32} {v3 : Int32} {d4 : Slot} {w_o_issued : List Int32}, f_fillPath_40 kb o_tree o_h o_issued v1 v2 v3 = some w_o_issued → OEnds own_P 18 40 [.val (.ref 1), .val (.int v1), .val (.int v2), .val (.int v3), d4] [] (c0 :: bk0 o_issued o_cand o_tree o_ends o_dig o_ev o_h o_leafCount o_keyed o_seed o_root o_next o_issuedQ o_candQ po) (none, (c0 :: bk0 w_o_issued o_cand o_tree o_ends o_dig o_ev o_h o_leafCount o_keyed o_seed o_root o_next o_issuedQ o_candQ po), 0, 0) := by
  intro o_issued v1 v2 v3 d4 w_o_issued h
  unfold f_fillPath_40 at h
  refine OEnds.adv hm_18 6 (pc' := 49) (L' := [.val (.ref 1), .val (.int v1), .val (.int v2), .val (.int v3), .unset]) (S' := [.int v3, .int ((10 : Int32) + v2), .ref 2]) (H' := (c0 :: bk0 o_issued o_cand o_tree o_ends o_dig o_ev o_h o_leafCount o_keyed o_seed o_root o_next o_issuedQ o_candQ po)) rfl ?_
  obtain ⟨A32, hA32, h⟩ := bnd h
  refine OEnds.plain hm_18 rfl rfl (x_iastore rfl (Nat.le_of_ble_eq_true rfl) hA32) ?_
  refine OEnds.adv hm_18 2 (pc' := 2) (L' := [.val (.ref 1), .val (.int v1), .val (.int (v2 + (1 : Int32))), .val (.int v3), .unset]) (S' := []) (H' := (c0 :: bk0 A32 o_cand o_tree o_ends o_dig o_ev o_h o_leafCount o_keyed o_seed o_root o_next o_issuedQ o_candQ po)) rfl ?_
  exact hkb h
theorem ok_fillPath_2 {o_cand : List Int32} {o_tree : List Int32} {o_ends : List Int32} {o_dig : List Int32} {o_ev : List Int32} {o_h : Int32} {o_leafCount : Int32} {o_keyed : Int32} {o_seed : Int32} {o_root : Int32} {o_next : Int32} {o_issuedQ : Int32} {o_candQ : Int32} {c0 : ACell} {po : List ACell} : ∀ (n : Nat), ∀ {o_issued : List Int32} {v1 : Int32} {v2 : Int32} {d3 d4 : Slot} {w_o_issued : List Int32}, f_fillPath_2 o_tree o_h n o_issued v1 v2 = some w_o_issued → OEnds own_P 18 2 [.val (.ref 1), .val (.int v1), .val (.int v2), d3, d4] [] (c0 :: bk0 o_issued o_cand o_tree o_ends o_dig o_ev o_h o_leafCount o_keyed o_seed o_root o_next o_issuedQ o_candQ po) (none, (c0 :: bk0 w_o_issued o_cand o_tree o_ends o_dig o_ev o_h o_leafCount o_keyed o_seed o_root o_next o_issuedQ o_candQ po), 0, 0) := by
  intro n
  induction n with
  | zero => intro o_issued v1 v2 d3 d4 w_o_issued h; cases h
  | succ n ih =>
    intro o_issued v1 v2 d3 d4 w_o_issued h
    unfold f_fillPath_2 at h
    refine OEnds.adv hm_18 2 (pc' := 4) (L' := [.val (.ref 1), .val (.int v1), .val (.int v2), .unset, .unset]) (S' := [.int 4, .int v2]) (H' := (c0 :: bk0 o_issued o_cand o_tree o_ends o_dig o_ev o_h o_leafCount o_keyed o_seed o_root o_next o_issuedQ o_candQ po)) rfl ?_
    by_cases hc57 : v2 < (4 : Int32)
    · simp only [if_pos hc57] at h
      refine OEnds.icmpF hm_18 rfl ((tlt hc57).2.1) ?_
      refine OEnds.adv hm_18 5 (pc' := 14) (L' := [.val (.ref 1), .val (.int v1), .val (.int v2), .val (.int 0), .unset]) (S' := [.int o_h, .int v2]) (H' := (c0 :: bk0 o_issued o_cand o_tree o_ends o_dig o_ev o_h o_leafCount o_keyed o_seed o_root o_next o_issuedQ o_candQ po)) rfl ?_
      by_cases hc58 : v2 < o_h
      · simp only [if_pos hc58] at h
        refine OEnds.icmpF hm_18 rfl ((tlt hc58).2.1) ?_
        refine OEnds.adv hm_18 15 (pc' := 38) (L' := [.val (.ref 1), .val (.int v1), .val (.int v2), .val (.int 0), .val (.int (((XT.ushr v1 v2) ^^^ (1 : Int32)) &&& (15 : Int32)))]) (S' := [.int ((v2 * (16 : Int32)) + (((XT.ushr v1 v2) ^^^ (1 : Int32)) &&& (15 : Int32))), .ref 4]) (H' := (c0 :: bk0 o_issued o_cand o_tree o_ends o_dig o_ev o_h o_leafCount o_keyed o_seed o_root o_next o_issuedQ o_candQ po)) rfl ?_
        obtain ⟨x31, hx31, h⟩ := bnd h
        refine OEnds.plain hm_18 rfl rfl (x_iaload rfl hx31) ?_
        refine OEnds.adv hm_18 1 (pc' := 40) (L' := [.val (.ref 1), .val (.int v1), .val (.int v2), .val (.int x31), .val (.int (((XT.ushr v1 v2) ^^^ (1 : Int32)) &&& (15 : Int32)))]) (S' := []) (H' := (c0 :: bk0 o_issued o_cand o_tree o_ends o_dig o_ev o_h o_leafCount o_keyed o_seed o_root o_next o_issuedQ o_candQ po)) rfl ?_
        exact ok_fillPath_40 ih h
      · simp only [if_neg hc58] at h
        refine OEnds.icmpT hm_18 rfl (q := 40) rfl ((flt hc58).2.1) ?_
        show OEnds own_P 18 40 [.val (.ref 1), .val (.int v1), .val (.int v2), .val (.int 0), .unset] [] (c0 :: bk0 o_issued o_cand o_tree o_ends o_dig o_ev o_h o_leafCount o_keyed o_seed o_root o_next o_issuedQ o_candQ po) _
        exact ok_fillPath_40 ih h
    · simp only [if_neg hc57] at h
      refine OEnds.icmpT hm_18 rfl (q := 56) rfl ((flt hc57).2.1) ?_
      show OEnds own_P 18 56 [.val (.ref 1), .val (.int v1), .val (.int v2), .unset, .unset] [] (c0 :: bk0 o_issued o_cand o_tree o_ends o_dig o_ev o_h o_leafCount o_keyed o_seed o_root o_next o_issuedQ o_candQ po) _
      cases h
      exact OEnds.vret hm_18 rfl rfl
theorem ok_fillPath {o_cand : List Int32} {o_tree : List Int32} {o_ends : List Int32} {o_dig : List Int32} {o_ev : List Int32} {o_h : Int32} {o_leafCount : Int32} {o_keyed : Int32} {o_seed : Int32} {o_root : Int32} {o_next : Int32} {o_issuedQ : Int32} {o_candQ : Int32} {c0 : ACell} {po : List ACell} {o_issued : List Int32} {v1 : Int32} {w_o_issued : List Int32} (h : f_fillPath o_tree o_h o_issued v1 = some w_o_issued) : OEnds own_P 18 0 [.val (.ref 1), .val (.int v1), .unset, .unset, .unset] [] (c0 :: bk0 o_issued o_cand o_tree o_ends o_dig o_ev o_h o_leafCount o_keyed o_seed o_root o_next o_issuedQ o_candQ po) (none, (c0 :: bk0 w_o_issued o_cand o_tree o_ends o_dig o_ev o_h o_leafCount o_keyed o_seed o_root o_next o_issuedQ o_candQ po), 0, 0) := by
  unfold f_fillPath at h
  refine OEnds.adv hm_18 2 (pc' := 2) (L' := [.val (.ref 1), .val (.int v1), .val (.int 0), .unset, .unset]) (S' := []) (H' := (c0 :: bk0 o_issued o_cand o_tree o_ends o_dig o_ev o_h o_leafCount o_keyed o_seed o_root o_next o_issuedQ o_candQ po)) rfl ?_
  exact ok_fillPath_2 100000 h
theorem ok_sign_76 {o_cand : List Int32} {o_tree : List Int32} {o_ends : List Int32} {o_ev : List Int32} {o_h : Int32} {o_leafCount : Int32} {o_keyed : Int32} {o_seed : Int32} {o_root : Int32} {o_candQ : Int32} {c0 : ACell} {po : List ACell} : ∀ {o_issued : List Int32} {o_dig : List Int32} {o_next : Int32} {o_issuedQ : Int32} {v2 : Int32} {d1 d3 d4 : Slot} {res : Int32} {w_o_issued : List Int32} {w_o_dig : List Int32} {w_o_next : Int32} {w_o_issuedQ : Int32}, f_sign_76 o_tree o_h o_leafCount o_keyed o_seed o_issued o_dig o_next o_issuedQ v2 = some (res, w_o_issued, w_o_dig, w_o_next, w_o_issuedQ) → OEnds own_P 16 76 [.val (.ref 1), d1, .val (.int v2), d3, d4] [] (c0 :: bk0 o_issued o_cand o_tree o_ends o_dig o_ev o_h o_leafCount o_keyed o_seed o_root o_next o_issuedQ o_candQ po) (some (.int res), (c0 :: bk0 w_o_issued o_cand o_tree o_ends w_o_dig o_ev o_h o_leafCount o_keyed o_seed o_root w_o_next w_o_issuedQ o_candQ po), 0, 0) := by
  intro o_issued o_dig o_next o_issuedQ v2 d1 d3 d4 res w_o_issued w_o_dig w_o_next w_o_issuedQ h
  unfold f_sign_76 at h
  refine OEnds.adv hm_16 2 (pc' := 78) (L' := [.val (.ref 1), .unset, .val (.int v2), .unset, .unset]) (S' := [.int v2, .ref 1]) (H' := (c0 :: bk0 o_issued o_cand o_tree o_ends o_dig o_ev o_h o_leafCount o_keyed o_seed o_root o_next o_issuedQ o_candQ po)) rfl ?_
  obtain ⟨s38, hq59, h⟩ := bnd h
  refine OEnds.call0 hm_16 rfl rfl (by decide) rfl (as := [.ref 1, .int v2]) (rest := []) rfl rfl (ok_fillPath hq59) ?_
  refine OEnds.adv hm_16 9 (pc' := 94) (L' := [.val (.ref 1), .unset, .val (.int v2), .unset, .unset]) (S' := [.int v2]) (H' := (c0 :: bk0 s38 o_cand o_tree o_ends o_dig o_ev o_h o_leafCount o_keyed o_seed o_root (v2 + (1 : Int32)) v2 o_candQ po)) rfl ?_
  cases h
  exact OEnds.iret hm_16 rfl rfl
theorem ok_sign_35 {o_cand : List Int32} {o_tree : List Int32} {o_ends : List Int32} {o_ev : List Int32} {o_h : Int32} {o_leafCount : Int32} {o_keyed : Int32} {o_seed : Int32} {o_root : Int32} {o_candQ : Int32} {c0 : ACell} {po : List ACell} {k76 : List Int32 → List Int32 → Int32 → Int32 → Int32 → Option (Int32 × List Int32 × List Int32 × Int32 × Int32)} (hk76 : ∀ {o_issued : List Int32} {o_dig : List Int32} {o_next : Int32} {o_issuedQ : Int32} {v2 : Int32} {d1 d3 d4 : Slot} {res : Int32} {w_o_issued : List Int32} {w_o_dig : List Int32} {w_o_next : Int32} {w_o_issuedQ : Int32}, k76 o_issued o_dig o_next o_issuedQ v2 = some (res, w_o_issued, w_o_dig, w_o_next, w_o_issuedQ) → OEnds own_P 16 76 [.val (.ref 1), d1, .val (.int v2), d3, d4] [] (c0 :: bk0 o_issued o_cand o_tree o_ends o_dig o_ev o_h o_leafCount o_keyed o_seed o_root o_next o_issuedQ o_candQ po) (some (.int res), (c0 :: bk0 w_o_issued o_cand o_tree o_ends w_o_dig o_ev o_h o_leafCount o_keyed o_seed o_root w_o_next w_o_issuedQ o_candQ po), 0, 0)) : ∀ (n : Nat), ∀ {o_issued : List Int32} {o_dig : List Int32} {o_next : Int32} {o_issuedQ : Int32} {v2 : Int32} {v3 : Int32} {d1 d4 : Slot} {res : Int32} {w_o_issued : List Int32} {w_o_dig : List Int32} {w_o_next : Int32} {w_o_issuedQ : Int32}, f_sign_35 k76 o_tree o_h o_leafCount o_keyed o_seed n o_issued o_dig o_next o_issuedQ v2 v3 = some (res, w_o_issued, w_o_dig, w_o_next, w_o_issuedQ) → OEnds own_P 16 35 [.val (.ref 1), d1, .val (.int v2), .val (.int v3), d4] [] (c0 :: bk0 o_issued o_cand o_tree o_ends o_dig o_ev o_h o_leafCount o_keyed o_seed o_root o_next o_issuedQ o_candQ po) (some (.int res), (c0 :: bk0 w_o_issued o_cand o_tree o_ends w_o_dig o_ev o_h o_leafCount o_keyed o_seed o_root w_o_next w_o_issuedQ o_candQ po), 0, 0) := by
  intro n
  induction n with
  | zero => intro o_issued o_dig o_next o_issuedQ v2 v3 d1 d4 res w_o_issued w_o_dig w_o_next w_o_issuedQ h; cases h
  | succ n ih =>
    intro o_issued o_dig o_next o_issuedQ v2 v3 d1 d4 res w_o_issued w_o_dig w_o_next w_o_issuedQ h
    unfold f_sign_35 at h
    refine OEnds.adv hm_16 2 (pc' := 38) (L' := [.val (.ref 1), .unset, .val (.int v2), .val (.int v3), .unset]) (S' := [.int 10, .int v3]) (H' := (c0 :: bk0 o_issued o_cand o_tree o_ends o_dig o_ev o_h o_leafCount o_keyed o_seed o_root o_next o_issuedQ o_candQ po)) rfl ?_
    by_cases hc60 : v3 < (10 : Int32)
    · simp only [if_pos hc60] at h
      refine OEnds.icmpF hm_16 rfl ((tlt hc60).2.1) ?_
      refine OEnds.adv hm_16 3 (pc' := 44) (L' := [.val (.ref 1), .unset, .val (.int v2), .val (.int v3), .unset]) (S' := [.int v3, .int v2, .ref 1]) (H' := (c0 :: bk0 o_issued o_cand o_tree o_ends o_dig o_ev o_h o_leafCount o_keyed o_seed o_root o_next o_issuedQ o_candQ po)) rfl ?_
      obtain ⟨r34, hq61, h⟩ := bnd h
      refine OEnds.call0 hm_16 rfl rfl (by decide) rfl (as := [.ref 1, .int v2, .int v3]) (rest := []) rfl rfl (ok_secretKey hq61) ?_
      refine OEnds.adv hm_16 12 (pc' := 65) (L' := [.val (.ref 1), .unset, .val (.int v2), .val (.int v3), .val (.int r34)]) (S' := [.int v3, .ref 6, .int 0, .int r34, .int v3, .int v2, .ref 1, .int v3, .ref 2]) (H' := (c0 :: bk0 o_issued o_cand o_tree o_ends o_dig o_ev o_h o_leafCount o_keyed o_seed o_root o_next o_issuedQ o_candQ po)) rfl ?_
      obtain ⟨x35, hx35, h⟩ := bnd h
      refine OEnds.plain hm_16 rfl rfl (x_iaload rfl hx35) ?_
      show OEnds own_P 16 66 [.val (.ref 1), .unset, .val (.int v2), .val (.int v3), .val (.int r34)] [.int x35, .int 0, .int r34, .int v3, .int v2, .ref 1, .int v3, .ref 2] (c0 :: bk0 o_issued o_cand o_tree o_ends o_dig o_ev o_h o_leafCount o_keyed o_seed o_root o_next o_issuedQ o_candQ po) _
      obtain ⟨r36, hq62, h⟩ := bnd h
      refine OEnds.call0 hm_16 rfl rfl (by decide) rfl (as := [.ref 1, .int v2, .int v3, .int r34, .int 0, .int x35]) (rest := [.int v3, .ref 2]) rfl rfl (ok_walk hq62) ?_
      show OEnds own_P 16 69 [.val (.ref 1), .unset, .val (.int v2), .val (.int v3), .val (.int r34)] [.int r36, .int v3, .ref 2] (c0 :: bk0 o_issued o_cand o_tree o_ends o_dig o_ev o_h o_leafCount o_keyed o_seed o_root o_next o_issuedQ o_candQ po) _
      obtain ⟨A37, hA37, h⟩ := bnd h
      refine OEnds.plain hm_16 rfl rfl (x_iastore rfl (Nat.le_of_ble_eq_true rfl) hA37) ?_
      refine OEnds.adv hm_16 2 (pc' := 35) (L' := [.val (.ref 1), .unset, .val (.int v2), .val (.int (v3 + (1 : Int32))), .val (.int r34)]) (S' := []) (H' := (c0 :: bk0 A37 o_cand o_tree o_ends o_dig o_ev o_h o_leafCount o_keyed o_seed o_root o_next o_issuedQ o_candQ po)) rfl ?_
      exact ih h
    · simp only [if_neg hc60] at h
      refine OEnds.icmpT hm_16 rfl (q := 76) rfl ((flt hc60).2.1) ?_
      show OEnds own_P 16 76 [.val (.ref 1), .unset, .val (.int v2), .val (.int v3), .unset] [] (c0 :: bk0 o_issued o_cand o_tree o_ends o_dig o_ev o_h o_leafCount o_keyed o_seed o_root o_next o_issuedQ o_candQ po) _
      exact hk76 h
theorem ok_sign {o_cand : List Int32} {o_tree : List Int32} {o_ends : List Int32} {o_ev : List Int32} {o_h : Int32} {o_leafCount : Int32} {o_keyed : Int32} {o_seed : Int32} {o_root : Int32} {o_candQ : Int32} {c0 : ACell} {po : List ACell} {o_issued : List Int32} {o_dig : List Int32} {o_next : Int32} {o_issuedQ : Int32} {v1 : Int32} {res : Int32} {w_o_issued : List Int32} {w_o_dig : List Int32} {w_o_next : Int32} {w_o_issuedQ : Int32} (h : f_sign o_tree o_h o_leafCount o_keyed o_seed o_issued o_dig o_next o_issuedQ v1 = some (res, w_o_issued, w_o_dig, w_o_next, w_o_issuedQ)) : OEnds own_P 16 0 [.val (.ref 1), .val (.int v1), .unset, .unset, .unset] [] (c0 :: bk0 o_issued o_cand o_tree o_ends o_dig o_ev o_h o_leafCount o_keyed o_seed o_root o_next o_issuedQ o_candQ po) (some (.int res), (c0 :: bk0 w_o_issued o_cand o_tree o_ends w_o_dig o_ev o_h o_leafCount o_keyed o_seed o_root w_o_next w_o_issuedQ o_candQ po), 0, 0) := by
  unfold f_sign at h
  refine OEnds.adv hm_16 2 (pc' := 4) (L' := [.val (.ref 1), .val (.int v1), .unset, .unset, .unset]) (S' := [.int o_keyed]) (H' := (c0 :: bk0 o_issued o_cand o_tree o_ends o_dig o_ev o_h o_leafCount o_keyed o_seed o_root o_next o_issuedQ o_candQ po)) rfl ?_
  by_cases hc63 : o_keyed = (0 : Int32)
  · simp only [if_pos hc63] at h
    refine OEnds.ifF hm_16 rfl ((teq hc63).2) ?_
    refine OEnds.adv hm_16 1 (pc' := 8) (L' := [.val (.ref 1), .val (.int v1), .unset, .unset, .unset]) (S' := [.int (-1)]) (H' := (c0 :: bk0 o_issued o_cand o_tree o_ends o_dig o_ev o_h o_leafCount o_keyed o_seed o_root o_next o_issuedQ o_candQ po)) rfl ?_
    cases h
    exact OEnds.iret hm_16 rfl rfl
  · simp only [if_neg hc63] at h
    refine OEnds.ifT hm_16 rfl (q := 9) rfl ((feq hc63).2) ?_
    refine OEnds.adv hm_16 4 (pc' := 17) (L' := [.val (.ref 1), .val (.int v1), .unset, .unset, .unset]) (S' := [.int o_leafCount, .int o_next]) (H' := (c0 :: bk0 o_issued o_cand o_tree o_ends o_dig o_ev o_h o_leafCount o_keyed o_seed o_root o_next o_issuedQ o_candQ po)) rfl ?_
    by_cases hc64 : o_next < o_leafCount
    · simp only [if_pos hc64] at h
      refine OEnds.icmpT hm_16 rfl (q := 23) rfl ((tlt hc64).1) ?_
      refine OEnds.adv hm_16 5 (pc' := 30) (L' := [.val (.ref 1), .val (.int v1), .val (.int o_next), .unset, .unset]) (S' := [.int v1, .ref 1]) (H' := (c0 :: bk0 o_issued o_cand o_tree o_ends o_dig o_ev o_h o_leafCount o_keyed o_seed o_root o_next o_issuedQ o_candQ po)) rfl ?_
      obtain ⟨s33, hq65, h⟩ := bnd h
      refine OEnds.call0 hm_16 rfl rfl (by decide) rfl (as := [.ref 1, .int v1]) (rest := []) rfl rfl (ok_fillDigits hq65) ?_
      refine OEnds.adv hm_16 2 (pc' := 35) (L' := [.val (.ref 1), .val (.int v1), .val (.int o_next), .val (.int 0), .unset]) (S' := []) (H' := (c0 :: bk0 o_issued o_cand o_tree o_ends s33 o_ev o_h o_leafCount o_keyed o_seed o_root o_next o_issuedQ o_candQ po)) rfl ?_
      exact ok_sign_35 ok_sign_76 100000 h
    · simp only [if_neg hc64] at h
      refine OEnds.icmpF hm_16 rfl ((flt hc64).1) ?_
      refine OEnds.adv hm_16 1 (pc' := 22) (L' := [.val (.ref 1), .val (.int v1), .unset, .unset, .unset]) (S' := [.int (-2)]) (H' := (c0 :: bk0 o_issued o_cand o_tree o_ends o_dig o_ev o_h o_leafCount o_keyed o_seed o_root o_next o_issuedQ o_candQ po)) rfl ?_
      cases h
      exact OEnds.iret hm_16 rfl rfl
theorem ok_L_law_429 {scr : List Int32} {kb : List Int32 → List Int32 → List Int32 → List Int32 → List Int32 → List Int32 → Int32 → Int32 → Int32 → Int32 → Int32 → Int32 → Int32 → Int32 → Int32 → Int32 → Int32 → Int32 → Int32 → Int32 → Int32 → Int32 → Int32 → Int32 → Option (Int32)} (hkb : ∀ {n0_issued : List Int32} {n0_cand : List Int32} {n0_tree : List Int32} {n0_ends : List Int32} {n0_dig : List Int32} {n0_ev : List Int32} {n0_h : Int32} {n0_leafCount : Int32} {n0_keyed : Int32} {n0_seed : Int32} {n0_root : Int32} {n0_next : Int32} {n0_issuedQ : Int32} {n0_candQ : Int32} {v2 : Int32} {v4 : Int32} {v5 : Int32} {v6 : Int32} {v7 : Int32} {v8 : Int32} {v9 : Int32} {v10 : Int32} {v11 : Int32} {v12 : Int32} {d1 d13 d14 d15 d16 d17 : Slot} {res : Int32}, kb n0_issued n0_cand n0_tree n0_ends n0_dig n0_ev n0_h n0_leafCount n0_keyed n0_seed n0_root n0_next n0_issuedQ n0_candQ v2 v4 v5 v6 v7 v8 v9 v10 v11 v12 = some res → OEndsQ own_P 0 83 [.val (.ref 0), d1, .val (.int v2), .val (.ref 1), .val (.int v4), .val (.int v5), .val (.int v6), .val (.int v7), .val (.int v8), .val (.int v9), .val (.int v10), .val (.int v11), .val (.int v12), d13, d14, d15, d16, d17] [] ((.inr (.inl (false, scr)) : ACell) :: bk0 n0_issued n0_cand n0_tree n0_ends n0_dig n0_ev n0_h n0_leafCount n0_keyed n0_seed n0_root n0_next n0_issuedQ n0_candQ []) (LawQ res 0 0)) : ∀ {n0_issued : List Int32} {n0_cand : List Int32} {n0_tree : List Int32} {n0_ends : List Int32} {n0_dig : List Int32} {n0_ev : List Int32} {n0_h : Int32} {n0_leafCount : Int32} {n0_keyed : Int32} {n0_seed : Int32} {n0_root : Int32} {n0_next : Int32} {n0_issuedQ : Int32} {n0_candQ : Int32} {v2 : Int32} {v4 : Int32} {v5 : Int32} {v6 : Int32} {v7 : Int32} {v8 : Int32} {v9 : Int32} {v10 : Int32} {v11 : Int32} {v12 : Int32} {d1 d13 d14 d15 d16 d17 : Slot} {res : Int32}, f_L_law_429 kb scr n0_issued n0_cand n0_tree n0_ends n0_dig n0_ev n0_h n0_leafCount n0_keyed n0_seed n0_root n0_next n0_issuedQ n0_candQ v2 v4 v5 v6 v7 v8 v9 v10 v11 v12 = some res → OEndsQ own_P 0 429 [.val (.ref 0), d1, .val (.int v2), .val (.ref 1), .val (.int v4), .val (.int v5), .val (.int v6), .val (.int v7), .val (.int v8), .val (.int v9), .val (.int v10), .val (.int v11), .val (.int v12), d13, d14, d15, d16, d17] [] ((.inr (.inl (false, scr)) : ACell) :: bk0 n0_issued n0_cand n0_tree n0_ends n0_dig n0_ev n0_h n0_leafCount n0_keyed n0_seed n0_root n0_next n0_issuedQ n0_candQ []) (LawQ res 0 0) := by
  intro n0_issued n0_cand n0_tree n0_ends n0_dig n0_ev n0_h n0_leafCount n0_keyed n0_seed n0_root n0_next n0_issuedQ n0_candQ v2 v4 v5 v6 v7 v8 v9 v10 v11 v12 d1 d13 d14 d15 d16 d17 res h
  unfold f_L_law_429 at h
  refine OEndsQ.adv hm_0 1 (pc' := 431) (L' := [.val (.ref 0), .unset, .val (.int v2), .val (.ref 1), .val (.int v4), .val (.int v5), .val (.int v6), .val (.int v7), .val (.int v8), .val (.int v9), .val (.int v10), .val (.int v11), .val (.int v12), .unset, .unset, .unset, .unset, .unset]) (S' := [.int v4]) (H' := ((.inr (.inl (false, scr)) : ACell) :: bk0 n0_issued n0_cand n0_tree n0_ends n0_dig n0_ev n0_h n0_leafCount n0_keyed n0_seed n0_root n0_next n0_issuedQ n0_candQ [])) rfl ?_
  by_cases hc66 : v4 = (0 : Int32)
  · simp only [if_pos hc66] at h
    refine OEndsQ.ifT hm_0 rfl (q := 445) rfl ((teq hc66).1) ?_
    refine OEndsQ.adv hm_0 2 (pc' := 83) (L' := [.val (.ref 0), .unset, .val (.int v2), .val (.ref 1), .val (.int v4), .val (.int v5), .val (.int v6), .val (.int v7), .val (.int v8), .val (.int v9), .val (.int v10), .val (.int v11), .val (.int (v12 + (2 : Int32))), .unset, .unset, .unset, .unset, .unset]) (S' := []) (H' := ((.inr (.inl (false, scr)) : ACell) :: bk0 n0_issued n0_cand n0_tree n0_ends n0_dig n0_ev n0_h n0_leafCount n0_keyed n0_seed n0_root n0_next n0_issuedQ n0_candQ [])) rfl ?_
    exact hkb h
  · simp only [if_neg hc66] at h
    refine OEndsQ.ifF hm_0 rfl ((feq hc66).1) ?_
    refine OEndsQ.adv hm_0 1 (pc' := 435) (L' := [.val (.ref 0), .unset, .val (.int v2), .val (.ref 1), .val (.int v4), .val (.int v5), .val (.int v6), .val (.int v7), .val (.int v8), .val (.int v9), .val (.int v10), .val (.int v11), .val (.int v12), .unset, .unset, .unset, .unset, .unset]) (S' := [.ref 1]) (H' := ((.inr (.inl (false, scr)) : ACell) :: bk0 n0_issued n0_cand n0_tree n0_ends n0_dig n0_ev n0_h n0_leafCount n0_keyed n0_seed n0_root n0_next n0_issuedQ n0_candQ [])) rfl ?_
    obtain ⟨r101, hq67, h⟩ := bnd h
    refine OEndsQ.call0 hm_0 rfl rfl (by decide) rfl (as := [.ref 1]) (rest := []) rfl rfl (ok_getRoot hq67) ?_
    refine OEndsQ.adv hm_0 1 (pc' := 440) (L' := [.val (.ref 0), .unset, .val (.int v2), .val (.ref 1), .val (.int v4), .val (.int v5), .val (.int v6), .val (.int v7), .val (.int v8), .val (.int v9), .val (.int v10), .val (.int v11), .val (.int v12), .unset, .unset, .unset, .unset, .unset]) (S' := [.int v5, .int r101]) (H' := ((.inr (.inl (false, scr)) : ACell) :: bk0 n0_issued n0_cand n0_tree n0_ends n0_dig n0_ev n0_h n0_leafCount n0_keyed n0_seed n0_root n0_next n0_issuedQ n0_candQ [])) rfl ?_
    by_cases hc68 : r101 = v5
    · simp only [if_pos hc68] at h
      refine OEndsQ.icmpT hm_0 rfl (q := 445) rfl ((teq hc68).1) ?_
      refine OEndsQ.adv hm_0 2 (pc' := 83) (L' := [.val (.ref 0), .unset, .val (.int v2), .val (.ref 1), .val (.int v4), .val (.int v5), .val (.int v6), .val (.int v7), .val (.int v8), .val (.int v9), .val (.int v10), .val (.int v11), .val (.int (v12 + (2 : Int32))), .unset, .unset, .unset, .unset, .unset]) (S' := []) (H' := ((.inr (.inl (false, scr)) : ACell) :: bk0 n0_issued n0_cand n0_tree n0_ends n0_dig n0_ev n0_h n0_leafCount n0_keyed n0_seed n0_root n0_next n0_issuedQ n0_candQ [])) rfl ?_
      exact hkb h
    · simp only [if_neg hc68] at h
      refine OEndsQ.icmpF hm_0 rfl ((feq hc68).1) ?_
      refine OEndsQ.adv hm_0 1 (pc' := 444) (L' := [.val (.ref 0), .unset, .val (.int v2), .val (.ref 1), .val (.int v4), .val (.int v5), .val (.int v6), .val (.int v7), .val (.int v8), .val (.int v9), .val (.int v10), .val (.int v11), .val (.int v12), .unset, .unset, .unset, .unset, .unset]) (S' := [.int 0]) (H' := ((.inr (.inl (false, scr)) : ACell) :: bk0 n0_issued n0_cand n0_tree n0_ends n0_dig n0_ev n0_h n0_leafCount n0_keyed n0_seed n0_root n0_next n0_issuedQ n0_candQ [])) rfl ?_
      cases h
      exact OEndsQ.iret hm_0 rfl rfl
theorem ok_L_law_422 {scr : List Int32} {kb : List Int32 → List Int32 → List Int32 → List Int32 → List Int32 → List Int32 → Int32 → Int32 → Int32 → Int32 → Int32 → Int32 → Int32 → Int32 → Int32 → Int32 → Int32 → Int32 → Int32 → Int32 → Int32 → Int32 → Int32 → Int32 → Option (Int32)} (hkb : ∀ {n0_issued : List Int32} {n0_cand : List Int32} {n0_tree : List Int32} {n0_ends : List Int32} {n0_dig : List Int32} {n0_ev : List Int32} {n0_h : Int32} {n0_leafCount : Int32} {n0_keyed : Int32} {n0_seed : Int32} {n0_root : Int32} {n0_next : Int32} {n0_issuedQ : Int32} {n0_candQ : Int32} {v2 : Int32} {v4 : Int32} {v5 : Int32} {v6 : Int32} {v7 : Int32} {v8 : Int32} {v9 : Int32} {v10 : Int32} {v11 : Int32} {v12 : Int32} {d1 d13 d14 d15 d16 d17 : Slot} {res : Int32}, kb n0_issued n0_cand n0_tree n0_ends n0_dig n0_ev n0_h n0_leafCount n0_keyed n0_seed n0_root n0_next n0_issuedQ n0_candQ v2 v4 v5 v6 v7 v8 v9 v10 v11 v12 = some res → OEndsQ own_P 0 83 [.val (.ref 0), d1, .val (.int v2), .val (.ref 1), .val (.int v4), .val (.int v5), .val (.int v6), .val (.int v7), .val (.int v8), .val (.int v9), .val (.int v10), .val (.int v11), .val (.int v12), d13, d14, d15, d16, d17] [] ((.inr (.inl (false, scr)) : ACell) :: bk0 n0_issued n0_cand n0_tree n0_ends n0_dig n0_ev n0_h n0_leafCount n0_keyed n0_seed n0_root n0_next n0_issuedQ n0_candQ []) (LawQ res 0 0)) : ∀ {n0_issued : List Int32} {n0_cand : List Int32} {n0_tree : List Int32} {n0_ends : List Int32} {n0_dig : List Int32} {n0_ev : List Int32} {n0_h : Int32} {n0_leafCount : Int32} {n0_keyed : Int32} {n0_seed : Int32} {n0_root : Int32} {n0_next : Int32} {n0_issuedQ : Int32} {n0_candQ : Int32} {v2 : Int32} {v4 : Int32} {v5 : Int32} {v6 : Int32} {v7 : Int32} {v8 : Int32} {v9 : Int32} {v10 : Int32} {v11 : Int32} {v12 : Int32} {v16 : Int32} {d1 d13 d14 d15 d17 : Slot} {res : Int32}, f_L_law_422 kb scr n0_issued n0_cand n0_tree n0_ends n0_dig n0_ev n0_h n0_leafCount n0_keyed n0_seed n0_root n0_next n0_issuedQ n0_candQ v2 v4 v5 v6 v7 v8 v9 v10 v11 v12 v16 = some res → OEndsQ own_P 0 422 [.val (.ref 0), d1, .val (.int v2), .val (.ref 1), .val (.int v4), .val (.int v5), .val (.int v6), .val (.int v7), .val (.int v8), .val (.int v9), .val (.int v10), .val (.int v11), .val (.int v12), d13, d14, d15, .val (.int v16), d17] [] ((.inr (.inl (false, scr)) : ACell) :: bk0 n0_issued n0_cand n0_tree n0_ends n0_dig n0_ev n0_h n0_leafCount n0_keyed n0_seed n0_root n0_next n0_issuedQ n0_candQ []) (LawQ res 0 0) := by
  intro n0_issued n0_cand n0_tree n0_ends n0_dig n0_ev n0_h n0_leafCount n0_keyed n0_seed n0_root n0_next n0_issuedQ n0_candQ v2 v4 v5 v6 v7 v8 v9 v10 v11 v12 v16 d1 d13 d14 d15 d17 res h
  unfold f_L_law_422 at h
  refine OEndsQ.adv hm_0 1 (pc' := 424) (L' := [.val (.ref 0), .unset, .val (.int v2), .val (.ref 1), .val (.int v4), .val (.int v5), .val (.int v6), .val (.int v7), .val (.int v8), .val (.int v9), .val (.int v10), .val (.int v11), .val (.int v12), .unset, .unset, .unset, .val (.int v16), .unset]) (S' := [.int v16]) (H' := ((.inr (.inl (false, scr)) : ACell) :: bk0 n0_issued n0_cand n0_tree n0_ends n0_dig n0_ev n0_h n0_leafCount n0_keyed n0_seed n0_root n0_next n0_issuedQ n0_candQ [])) rfl ?_
  by_cases hc69 : v16 = (0 : Int32)
  · simp only [if_pos hc69] at h
    refine OEndsQ.ifF hm_0 rfl ((teq hc69).2) ?_
    refine OEndsQ.adv hm_0 1 (pc' := 428) (L' := [.val (.ref 0), .unset, .val (.int v2), .val (.ref 1), .val (.int v4), .val (.int v5), .val (.int v6), .val (.int v7), .val (.int v8), .val (.int v9), .val (.int v10), .val (.int v11), .val (.int v12), .unset, .unset, .unset, .val (.int v16), .unset]) (S' := [.int 0]) (H' := ((.inr (.inl (false, scr)) : ACell) :: bk0 n0_issued n0_cand n0_tree n0_ends n0_dig n0_ev n0_h n0_leafCount n0_keyed n0_seed n0_root n0_next n0_issuedQ n0_candQ [])) rfl ?_
    cases h
    exact OEndsQ.iret hm_0 rfl rfl
  · simp only [if_neg hc69] at h
    refine OEndsQ.ifT hm_0 rfl (q := 429) rfl ((feq hc69).2) ?_
    show OEndsQ own_P 0 429 [.val (.ref 0), .unset, .val (.int v2), .val (.ref 1), .val (.int v4), .val (.int v5), .val (.int v6), .val (.int v7), .val (.int v8), .val (.int v9), .val (.int v10), .val (.int v11), .val (.int v12), .unset, .unset, .unset, .val (.int v16), .unset] [] ((.inr (.inl (false, scr)) : ACell) :: bk0 n0_issued n0_cand n0_tree n0_ends n0_dig n0_ev n0_h n0_leafCount n0_keyed n0_seed n0_root n0_next n0_issuedQ n0_candQ []) _
    exact ok_L_law_429 hkb h
theorem ok_L_law_387 {scr : List Int32} {k422 : List Int32 → List Int32 → List Int32 → List Int32 → List Int32 → List Int32 → Int32 → Int32 → Int32 → Int32 → Int32 → Int32 → Int32 → Int32 → Int32 → Int32 → Int32 → Int32 → Int32 → Int32 → Int32 → Int32 → Int32 → Int32 → Int32 → Option (Int32)} (hk422 : ∀ {n0_issued : List Int32} {n0_cand : List Int32} {n0_tree : List Int32} {n0_ends : List Int32} {n0_dig : List Int32} {n0_ev : List Int32} {n0_h : Int32} {n0_leafCount : Int32} {n0_keyed : Int32} {n0_seed : Int32} {n0_root : Int32} {n0_next : Int32} {n0_issuedQ : Int32} {n0_candQ : Int32} {v2 : Int32} {v4 : Int32} {v5 : Int32} {v6 : Int32} {v7 : Int32} {v8 : Int32} {v9 : Int32} {v10 : Int32} {v11 : Int32} {v12 : Int32} {v16 : Int32} {d1 d13 d14 d15 d17 : Slot} {res : Int32}, k422 n0_issued n0_cand n0_tree n0_ends n0_dig n0_ev n0_h n0_leafCount n0_keyed n0_seed n0_root n0_next n0_issuedQ n0_candQ v2 v4 v5 v6 v7 v8 v9 v10 v11 v12 v16 = some res → OEndsQ own_P 0 422 [.val (.ref 0), d1, .val (.int v2), .val (.ref 1), .val (.int v4), .val (.int v5), .val (.int v6), .val (.int v7), .val (.int v8), .val (.int v9), .val (.int v10), .val (.int v11), .val (.int v12), d13, d14, d15, .val (.int v16), d17] [] ((.inr (.inl (false, scr)) : ACell) :: bk0 n0_issued n0_cand n0_tree n0_ends n0_dig n0_ev n0_h n0_leafCount n0_keyed n0_seed n0_root n0_next n0_issuedQ n0_candQ []) (LawQ res 0 0)) : ∀ (n : Nat), ∀ {n0_issued : List Int32} {n0_cand : List Int32} {n0_tree : List Int32} {n0_ends : List Int32} {n0_dig : List Int32} {n0_ev : List Int32} {n0_h : Int32} {n0_leafCount : Int32} {n0_keyed : Int32} {n0_seed : Int32} {n0_root : Int32} {n0_next : Int32} {n0_issuedQ : Int32} {n0_candQ : Int32} {v2 : Int32} {v4 : Int32} {v5 : Int32} {v6 : Int32} {v7 : Int32} {v8 : Int32} {v9 : Int32} {v10 : Int32} {v11 : Int32} {v12 : Int32} {v14 : Int32} {v15 : Int32} {v16 : Int32} {v17 : Int32} {d1 d13 : Slot} {res : Int32}, f_L_law_387 k422 scr n n0_issued n0_cand n0_tree n0_ends n0_dig n0_ev n0_h n0_leafCount n0_keyed n0_seed n0_root n0_next n0_issuedQ n0_candQ v2 v4 v5 v6 v7 v8 v9 v10 v11 v12 v14 v15 v16 v17 = some res → OEndsQ own_P 0 387 [.val (.ref 0), d1, .val (.int v2), .val (.ref 1), .val (.int v4), .val (.int v5), .val (.int v6), .val (.int v7), .val (.int v8), .val (.int v9), .val (.int v10), .val (.int v11), .val (.int v12), d13, .val (.int v14), .val (.int v15), .val (.int v16), .val (.int v17)] [] ((.inr (.inl (false, scr)) : ACell) :: bk0 n0_issued n0_cand n0_tree n0_ends n0_dig n0_ev n0_h n0_leafCount n0_keyed n0_seed n0_root n0_next n0_issuedQ n0_candQ []) (LawQ res 0 0) := by
  intro n
  induction n with
  | zero => intro n0_issued n0_cand n0_tree n0_ends n0_dig n0_ev n0_h n0_leafCount n0_keyed n0_seed n0_root n0_next n0_issuedQ n0_candQ v2 v4 v5 v6 v7 v8 v9 v10 v11 v12 v14 v15 v16 v17 d1 d13 res h; cases h
  | succ n ih =>
    intro n0_issued n0_cand n0_tree n0_ends n0_dig n0_ev n0_h n0_leafCount n0_keyed n0_seed n0_root n0_next n0_issuedQ n0_candQ v2 v4 v5 v6 v7 v8 v9 v10 v11 v12 v14 v15 v16 v17 d1 d13 res h
    unfold f_L_law_387 at h
    refine OEndsQ.adv hm_0 2 (pc' := 391) (L' := [.val (.ref 0), .unset, .val (.int v2), .val (.ref 1), .val (.int v4), .val (.int v5), .val (.int v6), .val (.int v7), .val (.int v8), .val (.int v9), .val (.int v10), .val (.int v11), .val (.int v12), .unset, .val (.int v14), .val (.int v15), .val (.int v16), .val (.int v17)]) (S' := [.int 10, .int v17]) (H' := ((.inr (.inl (false, scr)) : ACell) :: bk0 n0_issued n0_cand n0_tree n0_ends n0_dig n0_ev n0_h n0_leafCount n0_keyed n0_seed n0_root n0_next n0_issuedQ n0_candQ [])) rfl ?_
    by_cases hc70 : v17 < (10 : Int32)
    · simp only [if_pos hc70] at h
      refine OEndsQ.icmpF hm_0 rfl ((tlt hc70).2.1) ?_
      refine OEndsQ.adv hm_0 3 (pc' := 399) (L' := [.val (.ref 0), .unset, .val (.int v2), .val (.ref 1), .val (.int v4), .val (.int v5), .val (.int v6), .val (.int v7), .val (.int v8), .val (.int v9), .val (.int v10), .val (.int v11), .val (.int v12), .unset, .val (.int v14), .val (.int v15), .val (.int v16), .val (.int v17)]) (S' := [.int v17, .int v15, .ref 1]) (H' := ((.inr (.inl (false, scr)) : ACell) :: bk0 n0_issued n0_cand n0_tree n0_ends n0_dig n0_ev n0_h n0_leafCount n0_keyed n0_seed n0_root n0_next n0_issuedQ n0_candQ [])) rfl ?_
      obtain ⟨⟨r97, s98⟩, hq71, h⟩ := bnd h
      refine OEndsQ.call0 hm_0 rfl rfl (by decide) rfl (as := [.ref 1, .int v15, .int v17]) (rest := []) rfl rfl (ok_digit hq71) ?_
      refine OEndsQ.adv hm_0 3 (pc' := 407) (L' := [.val (.ref 0), .unset, .val (.int v2), .val (.ref 1), .val (.int v4), .val (.int v5), .val (.int v6), .val (.int v7), .val (.int v8), .val (.int v9), .val (.int v10), .val (.int v11), .val (.int v12), .unset, .val (.int v14), .val (.int v15), .val (.int v16), .val (.int v17)]) (S' := [.int v17, .int v14, .ref 1, .int r97]) (H' := ((.inr (.inl (false, scr)) : ACell) :: bk0 n0_issued n0_cand n0_tree n0_ends s98 n0_ev n0_h n0_leafCount n0_keyed n0_seed n0_root n0_next n0_issuedQ n0_candQ [])) rfl ?_
      obtain ⟨⟨r99, s100⟩, hq72, h⟩ := bnd h
      refine OEndsQ.call0 hm_0 rfl rfl (by decide) rfl (as := [.ref 1, .int v14, .int v17]) (rest := [.int r97]) rfl rfl (ok_digit hq72) ?_
      show OEndsQ own_P 0 410 [.val (.ref 0), .unset, .val (.int v2), .val (.ref 1), .val (.int v4), .val (.int v5), .val (.int v6), .val (.int v7), .val (.int v8), .val (.int v9), .val (.int v10), .val (.int v11), .val (.int v12), .unset, .val (.int v14), .val (.int v15), .val (.int v16), .val (.int v17)] [.int r99, .int r97] ((.inr (.inl (false, scr)) : ACell) :: bk0 n0_issued n0_cand n0_tree n0_ends s100 n0_ev n0_h n0_leafCount n0_keyed n0_seed n0_root n0_next n0_issuedQ n0_candQ []) _
      by_cases hc73 : r97 < r99
      · simp only [if_pos hc73] at h
        refine OEndsQ.icmpF hm_0 rfl ((tlt hc73).2.1) ?_
        refine OEndsQ.adv hm_0 4 (pc' := 387) (L' := [.val (.ref 0), .unset, .val (.int v2), .val (.ref 1), .val (.int v4), .val (.int v5), .val (.int v6), .val (.int v7), .val (.int v8), .val (.int v9), .val (.int v10), .val (.int v11), .val (.int v12), .unset, .val (.int v14), .val (.int v15), .val (.int 1), .val (.int (v17 + (1 : Int32)))]) (S' := []) (H' := ((.inr (.inl (false, scr)) : ACell) :: bk0 n0_issued n0_cand n0_tree n0_ends s100 n0_ev n0_h n0_leafCount n0_keyed n0_seed n0_root n0_next n0_issuedQ n0_candQ [])) rfl ?_
        exact ih h
      · simp only [if_neg hc73] at h
        refine OEndsQ.icmpT hm_0 rfl (q := 416) rfl ((flt hc73).2.1) ?_
        refine OEndsQ.adv hm_0 2 (pc' := 387) (L' := [.val (.ref 0), .unset, .val (.int v2), .val (.ref 1), .val (.int v4), .val (.int v5), .val (.int v6), .val (.int v7), .val (.int v8), .val (.int v9), .val (.int v10), .val (.int v11), .val (.int v12), .unset, .val (.int v14), .val (.int v15), .val (.int v16), .val (.int (v17 + (1 : Int32)))]) (S' := []) (H' := ((.inr (.inl (false, scr)) : ACell) :: bk0 n0_issued n0_cand n0_tree n0_ends s100 n0_ev n0_h n0_leafCount n0_keyed n0_seed n0_root n0_next n0_issuedQ n0_candQ [])) rfl ?_
        exact ih h
    · simp only [if_neg hc70] at h
      refine OEndsQ.icmpT hm_0 rfl (q := 422) rfl ((flt hc70).2.1) ?_
      show OEndsQ own_P 0 422 [.val (.ref 0), .unset, .val (.int v2), .val (.ref 1), .val (.int v4), .val (.int v5), .val (.int v6), .val (.int v7), .val (.int v8), .val (.int v9), .val (.int v10), .val (.int v11), .val (.int v12), .unset, .val (.int v14), .val (.int v15), .val (.int v16), .val (.int v17)] [] ((.inr (.inl (false, scr)) : ACell) :: bk0 n0_issued n0_cand n0_tree n0_ends n0_dig n0_ev n0_h n0_leafCount n0_keyed n0_seed n0_root n0_next n0_issuedQ n0_candQ []) _
      exact hk422 h
theorem ok_L_law_351 {scr : List Int32} {kb : List Int32 → List Int32 → List Int32 → List Int32 → List Int32 → List Int32 → Int32 → Int32 → Int32 → Int32 → Int32 → Int32 → Int32 → Int32 → Int32 → Int32 → Int32 → Int32 → Int32 → Int32 → Int32 → Int32 → Int32 → Int32 → Option (Int32)} (hkb : ∀ {n0_issued : List Int32} {n0_cand : List Int32} {n0_tree : List Int32} {n0_ends : List Int32} {n0_dig : List Int32} {n0_ev : List Int32} {n0_h : Int32} {n0_leafCount : Int32} {n0_keyed : Int32} {n0_seed : Int32} {n0_root : Int32} {n0_next : Int32} {n0_issuedQ : Int32} {n0_candQ : Int32} {v2 : Int32} {v4 : Int32} {v5 : Int32} {v6 : Int32} {v7 : Int32} {v8 : Int32} {v9 : Int32} {v10 : Int32} {v11 : Int32} {v12 : Int32} {d1 d13 d14 d15 d16 d17 : Slot} {res : Int32}, kb n0_issued n0_cand n0_tree n0_ends n0_dig n0_ev n0_h n0_leafCount n0_keyed n0_seed n0_root n0_next n0_issuedQ n0_candQ v2 v4 v5 v6 v7 v8 v9 v10 v11 v12 = some res → OEndsQ own_P 0 83 [.val (.ref 0), d1, .val (.int v2), .val (.ref 1), .val (.int v4), .val (.int v5), .val (.int v6), .val (.int v7), .val (.int v8), .val (.int v9), .val (.int v10), .val (.int v11), .val (.int v12), d13, d14, d15, d16, d17] [] ((.inr (.inl (false, scr)) : ACell) :: bk0 n0_issued n0_cand n0_tree n0_ends n0_dig n0_ev n0_h n0_leafCount n0_keyed n0_seed n0_root n0_next n0_issuedQ n0_candQ []) (LawQ res 0 0)) : ∀ {n0_issued : List Int32} {n0_cand : List Int32} {n0_tree : List Int32} {n0_ends : List Int32} {n0_dig : List Int32} {n0_ev : List Int32} {n0_h : Int32} {n0_leafCount : Int32} {n0_keyed : Int32} {n0_seed : Int32} {n0_root : Int32} {n0_next : Int32} {n0_issuedQ : Int32} {n0_candQ : Int32} {v2 : Int32} {v4 : Int32} {v5 : Int32} {v6 : Int32} {v7 : Int32} {v8 : Int32} {v9 : Int32} {v10 : Int32} {v11 : Int32} {v12 : Int32} {v13 : Int32} {v14 : Int32} {d1 d15 d16 d17 : Slot} {res : Int32}, f_L_law_351 kb scr n0_issued n0_cand n0_tree n0_ends n0_dig n0_ev n0_h n0_leafCount n0_keyed n0_seed n0_root n0_next n0_issuedQ n0_candQ v2 v4 v5 v6 v7 v8 v9 v10 v11 v12 v13 v14 = some res → OEndsQ own_P 0 351 [.val (.ref 0), d1, .val (.int v2), .val (.ref 1), .val (.int v4), .val (.int v5), .val (.int v6), .val (.int v7), .val (.int v8), .val (.int v9), .val (.int v10), .val (.int v11), .val (.int v12), .val (.int v13), .val (.int v14), d15, d16, d17] [] ((.inr (.inl (false, scr)) : ACell) :: bk0 n0_issued n0_cand n0_tree n0_ends n0_dig n0_ev n0_h n0_leafCount n0_keyed n0_seed n0_root n0_next n0_issuedQ n0_candQ []) (LawQ res 0 0) := by
  intro n0_issued n0_cand n0_tree n0_ends n0_dig n0_ev n0_h n0_leafCount n0_keyed n0_seed n0_root n0_next n0_issuedQ n0_candQ v2 v4 v5 v6 v7 v8 v9 v10 v11 v12 v13 v14 d1 d15 d16 d17 res h
  unfold f_L_law_351 at h
  refine OEndsQ.adv hm_0 2 (pc' := 355) (L' := [.val (.ref 0), .unset, .val (.int v2), .val (.ref 1), .val (.int v4), .val (.int v5), .val (.int v6), .val (.int v7), .val (.int v8), .val (.int v9), .val (.int v10), .val (.int v11), .val (.int v12), .val (.int v13), .val (.int v14), .unset, .unset, .unset]) (S' := [.int 7, .int v13]) (H' := ((.inr (.inl (false, scr)) : ACell) :: bk0 n0_issued n0_cand n0_tree n0_ends n0_dig n0_ev n0_h n0_leafCount n0_keyed n0_seed n0_root n0_next n0_issuedQ n0_candQ [])) rfl ?_
  by_cases hc74 : v13 = (7 : Int32)
  · simp only [if_pos hc74] at h
    refine OEndsQ.icmpF hm_0 rfl ((teq hc74).2) ?_
    refine OEndsQ.adv hm_0 5 (pc' := 365) (L' := [.val (.ref 0), .unset, .val (.int v2), .val (.ref 1), .val (.int v4), .val (.int v5), .val (.int v6), .val (.int v7), .val (.int v8), .val (.int v9), .val (.int v10), .val (.int v11), .val (.int v12), .val (.int v13), .val (.int v14), .unset, .unset, .unset]) (S' := [.int (v12 + (2 : Int32)), .ref 0, .int v14]) (H' := ((.inr (.inl (false, scr)) : ACell) :: bk0 n0_issued n0_cand n0_tree n0_ends n0_dig n0_ev n0_h n0_leafCount n0_keyed n0_seed n0_root n0_next n0_issuedQ n0_candQ [])) rfl ?_
    obtain ⟨r96, hq75, h⟩ := bnd h
    refine OEndsQ.call0 hm_0 rfl rfl (by decide) rfl (as := [.ref 0, .int (v12 + (2 : Int32))]) (rest := [.int v14]) rfl rfl (ok_L_cell hq75) ?_
    refine OEndsQ.adv hm_0 5 (pc' := 378) (L' := [.val (.ref 0), .unset, .val (.int v2), .val (.ref 1), .val (.int v4), .val (.int v5), .val (.int v6), .val (.int v7), .val (.int v8), .val (.int v9), .val (.int v10), .val (.int v11), .val (.int (v12 + (1 : Int32))), .val (.int v13), .val (.int v14), .val (.int (v14 ^^^ r96)), .unset, .unset]) (S' := [.int v14, .int (v14 ^^^ r96)]) (H' := ((.inr (.inl (false, scr)) : ACell) :: bk0 n0_issued n0_cand n0_tree n0_ends n0_dig n0_ev n0_h n0_leafCount n0_keyed n0_seed n0_root n0_next n0_issuedQ n0_candQ [])) rfl ?_
    by_cases hc76 : (v14 ^^^ r96) = v14
    · simp only [if_pos hc76] at h
      refine OEndsQ.icmpT hm_0 rfl (q := 429) rfl ((teq hc76).1) ?_
      show OEndsQ own_P 0 429 [.val (.ref 0), .unset, .val (.int v2), .val (.ref 1), .val (.int v4), .val (.int v5), .val (.int v6), .val (.int v7), .val (.int v8), .val (.int v9), .val (.int v10), .val (.int v11), .val (.int (v12 + (1 : Int32))), .val (.int v13), .val (.int v14), .val (.int (v14 ^^^ r96)), .unset, .unset] [] ((.inr (.inl (false, scr)) : ACell) :: bk0 n0_issued n0_cand n0_tree n0_ends n0_dig n0_ev n0_h n0_leafCount n0_keyed n0_seed n0_root n0_next n0_issuedQ n0_candQ []) _
      exact ok_L_law_429 hkb h
    · simp only [if_neg hc76] at h
      refine OEndsQ.icmpF hm_0 rfl ((feq hc76).1) ?_
      refine OEndsQ.adv hm_0 4 (pc' := 387) (L' := [.val (.ref 0), .unset, .val (.int v2), .val (.ref 1), .val (.int v4), .val (.int v5), .val (.int v6), .val (.int v7), .val (.int v8), .val (.int v9), .val (.int v10), .val (.int v11), .val (.int (v12 + (1 : Int32))), .val (.int v13), .val (.int v14), .val (.int (v14 ^^^ r96)), .val (.int 0), .val (.int 0)]) (S' := []) (H' := ((.inr (.inl (false, scr)) : ACell) :: bk0 n0_issued n0_cand n0_tree n0_ends n0_dig n0_ev n0_h n0_leafCount n0_keyed n0_seed n0_root n0_next n0_issuedQ n0_candQ [])) rfl ?_
      exact ok_L_law_387 (ok_L_law_422 hkb) 100000 h
  · simp only [if_neg hc74] at h
    refine OEndsQ.icmpT hm_0 rfl (q := 429) rfl ((feq hc74).2) ?_
    show OEndsQ own_P 0 429 [.val (.ref 0), .unset, .val (.int v2), .val (.ref 1), .val (.int v4), .val (.int v5), .val (.int v6), .val (.int v7), .val (.int v8), .val (.int v9), .val (.int v10), .val (.int v11), .val (.int v12), .val (.int v13), .val (.int v14), .unset, .unset, .unset] [] ((.inr (.inl (false, scr)) : ACell) :: bk0 n0_issued n0_cand n0_tree n0_ends n0_dig n0_ev n0_h n0_leafCount n0_keyed n0_seed n0_root n0_next n0_issuedQ n0_candQ []) _
    exact ok_L_law_429 hkb h
theorem ok_L_law_328 {scr : List Int32} {kb : List Int32 → List Int32 → List Int32 → List Int32 → List Int32 → List Int32 → Int32 → Int32 → Int32 → Int32 → Int32 → Int32 → Int32 → Int32 → Int32 → Int32 → Int32 → Int32 → Int32 → Int32 → Int32 → Int32 → Int32 → Int32 → Option (Int32)} (hkb : ∀ {n0_issued : List Int32} {n0_cand : List Int32} {n0_tree : List Int32} {n0_ends : List Int32} {n0_dig : List Int32} {n0_ev : List Int32} {n0_h : Int32} {n0_leafCount : Int32} {n0_keyed : Int32} {n0_seed : Int32} {n0_root : Int32} {n0_next : Int32} {n0_issuedQ : Int32} {n0_candQ : Int32} {v2 : Int32} {v4 : Int32} {v5 : Int32} {v6 : Int32} {v7 : Int32} {v8 : Int32} {v9 : Int32} {v10 : Int32} {v11 : Int32} {v12 : Int32} {d1 d13 d14 d15 d16 d17 : Slot} {res : Int32}, kb n0_issued n0_cand n0_tree n0_ends n0_dig n0_ev n0_h n0_leafCount n0_keyed n0_seed n0_root n0_next n0_issuedQ n0_candQ v2 v4 v5 v6 v7 v8 v9 v10 v11 v12 = some res → OEndsQ own_P 0 83 [.val (.ref 0), d1, .val (.int v2), .val (.ref 1), .val (.int v4), .val (.int v5), .val (.int v6), .val (.int v7), .val (.int v8), .val (.int v9), .val (.int v10), .val (.int v11), .val (.int v12), d13, d14, d15, d16, d17] [] ((.inr (.inl (false, scr)) : ACell) :: bk0 n0_issued n0_cand n0_tree n0_ends n0_dig n0_ev n0_h n0_leafCount n0_keyed n0_seed n0_root n0_next n0_issuedQ n0_candQ []) (LawQ res 0 0)) : ∀ {n0_issued : List Int32} {n0_cand : List Int32} {n0_tree : List Int32} {n0_ends : List Int32} {n0_dig : List Int32} {n0_ev : List Int32} {n0_h : Int32} {n0_leafCount : Int32} {n0_keyed : Int32} {n0_seed : Int32} {n0_root : Int32} {n0_next : Int32} {n0_issuedQ : Int32} {n0_candQ : Int32} {v2 : Int32} {v4 : Int32} {v5 : Int32} {v6 : Int32} {v7 : Int32} {v8 : Int32} {v9 : Int32} {v10 : Int32} {v11 : Int32} {v12 : Int32} {v13 : Int32} {v14 : Int32} {d1 d15 d16 d17 : Slot} {res : Int32}, f_L_law_328 kb scr n0_issued n0_cand n0_tree n0_ends n0_dig n0_ev n0_h n0_leafCount n0_keyed n0_seed n0_root n0_next n0_issuedQ n0_candQ v2 v4 v5 v6 v7 v8 v9 v10 v11 v12 v13 v14 = some res → OEndsQ own_P 0 328 [.val (.ref 0), d1, .val (.int v2), .val (.ref 1), .val (.int v4), .val (.int v5), .val (.int v6), .val (.int v7), .val (.int v8), .val (.int v9), .val (.int v10), .val (.int v11), .val (.int v12), .val (.int v13), .val (.int v14), d15, d16, d17] [] ((.inr (.inl (false, scr)) : ACell) :: bk0 n0_issued n0_cand n0_tree n0_ends n0_dig n0_ev n0_h n0_leafCount n0_keyed n0_seed n0_root n0_next n0_issuedQ n0_candQ []) (LawQ res 0 0) := by
  intro n0_issued n0_cand n0_tree n0_ends n0_dig n0_ev n0_h n0_leafCount n0_keyed n0_seed n0_root n0_next n0_issuedQ n0_candQ v2 v4 v5 v6 v7 v8 v9 v10 v11 v12 v13 v14 d1 d15 d16 d17 res h
  unfold f_L_law_328 at h
  refine OEndsQ.adv hm_0 2 (pc' := 331) (L' := [.val (.ref 0), .unset, .val (.int v2), .val (.ref 1), .val (.int v4), .val (.int v5), .val (.int v6), .val (.int v7), .val (.int v8), .val (.int v9), .val (.int v10), .val (.int v11), .val (.int v12), .val (.int v13), .val (.int v14), .unset, .unset, .unset]) (S' := [.int 5, .int v13]) (H' := ((.inr (.inl (false, scr)) : ACell) :: bk0 n0_issued n0_cand n0_tree n0_ends n0_dig n0_ev n0_h n0_leafCount n0_keyed n0_seed n0_root n0_next n0_issuedQ n0_candQ [])) rfl ?_
  by_cases hc77 : v13 = (5 : Int32)
  · simp only [if_pos hc77] at h
    refine OEndsQ.icmpF hm_0 rfl ((teq hc77).2) ?_
    refine OEndsQ.adv hm_0 7 (pc' := 344) (L' := [.val (.ref 0), .unset, .val (.int v2), .val (.ref 1), .val (.int v4), .val (.int v5), .val (.int v6), .val (.int v7), .val (.int v8), .val (.int v9), .val (.int v10), .val (.int v11), .val (.int v12), .val (.int v13), .val (.int v14), .unset, .unset, .unset]) (S' := [.int (XT.ushr v14 (4 : Int32)), .int (v14 &&& (15 : Int32)), .ref 1]) (H' := ((.inr (.inl (false, scr)) : ACell) :: bk0 n0_issued n0_cand n0_tree n0_ends n0_dig n0_ev n0_h n0_leafCount n0_keyed n0_seed n0_root n0_next n0_issuedQ n0_candQ [])) rfl ?_
    obtain ⟨⟨r94, s95⟩, hq78, h⟩ := bnd h
    refine OEndsQ.call0 hm_0 rfl rfl (by decide) rfl (as := [.ref 1, .int (v14 &&& (15 : Int32)), .int (XT.ushr v14 (4 : Int32))]) (rest := []) rfl rfl (ok_setCandidateValue hq78) ?_
    refine OEndsQ.adv hm_0 3 (pc' := 351) (L' := [.val (.ref 0), .unset, .val (.int v2), .val (.ref 1), .val (.int v4), .val (.int v5), .val (.int v6), .val (.int v7), .val (.int v8), .val (.int v9), .val (.int 0), .val (.int v11), .val (.int v12), .val (.int v13), .val (.int v14), .unset, .unset, .unset]) (S' := []) (H' := ((.inr (.inl (false, scr)) : ACell) :: bk0 n0_issued s95 n0_tree n0_ends n0_dig n0_ev n0_h n0_leafCount n0_keyed n0_seed n0_root n0_next n0_issuedQ n0_candQ [])) rfl ?_
    exact ok_L_law_351 hkb h
  · simp only [if_neg hc77] at h
    refine OEndsQ.icmpT hm_0 rfl (q := 351) rfl ((feq hc77).2) ?_
    show OEndsQ own_P 0 351 [.val (.ref 0), .unset, .val (.int v2), .val (.ref 1), .val (.int v4), .val (.int v5), .val (.int v6), .val (.int v7), .val (.int v8), .val (.int v9), .val (.int v10), .val (.int v11), .val (.int v12), .val (.int v13), .val (.int v14), .unset, .unset, .unset] [] ((.inr (.inl (false, scr)) : ACell) :: bk0 n0_issued n0_cand n0_tree n0_ends n0_dig n0_ev n0_h n0_leafCount n0_keyed n0_seed n0_root n0_next n0_issuedQ n0_candQ []) _
    exact ok_L_law_351 hkb h
theorem ok_L_law_309 {scr : List Int32} {kb : List Int32 → List Int32 → List Int32 → List Int32 → List Int32 → List Int32 → Int32 → Int32 → Int32 → Int32 → Int32 → Int32 → Int32 → Int32 → Int32 → Int32 → Int32 → Int32 → Int32 → Int32 → Int32 → Int32 → Int32 → Int32 → Option (Int32)} (hkb : ∀ {n0_issued : List Int32} {n0_cand : List Int32} {n0_tree : List Int32} {n0_ends : List Int32} {n0_dig : List Int32} {n0_ev : List Int32} {n0_h : Int32} {n0_leafCount : Int32} {n0_keyed : Int32} {n0_seed : Int32} {n0_root : Int32} {n0_next : Int32} {n0_issuedQ : Int32} {n0_candQ : Int32} {v2 : Int32} {v4 : Int32} {v5 : Int32} {v6 : Int32} {v7 : Int32} {v8 : Int32} {v9 : Int32} {v10 : Int32} {v11 : Int32} {v12 : Int32} {d1 d13 d14 d15 d16 d17 : Slot} {res : Int32}, kb n0_issued n0_cand n0_tree n0_ends n0_dig n0_ev n0_h n0_leafCount n0_keyed n0_seed n0_root n0_next n0_issuedQ n0_candQ v2 v4 v5 v6 v7 v8 v9 v10 v11 v12 = some res → OEndsQ own_P 0 83 [.val (.ref 0), d1, .val (.int v2), .val (.ref 1), .val (.int v4), .val (.int v5), .val (.int v6), .val (.int v7), .val (.int v8), .val (.int v9), .val (.int v10), .val (.int v11), .val (.int v12), d13, d14, d15, d16, d17] [] ((.inr (.inl (false, scr)) : ACell) :: bk0 n0_issued n0_cand n0_tree n0_ends n0_dig n0_ev n0_h n0_leafCount n0_keyed n0_seed n0_root n0_next n0_issuedQ n0_candQ []) (LawQ res 0 0)) : ∀ {n0_issued : List Int32} {n0_cand : List Int32} {n0_tree : List Int32} {n0_ends : List Int32} {n0_dig : List Int32} {n0_ev : List Int32} {n0_h : Int32} {n0_leafCount : Int32} {n0_keyed : Int32} {n0_seed : Int32} {n0_root : Int32} {n0_next : Int32} {n0_issuedQ : Int32} {n0_candQ : Int32} {v2 : Int32} {v4 : Int32} {v5 : Int32} {v6 : Int32} {v7 : Int32} {v8 : Int32} {v9 : Int32} {v10 : Int32} {v11 : Int32} {v12 : Int32} {v13 : Int32} {v14 : Int32} {d1 d15 d16 d17 : Slot} {res : Int32}, f_L_law_309 kb scr n0_issued n0_cand n0_tree n0_ends n0_dig n0_ev n0_h n0_leafCount n0_keyed n0_seed n0_root n0_next n0_issuedQ n0_candQ v2 v4 v5 v6 v7 v8 v9 v10 v11 v12 v13 v14 = some res → OEndsQ own_P 0 309 [.val (.ref 0), d1, .val (.int v2), .val (.ref 1), .val (.int v4), .val (.int v5), .val (.int v6), .val (.int v7), .val (.int v8), .val (.int v9), .val (.int v10), .val (.int v11), .val (.int v12), .val (.int v13), .val (.int v14), d15, d16, d17] [] ((.inr (.inl (false, scr)) : ACell) :: bk0 n0_issued n0_cand n0_tree n0_ends n0_dig n0_ev n0_h n0_leafCount n0_keyed n0_seed n0_root n0_next n0_issuedQ n0_candQ []) (LawQ res 0 0) := by
  intro n0_issued n0_cand n0_tree n0_ends n0_dig n0_ev n0_h n0_leafCount n0_keyed n0_seed n0_root n0_next n0_issuedQ n0_candQ v2 v4 v5 v6 v7 v8 v9 v10 v11 v12 v13 v14 d1 d15 d16 d17 res h
  unfold f_L_law_309 at h
  refine OEndsQ.adv hm_0 2 (pc' := 312) (L' := [.val (.ref 0), .unset, .val (.int v2), .val (.ref 1), .val (.int v4), .val (.int v5), .val (.int v6), .val (.int v7), .val (.int v8), .val (.int v9), .val (.int v10), .val (.int v11), .val (.int v12), .val (.int v13), .val (.int v14), .unset, .unset, .unset]) (S' := [.int 4, .int v13]) (H' := ((.inr (.inl (false, scr)) : ACell) :: bk0 n0_issued n0_cand n0_tree n0_ends n0_dig n0_ev n0_h n0_leafCount n0_keyed n0_seed n0_root n0_next n0_issuedQ n0_candQ [])) rfl ?_
  by_cases hc79 : v13 = (4 : Int32)
  · simp only [if_pos hc79] at h
    refine OEndsQ.icmpF hm_0 rfl ((teq hc79).2) ?_
    refine OEndsQ.adv hm_0 4 (pc' := 321) (L' := [.val (.ref 0), .unset, .val (.int v2), .val (.ref 1), .val (.int v4), .val (.int v5), .val (.int v6), .val (.int v7), .val (.int v8), .val (.int v9), .val (.int v10), .val (.int v11), .val (.int v12), .val (.int v13), .val (.int v14), .unset, .unset, .unset]) (S' := [.int (v14 &&& (15 : Int32)), .ref 1]) (H' := ((.inr (.inl (false, scr)) : ACell) :: bk0 n0_issued n0_cand n0_tree n0_ends n0_dig n0_ev n0_h n0_leafCount n0_keyed n0_seed n0_root n0_next n0_issuedQ n0_candQ [])) rfl ?_
    obtain ⟨⟨r92, s93⟩, hq80, h⟩ := bnd h
    refine OEndsQ.call0 hm_0 rfl rfl (by decide) rfl (as := [.ref 1, .int (v14 &&& (15 : Int32))]) (rest := []) rfl rfl (ok_setCandidateLeaf hq80) ?_
    refine OEndsQ.adv hm_0 3 (pc' := 328) (L' := [.val (.ref 0), .unset, .val (.int v2), .val (.ref 1), .val (.int v4), .val (.int v5), .val (.int v6), .val (.int v7), .val (.int v8), .val (.int v9), .val (.int 0), .val (.int v11), .val (.int v12), .val (.int v13), .val (.int v14), .unset, .unset, .unset]) (S' := []) (H' := ((.inr (.inl (false, scr)) : ACell) :: bk0 n0_issued n0_cand n0_tree n0_ends n0_dig n0_ev n0_h n0_leafCount n0_keyed n0_seed n0_root n0_next n0_issuedQ s93 [])) rfl ?_
    exact ok_L_law_328 hkb h
  · simp only [if_neg hc79] at h
    refine OEndsQ.icmpT hm_0 rfl (q := 328) rfl ((feq hc79).2) ?_
    show OEndsQ own_P 0 328 [.val (.ref 0), .unset, .val (.int v2), .val (.ref 1), .val (.int v4), .val (.int v5), .val (.int v6), .val (.int v7), .val (.int v8), .val (.int v9), .val (.int v10), .val (.int v11), .val (.int v12), .val (.int v13), .val (.int v14), .unset, .unset, .unset] [] ((.inr (.inl (false, scr)) : ACell) :: bk0 n0_issued n0_cand n0_tree n0_ends n0_dig n0_ev n0_h n0_leafCount n0_keyed n0_seed n0_root n0_next n0_issuedQ n0_candQ []) _
    exact ok_L_law_328 hkb h
theorem ok_L_law_293 {scr : List Int32} {kb : List Int32 → List Int32 → List Int32 → List Int32 → List Int32 → List Int32 → Int32 → Int32 → Int32 → Int32 → Int32 → Int32 → Int32 → Int32 → Int32 → Int32 → Int32 → Int32 → Int32 → Int32 → Int32 → Int32 → Int32 → Int32 → Option (Int32)} (hkb : ∀ {n0_issued : List Int32} {n0_cand : List Int32} {n0_tree : List Int32} {n0_ends : List Int32} {n0_dig : List Int32} {n0_ev : List Int32} {n0_h : Int32} {n0_leafCount : Int32} {n0_keyed : Int32} {n0_seed : Int32} {n0_root : Int32} {n0_next : Int32} {n0_issuedQ : Int32} {n0_candQ : Int32} {v2 : Int32} {v4 : Int32} {v5 : Int32} {v6 : Int32} {v7 : Int32} {v8 : Int32} {v9 : Int32} {v10 : Int32} {v11 : Int32} {v12 : Int32} {d1 d13 d14 d15 d16 d17 : Slot} {res : Int32}, kb n0_issued n0_cand n0_tree n0_ends n0_dig n0_ev n0_h n0_leafCount n0_keyed n0_seed n0_root n0_next n0_issuedQ n0_candQ v2 v4 v5 v6 v7 v8 v9 v10 v11 v12 = some res → OEndsQ own_P 0 83 [.val (.ref 0), d1, .val (.int v2), .val (.ref 1), .val (.int v4), .val (.int v5), .val (.int v6), .val (.int v7), .val (.int v8), .val (.int v9), .val (.int v10), .val (.int v11), .val (.int v12), d13, d14, d15, d16, d17] [] ((.inr (.inl (false, scr)) : ACell) :: bk0 n0_issued n0_cand n0_tree n0_ends n0_dig n0_ev n0_h n0_leafCount n0_keyed n0_seed n0_root n0_next n0_issuedQ n0_candQ []) (LawQ res 0 0)) : ∀ {n0_issued : List Int32} {n0_cand : List Int32} {n0_tree : List Int32} {n0_ends : List Int32} {n0_dig : List Int32} {n0_ev : List Int32} {n0_h : Int32} {n0_leafCount : Int32} {n0_keyed : Int32} {n0_seed : Int32} {n0_root : Int32} {n0_next : Int32} {n0_issuedQ : Int32} {n0_candQ : Int32} {v2 : Int32} {v4 : Int32} {v5 : Int32} {v6 : Int32} {v7 : Int32} {v8 : Int32} {v9 : Int32} {v10 : Int32} {v11 : Int32} {v12 : Int32} {v13 : Int32} {v14 : Int32} {d1 d15 d16 d17 : Slot} {res : Int32}, f_L_law_293 kb scr n0_issued n0_cand n0_tree n0_ends n0_dig n0_ev n0_h n0_leafCount n0_keyed n0_seed n0_root n0_next n0_issuedQ n0_candQ v2 v4 v5 v6 v7 v8 v9 v10 v11 v12 v13 v14 = some res → OEndsQ own_P 0 293 [.val (.ref 0), d1, .val (.int v2), .val (.ref 1), .val (.int v4), .val (.int v5), .val (.int v6), .val (.int v7), .val (.int v8), .val (.int v9), .val (.int v10), .val (.int v11), .val (.int v12), .val (.int v13), .val (.int v14), d15, d16, d17] [] ((.inr (.inl (false, scr)) : ACell) :: bk0 n0_issued n0_cand n0_tree n0_ends n0_dig n0_ev n0_h n0_leafCount n0_keyed n0_seed n0_root n0_next n0_issuedQ n0_candQ []) (LawQ res 0 0) := by
  intro n0_issued n0_cand n0_tree n0_ends n0_dig n0_ev n0_h n0_leafCount n0_keyed n0_seed n0_root n0_next n0_issuedQ n0_candQ v2 v4 v5 v6 v7 v8 v9 v10 v11 v12 v13 v14 d1 d15 d16 d17 res h
  unfold f_L_law_293 at h
  refine OEndsQ.adv hm_0 1 (pc' := 295) (L' := [.val (.ref 0), .unset, .val (.int v2), .val (.ref 1), .val (.int v4), .val (.int v5), .val (.int v6), .val (.int v7), .val (.int v8), .val (.int v9), .val (.int v10), .val (.int v11), .val (.int v12), .val (.int v13), .val (.int v14), .unset, .unset, .unset]) (S' := [.int v10]) (H' := ((.inr (.inl (false, scr)) : ACell) :: bk0 n0_issued n0_cand n0_tree n0_ends n0_dig n0_ev n0_h n0_leafCount n0_keyed n0_seed n0_root n0_next n0_issuedQ n0_candQ [])) rfl ?_
  by_cases hc81 : v10 = (0 : Int32)
  · simp only [if_pos hc81] at h
    refine OEndsQ.ifT hm_0 rfl (q := 309) rfl ((teq hc81).1) ?_
    show OEndsQ own_P 0 309 [.val (.ref 0), .unset, .val (.int v2), .val (.ref 1), .val (.int v4), .val (.int v5), .val (.int v6), .val (.int v7), .val (.int v8), .val (.int v9), .val (.int v10), .val (.int v11), .val (.int v12), .val (.int v13), .val (.int v14), .unset, .unset, .unset] [] ((.inr (.inl (false, scr)) : ACell) :: bk0 n0_issued n0_cand n0_tree n0_ends n0_dig n0_ev n0_h n0_leafCount n0_keyed n0_seed n0_root n0_next n0_issuedQ n0_candQ []) _
    exact ok_L_law_309 hkb h
  · simp only [if_neg hc81] at h
    refine OEndsQ.ifF hm_0 rfl ((feq hc81).1) ?_
    refine OEndsQ.adv hm_0 2 (pc' := 301) (L' := [.val (.ref 0), .unset, .val (.int v2), .val (.ref 1), .val (.int v4), .val (.int v5), .val (.int v6), .val (.int v7), .val (.int v8), .val (.int v9), .val (.int v10), .val (.int v11), .val (.int v12), .val (.int v13), .val (.int v14), .unset, .unset, .unset]) (S' := [.int v11, .ref 1]) (H' := ((.inr (.inl (false, scr)) : ACell) :: bk0 n0_issued n0_cand n0_tree n0_ends n0_dig n0_ev n0_h n0_leafCount n0_keyed n0_seed n0_root n0_next n0_issuedQ n0_candQ [])) rfl ?_
    obtain ⟨⟨r102, s103, s104⟩, hq82, h⟩ := bnd h
    refine OEndsQ.call0 hm_0 rfl rfl (by decide) rfl (as := [.ref 1, .int v11]) (rest := []) rfl rfl (ok_verify hq82) ?_
    show OEndsQ own_P 0 304 [.val (.ref 0), .unset, .val (.int v2), .val (.ref 1), .val (.int v4), .val (.int v5), .val (.int v6), .val (.int v7), .val (.int v8), .val (.int v9), .val (.int v10), .val (.int v11), .val (.int v12), .val (.int v13), .val (.int v14), .unset, .unset, .unset] [.int r102] ((.inr (.inl (false, scr)) : ACell) :: bk0 n0_issued n0_cand n0_tree n0_ends s103 s104 n0_h n0_leafCount n0_keyed n0_seed n0_root n0_next n0_issuedQ n0_candQ []) _
    by_cases hc83 : r102 = (0 : Int32)
    · simp only [if_pos hc83] at h
      refine OEndsQ.ifF hm_0 rfl ((teq hc83).2) ?_
      refine OEndsQ.adv hm_0 1 (pc' := 308) (L' := [.val (.ref 0), .unset, .val (.int v2), .val (.ref 1), .val (.int v4), .val (.int v5), .val (.int v6), .val (.int v7), .val (.int v8), .val (.int v9), .val (.int v10), .val (.int v11), .val (.int v12), .val (.int v13), .val (.int v14), .unset, .unset, .unset]) (S' := [.int 0]) (H' := ((.inr (.inl (false, scr)) : ACell) :: bk0 n0_issued n0_cand n0_tree n0_ends s103 s104 n0_h n0_leafCount n0_keyed n0_seed n0_root n0_next n0_issuedQ n0_candQ [])) rfl ?_
      cases h
      exact OEndsQ.iret hm_0 rfl rfl
    · simp only [if_neg hc83] at h
      refine OEndsQ.ifT hm_0 rfl (q := 309) rfl ((feq hc83).2) ?_
      show OEndsQ own_P 0 309 [.val (.ref 0), .unset, .val (.int v2), .val (.ref 1), .val (.int v4), .val (.int v5), .val (.int v6), .val (.int v7), .val (.int v8), .val (.int v9), .val (.int v10), .val (.int v11), .val (.int v12), .val (.int v13), .val (.int v14), .unset, .unset, .unset] [] ((.inr (.inl (false, scr)) : ACell) :: bk0 n0_issued n0_cand n0_tree n0_ends s103 s104 n0_h n0_leafCount n0_keyed n0_seed n0_root n0_next n0_issuedQ n0_candQ []) _
      exact ok_L_law_309 hkb h
theorem ok_L_law_280 {scr : List Int32} {kb : List Int32 → List Int32 → List Int32 → List Int32 → List Int32 → List Int32 → Int32 → Int32 → Int32 → Int32 → Int32 → Int32 → Int32 → Int32 → Int32 → Int32 → Int32 → Int32 → Int32 → Int32 → Int32 → Int32 → Int32 → Int32 → Option (Int32)} (hkb : ∀ {n0_issued : List Int32} {n0_cand : List Int32} {n0_tree : List Int32} {n0_ends : List Int32} {n0_dig : List Int32} {n0_ev : List Int32} {n0_h : Int32} {n0_leafCount : Int32} {n0_keyed : Int32} {n0_seed : Int32} {n0_root : Int32} {n0_next : Int32} {n0_issuedQ : Int32} {n0_candQ : Int32} {v2 : Int32} {v4 : Int32} {v5 : Int32} {v6 : Int32} {v7 : Int32} {v8 : Int32} {v9 : Int32} {v10 : Int32} {v11 : Int32} {v12 : Int32} {d1 d13 d14 d15 d16 d17 : Slot} {res : Int32}, kb n0_issued n0_cand n0_tree n0_ends n0_dig n0_ev n0_h n0_leafCount n0_keyed n0_seed n0_root n0_next n0_issuedQ n0_candQ v2 v4 v5 v6 v7 v8 v9 v10 v11 v12 = some res → OEndsQ own_P 0 83 [.val (.ref 0), d1, .val (.int v2), .val (.ref 1), .val (.int v4), .val (.int v5), .val (.int v6), .val (.int v7), .val (.int v8), .val (.int v9), .val (.int v10), .val (.int v11), .val (.int v12), d13, d14, d15, d16, d17] [] ((.inr (.inl (false, scr)) : ACell) :: bk0 n0_issued n0_cand n0_tree n0_ends n0_dig n0_ev n0_h n0_leafCount n0_keyed n0_seed n0_root n0_next n0_issuedQ n0_candQ []) (LawQ res 0 0)) : ∀ {n0_issued : List Int32} {n0_cand : List Int32} {n0_tree : List Int32} {n0_ends : List Int32} {n0_dig : List Int32} {n0_ev : List Int32} {n0_h : Int32} {n0_leafCount : Int32} {n0_keyed : Int32} {n0_seed : Int32} {n0_root : Int32} {n0_next : Int32} {n0_issuedQ : Int32} {n0_candQ : Int32} {v2 : Int32} {v4 : Int32} {v5 : Int32} {v6 : Int32} {v7 : Int32} {v8 : Int32} {v9 : Int32} {v10 : Int32} {v11 : Int32} {v12 : Int32} {v13 : Int32} {v14 : Int32} {d1 d15 d16 d17 : Slot} {res : Int32}, f_L_law_280 kb scr n0_issued n0_cand n0_tree n0_ends n0_dig n0_ev n0_h n0_leafCount n0_keyed n0_seed n0_root n0_next n0_issuedQ n0_candQ v2 v4 v5 v6 v7 v8 v9 v10 v11 v12 v13 v14 = some res → OEndsQ own_P 0 280 [.val (.ref 0), d1, .val (.int v2), .val (.ref 1), .val (.int v4), .val (.int v5), .val (.int v6), .val (.int v7), .val (.int v8), .val (.int v9), .val (.int v10), .val (.int v11), .val (.int v12), .val (.int v13), .val (.int v14), d15, d16, d17] [] ((.inr (.inl (false, scr)) : ACell) :: bk0 n0_issued n0_cand n0_tree n0_ends n0_dig n0_ev n0_h n0_leafCount n0_keyed n0_seed n0_root n0_next n0_issuedQ n0_candQ []) (LawQ res 0 0) := by
  intro n0_issued n0_cand n0_tree n0_ends n0_dig n0_ev n0_h n0_leafCount n0_keyed n0_seed n0_root n0_next n0_issuedQ n0_candQ v2 v4 v5 v6 v7 v8 v9 v10 v11 v12 v13 v14 d1 d15 d16 d17 res h
  unfold f_L_law_280 at h
  refine OEndsQ.adv hm_0 2 (pc' := 283) (L' := [.val (.ref 0), .unset, .val (.int v2), .val (.ref 1), .val (.int v4), .val (.int v5), .val (.int v6), .val (.int v7), .val (.int v8), .val (.int v9), .val (.int v10), .val (.int v11), .val (.int v12), .val (.int v13), .val (.int v14), .unset, .unset, .unset]) (S' := [.int 3, .int v13]) (H' := ((.inr (.inl (false, scr)) : ACell) :: bk0 n0_issued n0_cand n0_tree n0_ends n0_dig n0_ev n0_h n0_leafCount n0_keyed n0_seed n0_root n0_next n0_issuedQ n0_candQ [])) rfl ?_
  by_cases hc84 : v13 = (3 : Int32)
  · simp only [if_pos hc84] at h
    refine OEndsQ.icmpT hm_0 rfl (q := 293) rfl ((teq hc84).1) ?_
    show OEndsQ own_P 0 293 [.val (.ref 0), .unset, .val (.int v2), .val (.ref 1), .val (.int v4), .val (.int v5), .val (.int v6), .val (.int v7), .val (.int v8), .val (.int v9), .val (.int v10), .val (.int v11), .val (.int v12), .val (.int v13), .val (.int v14), .unset, .unset, .unset] [] ((.inr (.inl (false, scr)) : ACell) :: bk0 n0_issued n0_cand n0_tree n0_ends n0_dig n0_ev n0_h n0_leafCount n0_keyed n0_seed n0_root n0_next n0_issuedQ n0_candQ []) _
    exact ok_L_law_293 hkb h
  · simp only [if_neg hc84] at h
    refine OEndsQ.icmpF hm_0 rfl ((feq hc84).1) ?_
    refine OEndsQ.adv hm_0 2 (pc' := 290) (L' := [.val (.ref 0), .unset, .val (.int v2), .val (.ref 1), .val (.int v4), .val (.int v5), .val (.int v6), .val (.int v7), .val (.int v8), .val (.int v9), .val (.int v10), .val (.int v11), .val (.int v12), .val (.int v13), .val (.int v14), .unset, .unset, .unset]) (S' := [.int 6, .int v13]) (H' := ((.inr (.inl (false, scr)) : ACell) :: bk0 n0_issued n0_cand n0_tree n0_ends n0_dig n0_ev n0_h n0_leafCount n0_keyed n0_seed n0_root n0_next n0_issuedQ n0_candQ [])) rfl ?_
    by_cases hc85 : v13 = (6 : Int32)
    · simp only [if_pos hc85] at h
      refine OEndsQ.icmpF hm_0 rfl ((teq hc85).2) ?_
      show OEndsQ own_P 0 293 [.val (.ref 0), .unset, .val (.int v2), .val (.ref 1), .val (.int v4), .val (.int v5), .val (.int v6), .val (.int v7), .val (.int v8), .val (.int v9), .val (.int v10), .val (.int v11), .val (.int v12), .val (.int v13), .val (.int v14), .unset, .unset, .unset] [] ((.inr (.inl (false, scr)) : ACell) :: bk0 n0_issued n0_cand n0_tree n0_ends n0_dig n0_ev n0_h n0_leafCount n0_keyed n0_seed n0_root n0_next n0_issuedQ n0_candQ []) _
      exact ok_L_law_293 hkb h
    · simp only [if_neg hc85] at h
      refine OEndsQ.icmpT hm_0 rfl (q := 309) rfl ((feq hc85).2) ?_
      show OEndsQ own_P 0 309 [.val (.ref 0), .unset, .val (.int v2), .val (.ref 1), .val (.int v4), .val (.int v5), .val (.int v6), .val (.int v7), .val (.int v8), .val (.int v9), .val (.int v10), .val (.int v11), .val (.int v12), .val (.int v13), .val (.int v14), .unset, .unset, .unset] [] ((.inr (.inl (false, scr)) : ACell) :: bk0 n0_issued n0_cand n0_tree n0_ends n0_dig n0_ev n0_h n0_leafCount n0_keyed n0_seed n0_root n0_next n0_issuedQ n0_candQ []) _
      exact ok_L_law_309 hkb h
theorem ok_L_law_238 {scr : List Int32} {kb : List Int32 → List Int32 → List Int32 → List Int32 → List Int32 → List Int32 → Int32 → Int32 → Int32 → Int32 → Int32 → Int32 → Int32 → Int32 → Int32 → Int32 → Int32 → Int32 → Int32 → Int32 → Int32 → Int32 → Int32 → Int32 → Option (Int32)} (hkb : ∀ {n0_issued : List Int32} {n0_cand : List Int32} {n0_tree : List Int32} {n0_ends : List Int32} {n0_dig : List Int32} {n0_ev : List Int32} {n0_h : Int32} {n0_leafCount : Int32} {n0_keyed : Int32} {n0_seed : Int32} {n0_root : Int32} {n0_next : Int32} {n0_issuedQ : Int32} {n0_candQ : Int32} {v2 : Int32} {v4 : Int32} {v5 : Int32} {v6 : Int32} {v7 : Int32} {v8 : Int32} {v9 : Int32} {v10 : Int32} {v11 : Int32} {v12 : Int32} {d1 d13 d14 d15 d16 d17 : Slot} {res : Int32}, kb n0_issued n0_cand n0_tree n0_ends n0_dig n0_ev n0_h n0_leafCount n0_keyed n0_seed n0_root n0_next n0_issuedQ n0_candQ v2 v4 v5 v6 v7 v8 v9 v10 v11 v12 = some res → OEndsQ own_P 0 83 [.val (.ref 0), d1, .val (.int v2), .val (.ref 1), .val (.int v4), .val (.int v5), .val (.int v6), .val (.int v7), .val (.int v8), .val (.int v9), .val (.int v10), .val (.int v11), .val (.int v12), d13, d14, d15, d16, d17] [] ((.inr (.inl (false, scr)) : ACell) :: bk0 n0_issued n0_cand n0_tree n0_ends n0_dig n0_ev n0_h n0_leafCount n0_keyed n0_seed n0_root n0_next n0_issuedQ n0_candQ []) (LawQ res 0 0)) : ∀ {n0_issued : List Int32} {n0_cand : List Int32} {n0_tree : List Int32} {n0_ends : List Int32} {n0_dig : List Int32} {n0_ev : List Int32} {n0_h : Int32} {n0_leafCount : Int32} {n0_keyed : Int32} {n0_seed : Int32} {n0_root : Int32} {n0_next : Int32} {n0_issuedQ : Int32} {n0_candQ : Int32} {v2 : Int32} {v4 : Int32} {v5 : Int32} {v6 : Int32} {v7 : Int32} {v8 : Int32} {v9 : Int32} {v11 : Int32} {v12 : Int32} {v13 : Int32} {v14 : Int32} {d1 d10 d15 d16 d17 : Slot} {res : Int32}, f_L_law_238 kb scr n0_issued n0_cand n0_tree n0_ends n0_dig n0_ev n0_h n0_leafCount n0_keyed n0_seed n0_root n0_next n0_issuedQ n0_candQ v2 v4 v5 v6 v7 v8 v9 v11 v12 v13 v14 = some res → OEndsQ own_P 0 238 [.val (.ref 0), d1, .val (.int v2), .val (.ref 1), .val (.int v4), .val (.int v5), .val (.int v6), .val (.int v7), .val (.int v8), .val (.int v9), d10, .val (.int v11), .val (.int v12), .val (.int v13), .val (.int v14), d15, d16, d17] [] ((.inr (.inl (false, scr)) : ACell) :: bk0 n0_issued n0_cand n0_tree n0_ends n0_dig n0_ev n0_h n0_leafCount n0_keyed n0_seed n0_root n0_next n0_issuedQ n0_candQ []) (LawQ res 0 0) := by
  intro n0_issued n0_cand n0_tree n0_ends n0_dig n0_ev n0_h n0_leafCount n0_keyed n0_seed n0_root n0_next n0_issuedQ n0_candQ v2 v4 v5 v6 v7 v8 v9 v11 v12 v13 v14 d1 d10 d15 d16 d17 res h
  unfold f_L_law_238 at h
  refine OEndsQ.adv hm_0 1 (pc' := 239) (L' := [.val (.ref 0), .unset, .val (.int v2), .val (.ref 1), .val (.int v4), .val (.int v5), .val (.int v6), .val (.int v7), .val (.int v8), .val (.int v9), .unset, .val (.int v11), .val (.int v12), .val (.int v13), .val (.int v14), .unset, .unset, .unset]) (S' := [.ref 1]) (H' := ((.inr (.inl (false, scr)) : ACell) :: bk0 n0_issued n0_cand n0_tree n0_ends n0_dig n0_ev n0_h n0_leafCount n0_keyed n0_seed n0_root n0_next n0_issuedQ n0_candQ [])) rfl ?_
  obtain ⟨⟨r105, s106, s107⟩, hq86, h⟩ := bnd h
  refine OEndsQ.call0 hm_0 rfl rfl (by decide) rfl (as := [.ref 1]) (rest := []) rfl rfl (ok_loadIssued hq86) ?_
  refine OEndsQ.adv hm_0 2 (pc' := 246) (L' := [.val (.ref 0), .unset, .val (.int v2), .val (.ref 1), .val (.int v4), .val (.int v5), .val (.int v6), .val (.int v7), .val (.int v8), .val (.int v9), .unset, .val (.int v11), .val (.int v12), .val (.int v13), .val (.int v14), .val (.int r105), .unset, .unset]) (S' := [.int v7]) (H' := ((.inr (.inl (false, scr)) : ACell) :: bk0 n0_issued s106 n0_tree n0_ends n0_dig n0_ev n0_h n0_leafCount n0_keyed n0_seed n0_root n0_next n0_issuedQ s107 [])) rfl ?_
  by_cases hc87 : v7 = (0 : Int32)
  · simp only [if_pos hc87] at h
    refine OEndsQ.ifT hm_0 rfl (q := 277) rfl ((teq hc87).1) ?_
    refine OEndsQ.adv hm_0 2 (pc' := 280) (L' := [.val (.ref 0), .unset, .val (.int v2), .val (.ref 1), .val (.int v4), .val (.int v5), .val (.int v6), .val (.int v7), .val (.int v8), .val (.int v9), .val (.int 0), .val (.int v11), .val (.int v12), .val (.int v13), .val (.int v14), .val (.int r105), .unset, .unset]) (S' := []) (H' := ((.inr (.inl (false, scr)) : ACell) :: bk0 n0_issued s106 n0_tree n0_ends n0_dig n0_ev n0_h n0_leafCount n0_keyed n0_seed n0_root n0_next n0_issuedQ s107 [])) rfl ?_
    exact ok_L_law_280 hkb h
  · simp only [if_neg hc87] at h
    refine OEndsQ.ifF hm_0 rfl ((feq hc87).1) ?_
    refine OEndsQ.adv hm_0 1 (pc' := 251) (L' := [.val (.ref 0), .unset, .val (.int v2), .val (.ref 1), .val (.int v4), .val (.int v5), .val (.int v6), .val (.int v7), .val (.int v8), .val (.int v9), .unset, .val (.int v11), .val (.int v12), .val (.int v13), .val (.int v14), .val (.int r105), .unset, .unset]) (S' := [.int r105]) (H' := ((.inr (.inl (false, scr)) : ACell) :: bk0 n0_issued s106 n0_tree n0_ends n0_dig n0_ev n0_h n0_leafCount n0_keyed n0_seed n0_root n0_next n0_issuedQ s107 [])) rfl ?_
    by_cases hc88 : r105 = (0 : Int32)
    · simp only [if_pos hc88] at h
      refine OEndsQ.ifF hm_0 rfl ((teq hc88).2) ?_
      refine OEndsQ.adv hm_0 1 (pc' := 255) (L' := [.val (.ref 0), .unset, .val (.int v2), .val (.ref 1), .val (.int v4), .val (.int v5), .val (.int v6), .val (.int v7), .val (.int v8), .val (.int v9), .unset, .val (.int v11), .val (.int v12), .val (.int v13), .val (.int v14), .val (.int r105), .unset, .unset]) (S' := [.int 0]) (H' := ((.inr (.inl (false, scr)) : ACell) :: bk0 n0_issued s106 n0_tree n0_ends n0_dig n0_ev n0_h n0_leafCount n0_keyed n0_seed n0_root n0_next n0_issuedQ s107 [])) rfl ?_
      cases h
      exact OEndsQ.iret hm_0 rfl rfl
    · simp only [if_neg hc88] at h
      refine OEndsQ.ifT hm_0 rfl (q := 256) rfl ((feq hc88).2) ?_
      refine OEndsQ.adv hm_0 1 (pc' := 257) (L' := [.val (.ref 0), .unset, .val (.int v2), .val (.ref 1), .val (.int v4), .val (.int v5), .val (.int v6), .val (.int v7), .val (.int v8), .val (.int v9), .unset, .val (.int v11), .val (.int v12), .val (.int v13), .val (.int v14), .val (.int r105), .unset, .unset]) (S' := [.ref 1]) (H' := ((.inr (.inl (false, scr)) : ACell) :: bk0 n0_issued s106 n0_tree n0_ends n0_dig n0_ev n0_h n0_leafCount n0_keyed n0_seed n0_root n0_next n0_issuedQ s107 [])) rfl ?_
      obtain ⟨r108, hq89, h⟩ := bnd h
      refine OEndsQ.call0 hm_0 rfl rfl (by decide) rfl (as := [.ref 1]) (rest := []) rfl rfl (ok_candidateLeaf hq89) ?_
      refine OEndsQ.adv hm_0 1 (pc' := 262) (L' := [.val (.ref 0), .unset, .val (.int v2), .val (.ref 1), .val (.int v4), .val (.int v5), .val (.int v6), .val (.int v7), .val (.int v8), .val (.int v9), .unset, .val (.int v11), .val (.int v12), .val (.int v13), .val (.int v14), .val (.int r105), .unset, .unset]) (S' := [.int v8, .int r108]) (H' := ((.inr (.inl (false, scr)) : ACell) :: bk0 n0_issued s106 n0_tree n0_ends n0_dig n0_ev n0_h n0_leafCount n0_keyed n0_seed n0_root n0_next n0_issuedQ s107 [])) rfl ?_
      by_cases hc90 : r108 = v8
      · simp only [if_pos hc90] at h
        refine OEndsQ.icmpT hm_0 rfl (q := 267) rfl ((teq hc90).1) ?_
        refine OEndsQ.adv hm_0 5 (pc' := 280) (L' := [.val (.ref 0), .unset, .val (.int v2), .val (.ref 1), .val (.int v4), .val (.int v5), .val (.int v6), .val (.int v7), .val (.int v8), .val (.int v9), .val (.int 1), .val (.int v9), .val (.int v12), .val (.int v13), .val (.int v14), .val (.int r105), .unset, .unset]) (S' := []) (H' := ((.inr (.inl (false, scr)) : ACell) :: bk0 n0_issued s106 n0_tree n0_ends n0_dig n0_ev n0_h n0_leafCount n0_keyed n0_seed n0_root n0_next n0_issuedQ s107 [])) rfl ?_
        exact ok_L_law_280 hkb h
      · simp only [if_neg hc90] at h
        refine OEndsQ.icmpF hm_0 rfl ((feq hc90).1) ?_
        refine OEndsQ.adv hm_0 1 (pc' := 266) (L' := [.val (.ref 0), .unset, .val (.int v2), .val (.ref 1), .val (.int v4), .val (.int v5), .val (.int v6), .val (.int v7), .val (.int v8), .val (.int v9), .unset, .val (.int v11), .val (.int v12), .val (.int v13), .val (.int v14), .val (.int r105), .unset, .unset]) (S' := [.int 0]) (H' := ((.inr (.inl (false, scr)) : ACell) :: bk0 n0_issued s106 n0_tree n0_ends n0_dig n0_ev n0_h n0_leafCount n0_keyed n0_seed n0_root n0_next n0_issuedQ s107 [])) rfl ?_
        cases h
        exact OEndsQ.iret hm_0 rfl rfl
theorem ok_L_law_225 {scr : List Int32} {kb : List Int32 → List Int32 → List Int32 → List Int32 → List Int32 → List Int32 → Int32 → Int32 → Int32 → Int32 → Int32 → Int32 → Int32 → Int32 → Int32 → Int32 → Int32 → Int32 → Int32 → Int32 → Int32 → Int32 → Int32 → Int32 → Option (Int32)} (hkb : ∀ {n0_issued : List Int32} {n0_cand : List Int32} {n0_tree : List Int32} {n0_ends : List Int32} {n0_dig : List Int32} {n0_ev : List Int32} {n0_h : Int32} {n0_leafCount : Int32} {n0_keyed : Int32} {n0_seed : Int32} {n0_root : Int32} {n0_next : Int32} {n0_issuedQ : Int32} {n0_candQ : Int32} {v2 : Int32} {v4 : Int32} {v5 : Int32} {v6 : Int32} {v7 : Int32} {v8 : Int32} {v9 : Int32} {v10 : Int32} {v11 : Int32} {v12 : Int32} {d1 d13 d14 d15 d16 d17 : Slot} {res : Int32}, kb n0_issued n0_cand n0_tree n0_ends n0_dig n0_ev n0_h n0_leafCount n0_keyed n0_seed n0_root n0_next n0_issuedQ n0_candQ v2 v4 v5 v6 v7 v8 v9 v10 v11 v12 = some res → OEndsQ own_P 0 83 [.val (.ref 0), d1, .val (.int v2), .val (.ref 1), .val (.int v4), .val (.int v5), .val (.int v6), .val (.int v7), .val (.int v8), .val (.int v9), .val (.int v10), .val (.int v11), .val (.int v12), d13, d14, d15, d16, d17] [] ((.inr (.inl (false, scr)) : ACell) :: bk0 n0_issued n0_cand n0_tree n0_ends n0_dig n0_ev n0_h n0_leafCount n0_keyed n0_seed n0_root n0_next n0_issuedQ n0_candQ []) (LawQ res 0 0)) : ∀ {n0_issued : List Int32} {n0_cand : List Int32} {n0_tree : List Int32} {n0_ends : List Int32} {n0_dig : List Int32} {n0_ev : List Int32} {n0_h : Int32} {n0_leafCount : Int32} {n0_keyed : Int32} {n0_seed : Int32} {n0_root : Int32} {n0_next : Int32} {n0_issuedQ : Int32} {n0_candQ : Int32} {v2 : Int32} {v4 : Int32} {v5 : Int32} {v6 : Int32} {v7 : Int32} {v8 : Int32} {v9 : Int32} {v10 : Int32} {v11 : Int32} {v12 : Int32} {v13 : Int32} {v14 : Int32} {d1 d15 d16 d17 : Slot} {res : Int32}, f_L_law_225 kb scr n0_issued n0_cand n0_tree n0_ends n0_dig n0_ev n0_h n0_leafCount n0_keyed n0_seed n0_root n0_next n0_issuedQ n0_candQ v2 v4 v5 v6 v7 v8 v9 v10 v11 v12 v13 v14 = some res → OEndsQ own_P 0 225 [.val (.ref 0), d1, .val (.int v2), .val (.ref 1), .val (.int v4), .val (.int v5), .val (.int v6), .val (.int v7), .val (.int v8), .val (.int v9), .val (.int v10), .val (.int v11), .val (.int v12), .val (.int v13), .val (.int v14), d15, d16, d17] [] ((.inr (.inl (false, scr)) : ACell) :: bk0 n0_issued n0_cand n0_tree n0_ends n0_dig n0_ev n0_h n0_leafCount n0_keyed n0_seed n0_root n0_next n0_issuedQ n0_candQ []) (LawQ res 0 0) := by
  intro n0_issued n0_cand n0_tree n0_ends n0_dig n0_ev n0_h n0_leafCount n0_keyed n0_seed n0_root n0_next n0_issuedQ n0_candQ v2 v4 v5 v6 v7 v8 v9 v10 v11 v12 v13 v14 d1 d15 d16 d17 res h
  unfold f_L_law_225 at h
  refine OEndsQ.adv hm_0 2 (pc' := 228) (L' := [.val (.ref 0), .unset, .val (.int v2), .val (.ref 1), .val (.int v4), .val (.int v5), .val (.int v6), .val (.int v7), .val (.int v8), .val (.int v9), .val (.int v10), .val (.int v11), .val (.int v12), .val (.int v13), .val (.int v14), .unset, .unset, .unset]) (S' := [.int 2, .int v13]) (H' := ((.inr (.inl (false, scr)) : ACell) :: bk0 n0_issued n0_cand n0_tree n0_ends n0_dig n0_ev n0_h n0_leafCount n0_keyed n0_seed n0_root n0_next n0_issuedQ n0_candQ [])) rfl ?_
  by_cases hc91 : v13 = (2 : Int32)
  · simp only [if_pos hc91] at h
    refine OEndsQ.icmpT hm_0 rfl (q := 238) rfl ((teq hc91).1) ?_
    show OEndsQ own_P 0 238 [.val (.ref 0), .unset, .val (.int v2), .val (.ref 1), .val (.int v4), .val (.int v5), .val (.int v6), .val (.int v7), .val (.int v8), .val (.int v9), .val (.int v10), .val (.int v11), .val (.int v12), .val (.int v13), .val (.int v14), .unset, .unset, .unset] [] ((.inr (.inl (false, scr)) : ACell) :: bk0 n0_issued n0_cand n0_tree n0_ends n0_dig n0_ev n0_h n0_leafCount n0_keyed n0_seed n0_root n0_next n0_issuedQ n0_candQ []) _
    exact ok_L_law_238 hkb h
  · simp only [if_neg hc91] at h
    refine OEndsQ.icmpF hm_0 rfl ((feq hc91).1) ?_
    refine OEndsQ.adv hm_0 2 (pc' := 235) (L' := [.val (.ref 0), .unset, .val (.int v2), .val (.ref 1), .val (.int v4), .val (.int v5), .val (.int v6), .val (.int v7), .val (.int v8), .val (.int v9), .val (.int v10), .val (.int v11), .val (.int v12), .val (.int v13), .val (.int v14), .unset, .unset, .unset]) (S' := [.int 6, .int v13]) (H' := ((.inr (.inl (false, scr)) : ACell) :: bk0 n0_issued n0_cand n0_tree n0_ends n0_dig n0_ev n0_h n0_leafCount n0_keyed n0_seed n0_root n0_next n0_issuedQ n0_candQ [])) rfl ?_
    by_cases hc92 : v13 = (6 : Int32)
    · simp only [if_pos hc92] at h
      refine OEndsQ.icmpF hm_0 rfl ((teq hc92).2) ?_
      show OEndsQ own_P 0 238 [.val (.ref 0), .unset, .val (.int v2), .val (.ref 1), .val (.int v4), .val (.int v5), .val (.int v6), .val (.int v7), .val (.int v8), .val (.int v9), .val (.int v10), .val (.int v11), .val (.int v12), .val (.int v13), .val (.int v14), .unset, .unset, .unset] [] ((.inr (.inl (false, scr)) : ACell) :: bk0 n0_issued n0_cand n0_tree n0_ends n0_dig n0_ev n0_h n0_leafCount n0_keyed n0_seed n0_root n0_next n0_issuedQ n0_candQ []) _
      exact ok_L_law_238 hkb h
    · simp only [if_neg hc92] at h
      refine OEndsQ.icmpT hm_0 rfl (q := 280) rfl ((feq hc92).2) ?_
      show OEndsQ own_P 0 280 [.val (.ref 0), .unset, .val (.int v2), .val (.ref 1), .val (.int v4), .val (.int v5), .val (.int v6), .val (.int v7), .val (.int v8), .val (.int v9), .val (.int v10), .val (.int v11), .val (.int v12), .val (.int v13), .val (.int v14), .unset, .unset, .unset] [] ((.inr (.inl (false, scr)) : ACell) :: bk0 n0_issued n0_cand n0_tree n0_ends n0_dig n0_ev n0_h n0_leafCount n0_keyed n0_seed n0_root n0_next n0_issuedQ n0_candQ []) _
      exact ok_L_law_280 hkb h
theorem ok_L_law_186 {scr : List Int32} {kb : List Int32 → List Int32 → List Int32 → List Int32 → List Int32 → List Int32 → Int32 → Int32 → Int32 → Int32 → Int32 → Int32 → Int32 → Int32 → Int32 → Int32 → Int32 → Int32 → Int32 → Int32 → Int32 → Int32 → Int32 → Int32 → Option (Int32)} (hkb : ∀ {n0_issued : List Int32} {n0_cand : List Int32} {n0_tree : List Int32} {n0_ends : List Int32} {n0_dig : List Int32} {n0_ev : List Int32} {n0_h : Int32} {n0_leafCount : Int32} {n0_keyed : Int32} {n0_seed : Int32} {n0_root : Int32} {n0_next : Int32} {n0_issuedQ : Int32} {n0_candQ : Int32} {v2 : Int32} {v4 : Int32} {v5 : Int32} {v6 : Int32} {v7 : Int32} {v8 : Int32} {v9 : Int32} {v10 : Int32} {v11 : Int32} {v12 : Int32} {d1 d13 d14 d15 d16 d17 : Slot} {res : Int32}, kb n0_issued n0_cand n0_tree n0_ends n0_dig n0_ev n0_h n0_leafCount n0_keyed n0_seed n0_root n0_next n0_issuedQ n0_candQ v2 v4 v5 v6 v7 v8 v9 v10 v11 v12 = some res → OEndsQ own_P 0 83 [.val (.ref 0), d1, .val (.int v2), .val (.ref 1), .val (.int v4), .val (.int v5), .val (.int v6), .val (.int v7), .val (.int v8), .val (.int v9), .val (.int v10), .val (.int v11), .val (.int v12), d13, d14, d15, d16, d17] [] ((.inr (.inl (false, scr)) : ACell) :: bk0 n0_issued n0_cand n0_tree n0_ends n0_dig n0_ev n0_h n0_leafCount n0_keyed n0_seed n0_root n0_next n0_issuedQ n0_candQ []) (LawQ res 0 0)) : ∀ {n0_issued : List Int32} {n0_cand : List Int32} {n0_tree : List Int32} {n0_ends : List Int32} {n0_dig : List Int32} {n0_ev : List Int32} {n0_h : Int32} {n0_leafCount : Int32} {n0_keyed : Int32} {n0_seed : Int32} {n0_root : Int32} {n0_next : Int32} {n0_issuedQ : Int32} {n0_candQ : Int32} {v2 : Int32} {v4 : Int32} {v5 : Int32} {v6 : Int32} {v8 : Int32} {v9 : Int32} {v11 : Int32} {v12 : Int32} {v13 : Int32} {v14 : Int32} {v15 : Int32} {t0 : Int32} {d1 d7 d10 d16 d17 : Slot} {res : Int32}, f_L_law_186 kb scr n0_issued n0_cand n0_tree n0_ends n0_dig n0_ev n0_h n0_leafCount n0_keyed n0_seed n0_root n0_next n0_issuedQ n0_candQ v2 v4 v5 v6 v8 v9 v11 v12 v13 v14 v15 t0 = some res → OEndsQ own_P 0 186 [.val (.ref 0), d1, .val (.int v2), .val (.ref 1), .val (.int v4), .val (.int v5), .val (.int v6), d7, .val (.int v8), .val (.int v9), d10, .val (.int v11), .val (.int v12), .val (.int v13), .val (.int v14), .val (.int v15), d16, d17] [.int t0] ((.inr (.inl (false, scr)) : ACell) :: bk0 n0_issued n0_cand n0_tree n0_ends n0_dig n0_ev n0_h n0_leafCount n0_keyed n0_seed n0_root n0_next n0_issuedQ n0_candQ []) (LawQ res 0 0) := by
  intro n0_issued n0_cand n0_tree n0_ends n0_dig n0_ev n0_h n0_leafCount n0_keyed n0_seed n0_root n0_next n0_issuedQ n0_candQ v2 v4 v5 v6 v8 v9 v11 v12 v13 v14 v15 t0 d1 d7 d10 d16 d17 res h
  unfold f_L_law_186 at h
  refine OEndsQ.adv hm_0 3 (pc' := 192) (L' := [.val (.ref 0), .unset, .val (.int v2), .val (.ref 1), .val (.int v4), .val (.int v5), .val (.int v6), .unset, .val (.int v8), .val (.int v9), .unset, .val (.int v11), .val (.int v12), .val (.int v13), .val (.int v14), .val (.int v15), .val (.int t0), .unset]) (S' := [.int t0, .int v15]) (H' := ((.inr (.inl (false, scr)) : ACell) :: bk0 n0_issued n0_cand n0_tree n0_ends n0_dig n0_ev n0_h n0_leafCount n0_keyed n0_seed n0_root n0_next n0_issuedQ n0_candQ [])) rfl ?_
  by_cases hc93 : v15 = t0
  · simp only [if_pos hc93] at h
    refine OEndsQ.icmpT hm_0 rfl (q := 197) rfl ((teq hc93).1) ?_
    refine OEndsQ.adv hm_0 1 (pc' := 199) (L' := [.val (.ref 0), .unset, .val (.int v2), .val (.ref 1), .val (.int v4), .val (.int v5), .val (.int v6), .unset, .val (.int v8), .val (.int v9), .unset, .val (.int v11), .val (.int v12), .val (.int v13), .val (.int v14), .val (.int v15), .val (.int t0), .unset]) (S' := [.int v15]) (H' := ((.inr (.inl (false, scr)) : ACell) :: bk0 n0_issued n0_cand n0_tree n0_ends n0_dig n0_ev n0_h n0_leafCount n0_keyed n0_seed n0_root n0_next n0_issuedQ n0_candQ [])) rfl ?_
    by_cases hc94 : v15 < (0 : Int32)
    · simp only [if_pos hc94] at h
      refine OEndsQ.ifT hm_0 rfl (q := 219) rfl ((tlt hc94).1) ?_
      refine OEndsQ.adv hm_0 4 (pc' := 225) (L' := [.val (.ref 0), .unset, .val (.int v2), .val (.ref 1), .val (.int v4), .val (.int v5), .val (.int v6), .val (.int 0), .val (.int v8), .val (.int v9), .val (.int 0), .val (.int v11), .val (.int v12), .val (.int v13), .val (.int v14), .val (.int v15), .val (.int t0), .unset]) (S' := []) (H' := ((.inr (.inl (false, scr)) : ACell) :: bk0 n0_issued n0_cand n0_tree n0_ends n0_dig n0_ev n0_h n0_leafCount n0_keyed n0_seed n0_root n0_next n0_issuedQ n0_candQ [])) rfl ?_
      exact ok_L_law_225 hkb h
    · simp only [if_neg hc94] at h
      refine OEndsQ.ifF hm_0 rfl ((flt hc94).1) ?_
      refine OEndsQ.adv hm_0 10 (pc' := 225) (L' := [.val (.ref 0), .unset, .val (.int v2), .val (.ref 1), .val (.int v4), .val (.int v5), .val (.int (v6 + (1 : Int32))), .val (.int 1), .val (.int v15), .val (.int v14), .val (.int 0), .val (.int v11), .val (.int v12), .val (.int v13), .val (.int v14), .val (.int v15), .val (.int t0), .unset]) (S' := []) (H' := ((.inr (.inl (false, scr)) : ACell) :: bk0 n0_issued n0_cand n0_tree n0_ends n0_dig n0_ev n0_h n0_leafCount n0_keyed n0_seed n0_root n0_next n0_issuedQ n0_candQ [])) rfl ?_
      exact ok_L_law_225 hkb h
  · simp only [if_neg hc93] at h
    refine OEndsQ.icmpF hm_0 rfl ((feq hc93).1) ?_
    refine OEndsQ.adv hm_0 1 (pc' := 196) (L' := [.val (.ref 0), .unset, .val (.int v2), .val (.ref 1), .val (.int v4), .val (.int v5), .val (.int v6), .unset, .val (.int v8), .val (.int v9), .unset, .val (.int v11), .val (.int v12), .val (.int v13), .val (.int v14), .val (.int v15), .val (.int t0), .unset]) (S' := [.int 0]) (H' := ((.inr (.inl (false, scr)) : ACell) :: bk0 n0_issued n0_cand n0_tree n0_ends n0_dig n0_ev n0_h n0_leafCount n0_keyed n0_seed n0_root n0_next n0_issuedQ n0_candQ [])) rfl ?_
    cases h
    exact OEndsQ.iret hm_0 rfl rfl
theorem ok_L_law_156 {scr : List Int32} {kb : List Int32 → List Int32 → List Int32 → List Int32 → List Int32 → List Int32 → Int32 → Int32 → Int32 → Int32 → Int32 → Int32 → Int32 → Int32 → Int32 → Int32 → Int32 → Int32 → Int32 → Int32 → Int32 → Int32 → Int32 → Int32 → Option (Int32)} (hkb : ∀ {n0_issued : List Int32} {n0_cand : List Int32} {n0_tree : List Int32} {n0_ends : List Int32} {n0_dig : List Int32} {n0_ev : List Int32} {n0_h : Int32} {n0_leafCount : Int32} {n0_keyed : Int32} {n0_seed : Int32} {n0_root : Int32} {n0_next : Int32} {n0_issuedQ : Int32} {n0_candQ : Int32} {v2 : Int32} {v4 : Int32} {v5 : Int32} {v6 : Int32} {v7 : Int32} {v8 : Int32} {v9 : Int32} {v10 : Int32} {v11 : Int32} {v12 : Int32} {d1 d13 d14 d15 d16 d17 : Slot} {res : Int32}, kb n0_issued n0_cand n0_tree n0_ends n0_dig n0_ev n0_h n0_leafCount n0_keyed n0_seed n0_root n0_next n0_issuedQ n0_candQ v2 v4 v5 v6 v7 v8 v9 v10 v11 v12 = some res → OEndsQ own_P 0 83 [.val (.ref 0), d1, .val (.int v2), .val (.ref 1), .val (.int v4), .val (.int v5), .val (.int v6), .val (.int v7), .val (.int v8), .val (.int v9), .val (.int v10), .val (.int v11), .val (.int v12), d13, d14, d15, d16, d17] [] ((.inr (.inl (false, scr)) : ACell) :: bk0 n0_issued n0_cand n0_tree n0_ends n0_dig n0_ev n0_h n0_leafCount n0_keyed n0_seed n0_root n0_next n0_issuedQ n0_candQ []) (LawQ res 0 0)) : ∀ {n0_issued : List Int32} {n0_cand : List Int32} {n0_tree : List Int32} {n0_ends : List Int32} {n0_dig : List Int32} {n0_ev : List Int32} {n0_h : Int32} {n0_leafCount : Int32} {n0_keyed : Int32} {n0_seed : Int32} {n0_root : Int32} {n0_next : Int32} {n0_issuedQ : Int32} {n0_candQ : Int32} {v2 : Int32} {v4 : Int32} {v5 : Int32} {v6 : Int32} {v8 : Int32} {v9 : Int32} {v11 : Int32} {v12 : Int32} {v13 : Int32} {v14 : Int32} {d1 d7 d10 d15 d16 d17 : Slot} {res : Int32}, f_L_law_156 kb scr n0_issued n0_cand n0_tree n0_ends n0_dig n0_ev n0_h n0_leafCount n0_keyed n0_seed n0_root n0_next n0_issuedQ n0_candQ v2 v4 v5 v6 v8 v9 v11 v12 v13 v14 = some res → OEndsQ own_P 0 156 [.val (.ref 0), d1, .val (.int v2), .val (.ref 1), .val (.int v4), .val (.int v5), .val (.int v6), d7, .val (.int v8), .val (.int v9), d10, .val (.int v11), .val (.int v12), .val (.int v13), .val (.int v14), d15, d16, d17] [] ((.inr (.inl (false, scr)) : ACell) :: bk0 n0_issued n0_cand n0_tree n0_ends n0_dig n0_ev n0_h n0_leafCount n0_keyed n0_seed n0_root n0_next n0_issuedQ n0_candQ []) (LawQ res 0 0) := by
  intro n0_issued n0_cand n0_tree n0_ends n0_dig n0_ev n0_h n0_leafCount n0_keyed n0_seed n0_root n0_next n0_issuedQ n0_candQ v2 v4 v5 v6 v8 v9 v11 v12 v13 v14 d1 d7 d10 d15 d16 d17 res h
  unfold f_L_law_156 at h
  refine OEndsQ.adv hm_0 2 (pc' := 159) (L' := [.val (.ref 0), .unset, .val (.int v2), .val (.ref 1), .val (.int v4), .val (.int v5), .val (.int v6), .unset, .val (.int v8), .val (.int v9), .unset, .val (.int v11), .val (.int v12), .val (.int v13), .val (.int v14), .unset, .unset, .unset]) (S' := [.int v14, .ref 1]) (H' := ((.inr (.inl (false, scr)) : ACell) :: bk0 n0_issued n0_cand n0_tree n0_ends n0_dig n0_ev n0_h n0_leafCount n0_keyed n0_seed n0_root n0_next n0_issuedQ n0_candQ [])) rfl ?_
  obtain ⟨⟨r109, s110, s111, s112, s113⟩, hq95, h⟩ := bnd h
  refine OEndsQ.call0 hm_0 rfl rfl (by decide) rfl (as := [.ref 1, .int v14]) (rest := []) rfl rfl (ok_sign hq95) ?_
  refine OEndsQ.adv hm_0 2 (pc' := 166) (L' := [.val (.ref 0), .unset, .val (.int v2), .val (.ref 1), .val (.int v4), .val (.int v5), .val (.int v6), .unset, .val (.int v8), .val (.int v9), .unset, .val (.int v11), .val (.int v12), .val (.int v13), .val (.int v14), .val (.int r109), .unset, .unset]) (S' := [.int v4]) (H' := ((.inr (.inl (false, scr)) : ACell) :: bk0 s110 n0_cand n0_tree n0_ends s111 n0_ev n0_h n0_leafCount n0_keyed n0_seed n0_root s112 s113 n0_candQ [])) rfl ?_
  by_cases hc96 : v4 = (0 : Int32)
  · simp only [if_pos hc96] at h
    refine OEndsQ.ifF hm_0 rfl ((teq hc96).2) ?_
    refine OEndsQ.adv hm_0 2 (pc' := 186) (L' := [.val (.ref 0), .unset, .val (.int v2), .val (.ref 1), .val (.int v4), .val (.int v5), .val (.int v6), .unset, .val (.int v8), .val (.int v9), .unset, .val (.int v11), .val (.int v12), .val (.int v13), .val (.int v14), .val (.int r109), .unset, .unset]) (S' := [.int (-1)]) (H' := ((.inr (.inl (false, scr)) : ACell) :: bk0 s110 n0_cand n0_tree n0_ends s111 n0_ev n0_h n0_leafCount n0_keyed n0_seed n0_root s112 s113 n0_candQ [])) rfl ?_
    exact ok_L_law_186 hkb h
  · simp only [if_neg hc96] at h
    refine OEndsQ.ifT hm_0 rfl (q := 173) rfl ((feq hc96).2) ?_
    refine OEndsQ.adv hm_0 2 (pc' := 176) (L' := [.val (.ref 0), .unset, .val (.int v2), .val (.ref 1), .val (.int v4), .val (.int v5), .val (.int v6), .unset, .val (.int v8), .val (.int v9), .unset, .val (.int v11), .val (.int v12), .val (.int v13), .val (.int v14), .val (.int r109), .unset, .unset]) (S' := [.int v2, .int v6]) (H' := ((.inr (.inl (false, scr)) : ACell) :: bk0 s110 n0_cand n0_tree n0_ends s111 n0_ev n0_h n0_leafCount n0_keyed n0_seed n0_root s112 s113 n0_candQ [])) rfl ?_
    by_cases hc97 : v6 = v2
    · simp only [if_pos hc97] at h
      refine OEndsQ.icmpF hm_0 rfl ((teq hc97).2) ?_
      refine OEndsQ.adv hm_0 2 (pc' := 186) (L' := [.val (.ref 0), .unset, .val (.int v2), .val (.ref 1), .val (.int v4), .val (.int v5), .val (.int v6), .unset, .val (.int v8), .val (.int v9), .unset, .val (.int v11), .val (.int v12), .val (.int v13), .val (.int v14), .val (.int r109), .unset, .unset]) (S' := [.int (-2)]) (H' := ((.inr (.inl (false, scr)) : ACell) :: bk0 s110 n0_cand n0_tree n0_ends s111 n0_ev n0_h n0_leafCount n0_keyed n0_seed n0_root s112 s113 n0_candQ [])) rfl ?_
      exact ok_L_law_186 hkb h
    · simp only [if_neg hc97] at h
      refine OEndsQ.icmpT hm_0 rfl (q := 184) rfl ((feq hc97).2) ?_
      refine OEndsQ.adv hm_0 1 (pc' := 186) (L' := [.val (.ref 0), .unset, .val (.int v2), .val (.ref 1), .val (.int v4), .val (.int v5), .val (.int v6), .unset, .val (.int v8), .val (.int v9), .unset, .val (.int v11), .val (.int v12), .val (.int v13), .val (.int v14), .val (.int r109), .unset, .unset]) (S' := [.int v6]) (H' := ((.inr (.inl (false, scr)) : ACell) :: bk0 s110 n0_cand n0_tree n0_ends s111 n0_ev n0_h n0_leafCount n0_keyed n0_seed n0_root s112 s113 n0_candQ [])) rfl ?_
      exact ok_L_law_186 hkb h
theorem ok_L_law_143 {scr : List Int32} {kb : List Int32 → List Int32 → List Int32 → List Int32 → List Int32 → List Int32 → Int32 → Int32 → Int32 → Int32 → Int32 → Int32 → Int32 → Int32 → Int32 → Int32 → Int32 → Int32 → Int32 → Int32 → Int32 → Int32 → Int32 → Int32 → Option (Int32)} (hkb : ∀ {n0_issued : List Int32} {n0_cand : List Int32} {n0_tree : List Int32} {n0_ends : List Int32} {n0_dig : List Int32} {n0_ev : List Int32} {n0_h : Int32} {n0_leafCount : Int32} {n0_keyed : Int32} {n0_seed : Int32} {n0_root : Int32} {n0_next : Int32} {n0_issuedQ : Int32} {n0_candQ : Int32} {v2 : Int32} {v4 : Int32} {v5 : Int32} {v6 : Int32} {v7 : Int32} {v8 : Int32} {v9 : Int32} {v10 : Int32} {v11 : Int32} {v12 : Int32} {d1 d13 d14 d15 d16 d17 : Slot} {res : Int32}, kb n0_issued n0_cand n0_tree n0_ends n0_dig n0_ev n0_h n0_leafCount n0_keyed n0_seed n0_root n0_next n0_issuedQ n0_candQ v2 v4 v5 v6 v7 v8 v9 v10 v11 v12 = some res → OEndsQ own_P 0 83 [.val (.ref 0), d1, .val (.int v2), .val (.ref 1), .val (.int v4), .val (.int v5), .val (.int v6), .val (.int v7), .val (.int v8), .val (.int v9), .val (.int v10), .val (.int v11), .val (.int v12), d13, d14, d15, d16, d17] [] ((.inr (.inl (false, scr)) : ACell) :: bk0 n0_issued n0_cand n0_tree n0_ends n0_dig n0_ev n0_h n0_leafCount n0_keyed n0_seed n0_root n0_next n0_issuedQ n0_candQ []) (LawQ res 0 0)) : ∀ {n0_issued : List Int32} {n0_cand : List Int32} {n0_tree : List Int32} {n0_ends : List Int32} {n0_dig : List Int32} {n0_ev : List Int32} {n0_h : Int32} {n0_leafCount : Int32} {n0_keyed : Int32} {n0_seed : Int32} {n0_root : Int32} {n0_next : Int32} {n0_issuedQ : Int32} {n0_candQ : Int32} {v2 : Int32} {v4 : Int32} {v5 : Int32} {v6 : Int32} {v7 : Int32} {v8 : Int32} {v9 : Int32} {v10 : Int32} {v11 : Int32} {v12 : Int32} {v13 : Int32} {v14 : Int32} {d1 d15 d16 d17 : Slot} {res : Int32}, f_L_law_143 kb scr n0_issued n0_cand n0_tree n0_ends n0_dig n0_ev n0_h n0_leafCount n0_keyed n0_seed n0_root n0_next n0_issuedQ n0_candQ v2 v4 v5 v6 v7 v8 v9 v10 v11 v12 v13 v14 = some res → OEndsQ own_P 0 143 [.val (.ref 0), d1, .val (.int v2), .val (.ref 1), .val (.int v4), .val (.int v5), .val (.int v6), .val (.int v7), .val (.int v8), .val (.int v9), .val (.int v10), .val (.int v11), .val (.int v12), .val (.int v13), .val (.int v14), d15, d16, d17] [] ((.inr (.inl (false, scr)) : ACell) :: bk0 n0_issued n0_cand n0_tree n0_ends n0_dig n0_ev n0_h n0_leafCount n0_keyed n0_seed n0_root n0_next n0_issuedQ n0_candQ []) (LawQ res 0 0) := by
  intro n0_issued n0_cand n0_tree n0_ends n0_dig n0_ev n0_h n0_leafCount n0_keyed n0_seed n0_root n0_next n0_issuedQ n0_candQ v2 v4 v5 v6 v7 v8 v9 v10 v11 v12 v13 v14 d1 d15 d16 d17 res h
  unfold f_L_law_143 at h
  refine OEndsQ.adv hm_0 2 (pc' := 146) (L' := [.val (.ref 0), .unset, .val (.int v2), .val (.ref 1), .val (.int v4), .val (.int v5), .val (.int v6), .val (.int v7), .val (.int v8), .val (.int v9), .val (.int v10), .val (.int v11), .val (.int v12), .val (.int v13), .val (.int v14), .unset, .unset, .unset]) (S' := [.int 1, .int v13]) (H' := ((.inr (.inl (false, scr)) : ACell) :: bk0 n0_issued n0_cand n0_tree n0_ends n0_dig n0_ev n0_h n0_leafCount n0_keyed n0_seed n0_root n0_next n0_issuedQ n0_candQ [])) rfl ?_
  by_cases hc98 : v13 = (1 : Int32)
  · simp only [if_pos hc98] at h
    refine OEndsQ.icmpT hm_0 rfl (q := 156) rfl ((teq hc98).1) ?_
    show OEndsQ own_P 0 156 [.val (.ref 0), .unset, .val (.int v2), .val (.ref 1), .val (.int v4), .val (.int v5), .val (.int v6), .val (.int v7), .val (.int v8), .val (.int v9), .val (.int v10), .val (.int v11), .val (.int v12), .val (.int v13), .val (.int v14), .unset, .unset, .unset] [] ((.inr (.inl (false, scr)) : ACell) :: bk0 n0_issued n0_cand n0_tree n0_ends n0_dig n0_ev n0_h n0_leafCount n0_keyed n0_seed n0_root n0_next n0_issuedQ n0_candQ []) _
    exact ok_L_law_156 hkb h
  · simp only [if_neg hc98] at h
    refine OEndsQ.icmpF hm_0 rfl ((feq hc98).1) ?_
    refine OEndsQ.adv hm_0 2 (pc' := 153) (L' := [.val (.ref 0), .unset, .val (.int v2), .val (.ref 1), .val (.int v4), .val (.int v5), .val (.int v6), .val (.int v7), .val (.int v8), .val (.int v9), .val (.int v10), .val (.int v11), .val (.int v12), .val (.int v13), .val (.int v14), .unset, .unset, .unset]) (S' := [.int 6, .int v13]) (H' := ((.inr (.inl (false, scr)) : ACell) :: bk0 n0_issued n0_cand n0_tree n0_ends n0_dig n0_ev n0_h n0_leafCount n0_keyed n0_seed n0_root n0_next n0_issuedQ n0_candQ [])) rfl ?_
    by_cases hc99 : v13 = (6 : Int32)
    · simp only [if_pos hc99] at h
      refine OEndsQ.icmpF hm_0 rfl ((teq hc99).2) ?_
      show OEndsQ own_P 0 156 [.val (.ref 0), .unset, .val (.int v2), .val (.ref 1), .val (.int v4), .val (.int v5), .val (.int v6), .val (.int v7), .val (.int v8), .val (.int v9), .val (.int v10), .val (.int v11), .val (.int v12), .val (.int v13), .val (.int v14), .unset, .unset, .unset] [] ((.inr (.inl (false, scr)) : ACell) :: bk0 n0_issued n0_cand n0_tree n0_ends n0_dig n0_ev n0_h n0_leafCount n0_keyed n0_seed n0_root n0_next n0_issuedQ n0_candQ []) _
      exact ok_L_law_156 hkb h
    · simp only [if_neg hc99] at h
      refine OEndsQ.icmpT hm_0 rfl (q := 225) rfl ((feq hc99).2) ?_
      show OEndsQ own_P 0 225 [.val (.ref 0), .unset, .val (.int v2), .val (.ref 1), .val (.int v4), .val (.int v5), .val (.int v6), .val (.int v7), .val (.int v8), .val (.int v9), .val (.int v10), .val (.int v11), .val (.int v12), .val (.int v13), .val (.int v14), .unset, .unset, .unset] [] ((.inr (.inl (false, scr)) : ACell) :: bk0 n0_issued n0_cand n0_tree n0_ends n0_dig n0_ev n0_h n0_leafCount n0_keyed n0_seed n0_root n0_next n0_issuedQ n0_candQ []) _
      exact ok_L_law_225 hkb h
theorem ok_L_law_83 {scr : List Int32} : ∀ (n : Nat), ∀ {n0_issued : List Int32} {n0_cand : List Int32} {n0_tree : List Int32} {n0_ends : List Int32} {n0_dig : List Int32} {n0_ev : List Int32} {n0_h : Int32} {n0_leafCount : Int32} {n0_keyed : Int32} {n0_seed : Int32} {n0_root : Int32} {n0_next : Int32} {n0_issuedQ : Int32} {n0_candQ : Int32} {v2 : Int32} {v4 : Int32} {v5 : Int32} {v6 : Int32} {v7 : Int32} {v8 : Int32} {v9 : Int32} {v10 : Int32} {v11 : Int32} {v12 : Int32} {d1 d13 d14 d15 d16 d17 : Slot} {res : Int32}, f_L_law_83 scr n n0_issued n0_cand n0_tree n0_ends n0_dig n0_ev n0_h n0_leafCount n0_keyed n0_seed n0_root n0_next n0_issuedQ n0_candQ v2 v4 v5 v6 v7 v8 v9 v10 v11 v12 = some res → OEndsQ own_P 0 83 [.val (.ref 0), d1, .val (.int v2), .val (.ref 1), .val (.int v4), .val (.int v5), .val (.int v6), .val (.int v7), .val (.int v8), .val (.int v9), .val (.int v10), .val (.int v11), .val (.int v12), d13, d14, d15, d16, d17] [] ((.inr (.inl (false, scr)) : ACell) :: bk0 n0_issued n0_cand n0_tree n0_ends n0_dig n0_ev n0_h n0_leafCount n0_keyed n0_seed n0_root n0_next n0_issuedQ n0_candQ []) (LawQ res 0 0) := by
  intro n
  induction n with
  | zero => intro n0_issued n0_cand n0_tree n0_ends n0_dig n0_ev n0_h n0_leafCount n0_keyed n0_seed n0_root n0_next n0_issuedQ n0_candQ v2 v4 v5 v6 v7 v8 v9 v10 v11 v12 d1 d13 d14 d15 d16 d17 res h; cases h
  | succ n ih =>
    intro n0_issued n0_cand n0_tree n0_ends n0_dig n0_ev n0_h n0_leafCount n0_keyed n0_seed n0_root n0_next n0_issuedQ n0_candQ v2 v4 v5 v6 v7 v8 v9 v10 v11 v12 d1 d13 d14 d15 d16 d17 res h
    unfold f_L_law_83 at h
    refine OEndsQ.adv hm_0 3 (pc' := 87) (L' := [.val (.ref 0), .unset, .val (.int v2), .val (.ref 1), .val (.int v4), .val (.int v5), .val (.int v6), .val (.int v7), .val (.int v8), .val (.int v9), .val (.int v10), .val (.int v11), .val (.int v12), .unset, .unset, .unset, .unset, .unset]) (S' := [.int scr.length.toInt32, .int v12]) (H' := ((.inr (.inl (false, scr)) : ACell) :: bk0 n0_issued n0_cand n0_tree n0_ends n0_dig n0_ev n0_h n0_leafCount n0_keyed n0_seed n0_root n0_next n0_issuedQ n0_candQ [])) rfl ?_
    by_cases hc100 : v12 < scr.length.toInt32
    · simp only [if_pos hc100] at h
      refine OEndsQ.icmpF hm_0 rfl ((tlt hc100).2.1) ?_
      refine OEndsQ.adv hm_0 2 (pc' := 93) (L' := [.val (.ref 0), .unset, .val (.int v2), .val (.ref 1), .val (.int v4), .val (.int v5), .val (.int v6), .val (.int v7), .val (.int v8), .val (.int v9), .val (.int v10), .val (.int v11), .val (.int v12), .unset, .unset, .unset, .unset, .unset]) (S' := [.int v12, .ref 0]) (H' := ((.inr (.inl (false, scr)) : ACell) :: bk0 n0_issued n0_cand n0_tree n0_ends n0_dig n0_ev n0_h n0_leafCount n0_keyed n0_seed n0_root n0_next n0_issuedQ n0_candQ [])) rfl ?_
      obtain ⟨r81, hq101, h⟩ := bnd h
      refine OEndsQ.call0 hm_0 rfl rfl (by decide) rfl (as := [.ref 0, .int v12]) (rest := []) rfl rfl (ok_L_cell hq101) ?_
      refine OEndsQ.adv hm_0 7 (pc' := 106) (L' := [.val (.ref 0), .unset, .val (.int v2), .val (.ref 1), .val (.int v4), .val (.int v5), .val (.int v6), .val (.int v7), .val (.int v8), .val (.int v9), .val (.int v10), .val (.int v11), .val (.int v12), .val (.int (r81 &&& (7 : Int32))), .unset, .unset, .unset, .unset]) (S' := [.int (v12 + (1 : Int32)), .ref 0]) (H' := ((.inr (.inl (false, scr)) : ACell) :: bk0 n0_issued n0_cand n0_tree n0_ends n0_dig n0_ev n0_h n0_leafCount n0_keyed n0_seed n0_root n0_next n0_issuedQ n0_candQ [])) rfl ?_
      obtain ⟨r82, hq102, h⟩ := bnd h
      refine OEndsQ.call0 hm_0 rfl rfl (by decide) rfl (as := [.ref 0, .int (v12 + (1 : Int32))]) (rest := []) rfl rfl (ok_L_cell hq102) ?_
      refine OEndsQ.adv hm_0 2 (pc' := 113) (L' := [.val (.ref 0), .unset, .val (.int v2), .val (.ref 1), .val (.int v4), .val (.int v5), .val (.int v6), .val (.int v7), .val (.int v8), .val (.int v9), .val (.int v10), .val (.int v11), .val (.int v12), .val (.int (r81 &&& (7 : Int32))), .val (.int r82), .unset, .unset, .unset]) (S' := [.int (r81 &&& (7 : Int32))]) (H' := ((.inr (.inl (false, scr)) : ACell) :: bk0 n0_issued n0_cand n0_tree n0_ends n0_dig n0_ev n0_h n0_leafCount n0_keyed n0_seed n0_root n0_next n0_issuedQ n0_candQ [])) rfl ?_
      by_cases hc103 : (r81 &&& (7 : Int32)) = (0 : Int32)
      · simp only [if_pos hc103] at h
        refine OEndsQ.ifF hm_0 rfl ((teq hc103).2) ?_
        refine OEndsQ.adv hm_0 2 (pc' := 119) (L' := [.val (.ref 0), .unset, .val (.int v2), .val (.ref 1), .val (.int v4), .val (.int v5), .val (.int v6), .val (.int v7), .val (.int v8), .val (.int v9), .val (.int v10), .val (.int v11), .val (.int v12), .val (.int (r81 &&& (7 : Int32))), .val (.int r82), .unset, .unset, .unset]) (S' := [.int r82, .ref 1]) (H' := ((.inr (.inl (false, scr)) : ACell) :: bk0 n0_issued n0_cand n0_tree n0_ends n0_dig n0_ev n0_h n0_leafCount n0_keyed n0_seed n0_root n0_next n0_issuedQ n0_candQ [])) rfl ?_
        obtain ⟨⟨r83, s84, s85, s86, s87, s88, s89, s90⟩, hq104, h⟩ := bnd h
        refine OEndsQ.call0 hm_0 rfl rfl (by decide) rfl (as := [.ref 1, .int r82]) (rest := []) rfl rfl (ok_keygen hq104) ?_
        refine OEndsQ.adv hm_0 2 (pc' := 126) (L' := [.val (.ref 0), .unset, .val (.int v2), .val (.ref 1), .val (.int v4), .val (.int v5), .val (.int v6), .val (.int v7), .val (.int v8), .val (.int v9), .val (.int v10), .val (.int v11), .val (.int v12), .val (.int (r81 &&& (7 : Int32))), .val (.int r82), .val (.int r83), .unset, .unset]) (S' := [.int r83]) (H' := ((.inr (.inl (false, scr)) : ACell) :: bk0 n0_issued n0_cand s84 s85 n0_dig s86 n0_h n0_leafCount s87 s88 s89 s90 n0_issuedQ n0_candQ [])) rfl ?_
        by_cases hc105 : r83 = (0 : Int32)
        · simp only [if_pos hc105] at h
          refine OEndsQ.ifT hm_0 rfl (q := 143) rfl ((teq hc105).1) ?_
          show OEndsQ own_P 0 143 [.val (.ref 0), .unset, .val (.int v2), .val (.ref 1), .val (.int v4), .val (.int v5), .val (.int v6), .val (.int v7), .val (.int v8), .val (.int v9), .val (.int v10), .val (.int v11), .val (.int v12), .val (.int (r81 &&& (7 : Int32))), .val (.int r82), .val (.int r83), .unset, .unset] [] ((.inr (.inl (false, scr)) : ACell) :: bk0 n0_issued n0_cand s84 s85 n0_dig s86 n0_h n0_leafCount s87 s88 s89 s90 n0_issuedQ n0_candQ []) _
          exact ok_L_law_143 ih h
        · simp only [if_neg hc105] at h
          refine OEndsQ.ifF hm_0 rfl ((feq hc105).1) ?_
          refine OEndsQ.adv hm_0 1 (pc' := 131) (L' := [.val (.ref 0), .unset, .val (.int v2), .val (.ref 1), .val (.int v4), .val (.int v5), .val (.int v6), .val (.int v7), .val (.int v8), .val (.int v9), .val (.int v10), .val (.int v11), .val (.int v12), .val (.int (r81 &&& (7 : Int32))), .val (.int r82), .val (.int r83), .unset, .unset]) (S' := [.int v4]) (H' := ((.inr (.inl (false, scr)) : ACell) :: bk0 n0_issued n0_cand s84 s85 n0_dig s86 n0_h n0_leafCount s87 s88 s89 s90 n0_issuedQ n0_candQ [])) rfl ?_
          by_cases hc106 : v4 = (0 : Int32)
          · simp only [if_pos hc106] at h
            refine OEndsQ.ifF hm_0 rfl ((teq hc106).2) ?_
            refine OEndsQ.adv hm_0 3 (pc' := 138) (L' := [.val (.ref 0), .unset, .val (.int v2), .val (.ref 1), .val (.int 1), .val (.int v5), .val (.int v6), .val (.int v7), .val (.int v8), .val (.int v9), .val (.int v10), .val (.int v11), .val (.int v12), .val (.int (r81 &&& (7 : Int32))), .val (.int r82), .val (.int r83), .unset, .unset]) (S' := [.ref 1]) (H' := ((.inr (.inl (false, scr)) : ACell) :: bk0 n0_issued n0_cand s84 s85 n0_dig s86 n0_h n0_leafCount s87 s88 s89 s90 n0_issuedQ n0_candQ [])) rfl ?_
            obtain ⟨r91, hq107, h⟩ := bnd h
            refine OEndsQ.call0 hm_0 rfl rfl (by decide) rfl (as := [.ref 1]) (rest := []) rfl rfl (ok_getRoot hq107) ?_
            refine OEndsQ.adv hm_0 1 (pc' := 143) (L' := [.val (.ref 0), .unset, .val (.int v2), .val (.ref 1), .val (.int 1), .val (.int r91), .val (.int v6), .val (.int v7), .val (.int v8), .val (.int v9), .val (.int v10), .val (.int v11), .val (.int v12), .val (.int (r81 &&& (7 : Int32))), .val (.int r82), .val (.int r83), .unset, .unset]) (S' := []) (H' := ((.inr (.inl (false, scr)) : ACell) :: bk0 n0_issued n0_cand s84 s85 n0_dig s86 n0_h n0_leafCount s87 s88 s89 s90 n0_issuedQ n0_candQ [])) rfl ?_
            exact ok_L_law_143 ih h
          · simp only [if_neg hc106] at h
            refine OEndsQ.ifT hm_0 rfl (q := 143) rfl ((feq hc106).2) ?_
            show OEndsQ own_P 0 143 [.val (.ref 0), .unset, .val (.int v2), .val (.ref 1), .val (.int v4), .val (.int v5), .val (.int v6), .val (.int v7), .val (.int v8), .val (.int v9), .val (.int v10), .val (.int v11), .val (.int v12), .val (.int (r81 &&& (7 : Int32))), .val (.int r82), .val (.int r83), .unset, .unset] [] ((.inr (.inl (false, scr)) : ACell) :: bk0 n0_issued n0_cand s84 s85 n0_dig s86 n0_h n0_leafCount s87 s88 s89 s90 n0_issuedQ n0_candQ []) _
            exact ok_L_law_143 ih h
      · simp only [if_neg hc103] at h
        refine OEndsQ.ifT hm_0 rfl (q := 143) rfl ((feq hc103).2) ?_
        show OEndsQ own_P 0 143 [.val (.ref 0), .unset, .val (.int v2), .val (.ref 1), .val (.int v4), .val (.int v5), .val (.int v6), .val (.int v7), .val (.int v8), .val (.int v9), .val (.int v10), .val (.int v11), .val (.int v12), .val (.int (r81 &&& (7 : Int32))), .val (.int r82), .unset, .unset, .unset] [] ((.inr (.inl (false, scr)) : ACell) :: bk0 n0_issued n0_cand n0_tree n0_ends n0_dig n0_ev n0_h n0_leafCount n0_keyed n0_seed n0_root n0_next n0_issuedQ n0_candQ []) _
        exact ok_L_law_143 ih h
    · simp only [if_neg hc100] at h
      refine OEndsQ.icmpT hm_0 rfl (q := 451) rfl ((flt hc100).2.1) ?_
      refine OEndsQ.adv hm_0 1 (pc' := 452) (L' := [.val (.ref 0), .unset, .val (.int v2), .val (.ref 1), .val (.int v4), .val (.int v5), .val (.int v6), .val (.int v7), .val (.int v8), .val (.int v9), .val (.int v10), .val (.int v11), .val (.int v12), .unset, .unset, .unset, .unset, .unset]) (S' := [.int 1]) (H' := ((.inr (.inl (false, scr)) : ACell) :: bk0 n0_issued n0_cand n0_tree n0_ends n0_dig n0_ev n0_h n0_leafCount n0_keyed n0_seed n0_root n0_next n0_issuedQ n0_candQ [])) rfl ?_
      cases h
      exact OEndsQ.iret hm_0 rfl rfl
theorem ok_L_law {scr : List Int32} {res : Int32} (h : f_L_law scr = some res) : OEndsQ own_P 0 0 [.val (.ref 0), .unset, .unset, .unset, .unset, .unset, .unset, .unset, .unset, .unset, .unset, .unset, .unset, .unset, .unset, .unset, .unset, .unset] [] ((.inr (.inl (false, scr)) : ACell) :: []) (LawQ res 7 302) := by
  unfold f_L_law at h
  refine OEndsQ.adv hm_0 2 (pc' := 2) (L' := [.val (.ref 0), .unset, .unset, .unset, .unset, .unset, .unset, .unset, .unset, .unset, .unset, .unset, .unset, .unset, .unset, .unset, .unset, .unset]) (S' := [.int 0, .ref 0]) (H' := ((.inr (.inl (false, scr)) : ACell) :: [])) rfl ?_
  obtain ⟨r55, hq108, h⟩ := bnd h
  refine OEndsQ.call0 hm_0 rfl rfl (by decide) rfl (as := [.ref 0, .int 0]) (rest := []) rfl rfl (ok_L_cell hq108) ?_
  refine OEndsQ.adv hm_0 9 (pc' := 14) (L' := [.val (.ref 0), .val (.int ((r55 &&& (3 : Int32)) + (1 : Int32))), .val (.int ((1 : Int32) <<< (((r55 &&& (3 : Int32)) + (1 : Int32)) &&& 31))), .unset, .unset, .unset, .unset, .unset, .unset, .unset, .unset, .unset, .unset, .unset, .unset, .unset, .unset, .unset]) (S' := []) (H' := ((.inr (.inl (false, scr)) : ACell) :: [])) rfl ?_
  refine OEndsQ.made hm_0 rfl rfl (ks := 14) (c0 := 6) (s0 := 288) rfl (Nat.le_of_ble_eq_true rfl) (Nat.le_of_ble_eq_true rfl) ?_
  refine OEndsQ.adv hm_0 2 (pc' := 19) (L' := [.val (.ref 0), .val (.int ((r55 &&& (3 : Int32)) + (1 : Int32))), .val (.int ((1 : Int32) <<< (((r55 &&& (3 : Int32)) + (1 : Int32)) &&& 31))), .unset, .unset, .unset, .unset, .unset, .unset, .unset, .unset, .unset, .unset, .unset, .unset, .unset, .unset, .unset]) (S' := [.int ((r55 &&& (3 : Int32)) + (1 : Int32)), .ref 1, .ref 1]) (H' := ((.inr (.inl (false, scr)) : ACell) :: (.inl (0, [.null, .null, .null, .null, .null, .null, .int 0, .int 0, .int 0, .int 0, .int 0, .int 0, .int 0, .int 0]) : ACell) :: [])) rfl ?_
  obtain ⟨⟨s56, s57, s58, s59, s60, s61, s62, s63, s64, s65, s66, s67, s68, s69⟩, hq109, h⟩ := bnd h
  refine OEndsQ.callN hm_0 rfl rfl (by decide) rfl (as := [.ref 1, .int ((r55 &&& (3 : Int32)) + (1 : Int32))]) (rest := [.ref 1]) rfl rfl (c0 := 0) (s0 := 0) (ok_init hq109) (Nat.le_of_ble_eq_true rfl) (Nat.le_of_ble_eq_true rfl) ?_
  refine OEndsQ.adv hm_0 19 (pc' := 49) (L' := [.val (.ref 0), .val (.int ((r55 &&& (3 : Int32)) + (1 : Int32))), .val (.int ((1 : Int32) <<< (((r55 &&& (3 : Int32)) + (1 : Int32)) &&& 31))), .val (.ref 1), .val (.int 0), .val (.int 0), .val (.int 0), .val (.int 0), .val (.int (-1)), .val (.int 0), .val (.int 0), .val (.int 0), .unset, .unset, .unset, .unset, .unset, .unset]) (S' := [.int 0, .ref 0]) (H' := ((.inr (.inl (false, scr)) : ACell) :: bk0 s56 s57 s58 s59 s60 s61 s62 s63 s64 s65 s66 s67 s68 s69 [])) rfl ?_
  obtain ⟨r70, hq110, h⟩ := bnd h
  refine OEndsQ.call0 hm_0 rfl rfl (by decide) rfl (as := [.ref 0, .int 0]) (rest := []) rfl rfl (ok_L_cell hq110) ?_
  refine OEndsQ.adv hm_0 4 (pc' := 56) (L' := [.val (.ref 0), .val (.int ((r55 &&& (3 : Int32)) + (1 : Int32))), .val (.int ((1 : Int32) <<< (((r55 &&& (3 : Int32)) + (1 : Int32)) &&& 31))), .val (.ref 1), .val (.int 0), .val (.int 0), .val (.int 0), .val (.int 0), .val (.int (-1)), .val (.int 0), .val (.int 0), .val (.int 0), .unset, .unset, .unset, .unset, .unset, .unset]) (S' := [.int ((XT.ushr r70 (2 : Int32)) &&& (1 : Int32))]) (H' := ((.inr (.inl (false, scr)) : ACell) :: bk0 s56 s57 s58 s59 s60 s61 s62 s63 s64 s65 s66 s67 s68 s69 [])) rfl ?_
  by_cases hc111 : ((XT.ushr r70 (2 : Int32)) &&& (1 : Int32)) = (0 : Int32)
  · simp only [if_pos hc111] at h
    refine OEndsQ.ifF hm_0 rfl ((teq hc111).2) ?_
    refine OEndsQ.adv hm_0 3 (pc' := 62) (L' := [.val (.ref 0), .val (.int ((r55 &&& (3 : Int32)) + (1 : Int32))), .val (.int ((1 : Int32) <<< (((r55 &&& (3 : Int32)) + (1 : Int32)) &&& 31))), .val (.ref 1), .val (.int 0), .val (.int 0), .val (.int 0), .val (.int 0), .val (.int (-1)), .val (.int 0), .val (.int 0), .val (.int 0), .unset, .unset, .unset, .unset, .unset, .unset]) (S' := [.int 1, .ref 0, .ref 1]) (H' := ((.inr (.inl (false, scr)) : ACell) :: bk0 s56 s57 s58 s59 s60 s61 s62 s63 s64 s65 s66 s67 s68 s69 [])) rfl ?_
    obtain ⟨r71, hq112, h⟩ := bnd h
    refine OEndsQ.call0 hm_0 rfl rfl (by decide) rfl (as := [.ref 0, .int 1]) (rest := [.ref 1]) rfl rfl (ok_L_cell hq112) ?_
    show OEndsQ own_P 0 65 [.val (.ref 0), .val (.int ((r55 &&& (3 : Int32)) + (1 : Int32))), .val (.int ((1 : Int32) <<< (((r55 &&& (3 : Int32)) + (1 : Int32)) &&& 31))), .val (.ref 1), .val (.int 0), .val (.int 0), .val (.int 0), .val (.int 0), .val (.int (-1)), .val (.int 0), .val (.int 0), .val (.int 0), .unset, .unset, .unset, .unset, .unset, .unset] [.int r71, .ref 1] ((.inr (.inl (false, scr)) : ACell) :: bk0 s56 s57 s58 s59 s60 s61 s62 s63 s64 s65 s66 s67 s68 s69 []) _
    obtain ⟨⟨r72, s73, s74, s75, s76, s77, s78, s79⟩, hq113, h⟩ := bnd h
    refine OEndsQ.call0 hm_0 rfl rfl (by decide) rfl (as := [.ref 1, .int r71]) (rest := []) rfl rfl (ok_keygen hq113) ?_
    show OEndsQ own_P 0 68 [.val (.ref 0), .val (.int ((r55 &&& (3 : Int32)) + (1 : Int32))), .val (.int ((1 : Int32) <<< (((r55 &&& (3 : Int32)) + (1 : Int32)) &&& 31))), .val (.ref 1), .val (.int 0), .val (.int 0), .val (.int 0), .val (.int 0), .val (.int (-1)), .val (.int 0), .val (.int 0), .val (.int 0), .unset, .unset, .unset, .unset, .unset, .unset] [.int r72] ((.inr (.inl (false, scr)) : ACell) :: bk0 s56 s57 s73 s74 s60 s75 s62 s63 s76 s77 s78 s79 s68 s69 []) _
    by_cases hc114 : r72 = (0 : Int32)
    · simp only [if_pos hc114] at h
      refine OEndsQ.ifT hm_0 rfl (q := 80) rfl ((teq hc114).1) ?_
      refine OEndsQ.adv hm_0 2 (pc' := 83) (L' := [.val (.ref 0), .val (.int ((r55 &&& (3 : Int32)) + (1 : Int32))), .val (.int ((1 : Int32) <<< (((r55 &&& (3 : Int32)) + (1 : Int32)) &&& 31))), .val (.ref 1), .val (.int 0), .val (.int 0), .val (.int 0), .val (.int 0), .val (.int (-1)), .val (.int 0), .val (.int 0), .val (.int 0), .val (.int 2), .unset, .unset, .unset, .unset, .unset]) (S' := []) (H' := ((.inr (.inl (false, scr)) : ACell) :: bk0 s56 s57 s73 s74 s60 s75 s62 s63 s76 s77 s78 s79 s68 s69 [])) rfl ?_
      exact ok_L_law_83 100000 h
    · simp only [if_neg hc114] at h
      refine OEndsQ.ifF hm_0 rfl ((feq hc114).1) ?_
      refine OEndsQ.adv hm_0 3 (pc' := 75) (L' := [.val (.ref 0), .val (.int ((r55 &&& (3 : Int32)) + (1 : Int32))), .val (.int ((1 : Int32) <<< (((r55 &&& (3 : Int32)) + (1 : Int32)) &&& 31))), .val (.ref 1), .val (.int 1), .val (.int 0), .val (.int 0), .val (.int 0), .val (.int (-1)), .val (.int 0), .val (.int 0), .val (.int 0), .unset, .unset, .unset, .unset, .unset, .unset]) (S' := [.ref 1]) (H' := ((.inr (.inl (false, scr)) : ACell) :: bk0 s56 s57 s73 s74 s60 s75 s62 s63 s76 s77 s78 s79 s68 s69 [])) rfl ?_
      obtain ⟨r80, hq115, h⟩ := bnd h
      refine OEndsQ.call0 hm_0 rfl rfl (by decide) rfl (as := [.ref 1]) (rest := []) rfl rfl (ok_getRoot hq115) ?_
      refine OEndsQ.adv hm_0 3 (pc' := 83) (L' := [.val (.ref 0), .val (.int ((r55 &&& (3 : Int32)) + (1 : Int32))), .val (.int ((1 : Int32) <<< (((r55 &&& (3 : Int32)) + (1 : Int32)) &&& 31))), .val (.ref 1), .val (.int 1), .val (.int r80), .val (.int 0), .val (.int 0), .val (.int (-1)), .val (.int 0), .val (.int 0), .val (.int 0), .val (.int 2), .unset, .unset, .unset, .unset, .unset]) (S' := []) (H' := ((.inr (.inl (false, scr)) : ACell) :: bk0 s56 s57 s73 s74 s60 s75 s62 s63 s76 s77 s78 s79 s68 s69 [])) rfl ?_
      exact ok_L_law_83 100000 h
  · simp only [if_neg hc111] at h
    refine OEndsQ.ifT hm_0 rfl (q := 80) rfl ((feq hc111).2) ?_
    refine OEndsQ.adv hm_0 2 (pc' := 83) (L' := [.val (.ref 0), .val (.int ((r55 &&& (3 : Int32)) + (1 : Int32))), .val (.int ((1 : Int32) <<< (((r55 &&& (3 : Int32)) + (1 : Int32)) &&& 31))), .val (.ref 1), .val (.int 0), .val (.int 0), .val (.int 0), .val (.int 0), .val (.int (-1)), .val (.int 0), .val (.int 0), .val (.int 0), .val (.int 2), .unset, .unset, .unset, .unset, .unset]) (S' := []) (H' := ((.inr (.inl (false, scr)) : ACell) :: bk0 s56 s57 s58 s59 s60 s61 s62 s63 s64 s65 s66 s67 s68 s69 [])) rfl ?_
    exact ok_L_law_83 100000 h
/-! The signer: what its methods compute -/
/-- the hash's value, made so that Lean does not open it by itself -/
def own_hw (n : Nat) (t a b : Int32) : Int32 := if n = 0 then (f_hash t a b).getD 0 else own_hw (n - 1) t a b
termination_by (n, 0)
decreasing_by exact Prod.Lex.left _ _ (by omega)
def own_h (t a b : Int32) : Int32 := own_hw 0 t a b
theorem own_hash (t a b : Int32) : f_hash t a b = some (own_h t a b) := by
  have h : ∃ r, f_hash t a b = some r := by
    simp [f_hash, f_hash_14, f_rotl]
  obtain ⟨r, e⟩ := h
  have e2 : own_h t a b = r := by
    unfold own_h
    rw [own_hw, if_pos rfl, e]
    rfl
  rw [e, e2]
def own_st (l c u : Int32) : Int32 := (((268435456 : Int32) ||| (l <<< ((16 : Int32) &&& 31))) ||| (c <<< ((8 : Int32) &&& 31))) ||| u
/-- k steps of a chain -/
def own_wk (l c : Int32) : Nat → Int32 → Int32 → Int32
  | 0, _, x => x
  | k + 1, u, x => own_wk l c k (u + 1) (own_h (own_st l c u) x 0)
theorem own_wk0 (l c u x : Int32) : own_wk l c 0 u x = x := by rw [own_wk]
theorem own_wkS (l c : Int32) (k : Nat) (u x : Int32) : own_wk l c (k + 1) u x = own_wk l c k (u + 1) (own_h (own_st l c u) x 0) := by rw [own_wk]
theorem own_suc1 (u : Int32) (a : Nat) : u + 1 + Int32.ofNat a = u + Int32.ofNat (a + 1) := by
  have e : Int32.ofNat 1 = 1 := by decide
  rw [Int32.ofNat_add, Int32.add_assoc, Int32.add_comm 1, e]
theorem own_wk_add (l c : Int32) (a b : Nat) : ∀ (u x : Int32), own_wk l c (a + b) u x = own_wk l c b (u + Int32.ofNat a) (own_wk l c a u x) := by
  induction a with
  | zero =>
    intro u x
    have e : Int32.ofNat 0 = 0 := by decide
    rw [Nat.zero_add, own_wk0, e, Int32.add_zero]
  | succ a ih =>
    intro u x
    have e : a + 1 + b = (a + b) + 1 := by omega
    rw [e, own_wkS, own_wkS, ih, own_suc1]
theorem own_walk6 (l c u k : Int32) (hk : k.toInt ≤ 16) : ∀ (m n : Nat) (x i : Int32), 0 ≤ i.toInt → i.toInt + m = k.toInt → m < n → f_walk_6 n l c u k x i = some (own_wk l c m (u + i) x) := by
  intro m
  induction m with
  | zero =>
    intro n x i h0 h1 h2
    obtain ⟨n, rfl⟩ : ∃ n', n = n' + 1 := ⟨n - 1, by omega⟩
    unfold f_walk_6
    rw [if_neg (by ((try simp only [ilt, ile, ieq, iadd_e, isub_e, imul_e, Int32.reduceToInt] at *) <;> omega)), own_wk0]
  | succ m ih =>
    intro n x i h0 h1 h2
    obtain ⟨n, rfl⟩ : ∃ n', n = n' + 1 := ⟨n - 1, by omega⟩
    unfold f_walk_6
    rw [if_pos (by ((try simp only [ilt, ile, ieq, iadd_e, isub_e, imul_e, Int32.reduceToInt] at *) <;> omega)), if_pos (by ((try simp only [ilt, ile, ieq, iadd_e, isub_e, imul_e, Int32.reduceToInt] at *) <;> omega))]
    simp only [f_stepTweak, Option.bind_some, own_hash]
    rw [ih n _ (i + 1) (by ((try simp only [ilt, ile, ieq, iadd_e, isub_e, imul_e, Int32.reduceToInt] at *) <;> omega)) (by ((try simp only [ilt, ile, ieq, iadd_e, isub_e, imul_e, Int32.reduceToInt] at *) <;> omega)) (by omega), ← Int32.add_assoc, own_wkS]
    unfold own_st
    with_reducible rfl
theorem own_walk (l c x u k : Int32) (h0 : 0 ≤ k.toInt) (hk : k.toInt ≤ 16) : f_walk l c x u k = some (own_wk l c k.toInt.toNat u x) := by
  unfold f_walk
  rw [own_walk6 l c u k hk k.toInt.toNat 100000 x 0 (by decide) (by ((try simp only [ilt, ile, ieq, iadd_e, isub_e, imul_e, Int32.reduceToInt] at *) <;> omega)) (by omega), Int32.add_zero]
def own_sk (s l c : Int32) : Int32 := own_h ((l <<< ((16 : Int32) &&& 31)) ||| (c <<< ((8 : Int32) &&& 31))) s 0
theorem own_secret (s l c : Int32) : f_secretKey s l c = some (own_sk s l c) := by
  simp [f_secretKey, f_secretTweak, own_hash, own_sk]
def own_fold (l : Int32) (ev : List Int32) : Int32 := (f_foldEnds ev l).getD 0
theorem own_fe9 (ev : List Int32) (he : ev.length = 10) : ∀ (n : Nat) (l a i : Int32), 0 ≤ i.toInt → i.toInt ≤ 10 → 10 - i.toInt < n → ∃ r, f_foldEnds_9 ev n l a i = some r := by
  intro n
  induction n with
  | zero => intro l a i h0 h1 h2; exfalso; omega
  | succ n ih =>
    intro l a i h0 h1 h2
    unfold f_foldEnds_9
    by_cases g : i < 10
    · rw [if_pos g]
      simp only [f_foldTweak, Option.bind_some, own_hash, rdg h0 (show i.toInt < ev.length by ((try simp only [ilt, ile, ieq, iadd_e, isub_e, imul_e, Int32.reduceToInt] at *) <;> omega))]
      exact ih _ _ _ (by ((try simp only [ilt, ile, ieq, iadd_e, isub_e, imul_e, Int32.reduceToInt] at *) <;> omega)) (by ((try simp only [ilt, ile, ieq, iadd_e, isub_e, imul_e, Int32.reduceToInt] at *) <;> omega)) (by ((try simp only [ilt, ile, ieq, iadd_e, isub_e, imul_e, Int32.reduceToInt] at *) <;> omega))
    · rw [if_neg g]; exact ⟨_, rfl⟩
theorem own_foldEnds (ev : List Int32) (l : Int32) (he : ev.length = 10) : f_foldEnds ev l = some (own_fold l ev) := by
  have h : ∃ r, f_foldEnds ev l = some r := by
    unfold f_foldEnds
    rw [rdg (by decide) (by rw [he]; decide), Option.bind_some]
    exact own_fe9 ev he 100000 l _ 1 (by decide) (by decide) (by decide)
  obtain ⟨r, e⟩ := h
  simp [own_fold, e]
def own_end (s l c : Int32) : Int32 := own_wk l c 15 0 (own_sk s l c)
def own_evs (f : Int32 → Int32) : List Int32 := [f 0, f 1, f 2, f 3, f 4, f 5, f 6, f 7, f 8, f 9]
def own_leaf (s l : Int32) : Int32 := own_fold l (own_evs (own_end s l))
theorem own_ten {i : Int32} (h0 : 0 ≤ i.toInt) (h1 : i.toInt < 10) : i = 0 ∨ i = 1 ∨ i = 2 ∨ i = 3 ∨ i = 4 ∨ i = 5 ∨ i = 6 ∨ i = 7 ∨ i = 8 ∨ i = 9 := by
  simp only [ieq, Int32.reduceToInt]
  omega
theorem own_evs_g (f : Int32 → Int32) {i : Int32} (h0 : 0 ≤ i.toInt) (h1 : i.toInt < 10) : gI (own_evs f) i = f i := by
  rcases own_ten h0 h1 with rfl | rfl | rfl | rfl | rfl | rfl | rfl | rfl | rfl | rfl <;> first | rfl | simp [gI, rdA, own_evs]
theorem own_evs_eq {ev : List Int32} {f : Int32 → Int32} (he : ev.length = 10) (h : ∀ i : Int32, 0 ≤ i.toInt → i.toInt < 10 → gI ev i = f i) : ev = own_evs f := by
  refine gext (by omega) (by rw [he]; rfl) (fun i h0 h1 => ?_)
  rw [h i h0 (by omega), own_evs_g f h0 (by omega)]
theorem own_bl18 {Q : List Int32 × List Int32 × List Int32 → Prop} (k70 : List Int32 → List Int32 → List Int32 → Int32 → Option (List Int32 × List Int32 × List Int32)) (lc s l : Int32) (hl0 : 0 ≤ l.toInt) (hl1 : l.toInt < 16) (tree ends0 : List Int32)
    (hk : ∀ ends ev : List Int32, ends.length = 160 → ev = own_evs (own_end s l) → (∀ i c : Int32, 0 ≤ i.toInt → i.toInt < l.toInt → 0 ≤ c.toInt → c.toInt < 10 → gI ends (i * 10 + c) = gI ends0 (i * 10 + c)) → (∀ c : Int32, 0 ≤ c.toInt → c.toInt < 10 → gI ends (l * 10 + c) = own_end s l c) → Tot (k70 tree ends ev l) Q) :
    ∀ (n : Nat) (ends ev : List Int32) (j : Int32), ends.length = 160 → ev.length = 10 → 0 ≤ j.toInt → j.toInt ≤ 10 → 10 - j.toInt < n →
    (∀ i c : Int32, 0 ≤ i.toInt → i.toInt < l.toInt → 0 ≤ c.toInt → c.toInt < 10 → gI ends (i * 10 + c) = gI ends0 (i * 10 + c)) → (∀ c : Int32, 0 ≤ c.toInt → c.toInt < j.toInt → gI ends (l * 10 + c) = own_end s l c) → (∀ c : Int32, 0 ≤ c.toInt → c.toInt < j.toInt → gI ev c = own_end s l c) →
    Tot (f_buildLeaves_18 k70 lc s n tree ends ev l j) Q := by
  intro n
  induction n with
  | zero => intro ends ev j h1 h2 h3 h4 h5; exfalso; omega
  | succ n ih =>
    intro ends ev j h1 h2 h3 h4 h5 h6 h7 h8
    unfold f_buildLeaves_18
    refine Tot.ite (fun g => ?_) (fun g => ?_)
    · have g' : j.toInt < 10 := by clear h6 h7 h8 ih hk; ((try simp only [ilt, ile, ieq, iadd_e, isub_e, imul_e, Int32.reduceToInt] at *) <;> omega)
      rw [own_secret, Option.bind_some, own_walk l j _ 0 15 (by decide) (by decide), Option.bind_some]
      have ej : (l * 10 + j).toInt = l.toInt * 10 + j.toInt := by clear h6 h7 h8 ih hk; ((try simp only [ilt, ile, ieq, iadd_e, isub_e, imul_e, Int32.reduceToInt] at *) <;> omega)
      refine Tot.wr (by omega) (by omega) (fun e1 q1 q2 => Tot.wr (by omega) (by omega) (fun e2 q3 q4 => ?_))
      have ej1 : (j + 1).toInt = j.toInt + 1 := by clear h6 h7 h8 ih hk q1 q3; ((try simp only [ilt, ile, ieq, iadd_e, isub_e, imul_e, Int32.reduceToInt] at *) <;> omega)
      refine ih e1 e2 (j + 1) (by omega) (by omega) (by omega) (by omega) (by omega) ?_ ?_ ?_
      · intro i c a b d e
        have ei : (i * 10 + c).toInt = i.toInt * 10 + c.toInt := by clear h6 h7 h8 ih hk q1 q3; ((try simp only [ilt, ile, ieq, iadd_e, isub_e, imul_e, Int32.reduceToInt] at *) <;> omega)
        rw [q1, gset (by omega) (by omega) (by omega), if_neg (by rw [ieq]; omega)]
        exact h6 i c a b d e
      · intro c a b
        have ei : (l * 10 + c).toInt = l.toInt * 10 + c.toInt := by clear h6 h7 h8 ih hk q1 q3; ((try simp only [ilt, ile, ieq, iadd_e, isub_e, imul_e, Int32.reduceToInt] at *) <;> omega)
        rw [q1, gset (by omega) (by omega) (by omega)]
        by_cases hc : c = j
        · subst hc; rw [if_pos rfl]; (first | done | rfl | simp)
        · rw [ieq] at hc
          rw [if_neg (by rw [ieq]; omega)]
          exact h7 c a (by omega)
      · intro c a b
        rw [q3, gset (by omega) (by omega) (by omega)]
        by_cases hc : c = j
        · subst hc; rw [if_pos rfl]; (first | done | rfl | simp)
        · rw [ieq] at hc
          rw [if_neg (by rw [ieq]; omega)]
          exact h8 c a (by omega)
    · have g' : j.toInt = 10 := by clear h6 h7 h8 ih hk; ((try simp only [ilt, ile, ieq, iadd_e, isub_e, imul_e, Int32.reduceToInt] at *) <;> omega)
      exact hk ends ev h1 (own_evs_eq h2 (fun i a b => h8 i a (by omega))) h6 (fun c a b => h7 c a (by omega))
theorem own_bl2 (lc s : Int32) (hlc : lc.toInt ≤ 16) : ∀ (n : Nat) (tree ends ev : List Int32) (l : Int32), tree.length = 80 → ends.length = 160 → ev.length = 10 → 0 ≤ l.toInt → l.toInt ≤ lc.toInt → 16 - l.toInt < n →
    (∀ i : Int32, 0 ≤ i.toInt → i.toInt < l.toInt → gI tree i = own_leaf s i) → (∀ i c : Int32, 0 ≤ i.toInt → i.toInt < l.toInt → 0 ≤ c.toInt → c.toInt < 10 → gI ends (i * 10 + c) = own_end s i c) →
    Tot (f_buildLeaves_2 lc s n tree ends ev l) (fun r => r.1.length = 80 ∧ r.2.1.length = 160 ∧ r.2.2.length = 10 ∧ (∀ i : Int32, 0 ≤ i.toInt → i.toInt < lc.toInt → gI r.1 i = own_leaf s i) ∧ (∀ i c : Int32, 0 ≤ i.toInt → i.toInt < lc.toInt → 0 ≤ c.toInt → c.toInt < 10 → gI r.2.1 (i * 10 + c) = own_end s i c)) := by
  intro n
  induction n with
  | zero => intro tree ends ev l h1 h2 h3 h4 h5 h6; exfalso; omega
  | succ n ih =>
    intro tree ends ev l h1 h2 h3 h4 h5 h6 h7 h8
    unfold f_buildLeaves_2
    refine Tot.ite (fun g => Tot.ite (fun g2 => ?_) (fun g2 => ?_)) (fun g => ?_)
    · have g' : l.toInt < lc.toInt := ilt.mp g
      refine own_bl18 _ lc s l h4 (by omega) tree ends (fun ends' ev' q1 q2 q3 q4 => ?_) 100000 ends ev 0 h2 h3 (by decide) (by decide) (by decide) (fun i c _ _ _ _ => rfl) (fun c a b => by exfalso; have e0 : (0 : Int32).toInt = 0 := rfl; omega) (fun c a b => by exfalso; have e0 : (0 : Int32).toInt = 0 := rfl; omega)
      unfold f_buildLeaves_70
      rw [q2, own_foldEnds _ l rfl, Option.bind_some]
      refine Tot.wr h4 (by omega) (fun t' q5 q6 => ?_)
      have el : (l + 1).toInt = l.toInt + 1 := by clear h7 h8 ih q3 q4 q5; ((try simp only [ilt, ile, ieq, iadd_e, isub_e, imul_e, Int32.reduceToInt] at *) <;> omega)
      refine ih t' ends' _ (l + 1) (by omega) q1 rfl (by omega) (by omega) (by omega) ?_ ?_
      · intro i a b
        rw [q5, gset (by omega) (by omega) (by omega)]
        by_cases hc : i = l
        · subst hc; rw [if_pos rfl]; (first | done | rfl | simp)
        · rw [ieq] at hc
          rw [if_neg (by rw [ieq]; omega)]
          exact h7 i a (by omega)
      · intro i c a b d e
        by_cases hc : i = l
        · subst hc; exact q4 c d e
        · rw [ieq] at hc
          rw [q3 i c a (by omega) d e]
          exact h8 i c a (by omega) d e
    · exfalso; clear h7 h8 ih; ((try simp only [ilt, ile, ieq, iadd_e, isub_e, imul_e, Int32.reduceToInt] at *) <;> omega)
    · have g' : ¬ l.toInt < lc.toInt := fun q => g (ilt.mpr q)
      exact Tot.mk ⟨h1, h2, h3, fun i a b => h7 i a (by omega), fun i c a b d e => h8 i c a (by omega) d e⟩
def own_nt (v i : Int32) : Int32 := ((805306368 : Int32) ||| (v <<< ((16 : Int32) &&& 31))) ||| i
def own_lev (T : List Int32) (v i : Int32) : Prop := gI T (v * 16 + i) = own_h (own_nt v i) (gI T ((v - 1) * 16 + 2 * i)) (gI T ((v - 1) * 16 + 2 * i + 1))
theorem own_bu24 {Q : List Int32 → Prop} (k2 : List Int32 → Int32 → Option (List Int32)) (h lc v w : Int32) (T0 : List Int32) (hv1 : 1 ≤ v.toInt) (hv4 : v.toInt ≤ 4) (hw : w.toInt ≤ 8)
    (hk : ∀ T : List Int32, T.length = 80 → (∀ i : Int32, 0 ≤ i.toInt → i.toInt < 16 * v.toInt → gI T i = gI T0 i) → (∀ i : Int32, 0 ≤ i.toInt → i.toInt < w.toInt → own_lev T v i) → Tot (k2 T (v + 1)) Q) :
    ∀ (n : Nat) (T : List Int32) (j : Int32), T.length = 80 → 0 ≤ j.toInt → j.toInt ≤ 8 → 8 - j.toInt < n → (∀ i : Int32, 0 ≤ i.toInt → i.toInt < 16 * v.toInt → gI T i = gI T0 i) → (∀ i : Int32, 0 ≤ i.toInt → i.toInt < j.toInt → own_lev T v i) → Tot (f_buildUpperLevels_24 k2 h lc n T v w j) Q := by
  intro n
  induction n with
  | zero => intro T j h1 h2 h3 h4; exfalso; omega
  | succ n ih =>
    intro T j h1 h2 h3 h4 h5 h6
    unfold f_buildUpperLevels_24
    refine Tot.ite (fun g => Tot.ite (fun g2 => ?_) (fun g2 => ?_)) (fun g => ?_)
    · have g' : j.toInt < w.toInt := ilt.mp g
      have ea : ∀ i : Int32, 0 ≤ i.toInt → i.toInt < 8 → ((v - 1) * 16 + 2 * i).toInt = (v.toInt - 1) * 16 + 2 * i.toInt := fun i a b => by clear h5 h6 ih hk; ((try simp only [ilt, ile, ieq, iadd_e, isub_e, imul_e, Int32.reduceToInt] at *) <;> omega)
      have eb : ∀ i : Int32, 0 ≤ i.toInt → i.toInt < 8 → ((v - 1) * 16 + 2 * i + 1).toInt = (v.toInt - 1) * 16 + 2 * i.toInt + 1 := fun i a b => by clear h5 h6 ih hk ea; ((try simp only [ilt, ile, ieq, iadd_e, isub_e, imul_e, Int32.reduceToInt] at *) <;> omega)
      have ec : ∀ i : Int32, 0 ≤ i.toInt → i.toInt < 8 → (v * 16 + i).toInt = v.toInt * 16 + i.toInt := fun i a b => by clear h5 h6 ih hk ea eb; ((try simp only [ilt, ile, ieq, iadd_e, isub_e, imul_e, Int32.reduceToInt] at *) <;> omega)
      have ea' := ea j h2 (by omega)
      have eb' := eb j h2 (by omega)
      have ec' := ec j h2 (by omega)
      unfold f_nodeTweak
      rw [Option.bind_some]
      refine Tot.rdI (by omega) (by omega) (Tot.rdI (by omega) (by omega) ?_)
      rw [own_hash, Option.bind_some]
      refine Tot.wr (by omega) (by omega) (fun T' q1 q2 => ?_)
      have hs : ∀ q : Int32, 0 ≤ q.toInt → q.toInt ≠ (v * 16 + j).toInt → gI T' q = gI T q := by
        intro q a b
        rw [q1, gset (by omega) (by omega) a, if_neg (by rw [ieq]; omega)]
      have hj : gI T' (v * 16 + j) = own_h (own_nt v j) (gI T ((v - 1) * 16 + 2 * j)) (gI T ((v - 1) * 16 + 2 * j + 1)) := by
        rw [q1, gset (by omega) (by omega) (by omega), if_pos rfl]
        (first | done | rfl | simp)
      have ej : (j + 1).toInt = j.toInt + 1 := by clear h5 h6 ih hk ea eb ec q1 hs hj; ((try simp only [ilt, ile, ieq, iadd_e, isub_e, imul_e, Int32.reduceToInt] at *) <;> omega)
      refine ih T' (j + 1) (by omega) (by omega) (by omega) (by omega) ?_ ?_
      · intro i a b
        rw [hs i a (by omega)]
        exact h5 i a b
      · intro i a b
        have e1 := ea i a (by omega)
        have e2 := eb i a (by omega)
        have e3 := ec i a (by omega)
        unfold own_lev
        rw [hs ((v - 1) * 16 + 2 * i) (by omega) (by omega), hs ((v - 1) * 16 + 2 * i + 1) (by omega) (by omega)]
        by_cases hc : i = j
        · subst hc; exact hj
        · rw [ieq] at hc
          rw [hs (v * 16 + i) (by omega) (by omega)]
          exact h6 i a (by omega)
    · exfalso; clear h5 h6 ih hk; ((try simp only [ilt, ile, ieq, iadd_e, isub_e, imul_e, Int32.reduceToInt] at *) <;> omega)
    · have g' : ¬ j.toInt < w.toInt := fun q => g (ilt.mpr q)
      exact hk T h1 h5 (fun i a b => h6 i a (by omega))
theorem own_bu2 (h lc : Int32) (hw : ∀ v : Int32, 1 ≤ v.toInt → v.toInt ≤ 4 → (lc >>> (v &&& 31)).toInt ≤ 8) : ∀ (n : Nat) (T : List Int32) (v : Int32), T.length = 80 → 1 ≤ v.toInt → v.toInt ≤ 5 → 5 - v.toInt < n →
    (∀ u i : Int32, 1 ≤ u.toInt → u.toInt < v.toInt → 0 ≤ i.toInt → i.toInt < (lc >>> (u &&& 31)).toInt → own_lev T u i) →
    Tot (f_buildUpperLevels_2 h lc n T v) (fun T' => T'.length = 80 ∧ (∀ i : Int32, 0 ≤ i.toInt → i.toInt < 16 → gI T' i = gI T i) ∧ ∀ u i : Int32, 1 ≤ u.toInt → u.toInt ≤ h.toInt → u.toInt ≤ 4 → 0 ≤ i.toInt → i.toInt < (lc >>> (u &&& 31)).toInt → own_lev T' u i) := by
  intro n
  induction n with
  | zero => intro T v h1 h2 h3 h4; exfalso; omega
  | succ n ih =>
    intro T v h1 h2 h3 h4 h5
    unfold f_buildUpperLevels_2
    refine Tot.ite (fun g => ?_) (fun g => Tot.ite (fun g2 => ?_) (fun g2 => ?_))
    · have g' := ilt.mp g
      exact Tot.mk ⟨h1, fun i _ _ => rfl, fun u i a b c d e => h5 u i a (by omega) d e⟩
    · have g' : (4 : Int) < v.toInt := ilt.mp g2
      exact Tot.mk ⟨h1, fun i _ _ => rfl, fun u i a b c d e => h5 u i a (by omega) d e⟩
    · have g' : ¬ (4 : Int) < v.toInt := fun q => g2 (ilt.mpr q)
      refine own_bu24 _ h lc v (lc >>> (v &&& 31)) T h2 (by omega) (hw v h2 (by omega)) (fun T' q1 q2 q3 => ?_) 100000 T 0 h1 (by decide) (by decide) (by decide) (fun i _ _ => rfl) (fun i a b => by exfalso; have e0 : (0 : Int32).toInt = 0 := rfl; omega)
      have ev : (v + 1).toInt = v.toInt + 1 := by clear h5 ih q2 q3 hw; ((try simp only [ilt, ile, ieq, iadd_e, isub_e, imul_e, Int32.reduceToInt] at *) <;> omega)
      refine (ih T' (v + 1) q1 (by omega) (by omega) (by omega) ?_).mono ?_
      · intro u i a b c d
        by_cases hc : u = v
        · subst hc; exact q3 i c d
        · rw [ieq] at hc
          have hb := hw u a (by omega)
          have e1 : ((u - 1) * 16 + 2 * i).toInt = (u.toInt - 1) * 16 + 2 * i.toInt := by clear h5 ih q2 q3 hw; ((try simp only [ilt, ile, ieq, iadd_e, isub_e, imul_e, Int32.reduceToInt] at *) <;> omega)
          have e2 : ((u - 1) * 16 + 2 * i + 1).toInt = (u.toInt - 1) * 16 + 2 * i.toInt + 1 := by clear h5 ih q2 q3 hw e1; ((try simp only [ilt, ile, ieq, iadd_e, isub_e, imul_e, Int32.reduceToInt] at *) <;> omega)
          have e3 : (u * 16 + i).toInt = u.toInt * 16 + i.toInt := by clear h5 ih q2 q3 hw e1 e2; ((try simp only [ilt, ile, ieq, iadd_e, isub_e, imul_e, Int32.reduceToInt] at *) <;> omega)
          unfold own_lev
          rw [q2 _ (by omega) (by omega), q2 ((u - 1) * 16 + 2 * i) (by omega) (by omega), q2 ((u - 1) * 16 + 2 * i + 1) (by omega) (by omega)]
          exact h5 u i a (by omega) c d
      · rintro T2 ⟨a, b, c⟩
        exact ⟨a, fun i d e => by rw [b i d e, q2 i d (by omega)], c⟩
def own_hl (h lc : Int32) : Prop := (h = 1 ∧ lc = 2) ∨ (h = 2 ∧ lc = 4) ∨ (h = 3 ∧ lc = 8) ∨ (h = 4 ∧ lc = 16)
theorem own_hl_w {h lc : Int32} (hh : own_hl h lc) (v : Int32) (h1 : 1 ≤ v.toInt) (h4 : v.toInt ≤ 4) : (lc >>> (v &&& 31)).toInt ≤ 8 := by
  have hv : v = 1 ∨ v = 2 ∨ v = 3 ∨ v = 4 := by
    simp only [ieq, Int32.reduceToInt]
    omega
  rcases hh with ⟨-, rfl⟩ | ⟨-, rfl⟩ | ⟨-, rfl⟩ | ⟨-, rfl⟩ <;> rcases hv with rfl | rfl | rfl | rfl <;> decide
theorem own_hl_b {h lc : Int32} (hh : own_hl h lc) : 1 ≤ h.toInt ∧ h.toInt ≤ 4 ∧ 2 ≤ lc.toInt ∧ lc.toInt ≤ 16 := by
  rcases hh with ⟨rfl, rfl⟩ | ⟨rfl, rfl⟩ | ⟨rfl, rfl⟩ | ⟨rfl, rfl⟩ <;> decide
def own_tree (s h lc : Int32) (T : List Int32) : Prop := T.length = 80 ∧ (∀ i : Int32, 0 ≤ i.toInt → i.toInt < lc.toInt → gI T i = own_leaf s i) ∧ (∀ u i : Int32, 1 ≤ u.toInt → u.toInt ≤ h.toInt → 0 ≤ i.toInt → i.toInt < (lc >>> (u &&& 31)).toInt → own_lev T u i)
def own_ends (s lc : Int32) (E : List Int32) : Prop := E.length = 160 ∧ ∀ i c : Int32, 0 ≤ i.toInt → i.toInt < lc.toInt → 0 ≤ c.toInt → c.toInt < 10 → gI E (i * 10 + c) = own_end s i c
theorem own_keygen {h lc : Int32} (hh : own_hl h lc) {T ends ev : List Int32} (hT : T.length = 80) (he : ends.length = 160) (hv : ev.length = 10) (seed root next s : Int32) :
    ∃ T' ends' ev' : List Int32, f_keygen h lc T ends ev 0 seed root next s = some (1, T', ends', ev', 1, s, gI T' (h * 16), 0) ∧ own_tree s h lc T' ∧ own_ends s lc ends' ∧ ev'.length = 10 := by
  have hb := own_hl_b hh
  obtain ⟨⟨t, e, v⟩, p1, a1, a2, a3, a4, a5⟩ := own_bl2 lc s (by omega) 100000 T ends ev 0 hT he hv (by decide) (by have e0 : (0 : Int32).toInt = 0 := rfl; omega) (by decide) (fun i a b => by exfalso; have e0 : (0 : Int32).toInt = 0 := rfl; omega) (fun i c a b => by exfalso; have e0 : (0 : Int32).toInt = 0 := rfl; omega)
  obtain ⟨t2, p2, b1, b2, b3⟩ := own_bu2 h lc (own_hl_w hh) 100000 t 1 a1 (by decide) (by decide) (by decide) (fun u i a b => by exfalso; have e0 : (1 : Int32).toInt = 1 := rfl; omega)
  have eh : (h * 16).toInt = h.toInt * 16 := by clear b2 b3 a4 a5 p1 p2; ((try simp only [ilt, ile, ieq, iadd_e, isub_e, imul_e, Int32.reduceToInt] at *) <;> omega)
  refine ⟨t2, e, v, ?_, ⟨b1, fun i a b => ?_, fun u i a b c d => b3 u i a b (by omega) c d⟩, ⟨a2, a5⟩, a3⟩
  · unfold f_keygen f_buildLeaves f_buildUpperLevels
    rw [if_pos rfl, p1, Option.bind_some]
    show (Option.bind (f_buildUpperLevels_2 h lc 100000 t 1) _) = _
    rw [p2, Option.bind_some, rdg (by omega) (by omega), Option.bind_some]
  · rw [b2 i a (by omega)]
    exact a4 i a b
def own_dg (m : Int32) : List Int32 := (f_fillDigits (List.replicate 10 0) m).getD []
theorem own_fd (dig : List Int32) (m : Int32) (h : dig.length = 10) : f_fillDigits dig m = some (own_dg m) := by
  rw [own_evs_eq (f := gI dig) h (fun _ _ _ => rfl)]
  generalize gI dig = f
  simp [own_dg, own_evs, f_fillDigits, f_fillDigits_4, f_fillDigits_45, wrA, List.replicate]
theorem own_dg_eq (m : Int32) : ∃ S : Int32, own_dg m = [XT.ushr m 28 &&& 15, XT.ushr m 24 &&& 15, XT.ushr m 20 &&& 15, XT.ushr m 16 &&& 15, XT.ushr m 12 &&& 15, XT.ushr m 8 &&& 15, XT.ushr m 4 &&& 15, XT.ushr m 0 &&& 15, XT.ushr S 4 &&& 15, S &&& 15] := by
  refine ⟨0 + (15 - (XT.ushr m 28 &&& 15)) + (15 - (XT.ushr m 24 &&& 15)) + (15 - (XT.ushr m 20 &&& 15)) + (15 - (XT.ushr m 16 &&& 15)) + (15 - (XT.ushr m 12 &&& 15)) + (15 - (XT.ushr m 8 &&& 15)) + (15 - (XT.ushr m 4 &&& 15)) + (15 - (XT.ushr m 0 &&& 15)), ?_⟩
  simp [own_dg, f_fillDigits, f_fillDigits_4, f_fillDigits_45, wrA, List.replicate]
theorem own_dg_len (m : Int32) : (own_dg m).length = 10 := by
  obtain ⟨S, e⟩ := own_dg_eq m
  rw [e]; rfl
theorem own_dg_rng (m : Int32) {c : Int32} (h0 : 0 ≤ c.toInt) (h1 : c.toInt < 10) : 0 ≤ (gI (own_dg m) c).toInt ∧ (gI (own_dg m) c).toInt ≤ 15 := by
  obtain ⟨S, e⟩ := own_dg_eq m
  have k : ∃ x : Int32, gI (own_dg m) c = x &&& 15 := by
    rw [e]
    rcases own_ten h0 h1 with rfl | rfl | rfl | rfl | rfl | rfl | rfl | rfl | rfl | rfl <;> exact ⟨_, rfl⟩
  obtain ⟨x, k⟩ := k
  rw [k]
  exact iand_rng x 15 (by decide)
theorem own_path2 (T : List Int32) (h q : Int32) (hT : T.length = 80) : ∀ (n : Nat) (iss : List Int32) (j : Int32), iss.length = 14 → 0 ≤ j.toInt → j.toInt ≤ 4 → 4 - j.toInt < n →
    Tot (f_fillPath_2 T h n iss q j) (fun r => r.length = 14 ∧ (∀ c : Int32, 0 ≤ c.toInt → c.toInt < 10 + j.toInt → gI r c = gI iss c) ∧ (∀ v : Int32, j.toInt ≤ v.toInt → v.toInt < 4 → gI r (10 + v) = if v < h then gI T (v * 16 + ((XT.ushr q v ^^^ 1) &&& 15)) else 0)) := by
  intro n
  induction n with
  | zero => intro iss j h1 h2 h3 h4; exfalso; omega
  | succ n ih =>
    intro iss j h1 h2 h3 h4
    have ej : (j + 1).toInt = j.toInt + 1 := by clear ih; ((try simp only [ilt, ile, ieq, iadd_e, isub_e, imul_e, Int32.reduceToInt] at *) <;> omega)
    have e10 : (10 + j).toInt = 10 + j.toInt := by clear ih; ((try simp only [ilt, ile, ieq, iadd_e, isub_e, imul_e, Int32.reduceToInt] at *) <;> omega)
    have key : ∀ x : Int32, j.toInt < 4 → x = (if j < h then gI T (j * 16 + ((XT.ushr q j ^^^ 1) &&& 15)) else 0) → Tot (f_fillPath_40 (f_fillPath_2 T h n) T h iss q j x) (fun r => r.length = 14 ∧ (∀ c : Int32, 0 ≤ c.toInt → c.toInt < 10 + j.toInt → gI r c = gI iss c) ∧ (∀ v : Int32, j.toInt ≤ v.toInt → v.toInt < 4 → gI r (10 + v) = if v < h then gI T (v * 16 + ((XT.ushr q v ^^^ 1) &&& 15)) else 0)) := by
      intro x g4 hx
      unfold f_fillPath_40
      refine Tot.wr (by omega) (by omega) (fun I' q1 q2 => ?_)
      refine (ih I' (j + 1) (by omega) (by omega) (by omega) (by omega)).mono ?_
      rintro r ⟨a, b, c⟩
      refine ⟨a, fun i d e => ?_, fun v d e => ?_⟩
      · rw [b i d (by omega), q1, gset (by omega) (by omega) d, if_neg (by rw [ieq]; omega)]
      · by_cases hv : v = j
        · subst hv
          rw [b (10 + v) (by omega) (by omega), q1, gset (by omega) (by omega) (by omega), if_pos rfl]
          exact hx
        · rw [ieq] at hv
          exact c v (by omega) e
    unfold f_fillPath_2
    refine Tot.ite (fun g => Tot.ite (fun g2 => ?_) (fun g2 => ?_)) (fun g => ?_)
    · have g' : j.toInt < 4 := ilt.mp g
      have hm := iand_rng (XT.ushr q j ^^^ 1) 15 (by decide)
      have e15 : (15 : Int32).toInt = 15 := rfl
      rw [e15] at hm
      have ei : (j * 16 + ((XT.ushr q j ^^^ 1) &&& 15)).toInt = j.toInt * 16 + ((XT.ushr q j ^^^ 1) &&& 15).toInt := by
        generalize ((XT.ushr q j ^^^ 1) &&& 15) = z at hm ⊢
        clear ih key; ((try simp only [ilt, ile, ieq, iadd_e, isub_e, imul_e, Int32.reduceToInt] at *) <;> omega)
      refine Tot.rdI (by omega) (by omega) (key _ g' ?_)
      rw [if_pos g2]
    · exact key _ (ilt.mp g) (by rw [if_neg g2])
    · have g' : ¬ j.toInt < 4 := fun k => g (ilt.mpr k)
      exact Tot.mk ⟨h1, fun _ _ _ => rfl, fun v a b => by exfalso; omega⟩
theorem own_sign35 {Q : Int32 × List Int32 × List Int32 × Int32 × Int32 → Prop} (k76 : List Int32 → List Int32 → Int32 → Int32 → Int32 → Option (Int32 × List Int32 × List Int32 × Int32 × Int32)) (T : List Int32) (h lc kd s : Int32) (dig : List Int32) (hd : dig.length = 10) (hr : ∀ c : Int32, 0 ≤ c.toInt → c.toInt < 10 → 0 ≤ (gI dig c).toInt ∧ (gI dig c).toInt ≤ 15) (nx iq q : Int32)
    (hk : ∀ iss : List Int32, iss.length = 14 → (∀ c : Int32, 0 ≤ c.toInt → c.toInt < 10 → gI iss c = own_wk q c (gI dig c).toInt.toNat 0 (own_sk s q c)) → Tot (k76 iss dig nx iq q) Q) :
    ∀ (n : Nat) (iss : List Int32) (j : Int32), iss.length = 14 → 0 ≤ j.toInt → j.toInt ≤ 10 → 10 - j.toInt < n → (∀ c : Int32, 0 ≤ c.toInt → c.toInt < j.toInt → gI iss c = own_wk q c (gI dig c).toInt.toNat 0 (own_sk s q c)) → Tot (f_sign_35 k76 T h lc kd s n iss dig nx iq q j) Q := by
  intro n
  induction n with
  | zero => intro iss j h1 h2 h3 h4; exfalso; omega
  | succ n ih =>
    intro iss j h1 h2 h3 h4 h5
    unfold f_sign_35
    refine Tot.ite (fun g => ?_) (fun g => ?_)
    · have g' : j.toInt < 10 := ilt.mp g
      have hj := hr j h2 g'
      have ej : (j + 1).toInt = j.toInt + 1 := by clear ih hr hk h5; ((try simp only [ilt, ile, ieq, iadd_e, isub_e, imul_e, Int32.reduceToInt] at *) <;> omega)
      rw [own_secret, Option.bind_some]
      refine Tot.rdI h2 (by omega) ?_
      rw [own_walk _ _ _ _ _ hj.1 (by omega), Option.bind_some]
      refine Tot.wr h2 (by omega) (fun I' q1 q2 => ?_)
      refine ih I' (j + 1) (by omega) (by omega) (by omega) (by omega) (fun c a b => ?_)
      rw [q1, gset (by omega) (by omega) (by omega)]
      by_cases hc : c = j
      · subst hc; rw [if_pos rfl]
      · rw [ieq] at hc
        rw [if_neg (by rw [ieq]; omega)]
        exact h5 c a (by omega)
    · have g' : ¬ j.toInt < 10 := fun k => g (ilt.mpr k)
      exact hk iss h1 (fun c a b => h5 c a (by omega))
/-- what a leaf's signature holds -/
def own_sig (T : List Int32) (h s q m : Int32) (I : List Int32) : Prop := I.length = 14 ∧ (∀ c : Int32, 0 ≤ c.toInt → c.toInt < 10 → gI I c = own_wk q c (gI (own_dg m) c).toInt.toNat 0 (own_sk s q c)) ∧ (∀ v : Int32, 0 ≤ v.toInt → v.toInt < 4 → gI I (10 + v) = if v < h then gI T (v * 16 + ((XT.ushr q v ^^^ 1) &&& 15)) else 0)
theorem own_sign {T iss dig : List Int32} {h lc s nx iq : Int32} (hT : T.length = 80) (hi : iss.length = 14) (hd : dig.length = 10) (hn : nx < lc) (m : Int32) :
    ∃ I, f_sign T h lc 1 s iss dig nx iq m = some (nx, I, own_dg m, nx + 1, nx) ∧ own_sig T h s nx m I := by
  have k : Tot (f_sign T h lc 1 s iss dig nx iq m) (fun r => ∃ I, r = (nx, I, own_dg m, nx + 1, nx) ∧ own_sig T h s nx m I) := by
    unfold f_sign
    rw [if_neg (by decide), if_pos hn, own_fd dig m hd, Option.bind_some]
    refine own_sign35 _ T h lc 1 s (own_dg m) (own_dg_len m) (fun c a b => own_dg_rng m a b) nx iq nx (fun I1 q1 q2 => ?_) 100000 iss 0 hi (by decide) (by decide) (by decide) (fun c a b => by exfalso; have e0 : (0 : Int32).toInt = 0 := rfl; omega)
    unfold f_sign_76 f_fillPath
    refine Tot.bind (own_path2 T h nx hT 100000 I1 0 q1 (by decide) (by decide) (by decide)) ?_
    rintro I2 ⟨a, b, c⟩
    have e0 : (0 : Int32).toInt = 0 := rfl
    exact Tot.mk ⟨I2, rfl, a, fun i d e => by rw [b i d (by omega), q2 i d e], fun v d e => c v (by omega) e⟩
  obtain ⟨r, e, I, e2, p⟩ := k
  exact ⟨I, by rw [e, e2], p⟩
theorem own_sign0 (T : List Int32) (h lc s : Int32) (iss dig : List Int32) (nx iq m : Int32) : f_sign T h lc 0 s iss dig nx iq m = some (-1, iss, dig, nx, iq) := by
  unfold f_sign; rw [if_pos rfl]
theorem own_signX {T iss dig : List Int32} {h lc s nx iq : Int32} (hn : ¬ nx < lc) (m : Int32) : f_sign T h lc 1 s iss dig nx iq m = some (-2, iss, dig, nx, iq) := by
  unfold f_sign; rw [if_neg (by decide), if_neg hn]
theorem own_clamp (v0 : Int32) : (if (4 : Int32) < (if v0 < (1 : Int32) then (1 : Int32) else v0) then (4 : Int32) else (if v0 < (1 : Int32) then (1 : Int32) else v0)) = (if v0 < (1 : Int32) then (1 : Int32) else (if (4 : Int32) < v0 then (4 : Int32) else v0)) := by
  by_cases h : v0 < 1 <;> simp [h]
theorem own_clamp_hl (v0 : Int32) : own_hl (if v0 < (1 : Int32) then (1 : Int32) else (if (4 : Int32) < v0 then (4 : Int32) else v0)) ((1 : Int32) <<< ((if v0 < (1 : Int32) then (1 : Int32) else (if (4 : Int32) < v0 then (4 : Int32) else v0)) &&& 31)) := by
  have key : (if v0 < (1 : Int32) then (1 : Int32) else (if (4 : Int32) < v0 then (4 : Int32) else v0)) = 1 ∨ (if v0 < (1 : Int32) then (1 : Int32) else (if (4 : Int32) < v0 then (4 : Int32) else v0)) = 2 ∨ (if v0 < (1 : Int32) then (1 : Int32) else (if (4 : Int32) < v0 then (4 : Int32) else v0)) = 3 ∨ (if v0 < (1 : Int32) then (1 : Int32) else (if (4 : Int32) < v0 then (4 : Int32) else v0)) = 4 := by
    split
    · simp
    · rename_i g
      split
      · simp
      · rename_i g2
        have e1 : (1 : Int32).toInt = 1 := rfl
        have e4 : (4 : Int32).toInt = 4 := rfl
        rw [ilt] at g g2
        simp only [ieq, Int32.reduceToInt]
        omega
  rcases key with e | e | e | e <;> rw [e]
  · exact Or.inl ⟨rfl, by decide⟩
  · exact Or.inr (Or.inl ⟨rfl, by decide⟩)
  · exact Or.inr (Or.inr (Or.inl ⟨rfl, by decide⟩))
  · exact Or.inr (Or.inr (Or.inr ⟨rfl, by decide⟩))
theorem own_li20 (I : List Int32) (iq : Int32) (hI : I.length = 14) : ∀ (n : Nat) (C : List Int32) (cq j : Int32), C.length = 14 → 0 ≤ j.toInt → j.toInt ≤ 14 → 14 - j.toInt < n → (∀ c : Int32, 0 ≤ c.toInt → c.toInt < j.toInt → gI C c = gI I c) → f_loadIssued_20 I iq n C cq j = some (1, I, cq) := by
  intro n
  induction n with
  | zero => intro C cq j h1 h2 h3 h4; exfalso; omega
  | succ n ih =>
    intro C cq j h1 h2 h3 h4 h5
    unfold f_loadIssued_20
    by_cases g : j < 14
    · have g' : j.toInt < 14 := ilt.mp g
      have ej : (j + 1).toInt = j.toInt + 1 := by clear ih h5; ((try simp only [ilt, ile, ieq, iadd_e, isub_e, imul_e, Int32.reduceToInt] at *) <;> omega)
      rw [if_pos g, rdg h2 (by omega), Option.bind_some, wrA_in h2 (by omega), Option.bind_some]
      refine ih _ cq (j + 1) (by simpa using h1) (by omega) (by omega) (by omega) (fun c a b => ?_)
      rw [gset h2 (by omega) a]
      by_cases hc : c = j
      · subst hc; rw [if_pos rfl]
      · rw [ieq] at hc
        rw [if_neg (by rw [ieq]; omega)]
        exact h5 c a (by omega)
    · have g' : ¬ j.toInt < 14 := fun k => g (ilt.mpr k)
      rw [if_neg g, gext (A := C) (B := I) (by omega) (by omega) (fun i a b => h5 i a (by omega))]
theorem own_li {I C : List Int32} {iq : Int32} (hI : I.length = 14) (hC : C.length = 14) (hq : ¬ iq = -1) (cq : Int32) : f_loadIssued I iq C cq = some (1, I, iq) := by
  unfold f_loadIssued
  rw [if_neg hq]
  exact own_li20 I iq hI 100000 C iq 0 hC (by decide) (by decide) (by decide) (fun c a b => by exfalso; have e0 : (0 : Int32).toInt = 0 := rfl; omega)
theorem own_li0 {I C : List Int32} (cq : Int32) : f_loadIssued I (-1) C cq = some (0, C, cq) := by
  unfold f_loadIssued
  rw [if_pos rfl]
theorem own_keygen1 (h lc : Int32) (T E V : List Int32) (s root nx v : Int32) : f_keygen h lc T E V 1 s root nx v = some (0, T, E, V, 1, s, root, nx) := by
  unfold f_keygen
  rw [if_neg (by decide)]
/-- a candidate's slot is set, or the call is refused -/
theorem own_scv {h : Int32} {C : List Int32} (h1 : 1 ≤ h.toInt) (h4 : h.toInt ≤ 4) (hC : C.length = 14) (i v : Int32) : ∃ C' : List Int32, f_setCandidateValue h C i v = some (if i < 0 then 0 else if i < 10 + h then 1 else 0, C') ∧ C'.length = 14 ∧ C' = (if i < 0 then C else if i < 10 + h then C.set i.toInt.toNat v else C) := by
  have eh : (10 + h).toInt = 10 + h.toInt := by ((try simp only [ilt, ile, ieq, iadd_e, isub_e, imul_e, Int32.reduceToInt] at *) <;> omega)
  have e0 : (0 : Int32).toInt = 0 := rfl
  unfold f_setCandidateValue
  by_cases g : i < 0
  · exact ⟨C, by rw [if_pos g, if_pos g], hC, by rw [if_pos g]⟩
  · by_cases g2 : i < 10 + h
    · have k1 := g; have k2 := g2
      rw [ilt] at k1 k2
      exact ⟨C.set i.toInt.toNat v, by rw [if_neg g, if_neg g, if_pos g2, if_pos g2, wrA_in (by omega) (by omega), Option.bind_some], by simpa using hC, by rw [if_neg g, if_pos g2]⟩
    · exact ⟨C, by rw [if_neg g, if_neg g, if_neg g2, if_neg g2], hC, by rw [if_neg g, if_neg g2]⟩
/-! A signature verifies -/
theorem own_of {q : Int32} (h0 : 0 ≤ q.toInt) : Int32.ofNat q.toInt.toNat = q := by
  have := irng q
  rw [ieq, Int32.toInt_ofNat_of_lt (by omega)]
  omega
def own_bit (q v : Int32) : Prop :=
  XT.ushr (XT.ushr q v) 1 = XT.ushr q (v + 1) ∧
  (if XT.ushr q v &&& 1 = 0 then v * 16 + XT.ushr q v = (v + 1 - 1) * 16 + 2 * XT.ushr q (v + 1) ∧ v * 16 + ((XT.ushr q v ^^^ 1) &&& 15) = (v + 1 - 1) * 16 + 2 * XT.ushr q (v + 1) + 1
   else v * 16 + ((XT.ushr q v ^^^ 1) &&& 15) = (v + 1 - 1) * 16 + 2 * XT.ushr q (v + 1) ∧ v * 16 + XT.ushr q v = (v + 1 - 1) * 16 + 2 * XT.ushr q (v + 1) + 1)
instance (q v : Int32) : Decidable (own_bit q v) := by unfold own_bit; infer_instance
theorem own_bit_all : ∀ q : Fin 16, ∀ v : Fin 4, own_bit (Int32.ofNat q.val) (Int32.ofNat v.val) := by decide +kernel
theorem own_bits {q v : Int32} (h0 : 0 ≤ q.toInt) (h1 : q.toInt < 16) (h2 : 0 ≤ v.toInt) (h3 : v.toInt < 4) : own_bit q v := by
  have k := own_bit_all ⟨q.toInt.toNat, by omega⟩ ⟨v.toInt.toNat, by omega⟩
  rw [own_of h0, own_of h2] at k
  exact k
/-- the path's nodes lie in their level -/
def own_lv (h lc q v : Int32) : Prop :=
  0 ≤ (XT.ushr q (v + 1)).toInt ∧ (XT.ushr q (v + 1)).toInt < (lc >>> ((v + 1) &&& 31)).toInt ∧
  0 ≤ (XT.ushr q v ^^^ 1).toInt ∧ (XT.ushr q v ^^^ 1).toInt < (lc >>> (v &&& 31)).toInt ∧ (XT.ushr q v ^^^ 1) &&& 15 = XT.ushr q v ^^^ 1 ∧ (lc >>> (v &&& 31)).toInt ≤ 16
instance (h lc q v : Int32) : Decidable (own_lv h lc q v) := by unfold own_lv; infer_instance
theorem own_lv1 : ∀ q : Fin 2, ∀ v : Fin 1, own_lv 1 2 (Int32.ofNat q.val) (Int32.ofNat v.val) := by decide +kernel
theorem own_lv2 : ∀ q : Fin 4, ∀ v : Fin 2, own_lv 2 4 (Int32.ofNat q.val) (Int32.ofNat v.val) := by decide +kernel
theorem own_lv3 : ∀ q : Fin 8, ∀ v : Fin 3, own_lv 3 8 (Int32.ofNat q.val) (Int32.ofNat v.val) := by decide +kernel
theorem own_lv4 : ∀ q : Fin 16, ∀ v : Fin 4, own_lv 4 16 (Int32.ofNat q.val) (Int32.ofNat v.val) := by decide +kernel
theorem own_lvs {h lc q v : Int32} (hh : own_hl h lc) (h0 : 0 ≤ q.toInt) (h1 : q.toInt < lc.toInt) (h2 : 0 ≤ v.toInt) (h3 : v.toInt < h.toInt) : own_lv h lc q v := by
  rcases hh with ⟨rfl, rfl⟩ | ⟨rfl, rfl⟩ | ⟨rfl, rfl⟩ | ⟨rfl, rfl⟩
  · have k := own_lv1 ⟨q.toInt.toNat, by ((try simp only [ilt, ile, ieq, iadd_e, isub_e, imul_e, Int32.reduceToInt] at *) <;> omega)⟩ ⟨v.toInt.toNat, by ((try simp only [ilt, ile, ieq, iadd_e, isub_e, imul_e, Int32.reduceToInt] at *) <;> omega)⟩
    rw [own_of h0, own_of h2] at k; exact k
  · have k := own_lv2 ⟨q.toInt.toNat, by ((try simp only [ilt, ile, ieq, iadd_e, isub_e, imul_e, Int32.reduceToInt] at *) <;> omega)⟩ ⟨v.toInt.toNat, by ((try simp only [ilt, ile, ieq, iadd_e, isub_e, imul_e, Int32.reduceToInt] at *) <;> omega)⟩
    rw [own_of h0, own_of h2] at k; exact k
  · have k := own_lv3 ⟨q.toInt.toNat, by ((try simp only [ilt, ile, ieq, iadd_e, isub_e, imul_e, Int32.reduceToInt] at *) <;> omega)⟩ ⟨v.toInt.toNat, by ((try simp only [ilt, ile, ieq, iadd_e, isub_e, imul_e, Int32.reduceToInt] at *) <;> omega)⟩
    rw [own_of h0, own_of h2] at k; exact k
  · have k := own_lv4 ⟨q.toInt.toNat, by ((try simp only [ilt, ile, ieq, iadd_e, isub_e, imul_e, Int32.reduceToInt] at *) <;> omega)⟩ ⟨v.toInt.toNat, by ((try simp only [ilt, ile, ieq, iadd_e, isub_e, imul_e, Int32.reduceToInt] at *) <;> omega)⟩
    rw [own_of h0, own_of h2] at k; exact k
theorem own_tp1 : ∀ q : Fin 2, XT.ushr (Int32.ofNat q.val) 1 = 0 := by decide +kernel
theorem own_tp2 : ∀ q : Fin 4, XT.ushr (Int32.ofNat q.val) 2 = 0 := by decide +kernel
theorem own_tp3 : ∀ q : Fin 8, XT.ushr (Int32.ofNat q.val) 3 = 0 := by decide +kernel
theorem own_tp4 : ∀ q : Fin 16, XT.ushr (Int32.ofNat q.val) 4 = 0 := by decide +kernel
theorem own_top {h lc q : Int32} (hh : own_hl h lc) (h0 : 0 ≤ q.toInt) (h1 : q.toInt < lc.toInt) : XT.ushr q h = 0 := by
  rcases hh with ⟨rfl, rfl⟩ | ⟨rfl, rfl⟩ | ⟨rfl, rfl⟩ | ⟨rfl, rfl⟩
  · have k := own_tp1 ⟨q.toInt.toNat, by ((try simp only [ilt, ile, ieq, iadd_e, isub_e, imul_e, Int32.reduceToInt] at *) <;> omega)⟩
    rw [own_of h0] at k; exact k
  · have k := own_tp2 ⟨q.toInt.toNat, by ((try simp only [ilt, ile, ieq, iadd_e, isub_e, imul_e, Int32.reduceToInt] at *) <;> omega)⟩
    rw [own_of h0] at k; exact k
  · have k := own_tp3 ⟨q.toInt.toNat, by ((try simp only [ilt, ile, ieq, iadd_e, isub_e, imul_e, Int32.reduceToInt] at *) <;> omega)⟩
    rw [own_of h0] at k; exact k
  · have k := own_tp4 ⟨q.toInt.toNat, by ((try simp only [ilt, ile, ieq, iadd_e, isub_e, imul_e, Int32.reduceToInt] at *) <;> omega)⟩
    rw [own_of h0] at k; exact k
theorem own_q0 : ∀ q : Fin 16, XT.ushr (Int32.ofNat q.val) 0 = Int32.ofNat q.val := by decide +kernel
theorem own_climb5 {h lc s q m : Int32} {T I : List Int32} (hh : own_hl h lc) (hT : own_tree s h lc T) (hs : own_sig T h s q m I) (hq0 : 0 ≤ q.toInt) (hq1 : q.toInt < lc.toInt) : ∀ (n : Nat) (cur v : Int32), 0 ≤ v.toInt → v.toInt ≤ h.toInt → 5 - v.toInt < n → cur = gI T (v * 16 + XT.ushr q v) → f_climb_5 I h n q cur v = some (gI T (h * 16)) := by
  obtain ⟨b1, b2, b3, b4⟩ := own_hl_b hh
  intro n
  induction n with
  | zero => intro cur v h0 h1 h2; exfalso; omega
  | succ n ih =>
    intro cur v h0 h1 h2 hc
    unfold f_climb_5
    by_cases g : v < h
    · have g' : v.toInt < h.toInt := ilt.mp g
      have g4 : v < 4 := ilt.mpr (show v.toInt < 4 by omega)
      have e1 : (v + 1).toInt = v.toInt + 1 := by clear ih hs hT hc; ((try simp only [ilt, ile, ieq, iadd_e, isub_e, imul_e, Int32.reduceToInt] at *) <;> omega)
      have e10 : (10 + v).toInt = 10 + v.toInt := by clear ih hs hT hc; ((try simp only [ilt, ile, ieq, iadd_e, isub_e, imul_e, Int32.reduceToInt] at *) <;> omega)
      obtain ⟨k1, k2⟩ := own_bits hq0 (by omega) h0 (show v.toInt < 4 by omega)
      obtain ⟨w1, w2, w3, w4, w5, w6⟩ := own_lvs hh hq0 hq1 h0 g'
      have hl := hT.2.2 (v + 1) (XT.ushr q (v + 1)) (by omega) (by omega) w1 w2
      unfold own_lev at hl
      have hp := hs.2.2 v h0 (by omega)
      rw [if_pos g] at hp
      unfold f_nodeTweak
      rw [if_pos g, if_pos g4, Option.bind_some, rdg (by omega) (by rw [hs.1]; omega), Option.bind_some, hp, hc, k1]
      by_cases gb : XT.ushr q v &&& 1 = 0
      · rw [if_pos gb] at k2
        rw [if_pos gb, own_hash, Option.bind_some, k2.1, k2.2]
        refine ih _ (v + 1) (by omega) (by omega) (by omega) ?_
        rw [hl]
        (first | done | rfl | simp)
      · rw [if_neg gb] at k2
        rw [if_neg gb, own_hash, Option.bind_some, k2.1, k2.2]
        refine ih _ (v + 1) (by omega) (by omega) (by omega) ?_
        rw [hl]
        (first | done | rfl | simp)
    · have g' : ¬ v.toInt < h.toInt := fun k => g (ilt.mpr k)
      have ev : v = h := by rw [ieq]; omega
      rw [if_neg g, hc, ev, own_top hh hq0 hq1, Int32.add_zero]
theorem own_ver35 {Q : Int32 × List Int32 × List Int32 → Prop} (k80 : List Int32 → List Int32 → Int32 → Option (Int32 × List Int32 × List Int32)) (C : List Int32) (h lc kd root cq s : Int32) (dig : List Int32) (hC : C.length = 14) (hd : dig.length = 10) (hr : ∀ c : Int32, 0 ≤ c.toInt → c.toInt < 10 → 0 ≤ (gI dig c).toInt ∧ (gI dig c).toInt ≤ 15) (q : Int32)
    (hc : ∀ c : Int32, 0 ≤ c.toInt → c.toInt < 10 → gI C c = own_wk q c (gI dig c).toInt.toNat 0 (own_sk s q c))
    (hk : Tot (k80 dig (own_evs (own_end s q)) q) Q) :
    ∀ (n : Nat) (ev : List Int32) (j : Int32), ev.length = 10 → 0 ≤ j.toInt → j.toInt ≤ 10 → 10 - j.toInt < n → (∀ c : Int32, 0 ≤ c.toInt → c.toInt < j.toInt → gI ev c = own_end s q c) → Tot (f_verify_35 k80 C h lc kd root cq n dig ev q j) Q := by
  intro n
  induction n with
  | zero => intro ev j h1 h2 h3 h4; exfalso; omega
  | succ n ih =>
    intro ev j h1 h2 h3 h4 h5
    unfold f_verify_35
    refine Tot.ite (fun g => ?_) (fun g => ?_)
    · have g' : j.toInt < 10 := ilt.mp g
      have hj := hr j h2 g'
      have ej : (j + 1).toInt = j.toInt + 1 := by clear ih hr hk h5 hc; ((try simp only [ilt, ile, ieq, iadd_e, isub_e, imul_e, Int32.reduceToInt] at *) <;> omega)
      refine Tot.rdI h2 (by omega) (Tot.rdI h2 (by omega) ?_)
      have ed : (15 - gI dig j).toInt = 15 - (gI dig j).toInt := by
        generalize gI dig j = z at hj
        clear ih hr hk h5 hc; ((try simp only [ilt, ile, ieq, iadd_e, isub_e, imul_e, Int32.reduceToInt] at *) <;> omega)
      rw [own_walk _ _ _ _ _ (by omega) (by omega), Option.bind_some]
      refine Tot.wr h2 (by omega) (fun V' q1 q2 => ?_)
      refine ih V' (j + 1) (by omega) (by omega) (by omega) (by omega) (fun c a b => ?_)
      rw [q1, gset (by omega) (by omega) (by omega)]
      by_cases hcj : c = j
      · subst hcj
        rw [if_pos rfl, hc c a g', ed]
        unfold own_end
        have e15 : 15 = (gI dig c).toInt.toNat + (15 - (gI dig c).toInt).toNat := by omega
        rw [e15, own_wk_add, own_of hj.1, Int32.zero_add]
      · rw [ieq] at hcj
        rw [if_neg (by rw [ieq]; omega)]
        exact h5 c a (by omega)
    · have g' : ¬ j.toInt < 10 := fun k => g (ilt.mpr k)
      rw [own_evs_eq h1 (fun i a b => h5 i a (by omega))]
      exact hk
theorem own_verify {h lc s q m : Int32} {T I dig ev : List Int32} (hh : own_hl h lc) (hT : own_tree s h lc T) (hs : own_sig T h s q m I) (hq0 : 0 ≤ q.toInt) (hq1 : q.toInt < lc.toInt) (hd : dig.length = 10) (hv : ev.length = 10) :
    f_verify I h lc 1 (gI T (h * 16)) q dig ev m = some (1, own_dg m, own_evs (own_end s q)) := by
  obtain ⟨b1, b2, b3, b4⟩ := own_hl_b hh
  apply Tot.eq
  unfold f_verify
  have e0 : (0 : Int32).toInt = 0 := rfl
  rw [if_neg (by decide), if_neg (by rw [ilt]; omega), if_pos (ilt.mpr hq1), own_fd dig m hd, Option.bind_some]
  refine own_ver35 _ I h lc 1 _ q s (own_dg m) hs.1 (own_dg_len m) (fun c a b => own_dg_rng m a b) q hs.2.1 ?_ 100000 ev 0 hv (by decide) (by decide) (by decide) (fun c a b => by exfalso; omega)
  unfold f_verify_80 f_climb
  have ec : f_climb_5 I h 100000 q (own_fold q (own_evs (own_end s q))) 0 = some (gI T (h * 16)) := by
    refine own_climb5 hh hT hs hq0 hq1 100000 _ 0 (by decide) (by omega) (by decide) ?_
    have k := own_q0 ⟨q.toInt.toNat, by omega⟩
    rw [own_of hq0] at k
    rw [k, show (0 * 16 : Int32) = 0 from by decide, Int32.zero_add, hT.2.1 q hq0 hq1]
    (first | done | rfl | simp)
  rw [own_foldEnds _ q rfl, Option.bind_some, ec, Option.bind_some, if_pos rfl]
  exact Tot.mk rfl
/-! The check digits: another message has a smaller digit somewhere -/
theorem own_and15 (x : Int32) : (x &&& 15).toInt = ((x.toBitVec.toNat % 16 : Nat) : Int) := by
  have hx : (x &&& 15).toBitVec.msb = false := by
    rw [Int32.toBitVec_and, BitVec.msb_and]
    have e : (15 : Int32).toBitVec.msb = false := by decide
    rw [e, Bool.and_false]
  have e1 : (x &&& 15).toInt = (((x &&& 15).toBitVec).toNat : Int) := BitVec.toInt_eq_toNat_of_msb hx
  have e2 : (15 : Int32).toBitVec.toNat = 2 ^ 4 - 1 := by decide
  rw [e1, Int32.toBitVec_and, BitVec.toNat_and, e2, Nat.and_two_pow_sub_one_eq_mod]
theorem own_ub28 (m : Int32) : (XT.ushr m 28).toBitVec.toNat = m.toBitVec.toNat / 2 ^ 28 := by
  show (m.toBitVec >>> (28 : Nat)).toNat = _
  rw [BitVec.toNat_ushiftRight, Nat.shiftRight_eq_div_pow]
theorem own_ub24 (m : Int32) : (XT.ushr m 24).toBitVec.toNat = m.toBitVec.toNat / 2 ^ 24 := by
  show (m.toBitVec >>> (24 : Nat)).toNat = _
  rw [BitVec.toNat_ushiftRight, Nat.shiftRight_eq_div_pow]
theorem own_ub20 (m : Int32) : (XT.ushr m 20).toBitVec.toNat = m.toBitVec.toNat / 2 ^ 20 := by
  show (m.toBitVec >>> (20 : Nat)).toNat = _
  rw [BitVec.toNat_ushiftRight, Nat.shiftRight_eq_div_pow]
theorem own_ub16 (m : Int32) : (XT.ushr m 16).toBitVec.toNat = m.toBitVec.toNat / 2 ^ 16 := by
  show (m.toBitVec >>> (16 : Nat)).toNat = _
  rw [BitVec.toNat_ushiftRight, Nat.shiftRight_eq_div_pow]
theorem own_ub12 (m : Int32) : (XT.ushr m 12).toBitVec.toNat = m.toBitVec.toNat / 2 ^ 12 := by
  show (m.toBitVec >>> (12 : Nat)).toNat = _
  rw [BitVec.toNat_ushiftRight, Nat.shiftRight_eq_div_pow]
theorem own_ub8 (m : Int32) : (XT.ushr m 8).toBitVec.toNat = m.toBitVec.toNat / 2 ^ 8 := by
  show (m.toBitVec >>> (8 : Nat)).toNat = _
  rw [BitVec.toNat_ushiftRight, Nat.shiftRight_eq_div_pow]
theorem own_ub4 (m : Int32) : (XT.ushr m 4).toBitVec.toNat = m.toBitVec.toNat / 2 ^ 4 := by
  show (m.toBitVec >>> (4 : Nat)).toNat = _
  rw [BitVec.toNat_ushiftRight, Nat.shiftRight_eq_div_pow]
theorem own_ub0 (m : Int32) : (XT.ushr m 0).toBitVec.toNat = m.toBitVec.toNat / 2 ^ 0 := by
  show (m.toBitVec >>> (0 : Nat)).toNat = _
  rw [BitVec.toNat_ushiftRight, Nat.shiftRight_eq_div_pow]
def own_cs (m : Int32) : Int32 := 0 + (15 - (XT.ushr m 28 &&& 15)) + (15 - (XT.ushr m 24 &&& 15)) + (15 - (XT.ushr m 20 &&& 15)) + (15 - (XT.ushr m 16 &&& 15)) + (15 - (XT.ushr m 12 &&& 15)) + (15 - (XT.ushr m 8 &&& 15)) + (15 - (XT.ushr m 4 &&& 15)) + (15 - (XT.ushr m 0 &&& 15))
theorem own_dg_eq2 (m : Int32) : own_dg m = [XT.ushr m 28 &&& 15, XT.ushr m 24 &&& 15, XT.ushr m 20 &&& 15, XT.ushr m 16 &&& 15, XT.ushr m 12 &&& 15, XT.ushr m 8 &&& 15, XT.ushr m 4 &&& 15, XT.ushr m 0 &&& 15, XT.ushr (own_cs m) 4 &&& 15, own_cs m &&& 15] := by
  unfold own_cs
  simp [own_dg, f_fillDigits, f_fillDigits_4, f_fillDigits_45, wrA, List.replicate]
theorem own_nn {x : Int32} (h : 0 ≤ x.toInt) : (x.toBitVec.toNat : Int) = x.toInt := by
  have m : x.toBitVec.msb = false := by rw [BitVec.msb_eq_toInt]; simpa using h
  exact (BitVec.toInt_eq_toNat_of_msb m).symm
theorem own_hex (N : Nat) (h : N < 4294967296) : N = (N / 2 ^ 28 % 16) * 268435456 + (N / 2 ^ 24 % 16) * 16777216 + (N / 2 ^ 20 % 16) * 1048576 + (N / 2 ^ 16 % 16) * 65536 + (N / 2 ^ 12 % 16) * 4096 + (N / 2 ^ 8 % 16) * 256 + (N / 2 ^ 4 % 16) * 16 + (N / 2 ^ 0 % 16) * 1 := by omega
theorem own_csv (m : Int32) : (own_cs m).toInt = 120 - ((XT.ushr m 28 &&& 15).toInt + (XT.ushr m 24 &&& 15).toInt + (XT.ushr m 20 &&& 15).toInt + (XT.ushr m 16 &&& 15).toInt + (XT.ushr m 12 &&& 15).toInt + (XT.ushr m 8 &&& 15).toInt + (XT.ushr m 4 &&& 15).toInt + (XT.ushr m 0 &&& 15).toInt) := by
  have e15 : (15 : Int32).toInt = 15 := rfl
  have s0 : (0 : Int32).toInt = 0 := rfl
  unfold own_cs
  have r0 := iand_rng (XT.ushr m 28) 15 (by decide)
  rw [e15] at r0
  generalize XT.ushr m 28 &&& 15 = z0 at r0 ⊢
  have r1 := iand_rng (XT.ushr m 24) 15 (by decide)
  rw [e15] at r1
  generalize XT.ushr m 24 &&& 15 = z1 at r1 ⊢
  have r2 := iand_rng (XT.ushr m 20) 15 (by decide)
  rw [e15] at r2
  generalize XT.ushr m 20 &&& 15 = z2 at r2 ⊢
  have r3 := iand_rng (XT.ushr m 16) 15 (by decide)
  rw [e15] at r3
  generalize XT.ushr m 16 &&& 15 = z3 at r3 ⊢
  have r4 := iand_rng (XT.ushr m 12) 15 (by decide)
  rw [e15] at r4
  generalize XT.ushr m 12 &&& 15 = z4 at r4 ⊢
  have r5 := iand_rng (XT.ushr m 8) 15 (by decide)
  rw [e15] at r5
  generalize XT.ushr m 8 &&& 15 = z5 at r5 ⊢
  have r6 := iand_rng (XT.ushr m 4) 15 (by decide)
  rw [e15] at r6
  generalize XT.ushr m 4 &&& 15 = z6 at r6 ⊢
  have r7 := iand_rng (XT.ushr m 0) 15 (by decide)
  rw [e15] at r7
  generalize XT.ushr m 0 &&& 15 = z7 at r7 ⊢
  have t0 : (15 - z0).toInt = 15 - z0.toInt := by rw [isub_i (by omega) (by omega), e15]
  generalize 15 - z0 = y0 at t0 ⊢
  have t1 : (15 - z1).toInt = 15 - z1.toInt := by rw [isub_i (by omega) (by omega), e15]
  generalize 15 - z1 = y1 at t1 ⊢
  have t2 : (15 - z2).toInt = 15 - z2.toInt := by rw [isub_i (by omega) (by omega), e15]
  generalize 15 - z2 = y2 at t2 ⊢
  have t3 : (15 - z3).toInt = 15 - z3.toInt := by rw [isub_i (by omega) (by omega), e15]
  generalize 15 - z3 = y3 at t3 ⊢
  have t4 : (15 - z4).toInt = 15 - z4.toInt := by rw [isub_i (by omega) (by omega), e15]
  generalize 15 - z4 = y4 at t4 ⊢
  have t5 : (15 - z5).toInt = 15 - z5.toInt := by rw [isub_i (by omega) (by omega), e15]
  generalize 15 - z5 = y5 at t5 ⊢
  have t6 : (15 - z6).toInt = 15 - z6.toInt := by rw [isub_i (by omega) (by omega), e15]
  generalize 15 - z6 = y6 at t6 ⊢
  have t7 : (15 - z7).toInt = 15 - z7.toInt := by rw [isub_i (by omega) (by omega), e15]
  generalize 15 - z7 = y7 at t7 ⊢
  have s1 : (0 + y0 : Int32).toInt = 0 + y0.toInt := by rw [iadd_i (by omega) (by omega), s0]
  have s2 : (0 + y0 + y1 : Int32).toInt = 0 + y0.toInt + y1.toInt := by rw [iadd_i (by omega) (by omega), s1]
  have s3 : (0 + y0 + y1 + y2 : Int32).toInt = 0 + y0.toInt + y1.toInt + y2.toInt := by rw [iadd_i (by omega) (by omega), s2]
  have s4 : (0 + y0 + y1 + y2 + y3 : Int32).toInt = 0 + y0.toInt + y1.toInt + y2.toInt + y3.toInt := by rw [iadd_i (by omega) (by omega), s3]
  have s5 : (0 + y0 + y1 + y2 + y3 + y4 : Int32).toInt = 0 + y0.toInt + y1.toInt + y2.toInt + y3.toInt + y4.toInt := by rw [iadd_i (by omega) (by omega), s4]
  have s6 : (0 + y0 + y1 + y2 + y3 + y4 + y5 : Int32).toInt = 0 + y0.toInt + y1.toInt + y2.toInt + y3.toInt + y4.toInt + y5.toInt := by rw [iadd_i (by omega) (by omega), s5]
  have s7 : (0 + y0 + y1 + y2 + y3 + y4 + y5 + y6 : Int32).toInt = 0 + y0.toInt + y1.toInt + y2.toInt + y3.toInt + y4.toInt + y5.toInt + y6.toInt := by rw [iadd_i (by omega) (by omega), s6]
  have s8 : (0 + y0 + y1 + y2 + y3 + y4 + y5 + y6 + y7 : Int32).toInt = 0 + y0.toInt + y1.toInt + y2.toInt + y3.toInt + y4.toInt + y5.toInt + y6.toInt + y7.toInt := by rw [iadd_i (by omega) (by omega), s7]
  rw [s8]
  omega
/-- the digits of a message, as numbers -/
theorem own_num (m : Int32) : ∃ d0 d1 d2 d3 d4 d5 d6 d7 s : Int, (gI (own_dg m) 0).toInt = d0 ∧ (gI (own_dg m) 1).toInt = d1 ∧ (gI (own_dg m) 2).toInt = d2 ∧ (gI (own_dg m) 3).toInt = d3 ∧ (gI (own_dg m) 4).toInt = d4 ∧ (gI (own_dg m) 5).toInt = d5 ∧ (gI (own_dg m) 6).toInt = d6 ∧ (gI (own_dg m) 7).toInt = d7 ∧ (gI (own_dg m) 8).toInt = s / 16 ∧ (gI (own_dg m) 9).toInt = s % 16 ∧ s = 120 - (d0 + d1 + d2 + d3 + d4 + d5 + d6 + d7) ∧ 0 ≤ d0 ∧ d0 ≤ 15 ∧ 0 ≤ d1 ∧ d1 ≤ 15 ∧ 0 ≤ d2 ∧ d2 ≤ 15 ∧ 0 ≤ d3 ∧ d3 ≤ 15 ∧ 0 ≤ d4 ∧ d4 ≤ 15 ∧ 0 ≤ d5 ∧ d5 ≤ 15 ∧ 0 ≤ d6 ∧ d6 ≤ 15 ∧ 0 ≤ d7 ∧ d7 ≤ 15 ∧ (m.toBitVec.toNat : Int) = d0 * 268435456 + d1 * 16777216 + d2 * 1048576 + d3 * 65536 + d4 * 4096 + d5 * 256 + d6 * 16 + d7 * 1 := by
  have cs := own_csv m
  have e15 : (15 : Int32).toInt = 15 := rfl
  have r0 := iand_rng (XT.ushr m 28) 15 (by decide)
  rw [e15] at r0
  have r1 := iand_rng (XT.ushr m 24) 15 (by decide)
  rw [e15] at r1
  have r2 := iand_rng (XT.ushr m 20) 15 (by decide)
  rw [e15] at r2
  have r3 := iand_rng (XT.ushr m 16) 15 (by decide)
  rw [e15] at r3
  have r4 := iand_rng (XT.ushr m 12) 15 (by decide)
  rw [e15] at r4
  have r5 := iand_rng (XT.ushr m 8) 15 (by decide)
  rw [e15] at r5
  have r6 := iand_rng (XT.ushr m 4) 15 (by decide)
  rw [e15] at r6
  have r7 := iand_rng (XT.ushr m 0) 15 (by decide)
  rw [e15] at r7
  have c0 : 0 ≤ (own_cs m).toInt := by omega
  have c1 : (own_cs m).toInt ≤ 120 := by omega
  have cn := own_nn c0
  have b8 : (XT.ushr (own_cs m) 4 &&& 15).toInt = (own_cs m).toInt / 16 := by
    rw [own_and15, own_ub4]
    clear cs
    omega
  have b9 : (own_cs m &&& 15).toInt = (own_cs m).toInt % 16 := by
    rw [own_and15]
    clear cs
    omega
  have hN : (m.toBitVec.toNat : Int) = (XT.ushr m 28 &&& 15).toInt * 268435456 + (XT.ushr m 24 &&& 15).toInt * 16777216 + (XT.ushr m 20 &&& 15).toInt * 1048576 + (XT.ushr m 16 &&& 15).toInt * 65536 + (XT.ushr m 12 &&& 15).toInt * 4096 + (XT.ushr m 8 &&& 15).toInt * 256 + (XT.ushr m 4 &&& 15).toInt * 16 + (XT.ushr m 0 &&& 15).toInt * 1 := by
    have hx := own_hex m.toBitVec.toNat m.toBitVec.isLt
    rw [own_and15 (XT.ushr m 28), own_ub28, own_and15 (XT.ushr m 24), own_ub24, own_and15 (XT.ushr m 20), own_ub20, own_and15 (XT.ushr m 16), own_ub16, own_and15 (XT.ushr m 12), own_ub12, own_and15 (XT.ushr m 8), own_ub8, own_and15 (XT.ushr m 4), own_ub4, own_and15 (XT.ushr m 0), own_ub0]
    clear cs r0 r1 r2 r3 r4 r5 r6 r7 c0 c1 cn b8 b9
    generalize m.toBitVec.toNat / 2 ^ 28 % 16 = x0 at hx ⊢
    generalize m.toBitVec.toNat / 2 ^ 24 % 16 = x1 at hx ⊢
    generalize m.toBitVec.toNat / 2 ^ 20 % 16 = x2 at hx ⊢
    generalize m.toBitVec.toNat / 2 ^ 16 % 16 = x3 at hx ⊢
    generalize m.toBitVec.toNat / 2 ^ 12 % 16 = x4 at hx ⊢
    generalize m.toBitVec.toNat / 2 ^ 8 % 16 = x5 at hx ⊢
    generalize m.toBitVec.toNat / 2 ^ 4 % 16 = x6 at hx ⊢
    generalize m.toBitVec.toNat / 2 ^ 0 % 16 = x7 at hx ⊢
    omega
  rw [own_dg_eq2]
  exact ⟨(XT.ushr m 28 &&& 15).toInt, (XT.ushr m 24 &&& 15).toInt, (XT.ushr m 20 &&& 15).toInt, (XT.ushr m 16 &&& 15).toInt, (XT.ushr m 12 &&& 15).toInt, (XT.ushr m 8 &&& 15).toInt, (XT.ushr m 4 &&& 15).toInt, (XT.ushr m 0 &&& 15).toInt, (own_cs m).toInt, rfl, rfl, rfl, rfl, rfl, rfl, rfl, rfl, b8, b9, cs, r0.1, r0.2, r1.1, r1.2, r2.1, r2.2, r3.1, r3.2, r4.1, r4.2, r5.1, r5.2, r6.1, r6.2, r7.1, r7.2, hN⟩
theorem own_le16 {s s' : Int} (h1 : ¬ s' / 16 < s / 16) (h2 : ¬ s' % 16 < s % 16) : s ≤ s' := by omega
theorem own_eq8 {d0 d1 d2 d3 d4 d5 d6 d7 e0 e1 e2 e3 e4 e5 e6 e7 : Int} (k0 : ¬ e0 < d0) (k1 : ¬ e1 < d1) (k2 : ¬ e2 < d2) (k3 : ¬ e3 < d3) (k4 : ¬ e4 < d4) (k5 : ¬ e5 < d5) (k6 : ¬ e6 < d6) (k7 : ¬ e7 < d7) (hs : 120 - (d0 + d1 + d2 + d3 + d4 + d5 + d6 + d7) ≤ 120 - (e0 + e1 + e2 + e3 + e4 + e5 + e6 + e7)) : e0 = d0 ∧ e1 = d1 ∧ e2 = d2 ∧ e3 = d3 ∧ e4 = d4 ∧ e5 = d5 ∧ e6 = d6 ∧ e7 = d7 := by
  refine ⟨?_, ?_, ?_, ?_, ?_, ?_, ?_, ?_⟩ <;> omega
theorem own_less {a b : Int32} (h : ¬ b = a) : ∃ c : Int32, 0 ≤ c.toInt ∧ c.toInt < 10 ∧ gI (own_dg b) c < gI (own_dg a) c := by
  obtain ⟨d0, d1, d2, d3, d4, d5, d6, d7, s, x0, x1, x2, x3, x4, x5, x6, x7, x8, x9, hs, l0, u0, l1, u1, l2, u2, l3, u3, l4, u4, l5, u5, l6, u6, l7, u7, hn⟩ := own_num a
  obtain ⟨e0, e1, e2, e3, e4, e5, e6, e7, s', y0, y1, y2, y3, y4, y5, y6, y7, y8, y9, hs', l0', u0', l1', u1', l2', u2', l3', u3', l4', u4', l5', u5', l6', u6', l7', u7', hn'⟩ := own_num b
  by_cases k0 : gI (own_dg b) 0 < gI (own_dg a) 0
  · exact ⟨0, by decide, by decide, k0⟩
  rw [ilt, x0, y0] at k0
  by_cases k1 : gI (own_dg b) 1 < gI (own_dg a) 1
  · exact ⟨1, by decide, by decide, k1⟩
  rw [ilt, x1, y1] at k1
  by_cases k2 : gI (own_dg b) 2 < gI (own_dg a) 2
  · exact ⟨2, by decide, by decide, k2⟩
  rw [ilt, x2, y2] at k2
  by_cases k3 : gI (own_dg b) 3 < gI (own_dg a) 3
  · exact ⟨3, by decide, by decide, k3⟩
  rw [ilt, x3, y3] at k3
  by_cases k4 : gI (own_dg b) 4 < gI (own_dg a) 4
  · exact ⟨4, by decide, by decide, k4⟩
  rw [ilt, x4, y4] at k4
  by_cases k5 : gI (own_dg b) 5 < gI (own_dg a) 5
  · exact ⟨5, by decide, by decide, k5⟩
  rw [ilt, x5, y5] at k5
  by_cases k6 : gI (own_dg b) 6 < gI (own_dg a) 6
  · exact ⟨6, by decide, by decide, k6⟩
  rw [ilt, x6, y6] at k6
  by_cases k7 : gI (own_dg b) 7 < gI (own_dg a) 7
  · exact ⟨7, by decide, by decide, k7⟩
  rw [ilt, x7, y7] at k7
  by_cases k8 : gI (own_dg b) 8 < gI (own_dg a) 8
  · exact ⟨8, by decide, by decide, k8⟩
  rw [ilt, x8, y8] at k8
  by_cases k9 : gI (own_dg b) 9 < gI (own_dg a) 9
  · exact ⟨9, by decide, by decide, k9⟩
  rw [ilt, x9, y9] at k9
  exfalso
  apply h
  have hS := own_le16 k8 k9
  rw [hs, hs'] at hS
  obtain ⟨q0, q1, q2, q3, q4, q5, q6, q7⟩ := own_eq8 k0 k1 k2 k3 k4 k5 k6 k7 hS
  rw [q0, q1, q2, q3, q4, q5, q6, q7, ← hn] at hn'
  have hne : b.toBitVec.toNat = a.toBitVec.toNat := Int.ofNat.inj hn'
  rw [ieq]
  show b.toBitVec.toInt = a.toBitVec.toInt
  rw [BitVec.eq_of_toNat_eq hne]
theorem own_dgt {D : List Int32} (hD : D.length = 10) (m : Int32) {c : Int32} (c0 : 0 ≤ c.toInt) (c1 : c.toInt < 10) : f_digit D m c = some (gI (own_dg m) c, own_dg m) := by
  have e0 : (0 : Int32).toInt = 0 := rfl
  have e9 : (9 : Int32).toInt = 9 := rfl
  have l := own_dg_len m
  unfold f_digit
  rw [if_neg (by rw [ilt]; omega), if_neg (by rw [ilt]; omega), own_fd D m hD, Option.bind_some, rdg c0 (by omega), Option.bind_some]
abbrev own_X (I C T E D V : List Int32) (h lc kd s root nx iq cq v5 v7 v8 v9 v10 v11 : Int32) : Prop := (I.length = 14) ∧ (C.length = 14) ∧ (T.length = 80) ∧ (E.length = 160) ∧ (D.length = 10) ∧ (V.length = 10) ∧ (0 ≤ cq.toInt) ∧ (cq.toInt < lc.toInt) ∧ ((kd = 0 ∧ iq = -1 ∧ nx = 0 ∧ v7 = 0 ∧ v10 = 0) ∨ (kd = 1 ∧ own_tree s h lc T ∧ root = gI T (h * 16) ∧ v5 = root ∧ 0 ≤ nx.toInt ∧ nx.toInt ≤ lc.toInt ∧ iq = nx - 1 ∧ (v7 = 0 ∨ (iq = v8 ∧ 1 ≤ nx.toInt ∧ own_sig T h s iq v9 I)) ∧ (v10 = 0 ∨ own_sig T h s cq v11 C)))
theorem own_X.lI {I C T E D V : List Int32} {h lc kd s root nx iq cq v5 v7 v8 v9 v10 v11 : Int32} (self : own_X I C T E D V h lc kd s root nx iq cq v5 v7 v8 v9 v10 v11) : I.length = 14 := self.1
theorem own_X.lC {I C T E D V : List Int32} {h lc kd s root nx iq cq v5 v7 v8 v9 v10 v11 : Int32} (self : own_X I C T E D V h lc kd s root nx iq cq v5 v7 v8 v9 v10 v11) : C.length = 14 := self.2.1
theorem own_X.lT {I C T E D V : List Int32} {h lc kd s root nx iq cq v5 v7 v8 v9 v10 v11 : Int32} (self : own_X I C T E D V h lc kd s root nx iq cq v5 v7 v8 v9 v10 v11) : T.length = 80 := self.2.2.1
theorem own_X.lE {I C T E D V : List Int32} {h lc kd s root nx iq cq v5 v7 v8 v9 v10 v11 : Int32} (self : own_X I C T E D V h lc kd s root nx iq cq v5 v7 v8 v9 v10 v11) : E.length = 160 := self.2.2.2.1
theorem own_X.lD {I C T E D V : List Int32} {h lc kd s root nx iq cq v5 v7 v8 v9 v10 v11 : Int32} (self : own_X I C T E D V h lc kd s root nx iq cq v5 v7 v8 v9 v10 v11) : D.length = 10 := self.2.2.2.2.1
theorem own_X.lV {I C T E D V : List Int32} {h lc kd s root nx iq cq v5 v7 v8 v9 v10 v11 : Int32} (self : own_X I C T E D V h lc kd s root nx iq cq v5 v7 v8 v9 v10 v11) : V.length = 10 := self.2.2.2.2.2.1
theorem own_X.q0 {I C T E D V : List Int32} {h lc kd s root nx iq cq v5 v7 v8 v9 v10 v11 : Int32} (self : own_X I C T E D V h lc kd s root nx iq cq v5 v7 v8 v9 v10 v11) : 0 ≤ cq.toInt := self.2.2.2.2.2.2.1
theorem own_X.q1 {I C T E D V : List Int32} {h lc kd s root nx iq cq v5 v7 v8 v9 v10 v11 : Int32} (self : own_X I C T E D V h lc kd s root nx iq cq v5 v7 v8 v9 v10 v11) : cq.toInt < lc.toInt := self.2.2.2.2.2.2.2.1
theorem own_X.st {I C T E D V : List Int32} {h lc kd s root nx iq cq v5 v7 v8 v9 v10 v11 : Int32} (self : own_X I C T E D V h lc kd s root nx iq cq v5 v7 v8 v9 v10 v11) : (kd = 0 ∧ iq = -1 ∧ nx = 0 ∧ v7 = 0 ∧ v10 = 0) ∨ (kd = 1 ∧ own_tree s h lc T ∧ root = gI T (h * 16) ∧ v5 = root ∧ 0 ≤ nx.toInt ∧ nx.toInt ≤ lc.toInt ∧ iq = nx - 1 ∧ (v7 = 0 ∨ (iq = v8 ∧ 1 ≤ nx.toInt ∧ own_sig T h s iq v9 I)) ∧ (v10 = 0 ∨ own_sig T h s cq v11 C)) := self.2.2.2.2.2.2.2.2
abbrev own_kb := List Int32 → List Int32 → List Int32 → List Int32 → List Int32 → List Int32 → Int32 → Int32 → Int32 → Int32 → Int32 → Int32 → Int32 → Int32 → Int32 → Int32 → Int32 → Int32 → Int32 → Int32 → Int32 → Int32 → Int32 → Int32 → Option Int32
/-- the turns that follow come out well -/
def own_go (kb : own_kb) (h lc w : Int32) : Prop := ∀ (I C T E D V : List Int32) (kd s root nx iq cq v5 v7 v8 v9 v10 v11 : Int32), own_X I C T E D V h lc kd s root nx iq cq v5 v7 v8 v9 v10 v11 → kb I C T E D V h lc kd s root nx iq cq lc kd v5 nx v7 v8 v9 v10 v11 w = some 1
theorem own_429 {kb : own_kb} {h lc w : Int32} (scr : List Int32) (hk : own_go kb h lc (w + 2)) {I C T E D V : List Int32} {kd s root nx iq cq v5 v7 v8 v9 v10 v11 : Int32} (hX : own_X I C T E D V h lc kd s root nx iq cq v5 v7 v8 v9 v10 v11) :
    f_L_law_429 kb scr I C T E D V h lc kd s root nx iq cq lc kd v5 nx v7 v8 v9 v10 v11 w = some 1 := by
  unfold f_L_law_429 f_getRoot
  by_cases g : kd = 0
  · rw [if_pos g]
    exact hk _ _ _ _ _ _ _ _ _ _ _ _ _ _ _ _ _ _ hX
  · rcases hX.st with ⟨e, -⟩ | ⟨-, -, -, e5, -⟩
    · exact absurd e g
    · rw [if_neg g, if_neg g, Option.bind_some, if_pos e5.symm]
      exact hk _ _ _ _ _ _ _ _ _ _ _ _ _ _ _ _ _ _ hX
theorem own_387 {kb : own_kb} {h lc w : Int32} (scr : List Int32) (hk : own_go kb h lc (w + 2)) {I C T E V : List Int32} {kd s root nx iq cq v5 v7 v8 v9 v10 v11 a b : Int32} (hab : ¬ b = a) :
    ∀ (n : Nat) (D : List Int32) (v16 c : Int32), 0 ≤ c.toInt → c.toInt ≤ 10 → 10 - c.toInt < n → own_X I C T E D V h lc kd s root nx iq cq v5 v7 v8 v9 v10 v11 → (v16 = 1 ∨ ∀ i : Int32, 0 ≤ i.toInt → i.toInt < c.toInt → ¬ gI (own_dg b) i < gI (own_dg a) i) →
    f_L_law_387 (f_L_law_422 kb scr) scr n I C T E D V h lc kd s root nx iq cq lc kd v5 nx v7 v8 v9 v10 v11 w a b v16 c = some 1 := by
  intro n
  induction n with
  | zero => intro D v16 c h0 h1 h2; exfalso; omega
  | succ n ih =>
    intro D v16 c h0 h1 h2 hX hf
    unfold f_L_law_387
    by_cases g : c < 10
    · have g' : c.toInt < 10 := ilt.mp g
      have ec : (c + 1).toInt = c.toInt + 1 := by clear ih hf hX hk; ((try simp only [ilt, ile, ieq, iadd_e, isub_e, imul_e, Int32.reduceToInt] at *) <;> omega)
      rw [if_pos g, own_dgt hX.lD b h0 g', Option.bind_some]
      show Option.bind (f_digit (own_dg b) a c) _ = _
      rw [own_dgt (own_dg_len b) a h0 g', Option.bind_some]
      refine ih (own_dg a) _ (c + 1) (by omega) (by omega) (by omega) ⟨hX.lI, hX.lC, hX.lT, hX.lE, own_dg_len a, hX.lV, hX.q0, hX.q1, hX.st⟩ ?_
      by_cases k : gI (own_dg b) c < gI (own_dg a) c
      · left; rw [if_pos k]
      · rw [if_neg k]
        rcases hf with hf | hf
        · exact Or.inl hf
        · right
          intro i p q
          by_cases e : i = c
          · rw [e]; exact k
          · rw [ieq] at e
            exact hf i p (by omega)
    · have g' : ¬ c.toInt < 10 := fun k => g (ilt.mpr k)
      rw [if_neg g]
      unfold f_L_law_422
      rcases hf with hf | hf
      · rw [hf, if_neg (by decide)]
        exact own_429 scr hk hX
      · exfalso
        obtain ⟨i, p, q, r⟩ := own_less hab
        exact hf i p (by omega) r
theorem own_cell (scr : List Int32) (hs : scr.length ≤ 260) {v : Int32} (h0 : 0 ≤ v.toInt) : ∃ r, f_L_cell scr v = some r := by
  have el := iscr hs
  unfold f_L_cell
  by_cases g : v < scr.length.toInt32
  · have g' := ilt.mp g
    rw [if_pos g, rdg h0 (by omega), Option.bind_some]
    exact ⟨_, rfl⟩
  · rw [if_neg g]; exact ⟨_, rfl⟩
theorem own_351 {kb : own_kb} {h lc w : Int32} (scr : List Int32) (hs : scr.length ≤ 260) (hw0 : 0 ≤ w.toInt) (hw1 : w.toInt ≤ 300) (hk : own_go kb h lc (w + 2)) (hk1 : own_go kb h lc (w + 1 + 2)) {I C T E D V : List Int32} {kd s root nx iq cq v5 v7 v8 v9 v10 v11 : Int32} (hX : own_X I C T E D V h lc kd s root nx iq cq v5 v7 v8 v9 v10 v11) (op a : Int32) :
    f_L_law_351 kb scr I C T E D V h lc kd s root nx iq cq lc kd v5 nx v7 v8 v9 v10 v11 w op a = some 1 := by
  unfold f_L_law_351
  by_cases g : op = 7
  · have e2 : (w + 2).toInt = w.toInt + 2 := by clear hk hk1 hX; ((try simp only [ilt, ile, ieq, iadd_e, isub_e, imul_e, Int32.reduceToInt] at *) <;> omega)
    obtain ⟨r, e⟩ := own_cell scr hs (v := w + 2) (by omega)
    rw [if_pos g, e, Option.bind_some]
    by_cases k : a ^^^ r = a
    · rw [if_pos k]
      exact own_429 scr hk1 hX
    · rw [if_neg k]
      exact own_387 scr hk1 k 100000 D 0 0 (by decide) (by decide) (by decide) hX (Or.inr (fun i p q => by exfalso; have e0 : (0 : Int32).toInt = 0 := rfl; omega))
  · rw [if_neg g]
    exact own_429 scr hk hX
theorem own_drop {I C T E D V : List Int32} {h lc kd s root nx iq cq v5 v7 v8 v9 v10 v11 : Int32} (hX : own_X I C T E D V h lc kd s root nx iq cq v5 v7 v8 v9 v10 v11) {C' : List Int32} (hC : C'.length = 14) {cq' : Int32} (p0 : 0 ≤ cq'.toInt) (p1 : cq'.toInt < lc.toInt) : own_X I C' T E D V h lc kd s root nx iq cq' v5 v7 v8 v9 0 v11 := by
  refine ⟨hX.lI, hC, hX.lT, hX.lE, hX.lD, hX.lV, p0, p1, ?_⟩
  rcases hX.st with ⟨a, b, c, d, e⟩ | ⟨a, b, c, d, e, f, g, i, j⟩
  · exact Or.inl ⟨a, b, c, d, rfl⟩
  · exact Or.inr ⟨a, b, c, d, e, f, g, i, Or.inl rfl⟩
theorem own_309 {kb : own_kb} {h lc w : Int32} (hh : own_hl h lc) (scr : List Int32) (hs : scr.length ≤ 260) (hw0 : 0 ≤ w.toInt) (hw1 : w.toInt ≤ 300) (hk : own_go kb h lc (w + 2)) (hk1 : own_go kb h lc (w + 1 + 2)) {I C T E D V : List Int32} {kd s root nx iq cq v5 v7 v8 v9 v10 v11 : Int32} (hX : own_X I C T E D V h lc kd s root nx iq cq v5 v7 v8 v9 v10 v11) (op a : Int32) :
    f_L_law_309 kb scr I C T E D V h lc kd s root nx iq cq lc kd v5 nx v7 v8 v9 v10 v11 w op a = some 1 := by
  obtain ⟨b1, b2, b3, b4⟩ := own_hl_b hh
  have k328 : ∀ (C : List Int32) (cq v10 : Int32), own_X I C T E D V h lc kd s root nx iq cq v5 v7 v8 v9 v10 v11 → f_L_law_328 kb scr I C T E D V h lc kd s root nx iq cq lc kd v5 nx v7 v8 v9 v10 v11 w op a = some 1 := by
    intro C cq v10 hX
    unfold f_L_law_328
    by_cases g : op = 5
    · obtain ⟨C', e, hl, -⟩ := own_scv b1 b2 hX.lC (a &&& 15) (XT.ushr a 4)
      rw [if_pos g, e, Option.bind_some]
      exact own_351 scr hs hw0 hw1 hk hk1 (own_drop hX hl hX.q0 hX.q1) op a
    · rw [if_neg g]
      exact own_351 scr hs hw0 hw1 hk hk1 hX op a
  unfold f_L_law_309
  by_cases g : op = 4
  · rw [if_pos g]
    unfold f_setCandidateLeaf
    rw [Option.bind_some]
    refine k328 _ _ _ ?_
    have hr := iand_rng a 15 (by decide)
    have e0 : (0 : Int32).toInt = 0 := rfl
    generalize a &&& 15 = x at hr
    by_cases m0 : x < 0
    · rw [if_pos m0]; exact own_drop hX hX.lC hX.q0 hX.q1
    · by_cases m1 : x < lc
      · rw [if_neg m0, if_pos m1]; exact own_drop hX hX.lC (by omega) (ilt.mp m1)
      · rw [if_neg m0, if_neg m1]; exact own_drop hX hX.lC hX.q0 hX.q1
  · rw [if_neg g]
    exact k328 _ _ _ hX
theorem own_280 {kb : own_kb} {h lc w : Int32} (hh : own_hl h lc) (scr : List Int32) (hs : scr.length ≤ 260) (hw0 : 0 ≤ w.toInt) (hw1 : w.toInt ≤ 300) (hk : own_go kb h lc (w + 2)) (hk1 : own_go kb h lc (w + 1 + 2)) {I C T E D V : List Int32} {kd s root nx iq cq v5 v7 v8 v9 v10 v11 : Int32} (hX : own_X I C T E D V h lc kd s root nx iq cq v5 v7 v8 v9 v10 v11) (op a : Int32) :
    f_L_law_280 kb scr I C T E D V h lc kd s root nx iq cq lc kd v5 nx v7 v8 v9 v10 v11 w op a = some 1 := by
  have k293 : f_L_law_293 kb scr I C T E D V h lc kd s root nx iq cq lc kd v5 nx v7 v8 v9 v10 v11 w op a = some 1 := by
    unfold f_L_law_293
    by_cases g : v10 = 0
    · rw [if_pos g]
      exact own_309 hh scr hs hw0 hw1 hk hk1 hX op a
    · rw [if_neg g]
      rcases hX.st with ⟨-, -, -, -, e⟩ | ⟨rfl, k1, k2, k3, k4, k5, k6, k7, k8⟩
      · exact absurd e g
      · have hsg := k8.resolve_left g
        rw [k2, own_verify hh k1 hsg hX.q0 hX.q1 hX.lD hX.lV, Option.bind_some]
        show (if (1 : Int32) = 0 then _ else _) = _
        rw [if_neg (by decide), ← k2]
        exact own_309 hh scr hs hw0 hw1 hk hk1 ⟨hX.lI, hX.lC, hX.lT, hX.lE, own_dg_len v11, rfl, hX.q0, hX.q1, Or.inr ⟨rfl, k1, k2, k3, k4, k5, k6, k7, k8⟩⟩ op a
  unfold f_L_law_280
  by_cases g : op = 3
  · rw [if_pos g]; exact k293
  · rw [if_neg g]
    by_cases g2 : op = 6
    · rw [if_pos g2]; exact k293
    · rw [if_neg g2]; exact own_309 hh scr hs hw0 hw1 hk hk1 hX op a
theorem own_225 {kb : own_kb} {h lc w : Int32} (hh : own_hl h lc) (scr : List Int32) (hs : scr.length ≤ 260) (hw0 : 0 ≤ w.toInt) (hw1 : w.toInt ≤ 300) (hk : own_go kb h lc (w + 2)) (hk1 : own_go kb h lc (w + 1 + 2)) {I C T E D V : List Int32} {kd s root nx iq cq v5 v7 v8 v9 v10 v11 : Int32} (hX : own_X I C T E D V h lc kd s root nx iq cq v5 v7 v8 v9 v10 v11) (op a : Int32) :
    f_L_law_225 kb scr I C T E D V h lc kd s root nx iq cq lc kd v5 nx v7 v8 v9 v10 v11 w op a = some 1 := by
  obtain ⟨b1, b2, b3, b4⟩ := own_hl_b hh
  have k238 : f_L_law_238 kb scr I C T E D V h lc kd s root nx iq cq lc kd v5 nx v7 v8 v9 v11 w op a = some 1 := by
    unfold f_L_law_238
    by_cases gq : iq = -1
    · rw [show f_loadIssued I iq C cq = some (0, C, cq) by rw [gq]; exact own_li0 cq, Option.bind_some]
      have z7 : v7 = 0 := by
        rcases hX.st with ⟨-, -, -, e, -⟩ | ⟨-, -, -, -, k4, k5, k6, k7, -⟩
        · exact e
        · rcases k7 with e | ⟨-, e, -⟩
          · exact e
          · exfalso
            have em : (-1 : Int32).toInt = -1 := rfl
            have ei : iq.toInt = nx.toInt - 1 := by rw [k6]; clear hX hk hk1 k6 gq; ((try simp only [ilt, ile, ieq, iadd_e, isub_e, imul_e, Int32.reduceToInt] at *) <;> omega)
            rw [gq] at ei
            omega
      show (if v7 = 0 then _ else _) = _
      rw [if_pos z7]
      exact own_280 hh scr hs hw0 hw1 hk hk1 (own_drop hX hX.lC hX.q0 hX.q1) op a
    · rw [own_li hX.lI hX.lC gq, Option.bind_some]
      rcases hX.st with ⟨-, e, -⟩ | ⟨rfl, k1, k2, k3, k4, k5, k6, k7, k8⟩
      · exact absurd e gq
      · have em : (-1 : Int32).toInt = -1 := rfl
        have ei : iq.toInt = nx.toInt - 1 := by rw [k6]; clear hX hk hk1 k1 k7 k8 k6 gq; ((try simp only [ilt, ile, ieq, iadd_e, isub_e, imul_e, Int32.reduceToInt] at *) <;> omega)
        have gq' := gq
        rw [ieq] at gq'
        show (if v7 = 0 then _ else if (1 : Int32) = 0 then _ else _) = _
        by_cases g7 : v7 = 0
        · rw [if_pos g7]
          exact own_280 hh scr hs hw0 hw1 hk hk1 (own_drop hX hX.lI (by omega) (by omega)) op a
        · obtain ⟨e8, -, hsg⟩ := k7.resolve_left g7
          unfold f_candidateLeaf
          rw [if_neg g7, if_neg (by decide), Option.bind_some, if_pos e8]
          exact own_280 hh scr hs hw0 hw1 hk hk1 ⟨hX.lI, hX.lI, hX.lT, hX.lE, hX.lD, hX.lV, by omega, by omega, Or.inr ⟨rfl, k1, k2, k3, k4, k5, k6, k7, Or.inr hsg⟩⟩ op a
  unfold f_L_law_225
  by_cases g : op = 2
  · rw [if_pos g]; exact k238
  · rw [if_neg g]
    by_cases g2 : op = 6
    · rw [if_pos g2]; exact k238
    · rw [if_neg g2]; exact own_280 hh scr hs hw0 hw1 hk hk1 hX op a
theorem own_143 {kb : own_kb} {h lc w : Int32} (hh : own_hl h lc) (scr : List Int32) (hs : scr.length ≤ 260) (hw0 : 0 ≤ w.toInt) (hw1 : w.toInt ≤ 300) (hk : own_go kb h lc (w + 2)) (hk1 : own_go kb h lc (w + 1 + 2)) {I C T E D V : List Int32} {kd s root nx iq cq v5 v7 v8 v9 v10 v11 : Int32} (hX : own_X I C T E D V h lc kd s root nx iq cq v5 v7 v8 v9 v10 v11) (op a : Int32) :
    f_L_law_143 kb scr I C T E D V h lc kd s root nx iq cq lc kd v5 nx v7 v8 v9 v10 v11 w op a = some 1 := by
  obtain ⟨b1, b2, b3, b4⟩ := own_hl_b hh
  have e0 : (0 : Int32).toInt = 0 := rfl
  have k156 : f_L_law_156 kb scr I C T E D V h lc kd s root nx iq cq lc kd v5 nx v8 v9 v11 w op a = some 1 := by
    unfold f_L_law_156
    rcases hX.st with ⟨rfl, rfl, rfl, e7, e10⟩ | ⟨rfl, k1, k2, k3, k4, k5, k6, k7, k8⟩
    · rw [own_sign0, Option.bind_some]
      show f_L_law_186 kb scr I C T E D V h lc 0 s root 0 (-1) cq lc 0 v5 0 v8 v9 v11 w op a (-1) (if (0 : Int32) = 0 then (-1 : Int32) else _) = _
      unfold f_L_law_186
      rw [if_pos rfl, if_pos rfl, if_pos (by decide), if_pos (by decide), if_pos (by decide), if_pos (by decide)]
      exact own_225 hh scr hs hw0 hw1 hk hk1 ⟨hX.lI, hX.lC, hX.lT, hX.lE, hX.lD, hX.lV, hX.q0, hX.q1, Or.inl ⟨rfl, rfl, rfl, rfl, rfl⟩⟩ op a
    · by_cases gn : nx < lc
      · have gn' := ilt.mp gn
        obtain ⟨I', e, hsg⟩ := own_sign (h := h) (s := s) (iq := iq) hX.lT hX.lI hX.lD gn a
        have en : (nx + 1).toInt = nx.toInt + 1 := by clear hX hk hk1 k1 k7 k8 hsg; ((try simp only [ilt, ile, ieq, iadd_e, isub_e, imul_e, Int32.reduceToInt] at *) <;> omega)
        have ei : nx = nx + 1 - 1 := by clear hX hk hk1 k1 k7 k8 hsg; ((try simp only [ilt, ile, ieq, iadd_e, isub_e, imul_e, Int32.reduceToInt] at *) <;> omega)
        have ne : ¬ nx = lc := by rw [ieq]; omega
        have n0 : ¬ nx < 0 := by rw [ilt]; omega
        rw [e, Option.bind_some]
        show f_L_law_186 kb scr I' C T E (own_dg a) V h lc 1 s root (nx + 1) nx cq lc 1 v5 nx v8 v9 v11 w op a nx (if (1 : Int32) = 0 then (-1 : Int32) else (if nx = lc then (-2 : Int32) else nx)) = _
        unfold f_L_law_186
        rw [if_neg (show ¬ (1 : Int32) = 0 by decide), if_neg ne, if_pos rfl, if_neg n0, if_neg n0, if_neg n0, if_neg n0]
        exact own_225 hh scr hs hw0 hw1 hk hk1 ⟨hsg.1, hX.lC, hX.lT, hX.lE, own_dg_len a, hX.lV, hX.q0, hX.q1, Or.inr ⟨rfl, k1, k2, k3, by omega, by omega, ei, Or.inr ⟨rfl, by omega, hsg⟩, Or.inl rfl⟩⟩ op a
      · have gn' : ¬ nx.toInt < lc.toInt := fun k => gn (ilt.mpr k)
        have ne : nx = lc := by rw [ieq]; omega
        rw [own_signX gn, Option.bind_some]
        show f_L_law_186 kb scr I C T E D V h lc 1 s root nx iq cq lc 1 v5 nx v8 v9 v11 w op a (-2) (if (1 : Int32) = 0 then (-1 : Int32) else (if nx = lc then (-2 : Int32) else nx)) = _
        unfold f_L_law_186
        rw [if_neg (show ¬ (1 : Int32) = 0 by decide), if_pos ne, if_pos rfl, if_pos (by decide), if_pos (by decide), if_pos (by decide), if_pos (by decide)]
        exact own_225 hh scr hs hw0 hw1 hk hk1 ⟨hX.lI, hX.lC, hX.lT, hX.lE, hX.lD, hX.lV, hX.q0, hX.q1, Or.inr ⟨rfl, k1, k2, k3, k4, k5, k6, Or.inl rfl, Or.inl rfl⟩⟩ op a
  unfold f_L_law_143
  by_cases g : op = 1
  · rw [if_pos g]; exact k156
  · rw [if_neg g]
    by_cases g2 : op = 6
    · rw [if_pos g2]; exact k156
    · rw [if_neg g2]; exact own_225 hh scr hs hw0 hw1 hk hk1 hX op a
theorem own_loop (scr : List Int32) (hs : scr.length ≤ 260) {h lc : Int32} (hh : own_hl h lc) : ∀ (n : Nat) (w : Int32), 0 ≤ w.toInt → w.toInt ≤ 270 → 271 - w.toInt < n → own_go (f_L_law_83 scr n) h lc w := by
  obtain ⟨b1, b2, b3, b4⟩ := own_hl_b hh
  intro n
  induction n with
  | zero => intro w h0 h1 h2; exfalso; omega
  | succ n ih =>
    intro w h0 h1 h2 I C T E D V kd s root nx iq cq v5 v7 v8 v9 v10 v11 hX
    have el := iscr hs
    have e0 : (0 : Int32).toInt = 0 := rfl
    unfold f_L_law_83
    by_cases g : w < scr.length.toInt32
    rotate_left
    · rw [if_neg g]
    have g' := ilt.mp g
    have e1 : (w + 1).toInt = w.toInt + 1 := by clear ih hX; ((try simp only [ilt, ile, ieq, iadd_e, isub_e, imul_e, Int32.reduceToInt] at *) <;> omega)
    have e2 : (w + 2).toInt = w.toInt + 2 := by clear ih hX; ((try simp only [ilt, ile, ieq, iadd_e, isub_e, imul_e, Int32.reduceToInt] at *) <;> omega)
    have e3 : (w + 1 + 2).toInt = w.toInt + 3 := by clear ih hX; ((try simp only [ilt, ile, ieq, iadd_e, isub_e, imul_e, Int32.reduceToInt] at *) <;> omega)
    have hk := ih (w + 2) (by omega) (by omega) (by omega)
    have hk1 := ih (w + 1 + 2) (by omega) (by omega) (by omega)
    obtain ⟨x, ex⟩ := own_cell scr hs (v := w) h0
    obtain ⟨y, ey⟩ := own_cell scr hs (v := w + 1) (by omega)
    rw [if_pos g, ex, Option.bind_some, ey, Option.bind_some]
    generalize x &&& 7 = op
    by_cases o0 : op = 0
    rotate_left
    · rw [if_neg o0]
      exact own_143 hh scr hs h0 (by omega) hk hk1 hX op y
    · rw [if_pos o0]
      rcases hX.st with ⟨rfl, rfl, rfl, e7, e10⟩ | ⟨rfl, k1, k2, k3, k4, k5, k6, k7, k8⟩
      · obtain ⟨T', E', V', e, ht, he, hv⟩ := own_keygen hh hX.lT hX.lE hX.lV s root 0 y
        rw [e, Option.bind_some]
        show (if (1 : Int32) = 0 then _ else if (0 : Int32) = 0 then _ else _) = _
        unfold f_getRoot
        rw [if_neg (by decide), if_pos rfl, if_neg (by decide), Option.bind_some]
        exact own_143 hh scr hs h0 (by omega) hk hk1 ⟨hX.lI, hX.lC, ht.1, he.1, hX.lD, hv, hX.q0, hX.q1, Or.inr ⟨rfl, ht, rfl, rfl, by decide, by omega, by decide, Or.inl e7, Or.inl e10⟩⟩ op y
      · rw [own_keygen1, Option.bind_some]
        show (if (0 : Int32) = 0 then _ else _) = _
        rw [if_pos rfl]
        exact own_143 hh scr hs h0 (by omega) hk hk1 hX op y
theorem own_true (scr : List Int32) (h : scr.length ≤ 260) : f_L_law scr = some 1 := by
  obtain ⟨x, ex⟩ := own_cell scr h (v := 0) (by decide)
  obtain ⟨y, ey⟩ := own_cell scr h (v := 1) (by decide)
  have hr := iand_rng x 3 (by decide)
  have hd3 : (3 : Int32).toInt = 3 := rfl
  rw [hd3] at hr
  have l1 : (List.replicate 14 (0 : Int32)).length = 14 := by simp
  have l2 : (List.replicate 80 (0 : Int32)).length = 80 := by simp
  have l3 : (List.replicate 160 (0 : Int32)).length = 160 := by simp
  have l4 : (List.replicate 10 (0 : Int32)).length = 10 := by simp
  have hh := own_clamp_hl ((x &&& 3) + 1)
  have hc : (if (x &&& 3) + 1 < (1 : Int32) then (1 : Int32) else (if (4 : Int32) < (x &&& 3) + 1 then (4 : Int32) else (x &&& 3) + 1)) = (x &&& 3) + 1 := by
    generalize x &&& 3 = z at hr
    have e : (z + 1).toInt = z.toInt + 1 := by ((try simp only [ilt, ile, ieq, iadd_e, isub_e, imul_e, Int32.reduceToInt] at *) <;> omega)
    have e1 : (1 : Int32).toInt = 1 := rfl
    have e4 : (4 : Int32).toInt = 4 := rfl
    rw [if_neg (by rw [ilt]; omega), if_neg (by rw [ilt]; omega)]
  simp only [f_L_law, ex, ey, f_init, f_init_62, f_init_69, Option.bind_some, own_clamp]
  rw [hc] at hh ⊢
  generalize List.replicate 14 (0 : Int32) = iss at l1 ⊢
  generalize List.replicate 80 (0 : Int32) = T at l2 ⊢
  generalize List.replicate 160 (0 : Int32) = E at l3 ⊢
  generalize List.replicate 10 (0 : Int32) = D at l4 ⊢
  generalize (x &&& 3) + 1 = hgt at hh ⊢
  generalize (1 : Int32) <<< (hgt &&& 31) = lc at hh ⊢
  obtain ⟨b1, b2, b3, b4⟩ := own_hl_b hh
  have e0 : (0 : Int32).toInt = 0 := rfl
  have go := own_loop scr h hh 100000 2 (by decide) (by decide) (by decide)
  split
  · obtain ⟨T', E', V', e, ht, he, hv⟩ := own_keygen hh l2 l3 l4 0 0 0 y
    rw [e, Option.bind_some]
    show (if (1 : Int32) = 0 then _ else Option.bind (f_getRoot 1 (gI T' (hgt * 16))) _) = _
    unfold f_getRoot
    rw [if_neg (by decide), if_neg (by decide), Option.bind_some]
    show f_L_law_83 scr 100000 iss iss T' E' D V' hgt lc 1 y (gI T' (hgt * 16)) 0 (-1) 0 lc 1 (gI T' (hgt * 16)) 0 0 (-1) 0 0 0 2 = _
    exact go _ _ _ _ _ _ _ _ _ _ _ _ _ _ _ _ _ _ ⟨l1, l1, ht.1, he.1, l4, hv, by decide, by omega, Or.inr ⟨rfl, ht, rfl, rfl, by decide, by omega, by decide, Or.inl rfl, Or.inl rfl⟩⟩
  · exact go _ _ _ _ _ _ _ _ _ _ _ _ _ _ _ _ _ _ ⟨l1, l1, l2, l3, l4, l4, by decide, by omega, Or.inl ⟨rfl, rfl, rfl, rfl, rfl⟩⟩
set_option maxRecDepth 65536 in
theorem comes_1 {Post : Tables → Env → Array Value → State → Outcome → State → Prop} (hpost : ∀ tb e args s v u, (limb_1_1.after args s (.returned v) u = true ∧ limb_1_2.after args s (.returned v) u = true ∧ True) → FrameEnd s (.returned v) u (Jvm.fieldLocs frame_1_writes args s ++ Jvm.arrayLocs frame_1_arrays args s ++ Jvm.staticLocs frame_1_statics s) 24 704 → Post tb e args s (.returned v) u) :
    ArmFor flags0 classFile x code maxLocals ret World_1 tables_1 room_1 Calls_1 rest_1 Pre_1 Post := by
  intro l hfl _ _ p e ha hc hk s m args below hf hA hF happ hP
  obtain ⟨hcalls, hrest, hpre⟩ := hP
  obtain ⟨-, -, -, hnamed, -, -, -, hat⟩ := (Spec.applies_iff hf).mp happ
  obtain ⟨hg, hn⟩ := and_e (Cond.before_iff.mp (show (Jvm.Cond.and given_1 narrow_1).before args s = true from hpre))
  obtain ⟨h1, h2⟩ := and_e hg
  have hw := fun d (hd : d ∈ tables_1) => atoms_spec (ws := Jvm.Cond.code x code maxLocals ret :: tables_1) hat d (List.mem_cons_of_mem _ hd)
  obtain ⟨w0, rfl⟩ : ∃ w0 : Value, args = #[w0] := by
    have hs : args.size = 1 := by simpa [Cond.value, given_1] using h1
    obtain ⟨L⟩ := args
    match L, hs with
    | [w0], _ => exact ⟨w0, rfl⟩
  have hfit : Fit s := fun {y c} hc i hi => by
    obtain ⟨ha, rfl⟩ := Array.getElem?_eq_some_iff.mp hc
    have q := List.all_eq_true.mp ((Array.all_eq_true_iff_forall_mem.mp hF) _ (Array.getElem_mem ha)) i (List.mem_range.mpr hi)
    simpa [Array.getElem?_eq_getElem hi] using q
  obtain ⟨hn1, hn2⟩ := and_e hn
  obtain ⟨ad, e0⟩ := arr_v hn1
  obtain ⟨cl, A⟩ := Arr.start e0 hn1
  obtain rfl : w0 = .ref ad := Option.some.inj e0
  obtain ⟨scr, hs1, hs2, hs3⟩ := script_of hfit A e0 hn2
  have E : OEndsQ own_P 0 0 (entL [.ref 0] d_0.maxL) [] [.inr (.inl (false, scr))] (LawQ 1 7 302) := ok_L_law (own_true scr hs2)
  have hS : SR [ad] [.ref 0] [.ref ad] := ⟨_, _, rfl, ⟨ad, rfl, rfl⟩, rfl⟩
  have hH : HR own_P s s.heap.size s.heap [ad] [.inr (.inl (false, scr))] := hr_script rfl A hs1 hs2 hs3
  have M := law_met (l := l) own_chk (fun w hw' => hw w (own_in w hw')) hm_0 E hS (Nat.le_of_ble_eq_true rfl) hH tables_1 room_1 (Nat.le_of_ble_eq_true rfl) (Nat.le_of_ble_eq_true rfl) (Nat.le_of_ble_eq_true rfl) (Nat.le_of_ble_eq_true rfl)
  obtain ⟨n, o, h1, h2, h3, L, rfl, N, hq⟩ := M p e ha hc hk s m _ below hf ((Spec.applies_iff_loose hf).mp happ).1 ⟨rfl, State.Warmed39.refl s, rfl⟩ trivial
  refine ⟨n, _, h1, h2, h3, hpost _ _ _ _ _ _ ⟨Cond.after_iff.mpr rfl, Cond.after_iff.mpr (eq_i res_at (Term.int_eval (1)) rfl), trivial⟩ ⟨hq.1, hq.2.1, (hq.2.2.sift fun y hy => Or.inr (N y hy)).mono (by decide) (by decide)⟩⟩
theorem main_1_1 : Claimed_1_1 := comes_1 fun _ _ _ _ _ _ h hF => ⟨h.1, hF⟩
theorem main_1_2 : Claimed_1_2 := comes_1 fun _ _ _ _ _ _ h hF => ⟨h.2.1, hF⟩
end Jvm.Pilot.@@N@@
namespace Jvm.Pilot.@@N@@
open Jvm Jvm.ClassFile Sem Op Lib Jvm.Free Jvm.Stand Jvm.Pilot.@@N@@.Jvm.D
/-! MADE BY PROGRAM (witnessworld.py) out of the Statement's table words and the real class files: 9 classes; the members and pool entries that the words name. The judged class is class 1, her method 2. -/
namespace start1
open Jvm.ClassFile
def u (s : String) : CpInfo := .utf8 (stringToUtf16 s)
/-- a pool by its gaps: so many unusable entries, then the entry; so many at the end -/
def gap : Nat → List CpInfo → List CpInfo
  | 0, r => r
  | n + 1, r => .unusable :: gap n r
def poolList (es : List (Nat × CpInfo)) (last : Nat) : List CpInfo := es.foldr (fun e r => gap e.1 (e.2 :: r)) (gap last [])
def pool (es : List (Nat × CpInfo)) (last : Nat) : Array CpInfo := ⟨poolList es last⟩
def fileOf (pool : Array CpInfo) (this : Nat) (attrs : Array Attribute := #[]) (ms : Array MethodInfo := #[]) (fl : Nat := 33) (sup : Nat := 0) (ifs : Array Nat := #[]) (fds : Array FieldInfo := #[]) : ClassFile where
  minorVersion := 0
  majorVersion := 65
  constantPool := pool
  accessFlags := fl
  thisClass := this
  superClass := sup
  interfaces := ifs
  fields := fds
  methods := ms
  attributes := attrs
def plain (name : String) (sup : Option ClassId) : Class where
  name := name
  kind := .ordinary
  loader := none
  accessFlags := 33
  super := sup
  interfaces := #[]
  cf := none
  fields := #[]
  methods := #[]
  instanceTypes := #[]
  staticTypes := #[]
  resolved := #[]
  callSites := []
  init := .initialized
  statics := none
  mirror := none

def pool0 : Array CpInfo := pool [(5, u "<init>"), (0, u "()V"), (1, .class_ 10), (1, u "java/lang/Object")] 113

def k0c0 : Code := { maxStack := 0, maxLocals := 1, code := object_method_1_code, exceptionTable := #[], attributes := #[] }
def k0m0 : Method := { name := "<init>", desc := "()V", sig := { parameters := [], returnType := none }, accessFlags := 1, code := some k0c0 }
/-- java/lang/Object -/
def k0 : Class := { plain "java/lang/Object" none with
  accessFlags := 33
  interfaces := #[]
  cf := some (fileOf pool0 8 #[] #[{ accessFlags := 1, nameIndex := 5, descriptorIndex := 6, attributes := #[] }] 33 0 #[] #[])
  fields := #[]
  methods := #[k0m0]
  instanceTypes := #[]
  staticTypes := #[]
  resolved := Array.replicate 124 none
  statics := none }

def pool1 : Array CpInfo := pool [(2, .class_ 4), (1, u "java/lang/Object"), (0, u "<init>"), (0, u "()V"), (0, .methodref 8 9), (0, .class_ 10), (0, .nameAndType 11 12), (0, u "ChainTreeSignerOwnLaw"), (0, u "cell"), (0, u "([II)I"), (0, .class_ 14), (0, u "ChainTreeSigner"), (0, .methodref 13 16), (0, .nameAndType 5 17), (0, u "(I)V"), (0, .methodref 13 19), (0, .nameAndType 20 21), (0, u "keygen"), (0, u "(I)Z"), (0, .methodref 13 23), (0, .nameAndType 24 25), (0, u "getRoot"), (0, u "()I"), (0, .methodref 13 27), (0, .nameAndType 28 29), (0, u "sign"), (0, u "(I)I"), (0, .methodref 13 31), (0, .nameAndType 32 33), (0, u "loadIssued"), (0, u "()Z"), (0, .methodref 13 35), (0, .nameAndType 36 25), (0, u "candidateLeaf"), (0, .methodref 13 38), (0, .nameAndType 39 21), (0, u "verify"), (0, .methodref 13 41), (0, .nameAndType 42 21), (0, u "setCandidateLeaf"), (0, .methodref 13 44), (0, .nameAndType 45 46), (0, u "setCandidateValue"), (0, u "(II)Z"), (0, .methodref 13 48), (0, .nameAndType 49 50), (0, u "digit"), (0, u "(II)I"), (3, u "law"), (0, u "([I)Z")] 4

def k1m0 : Method := { name := "<init>", desc := "()V", sig := { parameters := [], returnType := none }, accessFlags := 1, code := none }
def k1c1 : Code := { maxStack := 2, maxLocals := 2, code := method_2_code, exceptionTable := #[], attributes := #[] }
def k1m1 : Method := { name := "cell", desc := "([II)I", sig := { parameters := [(.array .int), .int], returnType := some .int }, accessFlags := 10, code := some k1c1 }
def k1c2 : Code := { maxStack := 4, maxLocals := 18, code := code, exceptionTable := #[], attributes := #[] }
def k1m2 : Method := { name := "law", desc := "([I)Z", sig := { parameters := [(.array .int)], returnType := some .boolean }, accessFlags := 9, code := some k1c2 }
/-- ChainTreeSignerOwnLaw -/
def k1 : Class := { plain "ChainTreeSignerOwnLaw" (some 0) with
  accessFlags := 49
  interfaces := #[]
  cf := some (fileOf pool1 8 #[] #[{ accessFlags := 1, nameIndex := 5, descriptorIndex := 6, attributes := #[] }, { accessFlags := 10, nameIndex := 11, descriptorIndex := 12, attributes := #[] }, { accessFlags := 9, nameIndex := 54, descriptorIndex := 55, attributes := #[] }] 49 2 #[] #[])
  fields := #[]
  methods := #[k1m0, k1m1, k1m2]
  instanceTypes := #[]
  staticTypes := #[]
  resolved := Array.replicate 60 none
  statics := none }

def pool2 : Array CpInfo := pool [(1, .methodref 2 3), (0, .class_ 4), (0, .nameAndType 5 6), (0, u "java/lang/Object"), (0, u "<init>"), (0, u "()V"), (0, .fieldref 8 9), (0, .class_ 10), (0, .nameAndType 11 12), (0, u "ChainTreeSigner"), (0, u "issued"), (0, u "[I"), (0, .fieldref 8 14), (0, .nameAndType 15 12), (0, u "cand"), (0, .fieldref 8 17), (0, .nameAndType 18 12), (0, u "tree"), (0, .fieldref 8 20), (0, .nameAndType 21 12), (0, u "ends"), (0, .fieldref 8 23), (0, .nameAndType 24 12), (0, u "dig"), (0, .fieldref 8 26), (0, .nameAndType 27 12), (0, u "ev"), (0, .fieldref 8 29), (0, .nameAndType 30 31), (0, u "h"), (0, u "I"), (0, .fieldref 8 33), (0, .nameAndType 34 31), (0, u "leafCount"), (0, .fieldref 8 36), (0, .nameAndType 37 38), (0, u "keyed"), (0, u "Z"), (0, .fieldref 8 40), (0, .nameAndType 41 31), (0, u "seed"), (0, .fieldref 8 43), (0, .nameAndType 44 31), (0, u "root"), (0, .fieldref 8 46), (0, .nameAndType 47 31), (0, u "next"), (0, .fieldref 8 49), (0, .nameAndType 50 31), (0, u "issuedQ"), (0, .fieldref 8 52), (0, .nameAndType 53 31), (0, u "candQ"), (0, .integer 2654435769), (0, .methodref 8 56), (0, .nameAndType 57 58), (0, u "rotl"), (0, u "(II)I"), (0, .methodref 8 60), (0, .nameAndType 61 62), (0, u "fillDigits"), (0, u "(I)V"), (0, .methodref 8 64), (0, .nameAndType 65 6), (0, u "buildLeaves"), (0, .methodref 8 67), (0, .nameAndType 68 6), (0, u "buildUpperLevels"), (0, .methodref 8 70), (0, .nameAndType 71 58), (0, u "secretKey"), (0, .methodref 8 73), (0, .nameAndType 74 75), (0, u "walk"), (0, u "(IIIII)I"), (0, .methodref 8 77), (0, .nameAndType 78 62), (0, u "fillPath"), (0, .methodref 8 80), (0, .nameAndType 81 82), (0, u "foldEnds"), (0, u "(I)I"), (0, .methodref 8 84), (0, .nameAndType 85 58), (0, u "climb"), (0, .integer 268435456), (0, .integer 536870912), (0, .integer 805306368), (0, .methodref 8 90), (0, .nameAndType 91 58), (0, u "secretTweak"), (0, .methodref 8 93), (0, .nameAndType 94 95), (0, u "hash"), (0, u "(III)I"), (0, .methodref 8 97), (0, .nameAndType 98 95), (0, u "stepTweak"), (0, .methodref 8 100), (0, .nameAndType 101 58), (0, u "foldTweak"), (0, .methodref 8 103), (0, .nameAndType 104 58), (0, u "nodeTweak"), (0, u "NOT_KEYED"), (2, u "EXHAUSTED"), (1, u "CHAINS"), (1, u "SLOTS"), (1, u "MIN_HEIGHT"), (1, u "MAX_HEIGHT"), (4, u "digit"), (0, u "keygen"), (0, u "(I)Z"), (0, u "getRoot"), (0, u "()I"), (1, u "sign"), (4, u "loadIssued"), (0, u "()Z"), (0, u "setCandidateLeaf"), (0, u "setCandidateValue"), (0, u "(II)Z"), (0, u "candidateLeaf"), (2, u "verify")] 2

def k2c0 : Code := { maxStack := 3, maxLocals := 3, code := prog_1_method_1_code, exceptionTable := #[], attributes := #[] }
def k2m0 : Method := { name := "<init>", desc := "(I)V", sig := { parameters := [.int], returnType := none }, accessFlags := 1, code := some k2c0 }
def k2c1 : Code := { maxStack := 3, maxLocals := 7, code := prog_1_method_2_code, exceptionTable := #[], attributes := #[] }
def k2m1 : Method := { name := "hash", desc := "(III)I", sig := { parameters := [.int, .int, .int], returnType := some .int }, accessFlags := 1, code := some k2c1 }
def k2c2 : Code := { maxStack := 2, maxLocals := 3, code := prog_1_method_3_code, exceptionTable := #[], attributes := #[] }
def k2m2 : Method := { name := "digit", desc := "(II)I", sig := { parameters := [.int, .int], returnType := some .int }, accessFlags := 1, code := some k2c2 }
def k2c3 : Code := { maxStack := 4, maxLocals := 2, code := prog_1_method_4_code, exceptionTable := #[], attributes := #[] }
def k2m3 : Method := { name := "keygen", desc := "(I)Z", sig := { parameters := [.int], returnType := some .boolean }, accessFlags := 1, code := some k2c3 }
def k2c4 : Code := { maxStack := 1, maxLocals := 1, code := prog_1_method_5_code, exceptionTable := #[], attributes := #[] }
def k2m4 : Method := { name := "getRoot", desc := "()I", sig := { parameters := [], returnType := some .int }, accessFlags := 1, code := some k2c4 }
def k2c5 : Code := { maxStack := 9, maxLocals := 5, code := prog_1_method_7_code, exceptionTable := #[], attributes := #[] }
def k2m5 : Method := { name := "sign", desc := "(I)I", sig := { parameters := [.int], returnType := some .int }, accessFlags := 1, code := some k2c5 }
def k2c6 : Code := { maxStack := 4, maxLocals := 2, code := prog_1_method_12_code, exceptionTable := #[], attributes := #[] }
def k2m6 : Method := { name := "loadIssued", desc := "()Z", sig := { parameters := [], returnType := some .boolean }, accessFlags := 1, code := some k2c6 }
def k2c7 : Code := { maxStack := 2, maxLocals := 2, code := prog_1_method_13_code, exceptionTable := #[], attributes := #[] }
def k2m7 : Method := { name := "setCandidateLeaf", desc := "(I)Z", sig := { parameters := [.int], returnType := some .boolean }, accessFlags := 1, code := some k2c7 }
def k2c8 : Code := { maxStack := 3, maxLocals := 3, code := prog_1_method_14_code, exceptionTable := #[], attributes := #[] }
def k2m8 : Method := { name := "setCandidateValue", desc := "(II)Z", sig := { parameters := [.int, .int], returnType := some .boolean }, accessFlags := 1, code := some k2c8 }
def k2c9 : Code := { maxStack := 1, maxLocals := 1, code := prog_1_method_15_code, exceptionTable := #[], attributes := #[] }
def k2m9 : Method := { name := "candidateLeaf", desc := "()I", sig := { parameters := [], returnType := some .int }, accessFlags := 1, code := some k2c9 }
def k2c10 : Code := { maxStack := 9, maxLocals := 5, code := prog_1_method_18_code, exceptionTable := #[], attributes := #[] }
def k2m10 : Method := { name := "verify", desc := "(I)Z", sig := { parameters := [.int], returnType := some .boolean }, accessFlags := 1, code := some k2c10 }
def k2c11 : Code := { maxStack := 4, maxLocals := 3, code := prog_1_method_19_code, exceptionTable := #[], attributes := #[] }
def k2m11 : Method := { name := "rotl", desc := "(II)I", sig := { parameters := [.int, .int], returnType := some .int }, accessFlags := 2, code := some k2c11 }
def k2c12 : Code := { maxStack := 3, maxLocals := 3, code := prog_1_method_20_code, exceptionTable := #[], attributes := #[] }
def k2m12 : Method := { name := "secretTweak", desc := "(II)I", sig := { parameters := [.int, .int], returnType := some .int }, accessFlags := 2, code := some k2c12 }
def k2c13 : Code := { maxStack := 3, maxLocals := 4, code := prog_1_method_21_code, exceptionTable := #[], attributes := #[] }
def k2m13 : Method := { name := "stepTweak", desc := "(III)I", sig := { parameters := [.int, .int, .int], returnType := some .int }, accessFlags := 2, code := some k2c13 }
def k2c14 : Code := { maxStack := 3, maxLocals := 3, code := prog_1_method_22_code, exceptionTable := #[], attributes := #[] }
def k2m14 : Method := { name := "foldTweak", desc := "(II)I", sig := { parameters := [.int, .int], returnType := some .int }, accessFlags := 2, code := some k2c14 }
def k2c15 : Code := { maxStack := 3, maxLocals := 3, code := prog_1_method_23_code, exceptionTable := #[], attributes := #[] }
def k2m15 : Method := { name := "nodeTweak", desc := "(II)I", sig := { parameters := [.int, .int], returnType := some .int }, accessFlags := 2, code := some k2c15 }
def k2c16 : Code := { maxStack := 4, maxLocals := 4, code := prog_1_method_24_code, exceptionTable := #[], attributes := #[] }
def k2m16 : Method := { name := "secretKey", desc := "(II)I", sig := { parameters := [.int, .int], returnType := some .int }, accessFlags := 2, code := some k2c16 }
def k2c17 : Code := { maxStack := 5, maxLocals := 9, code := prog_1_method_25_code, exceptionTable := #[], attributes := #[] }
def k2m17 : Method := { name := "walk", desc := "(IIIII)I", sig := { parameters := [.int, .int, .int, .int, .int], returnType := some .int }, accessFlags := 2, code := some k2c17 }
def k2c18 : Code := { maxStack := 5, maxLocals := 5, code := prog_1_method_26_code, exceptionTable := #[], attributes := #[] }
def k2m18 : Method := { name := "foldEnds", desc := "(I)I", sig := { parameters := [.int], returnType := some .int }, accessFlags := 2, code := some k2c18 }
def k2c19 : Code := { maxStack := 4, maxLocals := 5, code := prog_1_method_27_code, exceptionTable := #[], attributes := #[] }
def k2m19 : Method := { name := "fillDigits", desc := "(I)V", sig := { parameters := [.int], returnType := none }, accessFlags := 2, code := some k2c19 }
def k2c20 : Code := { maxStack := 6, maxLocals := 5, code := prog_1_method_28_code, exceptionTable := #[], attributes := #[] }
def k2m20 : Method := { name := "buildLeaves", desc := "()V", sig := { parameters := [], returnType := none }, accessFlags := 2, code := some k2c20 }
def k2c21 : Code := { maxStack := 6, maxLocals := 7, code := prog_1_method_29_code, exceptionTable := #[], attributes := #[] }
def k2m21 : Method := { name := "buildUpperLevels", desc := "()V", sig := { parameters := [], returnType := none }, accessFlags := 2, code := some k2c21 }
def k2c22 : Code := { maxStack := 3, maxLocals := 5, code := prog_1_method_30_code, exceptionTable := #[], attributes := #[] }
def k2m22 : Method := { name := "fillPath", desc := "(I)V", sig := { parameters := [.int], returnType := none }, accessFlags := 2, code := some k2c22 }
def k2c23 : Code := { maxStack := 4, maxLocals := 9, code := prog_1_method_31_code, exceptionTable := #[], attributes := #[] }
def k2m23 : Method := { name := "climb", desc := "(II)I", sig := { parameters := [.int, .int], returnType := some .int }, accessFlags := 2, code := some k2c23 }
/-- ChainTreeSigner -/
def k2 : Class := { plain "ChainTreeSigner" (some 0) with
  accessFlags := 49
  interfaces := #[]
  cf := some (fileOf pool2 8 #[] #[{ accessFlags := 1, nameIndex := 5, descriptorIndex := 62, attributes := #[] }, { accessFlags := 1, nameIndex := 94, descriptorIndex := 95, attributes := #[] }, { accessFlags := 1, nameIndex := 121, descriptorIndex := 58, attributes := #[] }, { accessFlags := 1, nameIndex := 122, descriptorIndex := 123, attributes := #[] }, { accessFlags := 1, nameIndex := 124, descriptorIndex := 125, attributes := #[] }, { accessFlags := 1, nameIndex := 127, descriptorIndex := 82, attributes := #[] }, { accessFlags := 1, nameIndex := 132, descriptorIndex := 133, attributes := #[] }, { accessFlags := 1, nameIndex := 134, descriptorIndex := 123, attributes := #[] }, { accessFlags := 1, nameIndex := 135, descriptorIndex := 136, attributes := #[] }, { accessFlags := 1, nameIndex := 137, descriptorIndex := 125, attributes := #[] }, { accessFlags := 1, nameIndex := 140, descriptorIndex := 123, attributes := #[] }, { accessFlags := 2, nameIndex := 57, descriptorIndex := 58, attributes := #[] }, { accessFlags := 2, nameIndex := 91, descriptorIndex := 58, attributes := #[] }, { accessFlags := 2, nameIndex := 98, descriptorIndex := 95, attributes := #[] }, { accessFlags := 2, nameIndex := 101, descriptorIndex := 58, attributes := #[] }, { accessFlags := 2, nameIndex := 104, descriptorIndex := 58, attributes := #[] }, { accessFlags := 2, nameIndex := 71, descriptorIndex := 58, attributes := #[] }, { accessFlags := 2, nameIndex := 74, descriptorIndex := 75, attributes := #[] }, { accessFlags := 2, nameIndex := 81, descriptorIndex := 82, attributes := #[] }, { accessFlags := 2, nameIndex := 61, descriptorIndex := 62, attributes := #[] }, { accessFlags := 2, nameIndex := 65, descriptorIndex := 6, attributes := #[] }, { accessFlags := 2, nameIndex := 68, descriptorIndex := 6, attributes := #[] }, { accessFlags := 2, nameIndex := 78, descriptorIndex := 62, attributes := #[] }, { accessFlags := 2, nameIndex := 85, descriptorIndex := 58, attributes := #[] }] 49 2 #[] #[{ accessFlags := 25, nameIndex := 105, descriptorIndex := 31, attributes := #[] }, { accessFlags := 25, nameIndex := 108, descriptorIndex := 31, attributes := #[] }, { accessFlags := 25, nameIndex := 110, descriptorIndex := 31, attributes := #[] }, { accessFlags := 25, nameIndex := 112, descriptorIndex := 31, attributes := #[] }, { accessFlags := 25, nameIndex := 114, descriptorIndex := 31, attributes := #[] }, { accessFlags := 25, nameIndex := 116, descriptorIndex := 31, attributes := #[] }, { accessFlags := 2, nameIndex := 30, descriptorIndex := 31, attributes := #[] }, { accessFlags := 2, nameIndex := 34, descriptorIndex := 31, attributes := #[] }, { accessFlags := 2, nameIndex := 37, descriptorIndex := 38, attributes := #[] }, { accessFlags := 2, nameIndex := 41, descriptorIndex := 31, attributes := #[] }, { accessFlags := 2, nameIndex := 44, descriptorIndex := 31, attributes := #[] }, { accessFlags := 2, nameIndex := 47, descriptorIndex := 31, attributes := #[] }, { accessFlags := 2, nameIndex := 50, descriptorIndex := 31, attributes := #[] }, { accessFlags := 2, nameIndex := 53, descriptorIndex := 31, attributes := #[] }, { accessFlags := 18, nameIndex := 11, descriptorIndex := 12, attributes := #[] }, { accessFlags := 18, nameIndex := 15, descriptorIndex := 12, attributes := #[] }, { accessFlags := 18, nameIndex := 18, descriptorIndex := 12, attributes := #[] }, { accessFlags := 18, nameIndex := 21, descriptorIndex := 12, attributes := #[] }, { accessFlags := 18, nameIndex := 24, descriptorIndex := 12, attributes := #[] }, { accessFlags := 18, nameIndex := 27, descriptorIndex := 12, attributes := #[] }])
  fields := #[{ name := "NOT_KEYED", type := .int, accessFlags := 25, slot := 0, constantValue := 0 }, { name := "EXHAUSTED", type := .int, accessFlags := 25, slot := 1, constantValue := 0 }, { name := "CHAINS", type := .int, accessFlags := 25, slot := 2, constantValue := 0 }, { name := "SLOTS", type := .int, accessFlags := 25, slot := 3, constantValue := 0 }, { name := "MIN_HEIGHT", type := .int, accessFlags := 25, slot := 4, constantValue := 0 }, { name := "MAX_HEIGHT", type := .int, accessFlags := 25, slot := 5, constantValue := 0 }, { name := "h", type := .int, accessFlags := 2, slot := 0, constantValue := 0 }, { name := "leafCount", type := .int, accessFlags := 2, slot := 1, constantValue := 0 }, { name := "keyed", type := .boolean, accessFlags := 2, slot := 2, constantValue := 0 }, { name := "seed", type := .int, accessFlags := 2, slot := 3, constantValue := 0 }, { name := "root", type := .int, accessFlags := 2, slot := 4, constantValue := 0 }, { name := "next", type := .int, accessFlags := 2, slot := 5, constantValue := 0 }, { name := "issuedQ", type := .int, accessFlags := 2, slot := 6, constantValue := 0 }, { name := "candQ", type := .int, accessFlags := 2, slot := 7, constantValue := 0 }, { name := "issued", type := (.array .int), accessFlags := 18, slot := 8, constantValue := 0 }, { name := "cand", type := (.array .int), accessFlags := 18, slot := 9, constantValue := 0 }, { name := "tree", type := (.array .int), accessFlags := 18, slot := 10, constantValue := 0 }, { name := "ends", type := (.array .int), accessFlags := 18, slot := 11, constantValue := 0 }, { name := "dig", type := (.array .int), accessFlags := 18, slot := 12, constantValue := 0 }, { name := "ev", type := (.array .int), accessFlags := 18, slot := 13, constantValue := 0 }]
  methods := #[k2m0, k2m1, k2m2, k2m3, k2m4, k2m5, k2m6, k2m7, k2m8, k2m9, k2m10, k2m11, k2m12, k2m13, k2m14, k2m15, k2m16, k2m17, k2m18, k2m19, k2m20, k2m21, k2m22, k2m23]
  instanceTypes := #[.int, .int, .boolean, .int, .int, .int, .int, .int, (.array .int), (.array .int), (.array .int), (.array .int), (.array .int), (.array .int)]
  staticTypes := #[.int, .int, .int, .int, .int, .int]
  resolved := Array.replicate 143 none
  statics := none }

def pool3 : Array CpInfo := pool [(1, u "java/lang/Cloneable"), (0, .class_ 1), (0, u "java/lang/Object"), (0, .class_ 3)] 3

/-- java/lang/Cloneable -/
def k3 : Class := { plain "java/lang/Cloneable" (some 0) with
  accessFlags := 1537
  interfaces := #[]
  cf := some (fileOf pool3 2 #[] #[] 1537 4 #[] #[])
  fields := #[]
  methods := #[]
  instanceTypes := #[]
  staticTypes := #[]
  resolved := Array.replicate 8 none
  statics := none }

def pool4 : Array CpInfo := pool [(1, u "java/io/Serializable"), (0, .class_ 1), (0, u "java/lang/Object"), (0, .class_ 3)] 3

/-- java/io/Serializable -/
def k4 : Class := { plain "java/io/Serializable" (some 0) with
  accessFlags := 1537
  interfaces := #[]
  cf := some (fileOf pool4 2 #[] #[] 1537 4 #[] #[])
  fields := #[]
  methods := #[]
  instanceTypes := #[]
  staticTypes := #[]
  resolved := Array.replicate 8 none
  statics := none }

/-- the primitive byte -/
def k5 : Class := { plain "byte" none with kind := .primitive 'B', accessFlags := 0x411 }
/-- [B -/
def k6 : Class := { plain "[B" (some 0) with kind := .array 5 .byte, interfaces := #[3, 4], accessFlags := 1041 }

/-- the primitive int -/
def k7 : Class := { plain "int" none with kind := .primitive 'I', accessFlags := 0x411 }
/-- [I -/
def k8 : Class := { plain "[I" (some 0) with kind := .array 7 .int, interfaces := #[3, 4], accessFlags := 1041 }

def heap : Heap := #[{ cls := 8, slots := #[.int 1, .int 2, .int 3], vm := .none }]
def classes : Array Class := #[k0, k1, k2, k3, k4, k5, k6, k7, k8]
def interned : List (Array UInt16 × Addr) := []
def slotsUsed : Nat := 3
def theMethod : MethodId := ⟨1, 2⟩
def args0 : Array Value := #[.ref 0]
def aboutOver (below : List Frame) : State where
  vm := { classes := classes, interned := interned.toArray }
  heap := heap
  slotsUsed := slotsUsed
  threads := #[{ frames := .invoking theMethod args0 :: below }]
def below0 : List Frame := [.native { method := ⟨0, 0⟩, args := #[] }]
def about1 : State := aboutOver below0
def p0 : Program := .bare "" "" ""
def e0 : Env := launch0.env 0 0 0
theorem w_frames : about1.frames = Frame.invoking theMethod args0 :: below0 := rfl
set_option maxRecDepth 65536 in
theorem w_args : argsFit about1.vm theMethod args0 = true := by decide +kernel
set_option maxRecDepth 65536 in
theorem w_heap : heapFits about1 = true := by decide +kernel
set_option maxRecDepth 65536 in
theorem w_runnable : about1.curStatus? = some .runnable := by decide +kernel
set_option maxRecDepth 65536 in
theorem w_alone : about1.alone = true := by decide +kernel
set_option maxRecDepth 65536 in
theorem w_named : about1.methodNamed? x = some theMethod := by decide +kernel
set_option maxRecDepth 65536 in
theorem w_hears : about1.hears theMethod below0 = true := by decide +kernel
set_option maxRecDepth 65536 in
theorem w_ripe : about1.ripe theMethod args0 below0 = true := by decide +kernel
theorem w_running : about1.status = .running := rfl
set_option maxRecDepth 65536 in
theorem w_room : about1.hasRoom e0.platform room_1 = true :=
  launch0.hasRoom_least _ room_1 (by decide +kernel) (by decide +kernel) (by decide +kernel) (by decide +kernel) (by decide +kernel) (by decide +kernel)
theorem allAtoms_all (ts : List Jvm.Cond) (a : Array Jvm.Value) (st : Jvm.State) : (allAtoms ts).before a st = ts.all (fun c => c.before a st) := by
  induction ts with
  | nil => rfl
  | cons c t ih =>
    show (Jvm.Cond.and c (allAtoms t)).before a st = _
    rw [Jvm.Cond.before_and, ih, List.all_cons]
def words1 : List Jvm.Cond := Jvm.Cond.code x code maxLocals ret :: tables_1
/-- a 'code' word, met by the world's own term for the bytes: nothing is compared byte by byte -/
theorem code_word {y : MethodName} {bytes : ByteArray} {mx : Nat} {rt : Option FieldType} {a : Array Value} {s : State} {m : MethodId} {meth : Method} {c : Code} (h1 : s.methodNamed? y = some m) (h2 : s.vm.method? m = some meth) (h3 : meth.code = some c) (h4 : c.code = bytes)
    (h5 : (c.maxLocals == mx && c.exceptionTable.isEmpty && decide (c.maxStack ≤ mostOperands) && decide (meth.sig.returnType = rt) && !meth.locks && decide (parseMethodDescriptor y.desc = some meth.sig)) = true) : (Jvm.Cond.code y bytes mx rt).before a s = true := by
  simp only [Bool.and_eq_true, beq_iff_eq, Bool.not_eq_true', decide_eq_true_eq] at h5
  obtain ⟨⟨⟨⟨⟨g1, g2⟩, g3⟩, g4⟩, g5⟩, g6⟩ := h5
  simp [Cond.before, Cond.holds, Cond.value, h1, h2, h3, h4, g1, g2, g3, g4, g5, g6]
def isCode : Jvm.Cond → Bool
  | .code _ _ _ _ => true
  | _ => false
theorem all_split {L : List Jvm.Cond} {P : Jvm.Cond → Bool} (h1 : L.all (fun c => isCode c || P c) = true) (h2 : ∀ c ∈ L.filter isCode, P c = true) : L.all P = true := by
  refine List.all_eq_true.mpr fun c hc => ?_
  have h := List.all_eq_true.mp h1 c hc
  rcases Bool.eq_false_or_eq_true (isCode c) with hi | hi
  · exact h2 c (List.mem_filter.mpr ⟨hc, hi⟩)
  · simpa [hi] using h
set_option maxRecDepth 65536 in
theorem w_c0 : (Jvm.Cond.code x code maxLocals ret).before args0 about1 = true := code_word (m := ⟨1, 2⟩) (meth := k1m2) (c := k1c2) (by decide +kernel) rfl rfl rfl (by decide +kernel)
set_option maxRecDepth 65536 in
theorem w_c1 : (Jvm.Cond.code ({ cls := "ChainTreeSignerOwnLaw", name := "cell", desc := "([II)I" } : Jvm.MethodName) method_2_code (2 : Nat) (Option.some Jvm.ClassFile.FieldType.int)).before args0 about1 = true := code_word (m := ⟨1, 1⟩) (meth := k1m1) (c := k1c1) (by decide +kernel) rfl rfl rfl (by decide +kernel)
set_option maxRecDepth 65536 in
theorem w_c2 : (Jvm.Cond.code ({ cls := "ChainTreeSigner", name := "<init>", desc := "(I)V" } : Jvm.MethodName) prog_1_method_1_code (3 : Nat) (Option.none : Option Jvm.ClassFile.FieldType)).before args0 about1 = true := code_word (m := ⟨2, 0⟩) (meth := k2m0) (c := k2c0) (by decide +kernel) rfl rfl rfl (by decide +kernel)
set_option maxRecDepth 65536 in
theorem w_c3 : (Jvm.Cond.code ({ cls := "java/lang/Object", name := "<init>", desc := "()V" } : Jvm.MethodName) object_method_1_code (1 : Nat) (Option.none : Option Jvm.ClassFile.FieldType)).before args0 about1 = true := code_word (m := ⟨0, 0⟩) (meth := k0m0) (c := k0c0) (by decide +kernel) rfl rfl rfl (by decide +kernel)
set_option maxRecDepth 65536 in
theorem w_c4 : (Jvm.Cond.code ({ cls := "ChainTreeSigner", name := "keygen", desc := "(I)Z" } : Jvm.MethodName) prog_1_method_4_code (2 : Nat) (Option.some Jvm.ClassFile.FieldType.boolean)).before args0 about1 = true := code_word (m := ⟨2, 3⟩) (meth := k2m3) (c := k2c3) (by decide +kernel) rfl rfl rfl (by decide +kernel)
set_option maxRecDepth 65536 in
theorem w_c5 : (Jvm.Cond.code ({ cls := "ChainTreeSigner", name := "buildLeaves", desc := "()V" } : Jvm.MethodName) prog_1_method_28_code (5 : Nat) (Option.none : Option Jvm.ClassFile.FieldType)).before args0 about1 = true := code_word (m := ⟨2, 20⟩) (meth := k2m20) (c := k2c20) (by decide +kernel) rfl rfl rfl (by decide +kernel)
set_option maxRecDepth 65536 in
theorem w_c6 : (Jvm.Cond.code ({ cls := "ChainTreeSigner", name := "secretKey", desc := "(II)I" } : Jvm.MethodName) prog_1_method_24_code (4 : Nat) (Option.some Jvm.ClassFile.FieldType.int)).before args0 about1 = true := code_word (m := ⟨2, 16⟩) (meth := k2m16) (c := k2c16) (by decide +kernel) rfl rfl rfl (by decide +kernel)
set_option maxRecDepth 65536 in
theorem w_c7 : (Jvm.Cond.code ({ cls := "ChainTreeSigner", name := "secretTweak", desc := "(II)I" } : Jvm.MethodName) prog_1_method_20_code (3 : Nat) (Option.some Jvm.ClassFile.FieldType.int)).before args0 about1 = true := code_word (m := ⟨2, 12⟩) (meth := k2m12) (c := k2c12) (by decide +kernel) rfl rfl rfl (by decide +kernel)
set_option maxRecDepth 65536 in
theorem w_c8 : (Jvm.Cond.code ({ cls := "ChainTreeSigner", name := "hash", desc := "(III)I" } : Jvm.MethodName) prog_1_method_2_code (7 : Nat) (Option.some Jvm.ClassFile.FieldType.int)).before args0 about1 = true := code_word (m := ⟨2, 1⟩) (meth := k2m1) (c := k2c1) (by decide +kernel) rfl rfl rfl (by decide +kernel)
set_option maxRecDepth 65536 in
theorem w_c9 : (Jvm.Cond.code ({ cls := "ChainTreeSigner", name := "rotl", desc := "(II)I" } : Jvm.MethodName) prog_1_method_19_code (3 : Nat) (Option.some Jvm.ClassFile.FieldType.int)).before args0 about1 = true := code_word (m := ⟨2, 11⟩) (meth := k2m11) (c := k2c11) (by decide +kernel) rfl rfl rfl (by decide +kernel)
set_option maxRecDepth 65536 in
theorem w_c10 : (Jvm.Cond.code ({ cls := "ChainTreeSigner", name := "walk", desc := "(IIIII)I" } : Jvm.MethodName) prog_1_method_25_code (9 : Nat) (Option.some Jvm.ClassFile.FieldType.int)).before args0 about1 = true := code_word (m := ⟨2, 17⟩) (meth := k2m17) (c := k2c17) (by decide +kernel) rfl rfl rfl (by decide +kernel)
set_option maxRecDepth 65536 in
theorem w_c11 : (Jvm.Cond.code ({ cls := "ChainTreeSigner", name := "stepTweak", desc := "(III)I" } : Jvm.MethodName) prog_1_method_21_code (4 : Nat) (Option.some Jvm.ClassFile.FieldType.int)).before args0 about1 = true := code_word (m := ⟨2, 13⟩) (meth := k2m13) (c := k2c13) (by decide +kernel) rfl rfl rfl (by decide +kernel)
set_option maxRecDepth 65536 in
theorem w_c12 : (Jvm.Cond.code ({ cls := "ChainTreeSigner", name := "foldEnds", desc := "(I)I" } : Jvm.MethodName) prog_1_method_26_code (5 : Nat) (Option.some Jvm.ClassFile.FieldType.int)).before args0 about1 = true := code_word (m := ⟨2, 18⟩) (meth := k2m18) (c := k2c18) (by decide +kernel) rfl rfl rfl (by decide +kernel)
set_option maxRecDepth 65536 in
theorem w_c13 : (Jvm.Cond.code ({ cls := "ChainTreeSigner", name := "foldTweak", desc := "(II)I" } : Jvm.MethodName) prog_1_method_22_code (3 : Nat) (Option.some Jvm.ClassFile.FieldType.int)).before args0 about1 = true := code_word (m := ⟨2, 14⟩) (meth := k2m14) (c := k2c14) (by decide +kernel) rfl rfl rfl (by decide +kernel)
set_option maxRecDepth 65536 in
theorem w_c14 : (Jvm.Cond.code ({ cls := "ChainTreeSigner", name := "buildUpperLevels", desc := "()V" } : Jvm.MethodName) prog_1_method_29_code (7 : Nat) (Option.none : Option Jvm.ClassFile.FieldType)).before args0 about1 = true := code_word (m := ⟨2, 21⟩) (meth := k2m21) (c := k2c21) (by decide +kernel) rfl rfl rfl (by decide +kernel)
set_option maxRecDepth 65536 in
theorem w_c15 : (Jvm.Cond.code ({ cls := "ChainTreeSigner", name := "nodeTweak", desc := "(II)I" } : Jvm.MethodName) prog_1_method_23_code (3 : Nat) (Option.some Jvm.ClassFile.FieldType.int)).before args0 about1 = true := code_word (m := ⟨2, 15⟩) (meth := k2m15) (c := k2c15) (by decide +kernel) rfl rfl rfl (by decide +kernel)
set_option maxRecDepth 65536 in
theorem w_c16 : (Jvm.Cond.code ({ cls := "ChainTreeSigner", name := "getRoot", desc := "()I" } : Jvm.MethodName) prog_1_method_5_code (1 : Nat) (Option.some Jvm.ClassFile.FieldType.int)).before args0 about1 = true := code_word (m := ⟨2, 4⟩) (meth := k2m4) (c := k2c4) (by decide +kernel) rfl rfl rfl (by decide +kernel)
set_option maxRecDepth 65536 in
theorem w_c17 : (Jvm.Cond.code ({ cls := "ChainTreeSigner", name := "sign", desc := "(I)I" } : Jvm.MethodName) prog_1_method_7_code (5 : Nat) (Option.some Jvm.ClassFile.FieldType.int)).before args0 about1 = true := code_word (m := ⟨2, 5⟩) (meth := k2m5) (c := k2c5) (by decide +kernel) rfl rfl rfl (by decide +kernel)
set_option maxRecDepth 65536 in
theorem w_c18 : (Jvm.Cond.code ({ cls := "ChainTreeSigner", name := "fillDigits", desc := "(I)V" } : Jvm.MethodName) prog_1_method_27_code (5 : Nat) (Option.none : Option Jvm.ClassFile.FieldType)).before args0 about1 = true := code_word (m := ⟨2, 19⟩) (meth := k2m19) (c := k2c19) (by decide +kernel) rfl rfl rfl (by decide +kernel)
set_option maxRecDepth 65536 in
theorem w_c19 : (Jvm.Cond.code ({ cls := "ChainTreeSigner", name := "fillPath", desc := "(I)V" } : Jvm.MethodName) prog_1_method_30_code (5 : Nat) (Option.none : Option Jvm.ClassFile.FieldType)).before args0 about1 = true := code_word (m := ⟨2, 22⟩) (meth := k2m22) (c := k2c22) (by decide +kernel) rfl rfl rfl (by decide +kernel)
set_option maxRecDepth 65536 in
theorem w_c20 : (Jvm.Cond.code ({ cls := "ChainTreeSigner", name := "loadIssued", desc := "()Z" } : Jvm.MethodName) prog_1_method_12_code (2 : Nat) (Option.some Jvm.ClassFile.FieldType.boolean)).before args0 about1 = true := code_word (m := ⟨2, 6⟩) (meth := k2m6) (c := k2c6) (by decide +kernel) rfl rfl rfl (by decide +kernel)
set_option maxRecDepth 65536 in
theorem w_c21 : (Jvm.Cond.code ({ cls := "ChainTreeSigner", name := "candidateLeaf", desc := "()I" } : Jvm.MethodName) prog_1_method_15_code (1 : Nat) (Option.some Jvm.ClassFile.FieldType.int)).before args0 about1 = true := code_word (m := ⟨2, 9⟩) (meth := k2m9) (c := k2c9) (by decide +kernel) rfl rfl rfl (by decide +kernel)
set_option maxRecDepth 65536 in
theorem w_c22 : (Jvm.Cond.code ({ cls := "ChainTreeSigner", name := "verify", desc := "(I)Z" } : Jvm.MethodName) prog_1_method_18_code (5 : Nat) (Option.some Jvm.ClassFile.FieldType.boolean)).before args0 about1 = true := code_word (m := ⟨2, 10⟩) (meth := k2m10) (c := k2c10) (by decide +kernel) rfl rfl rfl (by decide +kernel)
set_option maxRecDepth 65536 in
theorem w_c23 : (Jvm.Cond.code ({ cls := "ChainTreeSigner", name := "climb", desc := "(II)I" } : Jvm.MethodName) prog_1_method_31_code (9 : Nat) (Option.some Jvm.ClassFile.FieldType.int)).before args0 about1 = true := code_word (m := ⟨2, 23⟩) (meth := k2m23) (c := k2c23) (by decide +kernel) rfl rfl rfl (by decide +kernel)
set_option maxRecDepth 65536 in
theorem w_c24 : (Jvm.Cond.code ({ cls := "ChainTreeSigner", name := "digit", desc := "(II)I" } : Jvm.MethodName) prog_1_method_3_code (3 : Nat) (Option.some Jvm.ClassFile.FieldType.int)).before args0 about1 = true := code_word (m := ⟨2, 2⟩) (meth := k2m2) (c := k2c2) (by decide +kernel) rfl rfl rfl (by decide +kernel)
set_option maxRecDepth 65536 in
theorem w_c25 : (Jvm.Cond.code ({ cls := "ChainTreeSigner", name := "setCandidateValue", desc := "(II)Z" } : Jvm.MethodName) prog_1_method_14_code (3 : Nat) (Option.some Jvm.ClassFile.FieldType.boolean)).before args0 about1 = true := code_word (m := ⟨2, 8⟩) (meth := k2m8) (c := k2c8) (by decide +kernel) rfl rfl rfl (by decide +kernel)
set_option maxRecDepth 65536 in
theorem w_c26 : (Jvm.Cond.code ({ cls := "ChainTreeSigner", name := "setCandidateLeaf", desc := "(I)Z" } : Jvm.MethodName) prog_1_method_13_code (2 : Nat) (Option.some Jvm.ClassFile.FieldType.boolean)).before args0 about1 = true := code_word (m := ⟨2, 7⟩) (meth := k2m7) (c := k2c7) (by decide +kernel) rfl rfl rfl (by decide +kernel)
def codes1 : List Jvm.Cond := [Jvm.Cond.code x code maxLocals ret, Jvm.Cond.code ({ cls := "ChainTreeSignerOwnLaw", name := "cell", desc := "([II)I" } : Jvm.MethodName) method_2_code (2 : Nat) (Option.some Jvm.ClassFile.FieldType.int), Jvm.Cond.code ({ cls := "ChainTreeSigner", name := "<init>", desc := "(I)V" } : Jvm.MethodName) prog_1_method_1_code (3 : Nat) (Option.none : Option Jvm.ClassFile.FieldType), Jvm.Cond.code ({ cls := "java/lang/Object", name := "<init>", desc := "()V" } : Jvm.MethodName) object_method_1_code (1 : Nat) (Option.none : Option Jvm.ClassFile.FieldType), Jvm.Cond.code ({ cls := "ChainTreeSigner", name := "keygen", desc := "(I)Z" } : Jvm.MethodName) prog_1_method_4_code (2 : Nat) (Option.some Jvm.ClassFile.FieldType.boolean), Jvm.Cond.code ({ cls := "ChainTreeSigner", name := "buildLeaves", desc := "()V" } : Jvm.MethodName) prog_1_method_28_code (5 : Nat) (Option.none : Option Jvm.ClassFile.FieldType), Jvm.Cond.code ({ cls := "ChainTreeSigner", name := "secretKey", desc := "(II)I" } : Jvm.MethodName) prog_1_method_24_code (4 : Nat) (Option.some Jvm.ClassFile.FieldType.int), Jvm.Cond.code ({ cls := "ChainTreeSigner", name := "secretTweak", desc := "(II)I" } : Jvm.MethodName) prog_1_method_20_code (3 : Nat) (Option.some Jvm.ClassFile.FieldType.int), Jvm.Cond.code ({ cls := "ChainTreeSigner", name := "hash", desc := "(III)I" } : Jvm.MethodName) prog_1_method_2_code (7 : Nat) (Option.some Jvm.ClassFile.FieldType.int), Jvm.Cond.code ({ cls := "ChainTreeSigner", name := "rotl", desc := "(II)I" } : Jvm.MethodName) prog_1_method_19_code (3 : Nat) (Option.some Jvm.ClassFile.FieldType.int), Jvm.Cond.code ({ cls := "ChainTreeSigner", name := "walk", desc := "(IIIII)I" } : Jvm.MethodName) prog_1_method_25_code (9 : Nat) (Option.some Jvm.ClassFile.FieldType.int), Jvm.Cond.code ({ cls := "ChainTreeSigner", name := "stepTweak", desc := "(III)I" } : Jvm.MethodName) prog_1_method_21_code (4 : Nat) (Option.some Jvm.ClassFile.FieldType.int), Jvm.Cond.code ({ cls := "ChainTreeSigner", name := "foldEnds", desc := "(I)I" } : Jvm.MethodName) prog_1_method_26_code (5 : Nat) (Option.some Jvm.ClassFile.FieldType.int), Jvm.Cond.code ({ cls := "ChainTreeSigner", name := "foldTweak", desc := "(II)I" } : Jvm.MethodName) prog_1_method_22_code (3 : Nat) (Option.some Jvm.ClassFile.FieldType.int), Jvm.Cond.code ({ cls := "ChainTreeSigner", name := "buildUpperLevels", desc := "()V" } : Jvm.MethodName) prog_1_method_29_code (7 : Nat) (Option.none : Option Jvm.ClassFile.FieldType), Jvm.Cond.code ({ cls := "ChainTreeSigner", name := "nodeTweak", desc := "(II)I" } : Jvm.MethodName) prog_1_method_23_code (3 : Nat) (Option.some Jvm.ClassFile.FieldType.int), Jvm.Cond.code ({ cls := "ChainTreeSigner", name := "getRoot", desc := "()I" } : Jvm.MethodName) prog_1_method_5_code (1 : Nat) (Option.some Jvm.ClassFile.FieldType.int), Jvm.Cond.code ({ cls := "ChainTreeSigner", name := "sign", desc := "(I)I" } : Jvm.MethodName) prog_1_method_7_code (5 : Nat) (Option.some Jvm.ClassFile.FieldType.int), Jvm.Cond.code ({ cls := "ChainTreeSigner", name := "fillDigits", desc := "(I)V" } : Jvm.MethodName) prog_1_method_27_code (5 : Nat) (Option.none : Option Jvm.ClassFile.FieldType), Jvm.Cond.code ({ cls := "ChainTreeSigner", name := "fillPath", desc := "(I)V" } : Jvm.MethodName) prog_1_method_30_code (5 : Nat) (Option.none : Option Jvm.ClassFile.FieldType), Jvm.Cond.code ({ cls := "ChainTreeSigner", name := "loadIssued", desc := "()Z" } : Jvm.MethodName) prog_1_method_12_code (2 : Nat) (Option.some Jvm.ClassFile.FieldType.boolean), Jvm.Cond.code ({ cls := "ChainTreeSigner", name := "candidateLeaf", desc := "()I" } : Jvm.MethodName) prog_1_method_15_code (1 : Nat) (Option.some Jvm.ClassFile.FieldType.int), Jvm.Cond.code ({ cls := "ChainTreeSigner", name := "verify", desc := "(I)Z" } : Jvm.MethodName) prog_1_method_18_code (5 : Nat) (Option.some Jvm.ClassFile.FieldType.boolean), Jvm.Cond.code ({ cls := "ChainTreeSigner", name := "climb", desc := "(II)I" } : Jvm.MethodName) prog_1_method_31_code (9 : Nat) (Option.some Jvm.ClassFile.FieldType.int), Jvm.Cond.code ({ cls := "ChainTreeSigner", name := "digit", desc := "(II)I" } : Jvm.MethodName) prog_1_method_3_code (3 : Nat) (Option.some Jvm.ClassFile.FieldType.int), Jvm.Cond.code ({ cls := "ChainTreeSigner", name := "setCandidateValue", desc := "(II)Z" } : Jvm.MethodName) prog_1_method_14_code (3 : Nat) (Option.some Jvm.ClassFile.FieldType.boolean), Jvm.Cond.code ({ cls := "ChainTreeSigner", name := "setCandidateLeaf", desc := "(I)Z" } : Jvm.MethodName) prog_1_method_13_code (2 : Nat) (Option.some Jvm.ClassFile.FieldType.boolean)]
set_option maxRecDepth 65536 in
theorem codes_eq : words1.filter isCode = codes1 := rfl
theorem w_codes : ∀ c ∈ words1.filter isCode, c.before args0 about1 = true := by
  rw [codes_eq]
  intro c hc
  simp only [codes1, List.mem_cons, List.not_mem_nil, or_false] at hc
  rcases hc with rfl | rfl | rfl | rfl | rfl | rfl | rfl | rfl | rfl | rfl | rfl | rfl | rfl | rfl | rfl | rfl | rfl | rfl | rfl | rfl | rfl | rfl | rfl | rfl | rfl | rfl | rfl
  · exact w_c0
  · exact w_c1
  · exact w_c2
  · exact w_c3
  · exact w_c4
  · exact w_c5
  · exact w_c6
  · exact w_c7
  · exact w_c8
  · exact w_c9
  · exact w_c10
  · exact w_c11
  · exact w_c12
  · exact w_c13
  · exact w_c14
  · exact w_c15
  · exact w_c16
  · exact w_c17
  · exact w_c18
  · exact w_c19
  · exact w_c20
  · exact w_c21
  · exact w_c22
  · exact w_c23
  · exact w_c24
  · exact w_c25
  · exact w_c26
set_option maxRecDepth 65536 in
theorem w_t1 : (words1.take 24).all (fun c => isCode c || c.before args0 about1) = true := by decide +kernel
set_option maxRecDepth 65536 in
theorem w_t2 : ((words1.drop 24).take 24).all (fun c => isCode c || c.before args0 about1) = true := by decide +kernel
set_option maxRecDepth 65536 in
theorem w_t3 : (((words1.drop 24).drop 24).take 24).all (fun c => isCode c || c.before args0 about1) = true := by decide +kernel
set_option maxRecDepth 65536 in
theorem w_t4 : ((((words1.drop 24).drop 24).drop 24).take 24).all (fun c => isCode c || c.before args0 about1) = true := by decide +kernel
set_option maxRecDepth 65536 in
theorem w_t5 : (((((words1.drop 24).drop 24).drop 24).drop 24).take 24).all (fun c => isCode c || c.before args0 about1) = true := by decide +kernel
set_option maxRecDepth 65536 in
theorem w_t6 : ((((((words1.drop 24).drop 24).drop 24).drop 24).drop 24).take 24).all (fun c => isCode c || c.before args0 about1) = true := by decide +kernel
set_option maxRecDepth 65536 in
theorem w_t7 : ((((((words1.drop 24).drop 24).drop 24).drop 24).drop 24).drop 24).all (fun c => isCode c || c.before args0 about1) = true := by decide +kernel
theorem w_tables : (allAtoms (Jvm.Cond.code x code maxLocals ret :: tables_1)).before args0 about1 = true := by
  rw [allAtoms_all]
  show words1.all (fun c => c.before args0 about1) = true
  refine all_split ?_ w_codes
  rw [← List.take_append_drop 24 words1, List.all_append, w_t1, ← List.take_append_drop 24 (words1.drop 24), List.all_append, w_t2, ← List.take_append_drop 24 ((words1.drop 24).drop 24), List.all_append, w_t3, ← List.take_append_drop 24 (((words1.drop 24).drop 24).drop 24), List.all_append, w_t4, ← List.take_append_drop 24 ((((words1.drop 24).drop 24).drop 24).drop 24), List.all_append, w_t5, ← List.take_append_drop 24 (((((words1.drop 24).drop 24).drop 24).drop 24).drop 24), List.all_append, w_t6, w_t7]
  rfl
set_option maxRecDepth 65536 in
theorem w_rest : rest_1_c.before args0 about1 = true := by decide +kernel
set_option maxRecDepth 65536 in
theorem w_case : (Jvm.Cond.and given_1 narrow_1).before args0 about1 = true := by decide +kernel
theorem w_applies : (headSpec (Jvm.Cond.code x code maxLocals ret :: tables_1) room_1).applies x e0.platform about1 = true :=
  (Spec.applies_iff w_frames).mpr ⟨w_running, w_runnable, w_alone, w_named, w_hears, w_ripe, w_room, w_tables⟩
theorem atStart : AtStart classFile x code maxLocals ret World_1 tables_1 room_1 Calls_1 rest_1 Pre_1 launch0 p0 e0 about1 theMethod args0 below0 :=
  ⟨lists_1, trivial, launch0.admits_env _ _ _, launch0.least_env, fairChoices_fair.cas, fairChoices_fair.clock, w_frames, w_args, w_heap, w_applies, trivial, w_rest, w_case⟩
end start1
theorem witness_1 : WitnessClaimed_1 := ⟨start1.p0, start1.e0, start1.about1, start1.theMethod, start1.args0, start1.below0, start1.atStart⟩
end Jvm.Pilot.@@N@@
