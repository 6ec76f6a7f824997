import JvmDerived
import JvmDerived.Pilot.@@N@@Statement
import JvmDerived.Pilot.@@N@@Code
set_option linter.unusedVariables false
set_option linter.unusedSimpArgs false
namespace Jvm.Own
open Jvm Jvm.ClassFile Sem Op Lib Jvm.Free Jvm.Stand Jvm.LawKit Jvm.RoadKit Bundle

/-! A plain machine: the few instructions that these classes use, over a heap of plain lists. -/
/-- an object (class number, fields in order) | an int array (false) or boolean array (true) | a long array -/
abbrev ACell := (Nat × List Value) ⊕ ((Bool × List Int32) ⊕ List Int64)
abbrev AHeap := List ACell
/-- instruction, length, variables forgotten ahead of it, link number, constant -/
abbrev It := Instr × Nat × List Bool × Nat × Int
/-- a field: name, descriptor, type, final -/
abbrev FD := String × String × FieldType × Bool
/-- a class: name, number of its slots, its fields -/
abbrev CD := String × Nat × List FD
/-- a method: name, bytes, variables, return type; kind (0 static, 1 constructor, 2 private, 3 virtual), parameters, class number, frames, words; code -/
abbrev MD := MethodName × ByteArray × Nat × Option FieldType × Nat × Nat × Nat × Nat × Nat × List (Nat × It)
/-- classes, methods, number of cells that are only read -/
abbrev PD := List CD × List MD × Nat
abbrev PD.cls (P : PD) : List CD := P.1
abbrev PD.mth (P : PD) : List MD := P.2.1
abbrev PD.nr (P : PD) : Nat := P.2.2
abbrev MD.name (d : MD) : MethodName := d.1
abbrev MD.bytes (d : MD) : ByteArray := d.2.1
abbrev MD.maxL (d : MD) : Nat := d.2.2.1
abbrev MD.ret (d : MD) : Option FieldType := d.2.2.2.1
abbrev MD.kind (d : MD) : Nat := d.2.2.2.2.1
abbrev MD.npar (d : MD) : Nat := d.2.2.2.2.2.1
abbrev MD.cid (d : MD) : Nat := d.2.2.2.2.2.2.1
abbrev MD.rf (d : MD) : Nat := d.2.2.2.2.2.2.2.1
abbrev MD.rw (d : MD) : Nat := d.2.2.2.2.2.2.2.2.1
abbrev MD.code (d : MD) : List (Nat × It) := d.2.2.2.2.2.2.2.2.2

def rdA {α : Type} (L : List α) (j : Int32) : Option α := if j < 0 then none else L[j.toNatClampNeg]?
def wrA {α : Type} (L : List α) (j : Int32) (x : α) : Option (List α) := if j < 0 then none else if j.toNatClampNeg < L.length then some (L.set j.toNatClampNeg x) else none
def getL (L : List Slot) (k : Nat) : Option Value := match L[k]? with | some (.val v) => some v | _ => none
def isC2 : Option Slot → Bool | some (.val v) => v.category == 2 | _ => false
def isSec : Option Slot → Bool | some .second => true | _ => false
def free1 : Option Slot → Bool | some .unset => true | some (.val v) => v.category == 1 | _ => false
def st1 (L : List Slot) (k : Nat) (v : Value) : Option (List Slot) :=
  if free1 L[k]? && (k == 0 || !isC2 L[k - 1]?) && !isSec L[k + 1]? then some (L.set k (.val v)) else none
def free2 : Option Slot → Option Slot → Bool | some .unset, some .unset => true | some (.val v), some .second => v.category == 2 | _, _ => false
def st2 (L : List Slot) (k : Nat) (v : Value) : Option (List Slot) :=
  if free2 L[k]? L[k + 1]? && (k == 0 || !isC2 L[k - 1]?) && !isSec L[k + 2]? then some ((L.set k (.val v)).set (k + 1) .second) else none
def forget : List Bool → List Slot → List Slot
  | [], L => L
  | _ :: _, [] => []
  | true :: r, _ :: L => .unset :: forget r L
  | false :: r, s :: L => s :: forget r L
def catSum : List Value → Nat
  | [] => 0
  | v :: r => v.category + catSum r
def entA : List Value → List Slot
  | [] => []
  | v :: r => if v.category = 2 then .val v :: .second :: entA r else .val v :: entA r
def entL (as : List Value) (n : Nat) : List Slot := entA as ++ List.replicate (n - (entA as).length) .unset
def putOk : FieldType → Value → Bool
  | .int, .int _ => true
  | .long, .long _ => true
  | .boolean, .int x => (x == 0) || (x == 1)
  | .array _, .ref _ => true
  | _, _ => false
def dflt : FieldType → Value
  | .long => .long 0
  | .array _ => .null
  | _ => .int 0
def dfOk : FieldType → Bool
  | .int => true
  | .boolean => true
  | .long => true
  | .array _ => true
  | _ => false
def tgt (pc : Nat) (o : Int) : Option Nat := if 0 ≤ (pc : Int) + o then some ((pc : Int) + o).toNat else none
def fetch : List (Nat × It) → Nat → Option It
  | [], _ => none
  | (q, i) :: r, pc => if q = pc then some i else fetch r pc
/-- one instruction that neither branches nor calls nor returns -/
def xI (P : PD) (ini : Bool) (cid : Nat) (i : Instr) (a : Nat) (b : Int) (L : List Slot) (S : List Value) (H : AHeap) : Option (List Slot × List Value × AHeap) :=
  match i with
  | .aload_n k => match getL L k.val with | some (.ref x) => some (L, .ref x :: S, H) | _ => none
  | .aload k => match getL L k with | some (.ref x) => some (L, .ref x :: S, H) | _ => none
  | .iload_n k => match getL L k.val with | some (.int x) => some (L, .int x :: S, H) | _ => none
  | .iload k => match getL L k with | some (.int x) => some (L, .int x :: S, H) | _ => none
  | .lload_n k => match getL L k.val with | some (.long x) => some (L, .long x :: S, H) | _ => none
  | .lload k => match getL L k with | some (.long x) => some (L, .long x :: S, H) | _ => none
  | .istore_n k => match S with | .int x :: S' => (st1 L k.val (.int x)).map fun L' => (L', S', H) | _ => none
  | .istore k => match S with | .int x :: S' => (st1 L k (.int x)).map fun L' => (L', S', H) | _ => none
  | .astore_n k => match S with | .ref x :: S' => (st1 L k.val (.ref x)).map fun L' => (L', S', H) | _ => none
  | .astore k => match S with | .ref x :: S' => (st1 L k (.ref x)).map fun L' => (L', S', H) | _ => none
  | .lstore_n k => match S with | .long x :: S' => (st2 L k.val (.long x)).map fun L' => (L', S', H) | _ => none
  | .lstore k => match S with | .long x :: S' => (st2 L k (.long x)).map fun L' => (L', S', H) | _ => none
  | .iinc k d => match getL L k with | some (.int x) => (st1 L k (.int (x + Int32.ofInt d))).map fun L' => (L', S, H) | _ => none
  | .iconst d => some (L, .int (Int32.ofInt d) :: S, H)
  | .bipush d => some (L, .int (Int8.ofInt d).toInt32 :: S, H)
  | .sipush d => some (L, .int (Int16.ofInt d).toInt32 :: S, H)
  | .lconst k => some (L, .long (Int64.ofNat k) :: S, H)
  | .ldc _ => some (L, .int (Int32.ofInt b) :: S, H)
  | .ldc2_w _ => some (L, .long (Int64.ofInt b) :: S, H)
  | .iadd => match S with | .int y :: .int x :: S' => some (L, .int (x + y) :: S', H) | _ => none
  | .isub => match S with | .int y :: .int x :: S' => some (L, .int (x - y) :: S', H) | _ => none
  | .imul => match S with | .int y :: .int x :: S' => some (L, .int (x * y) :: S', H) | _ => none
  | .iand => match S with | .int y :: .int x :: S' => some (L, .int (x &&& y) :: S', H) | _ => none
  | .ior => match S with | .int y :: .int x :: S' => some (L, .int (x ||| y) :: S', H) | _ => none
  | .ixor => match S with | .int y :: .int x :: S' => some (L, .int (x ^^^ y) :: S', H) | _ => none
  | .ishl => match S with | .int y :: .int x :: S' => some (L, .int (x <<< (y &&& 31)) :: S', H) | _ => none
  | .ishr => match S with | .int y :: .int x :: S' => some (L, .int (x >>> (y &&& 31)) :: S', H) | _ => none
  | .iushr => match S with | .int y :: .int x :: S' => some (L, .int (XT.ushr x y) :: S', H) | _ => none
  | .idiv => match S with | .int y :: .int x :: S' => if y = 0 then none else some (L, .int (x / y) :: S', H) | _ => none
  | .irem => match S with | .int y :: .int x :: S' => if y = 0 then none else some (L, .int (x % y) :: S', H) | _ => none
  | .ladd => match S with | .long y :: .long x :: S' => some (L, .long (x + y) :: S', H) | _ => none
  | .lsub => match S with | .long y :: .long x :: S' => some (L, .long (x - y) :: S', H) | _ => none
  | .lmul => match S with | .long y :: .long x :: S' => some (L, .long (x * y) :: S', H) | _ => none
  | .land => match S with | .long y :: .long x :: S' => some (L, .long (x &&& y) :: S', H) | _ => none
  | .lor => match S with | .long y :: .long x :: S' => some (L, .long (x ||| y) :: S', H) | _ => none
  | .lxor => match S with | .long y :: .long x :: S' => some (L, .long (x ^^^ y) :: S', H) | _ => none
  | .lshl => match S with | .int y :: .long x :: S' => some (L, .long (x <<< (y.toInt64 &&& 63)) :: S', H) | _ => none
  | .lshr => match S with | .int y :: .long x :: S' => some (L, .long (x >>> (y.toInt64 &&& 63)) :: S', H) | _ => none
  | .lushr => match S with | .int y :: .long x :: S' => some (L, .long (XT.ushrL x y) :: S', H) | _ => none
  | .ldiv => match S with | .long y :: .long x :: S' => if y = 0 then none else some (L, .long (x / y) :: S', H) | _ => none
  | .lrem => match S with | .long y :: .long x :: S' => if y = 0 then none else some (L, .long (x % y) :: S', H) | _ => none
  | .lcmp => match S with | .long y :: .long x :: S' => some (L, .int (XT.cmpL x y) :: S', H) | _ => none
  | .i2l => match S with | .int x :: S' => some (L, .long x.toInt64 :: S', H) | _ => none
  | .l2i => match S with | .long x :: S' => some (L, .int x.toInt32 :: S', H) | _ => none
  | .dup => match S with
    | .int x :: S' => some (L, .int x :: .int x :: S', H)
    | .ref x :: S' => some (L, .ref x :: .ref x :: S', H)
    | _ => none
  | .dup2 => match S with
    | .int x :: .ref y :: S' => some (L, .int x :: .ref y :: .int x :: .ref y :: S', H)
    | .long x :: S' => some (L, .long x :: .long x :: S', H)
    | _ => none
  | .pop => match S with | .int _ :: S' => some (L, S', H) | _ => none
  | .getfield _ => match S with
    | .ref o :: S' => match H[o]? with
      | some (.inl (c, fs)) => if c = cid then match fs[a]? with
        | some (.int x) => some (L, .int x :: S', H)
        | some (.long x) => some (L, .long x :: S', H)
        | some (.ref x) => some (L, .ref x :: S', H)
        | _ => none
        else none
      | _ => none
    | _ => none
  | .putfield _ => match S with
    | v :: .ref o :: S' => match H[o]? with
      | some (.inl (c, fs)) => if c = cid ∧ P.nr ≤ o then match (P.cls[c]?).bind fun cd => cd.2.2[a]? with
        | some (_, _, ty, fin) => if putOk ty v && (!fin || ini) then some (L, S', H.set o (.inl (c, fs.set a v))) else none
        | none => none
        else none
      | _ => none
    | _ => none
  | .iaload => match S with
    | .int j :: .ref o :: S' => match H[o]? with
      | some (.inr (.inl (false, A))) => (rdA A j).map fun x => (L, .int x :: S', H)
      | _ => none
    | _ => none
  | .baload => match S with
    | .int j :: .ref o :: S' => match H[o]? with
      | some (.inr (.inl (true, A))) => (rdA A j).map fun x => (L, .int x :: S', H)
      | _ => none
    | _ => none
  | .laload => match S with
    | .int j :: .ref o :: S' => match H[o]? with
      | some (.inr (.inr A)) => (rdA A j).map fun x => (L, .long x :: S', H)
      | _ => none
    | _ => none
  | .iastore => match S with
    | .int x :: .int j :: .ref o :: S' => match H[o]? with
      | some (.inr (.inl (false, A))) => if P.nr ≤ o then (wrA A j x).map fun A' => (L, S', H.set o (.inr (.inl (false, A')))) else none
      | _ => none
    | _ => none
  | .bastore => match S with
    | .int x :: .int j :: .ref o :: S' => match H[o]? with
      | some (.inr (.inl (true, A))) => if P.nr ≤ o then (wrA A j (x &&& 1)).map fun A' => (L, S', H.set o (.inr (.inl (true, A')))) else none
      | _ => none
    | _ => none
  | .lastore => match S with
    | .long x :: .int j :: .ref o :: S' => match H[o]? with
      | some (.inr (.inr A)) => if P.nr ≤ o then (wrA A j x).map fun A' => (L, S', H.set o (.inr (.inr A'))) else none
      | _ => none
    | _ => none
  | .arraylength => match S with
    | .ref o :: S' => match H[o]? with
      | some (.inr (.inl (_, A))) => some (L, .int A.length.toInt32 :: S', H)
      | _ => none
    | _ => none
  | _ => none
/-- one instruction that makes a cell: how many slots it takes stands last -/
def xN (P : PD) (i : Instr) (a : Nat) (S : List Value) (H : AHeap) : Option (List Value × AHeap × Nat) :=
  match i with
  | .new _ => match P.cls[a]? with
    | some cd => some (.ref H.length :: S, H ++ [.inl (a, cd.2.2.map fun f => dflt f.2.2.1)], cd.2.1)
    | none => none
  | .newarray t => match S with
    | .int n :: S' => if n < 0 ∨ 100000 < n.toNatClampNeg then none else match t with
      | .int => some (.ref H.length :: S', H ++ [.inr (.inl (false, List.replicate n.toNatClampNeg 0))], n.toNatClampNeg)
      | .boolean => some (.ref H.length :: S', H ++ [.inr (.inl (true, List.replicate n.toNatClampNeg 0))], n.toNatClampNeg)
      | .long => some (.ref H.length :: S', H ++ [.inr (.inr (List.replicate n.toNatClampNeg 0))], n.toNatClampNeg)
      | _ => none
    | _ => none
  | _ => none
/-- the words that a call from d to y asks -/
def fitsRoom (d y : MD) (rest : List Value) : Bool := decide (y.rf + 1 ≤ d.rf) && decide (catSum rest + (y.maxL + 11) + y.rw ≤ d.rw)
/-- the arguments of a call, first to last, and what lies under them -/
def argsOf (n : Nat) (S : List Value) : Option (List Value × List Value) := if n ≤ S.length then some ((S.take n).reverse, S.drop n) else none
def recvOk (P : PD) (H : AHeap) (y : MD) (as : List Value) : Bool :=
  if y.kind = 0 then true else match as with
    | .ref o :: _ => match H[o]? with
      | some (.inl (c, _)) => decide (c = y.cid)
      | _ => false
    | _ => false
def nargs (y : MD) : Nat := if y.kind = 0 then y.npar else y.npar + 1
def invKind (i : Instr) (k : Nat) : Bool := match i with
  | .invokestatic _ => k == 0
  | .invokespecial _ => k == 1
  | .invokevirtual _ => k == 2 || k == 3
  | _ => false
/-- what a method returns of an int on its stack -/
def retV (r : Option FieldType) (x : Int32) : Option Value := match r with
  | some .int => some (.int x)
  | some .boolean => some (.int (x &&& 1))
  | _ => none
def isInv : Instr → Bool
  | .invokestatic _ => true
  | .invokespecial _ => true
  | .invokevirtual _ => true
  | _ => false
def isNew : Instr → Bool
  | .new _ => true
  | .newarray _ => true
  | _ => false
/-- what a run answers: what it returns, the heap, how many cells and slots it has made -/
abbrev Res := Option Value × AHeap × Nat × Nat
def addR (r : Res) (kc ks : Nat) : Res := (r.1, r.2.1, r.2.2.1 + kc, r.2.2.2 + ks)
/-- n instructions at the most, from pc of method mi to its return -/
def exe (P : PD) : Nat → Nat → Nat → List Slot → List Value → AHeap → Option Res
  | 0, _, _, _, _, _ => none
  | n + 1, mi, pc, L0, S, H => match P.mth[mi]? with
    | none => none
    | some d => match fetch d.code pc with
      | none => none
      | some (i, len, er, a, b) =>
        let L := forget er L0
        match i with
        | .goto o => match tgt pc o with
          | some q => exe P n mi q L S H
          | none => none
        | .if_icmp cd o => match S with
          | .int y :: .int x :: S' => if if_icmp.holds cd x y = true then match tgt pc o with
              | some q => exe P n mi q L S' H
              | none => none
            else exe P n mi (pc + 3) L S' H
          | _ => none
        | .ifCond cd o => match S with
          | .int x :: S' => if ifCond.holds cd x = true then match tgt pc o with
              | some q => exe P n mi q L S' H
              | none => none
            else exe P n mi (pc + 3) L S' H
          | _ => none
        | .ifnonnull o => match S with
          | .ref _ :: S' => match tgt pc o with
            | some q => exe P n mi q L S' H
            | none => none
          | _ => none
        | .ireturn => match S with
          | [.int x] => match retV d.ret x with
            | some v => some (some v, H, 0, 0)
            | none => none
          | _ => none
        | .lreturn => match S with
          | [.long x] => if d.ret = some .long then some (some (.long x), H, 0, 0) else none
          | _ => none
        | .return_ => match S with
          | [] => if d.ret = none then some (none, H, 0, 0) else none
          | _ => none
        | i => if isInv i = true then
            if b = -1 then match i, S with
              | .invokespecial _, .ref _ :: S' => if 1 ≤ d.rf ∧ catSum S' + 12 ≤ d.rw then exe P n mi (pc + 3) L S' H else none
              | _, _ => none
            else match P.mth[a]? with
              | none => none
              | some y => match argsOf (nargs y) S with
                | none => none
                | some (as, rest) =>
                  if decide (0 < a) && invKind i y.kind && recvOk P H y as && fitsRoom d y rest && decide ((entA as).length ≤ y.maxL) then
                    match exe P n a 0 (entL as y.maxL) [] H with
                    | some (v, H1, kc, ks) => (exe P n mi (pc + 3) L (v.toList ++ rest) H1).map fun r => addR r kc ks
                    | none => none
                  else none
          else if isNew i = true then match xN P i a S H with
            | some (S', H', ks) => (exe P n mi (pc + len) L S' H').map fun r => addR r 1 ks
            | none => none
          else match xI P (d.name.name == "<init>") d.cid i a b L S H with
            | some (L', S', H') => exe P n mi (pc + len) L' S' H'
            | none => none
end Jvm.Own
namespace Jvm.Own
open Jvm Jvm.ClassFile Sem Op Lib Jvm.Free Jvm.Stand Jvm.LawKit Jvm.RoadKit Bundle

/-! The words that the machine's program rests on -/
def fWord (C : String) (f : FD) : Jvm.Cond := if f.2.2.2 then .laysFinal C C f.1 f.2.1 else .lays C C f.1 f.2.1
def cWords (cd : CD) : List Jvm.Cond := .instantiable cd.1 cd.2.1 :: .initialized cd.1 :: cd.2.2.map (fWord cd.1)
def mWords (y : MD) : List Jvm.Cond := .code y.name y.bytes y.maxL y.ret :: .initialized y.name.cls ::
  (if y.kind = 0 then [.static y.name] else if y.kind = 1 then [.instanceMethod y.name] else if y.kind = 2 then [.instanceMethod y.name, .privateMethod y.name]
   else [.declares y.name, .selects y.name.cls y.name y.name, .instanceMethod y.name])
def fieldOf (P : PD) (c a : Nat) : Option FD := (P.cls[c]?).bind fun cd => cd.2.2[a]?
def fLink (P : PD) (d : MD) (k a : Nat) : List Jvm.Cond := match fieldOf P d.cid a with | some f => [.fieldLink d.name.cls k d.name.cls f.1 f.2.1] | none => []
def mLink (P : PD) (d : MD) (k a : Nat) (b : Int) : List Jvm.Cond :=
  if b = -1 then [.methodLink d.name.cls k Lib.objectInit, .instanceMethod Lib.objectInit, .code Lib.objectInit ⟨#[0xb1]⟩ 1 none]
  else match P.mth[a]? with | some y => [.methodLink d.name.cls k y.name] | none => []
def iWords (P : PD) (d : MD) (x : Nat × It) : List Jvm.Cond := match x with
  | (_, .getfield k, _, _, a, _) => fLink P d k a
  | (_, .putfield k, _, _, a, _) => fLink P d k a
  | (_, .ldc k, _, _, _, b) => [.constant d.name.cls k (Int32.ofInt b)]
  | (_, .ldc2_w k, _, _, _, b) => [.constantLong d.name.cls k (Int64.ofInt b)]
  | (_, .new k, _, _, a, _) => match P.cls[a]? with | some cd => [.classLink d.name.cls k cd.1] | none => []
  | (_, .newarray t, _, _, _, _) => [.arrayClass (newarray.typeOf t)]
  | (_, .invokestatic k, _, _, a, b) => mLink P d k a b
  | (_, .invokespecial k, _, _, a, b) => mLink P d k a b
  | (_, .invokevirtual k, _, _, a, b) => mLink P d k a b
  | _ => []
def wordsOf (P : PD) : List Jvm.Cond := P.cls.flatMap cWords ++ (P.mth.drop 1).flatMap mWords ++ P.mth.flatMap fun d => d.code.flatMap (iWords P d)
/-! What can be looked up in the program itself -/
def nodup : List String → Bool
  | [] => true
  | x :: r => !r.contains x && nodup r
def fChk (f : FD) : Bool := decide (parseFieldDescriptor f.2.1 = some f.2.2.1) && dfOk f.2.2.1
def cChk (cd : CD) : Bool := nodup (cd.2.2.map fun f => f.1) && cd.2.2.all fChk
def sigChk (y : MD) : Bool := match parseMethodDescriptor y.name.desc with
  | some g => decide (g.parameters.length = y.npar)
  | none => false
def lenOk (i : Instr) (n : Nat) : Bool := match i with
  | .aload _ | .iload _ | .lload _ | .istore _ | .astore _ | .lstore _ | .bipush _ | .ldc _ | .newarray _ => n == 2
  | .iinc _ _ | .sipush _ | .ldc2_w _ | .getfield _ | .putfield _ | .new _ | .goto _ | .if_icmp _ _ | .ifCond _ _ | .ifnonnull _ | .invokestatic _ | .invokespecial _ | .invokevirtual _ => n == 3
  | _ => n == 1
def codeChk (y : MD) : Bool := y.code.all fun x => decide (decode y.bytes x.1 = .ok (x.2.1, x.2.2.1)) && lenOk x.2.1 x.2.2.1
def clsChk (P : PD) (y : MD) : Bool := match P.cls[y.cid]? with | some cd => cd.1 == y.name.cls | none => y.kind == 0
def mChk (P : PD) (y : MD) : Bool := plainName y.name.cls && sigChk y && codeChk y && clsChk P y && decide (y.name.cls ≠ "java/lang/invoke/MethodHandle") && decide (y.name.cls ≠ "java/lang/invoke/VarHandle") && (y.kind != 1 || (y.name.name == "<init>" && decide (y.ret = none)))
def chk (P : PD) : Bool := P.cls.all cChk && P.mth.all (mChk P)

/-! Plain and real values -/
def VR (ρ : List Addr) : Value → Value → Prop
  | .ref k, w => ∃ a, ρ[k]? = some a ∧ w = .ref a
  | v, w => w = v
def SR (ρ : List Addr) : List Value → List Value → Prop
  | [], ws => ws = []
  | v :: vs, ws => ∃ w ws', ws = w :: ws' ∧ VR ρ v w ∧ SR ρ vs ws'
def OV (ρ : List Addr) : Option Value → Option Value → Prop
  | none, w => w = none
  | some v, w => ∃ u, w = some u ∧ VR ρ v u
def WFc (A : Array Slot) : Prop := (∀ (i : Nat) w, A[i]? = some (.val w) → w.category = 2 → A[i + 1]? = some .second) ∧ ∀ (i : Nat), A[i]? = some .second → ∃ j w, i = j + 1 ∧ A[j]? = some (.val w) ∧ w.category = 2
def SlR (ρ : List Addr) : Slot → Option Slot → Prop
  | .unset, _ => True
  | .second, o => o = some .second
  | .val v, o => ∃ w, VR ρ v w ∧ o = some (.val w)
def LR (ρ : List Addr) (L : List Slot) (A : Array Slot) : Prop := A.size = L.length ∧ WFc A ∧ ∀ (i : Nat) s, L[i]? = some s → SlR ρ s A[i]?
theorem VR.mono {ρ t : List Addr} {v w : Value} (h : VR ρ v w) : VR (ρ ++ t) v w := by
  cases v <;> first | exact h | skip
  obtain ⟨a, h1, h2⟩ := h
  exact ⟨a, by rw [List.getElem?_append_left (List.getElem?_eq_some_iff.mp h1).1]; exact h1, h2⟩
theorem SR.mono {ρ t : List Addr} : ∀ {v w : List Value}, SR ρ v w → SR (ρ ++ t) v w
  | [], _, h => h
  | _ :: _, _, ⟨w, ws, h1, h2, h3⟩ => ⟨w, ws, h1, h2.mono, SR.mono h3⟩
theorem SlR.mono {ρ t : List Addr} {s : Slot} {o : Option Slot} (h : SlR ρ s o) : SlR (ρ ++ t) s o := by
  cases s with
  | unset => trivial
  | second => exact h
  | val v => obtain ⟨w, h1, h2⟩ := h; exact ⟨w, h1.mono, h2⟩
theorem LR.mono {ρ t : List Addr} {L : List Slot} {A : Array Slot} (h : LR ρ L A) : LR (ρ ++ t) L A := ⟨h.1, h.2.1, fun i s q => (h.2.2 i s q).mono⟩
theorem VR.cat {ρ : List Addr} {v w : Value} (h : VR ρ v w) : w.category = v.category := by
  cases v <;> first | (obtain ⟨a, -, rfl⟩ := h; rfl) | (cases h; rfl)
theorem SR.cat {ρ : List Addr} : ∀ {v w : List Value}, SR ρ v w → (w.map fun v => v.category).sum = catSum v
  | [], _, h => by cases h; rfl
  | _ :: _, _, ⟨w, ws, h1, h2, h3⟩ => by subst h1; simp [catSum, h2.cat, SR.cat h3]
theorem SR.len {ρ : List Addr} : ∀ {v w : List Value}, SR ρ v w → w.length = v.length
  | [], _, h => by cases h; rfl
  | _ :: _, _, ⟨w, ws, h1, h2, h3⟩ => by subst h1; simp [SR.len h3]
theorem SR.app {ρ : List Addr} : ∀ {v w v' w' : List Value}, SR ρ v w → SR ρ v' w' → SR ρ (v ++ v') (w ++ w')
  | [], _, _, _, h, h' => by cases h; exact h'
  | _ :: _, _, _, _, ⟨w, ws, h1, h2, h3⟩, h' => by subst h1; exact ⟨w, ws ++ _, rfl, h2, SR.app h3 h'⟩
theorem SR.rev {ρ : List Addr} : ∀ {v w : List Value}, SR ρ v w → SR ρ v.reverse w.reverse
  | [], _, h => by cases h; exact rfl
  | _ :: _, _, ⟨w, ws, h1, h2, h3⟩ => by subst h1; simp only [List.reverse_cons]; exact (SR.rev h3).app ⟨w, [], rfl, h2, rfl⟩
theorem SR.take {ρ : List Addr} : ∀ (n : Nat) {v w : List Value}, SR ρ v w → SR ρ (v.take n) (w.take n)
  | 0, _, _, _ => rfl
  | n + 1, [], _, h => by cases h; exact rfl
  | n + 1, _ :: _, _, ⟨w, ws, h1, h2, h3⟩ => by subst h1; exact ⟨w, _, rfl, h2, SR.take n h3⟩
theorem SR.drop {ρ : List Addr} : ∀ (n : Nat) {v w : List Value}, SR ρ v w → SR ρ (v.drop n) (w.drop n)
  | 0, _, _, h => h
  | n + 1, [], _, h => by cases h; exact rfl
  | n + 1, _ :: _, _, ⟨w, ws, h1, h2, h3⟩ => by subst h1; exact SR.drop n h3
theorem OV.list {ρ : List Addr} {v w : Option Value} (h : OV ρ v w) : SR ρ v.toList w.toList := by
  cases v with
  | none => cases h; exact rfl
  | some v => obtain ⟨u, rfl, h⟩ := h; exact ⟨u, [], rfl, h, rfl⟩
theorem LR.get {ρ : List Addr} {L : List Slot} {A : Array Slot} (h : LR ρ L A) {k : Nat} {v : Value} (g : getL L k = some v) : ∃ w, VR ρ v w ∧ A[k]? = some (.val w) := by
  unfold getL at g
  split at g
  · rename_i u q
    cases g
    exact h.2.2 k _ q
  · cases g
theorem forget_get : ∀ (er : List Bool) (L : List Slot) (i : Nat) (s : Slot), (forget er L)[i]? = some s → s = .unset ∨ L[i]? = some s
  | [], L, i, s, h => Or.inr h
  | _ :: _, [], i, s, h => by simp [forget] at h
  | true :: r, t :: L, 0, s, h => by simp [forget] at h; exact Or.inl h.symm
  | false :: r, t :: L, 0, s, h => by simp [forget] at h; exact Or.inr (by simp [h])
  | true :: r, t :: L, i + 1, s, h => by simp [forget] at h; simpa using forget_get r L i s h
  | false :: r, t :: L, i + 1, s, h => by simp [forget] at h; simpa using forget_get r L i s h
theorem forget_len : ∀ (er : List Bool) (L : List Slot), (forget er L).length = L.length
  | [], _ => rfl
  | _ :: _, [] => rfl
  | true :: r, _ :: L => by simp [forget, forget_len r L]
  | false :: r, _ :: L => by simp [forget, forget_len r L]
theorem LR.forget {ρ : List Addr} {A : Array Slot} (er : List Bool) {L : List Slot} (h : LR ρ L A) : LR ρ (forget er L) A :=
  ⟨by rw [forget_len]; exact h.1, h.2.1, fun i s q => by
    rcases forget_get er L i s q with rfl | z
    · trivial
    · exact h.2.2 i s z⟩
/-! Stores -/
theorem setAt_ok {A : Array Slot} {i : Nat} (h : i < A.size) (x : Slot) : setAt A i x = some (A.setIfInBounds i x) := by simp [setAt, h]
theorem get_set (A : Array Slot) (i j : Nat) (x : Slot) : (A.setIfInBounds i x)[j]? = if i = j then (if i < A.size then some x else none) else A[j]? := by
  rw [Array.getElem?_setIfInBounds]
theorem sl_unset {A : Array Slot} {k : Nat} {w : Value} (h : A[k]? = some .unset) : storeLocals A k w = storeSelf A k w := by
  unfold storeLocals; rw [h]; rfl
theorem sl_second {A : Array Slot} {k : Nat} {w : Value} (h : A[k]? = some .second) (hk : k - 1 < A.size) : storeLocals A k w = storeSelf (A.setIfInBounds (k - 1) .unset) k w := by
  unfold storeLocals; rw [h]
  show (setAt A (k - 1) .unset).bind _ = _
  rw [setAt_ok hk]; rfl
theorem sl_val2 {A : Array Slot} {k : Nat} {w u : Value} (h : A[k]? = some (.val u)) (hu : u.category = 2) (hk : k + 1 < A.size) : storeLocals A k w = storeSelf (A.setIfInBounds (k + 1) .unset) k w := by
  unfold storeLocals; rw [h]
  show (if u.category = 2 then (setAt A (k + 1) .unset).bind _ else _) = _
  rw [if_pos hu, setAt_ok hk]; rfl
theorem sl_val1 {A : Array Slot} {k : Nat} {w u : Value} (h : A[k]? = some (.val u)) (hu : ¬ u.category = 2) : storeLocals A k w = storeSelf A k w := by
  unfold storeLocals; rw [h]
  show (if u.category = 2 then (setAt A (k + 1) .unset).bind _ else _) = _
  rw [if_neg hu]
theorem ss_1 {A : Array Slot} {k : Nat} {w : Value} (hk : k < A.size) (hw : ¬ w.category = 2) : storeSelf A k w = some (A.setIfInBounds k (.val w)) := by
  unfold storeSelf; rw [setAt_ok hk]
  show (if w.category = 2 then _ else _) = _
  rw [if_neg hw]
theorem ss_2c {A : Array Slot} {k : Nat} {w u : Value} (hk : k < A.size) (hk1 : k + 1 < A.size) (hk2 : k + 2 < A.size) (hw : w.category = 2) (h : (A.setIfInBounds k (.val w))[k + 1]? = some (.val u)) (hu : u.category = 2) : storeSelf A k w = some (((A.setIfInBounds k (.val w)).setIfInBounds (k + 2) .unset).setIfInBounds (k + 1) .second) := by
  unfold storeSelf; rw [setAt_ok hk]
  show (if w.category = 2 then _ else _) = _
  rw [if_pos hw, h]
  show (if u.category = 2 then (setAt _ (k + 2) .unset).bind _ else _) = _
  rw [if_pos hu, setAt_ok (by simpa using hk2)]
  exact setAt_ok (by simpa using hk1) _
theorem ss_2 {A : Array Slot} {k : Nat} {w : Value} {o : Slot} (hk : k < A.size) (hk1 : k + 1 < A.size) (hw : w.category = 2) (h : (A.setIfInBounds k (.val w))[k + 1]? = some o) (ho : ¬ ∃ u, o = .val u ∧ u.category = 2) : storeSelf A k w = some ((A.setIfInBounds k (.val w)).setIfInBounds (k + 1) .second) := by
  unfold storeSelf; rw [setAt_ok hk]
  show (if w.category = 2 then _ else _) = _
  rw [if_pos hw, h]
  cases o with
  | unset => exact setAt_ok (by simpa using hk1) _
  | second => exact setAt_ok (by simpa using hk1) _
  | val u =>
    show (if u.category = 2 then _ else _) = _
    rw [if_neg fun z => ho ⟨u, rfl, z⟩]
    exact setAt_ok (by simpa using hk1) _
theorem store1_sim {ρ : List Addr} {L : List Slot} {A : Array Slot} (h : LR ρ L A) {k : Nat} {v w : Value} {L' : List Slot} (hs : st1 L k v = some L') (hv : VR ρ v w) (hc : w.category = 1) : ∃ A', storeLocals A k w = some A' ∧ LR ρ L' A' := by
  unfold st1 at hs
  split at hs
  · rename_i q
    cases hs
    simp only [Bool.and_eq_true] at q
    obtain ⟨⟨q1, q2⟩, q3⟩ := q
    obtain ⟨hA, ⟨w1, w2⟩, hl⟩ := h
    have hk : k < L.length := by
      rcases Nat.lt_or_ge k L.length with z | z
      · exact z
      · rw [List.getElem?_eq_none z] at q1; cases q1
    have hkA : k < A.size := hA ▸ hk
    obtain ⟨sl, hsl⟩ : ∃ sl, A[k]? = some sl := ⟨A[k], Array.getElem?_eq_getElem hkA⟩
    have hc2 : ¬ w.category = 2 := by rw [hc]; decide
    classical
    have key : ∃ A', storeLocals A k w = some A' ∧ A'.size = A.size ∧ (∀ j, A'[j]? = if j = k then some (.val w) else if (sl = .second ∧ j + 1 = k) ∨ ((∃ u, sl = .val u ∧ u.category = 2) ∧ j = k + 1) then some .unset else A[j]?) := by
      cases sl with
      | unset =>
        refine ⟨A.setIfInBounds k (.val w), by rw [sl_unset hsl]; exact ss_1 hkA hc2, by simp, fun j => ?_⟩
        rw [get_set]
        by_cases e : k = j
        · subst e; simp [hkA]
        · have e' : ¬ j = k := fun z => e z.symm
          simp [e, e']
      | second =>
        obtain ⟨j0, u, rfl, g1, g2⟩ := w2 k hsl
        refine ⟨(A.setIfInBounds j0 .unset).setIfInBounds (j0 + 1) (.val w), by rw [sl_second hsl (show j0 + 1 - 1 < A.size by omega)]; exact ss_1 (by simpa using hkA) hc2, by simp, fun j => ?_⟩
        rw [get_set, get_set]
        by_cases e : j0 + 1 = j
        · subst e; simp [hkA]
        · by_cases e2 : j0 = j
          · subst e2; simp; omega
          · have e' : ¬ j = j0 + 1 := fun z => e z.symm
            have e2' : ¬ j = j0 := fun z => e2 z.symm
            simp [e, e', e2, e2']
      | val u =>
        by_cases hu : u.category = 2
        · have g := w1 k u hsl hu
          have hk1 : k + 1 < A.size := (Array.getElem?_eq_some_iff.mp g).1
          refine ⟨(A.setIfInBounds (k + 1) .unset).setIfInBounds k (.val w), by rw [sl_val2 hsl hu hk1]; exact ss_1 (by simpa using hkA) hc2, by simp, fun j => ?_⟩
          rw [get_set, get_set]
          by_cases e : k = j
          · subst e; simp [hkA]
          · have e' : ¬ j = k := fun z => e z.symm
            by_cases e2 : k + 1 = j
            · subst e2; simp [hk1, hu]
            · have e2' : ¬ j = k + 1 := fun z => e2 z.symm
              simp [e, e', e2, e2']
        · refine ⟨A.setIfInBounds k (.val w), by rw [sl_val1 hsl hu]; exact ss_1 hkA hc2, by simp, fun j => ?_⟩
          rw [get_set]
          by_cases e : k = j
          · subst e; simp [hkA]
          · have e' : ¬ j = k := fun z => e z.symm
            simp [e, e', hu]
    obtain ⟨A', k1, k2, k3⟩ := key
    refine ⟨A', k1, by rw [k2, hA]; simp, ⟨fun i u g1 g2 => ?_, fun i g1 => ?_⟩, fun i s g => ?_⟩
    · rw [k3] at g1
      split at g1
      · cases g1; exact absurd g2 hc2
      · rename_i e1
        split at g1
        · cases g1
        · rename_i e2
          have g3 := w1 i u g1 g2
          rw [k3]
          split
          · rename_i e3
            have : sl = .second := by rw [← e3] at hsl; exact Option.some.inj (hsl.symm.trans g3)
            exact absurd (Or.inl ⟨this, e3⟩) e2
          · rename_i e3
            split
            · rename_i e4
              rcases e4 with ⟨z1, z2⟩ | ⟨⟨u', z1, z2⟩, z3⟩
              · exfalso
                have : k = i + 1 + 1 := z2.symm
                subst this
                rw [z1] at hsl
                obtain ⟨j0, u0, y1, y2, y3⟩ := w2 _ hsl
                have : j0 = i + 1 := by omega
                subst this
                rw [g3] at y2; cases y2
              · exact absurd (by omega) e1
            · exact g3
    · rw [k3] at g1
      split at g1
      · cases g1
      · rename_i e1
        split at g1
        · cases g1
        · rename_i e2
          obtain ⟨j, u, z1, z2, z3⟩ := w2 i g1
          refine ⟨j, u, z1, ?_, z3⟩
          rw [k3]
          split
          · rename_i e3
            subst e3
            have : sl = .val u := Option.some.inj (hsl.symm.trans z2)
            exact absurd (Or.inr ⟨⟨u, this, z3⟩, z1⟩) e2
          · split
            · rename_i e3 e4
              rcases e4 with ⟨y1, y2⟩ | ⟨⟨u', y1, y2⟩, y3⟩
              · exact absurd (z1.trans y2) e1
              · subst y3
                have g5 := w1 k u' (y1 ▸ hsl) y2
                rw [z2] at g5; cases g5
            · exact z2
    · rw [List.getElem?_set] at g
      split at g
      · rename_i e
        subst e
        cases g
        exact ⟨w, hv, by rw [k3]; simp⟩
      · rename_i e
        have e' : ¬ i = k := fun z => e z.symm
        have g2 := hl i s g
        rw [k3, if_neg e']
        split
        · rename_i e4
          cases s with
          | unset => trivial
          | second =>
            exfalso
            have g2' : A[i]? = some .second := g2
            rcases e4 with ⟨y1, y2⟩ | ⟨⟨u', y1, y2⟩, y3⟩
            · obtain ⟨j0, u0, x1, x2, x3⟩ := w2 k (y1 ▸ hsl)
              have : i = j0 := by omega
              subst this
              rw [x2] at g2'; cases g2'
            · subst y3
              rw [g] at q3
              simp [isSec] at q3
          | val v0 =>
            exfalso
            obtain ⟨w0, x1, x2⟩ := g2
            rcases e4 with ⟨y1, y2⟩ | ⟨⟨u', y1, y2⟩, y3⟩
            · obtain ⟨j0, u0, z1, z2, z3⟩ := w2 k (y1 ▸ hsl)
              have : i = j0 := by omega
              subst this
              have hw0 : w0 = u0 := by rw [x2] at z2; cases z2; rfl
              have hcat : v0.category = 2 := by rw [← x1.cat, hw0]; exact z3
              subst y2
              have : L[i + 1 - 1]? = some (.val v0) := g
              rw [this] at q2
              simp [isC2, hcat] at q2
            · subst y3
              have g5 := w1 k u' (y1 ▸ hsl) y2
              rw [x2] at g5; cases g5
        · exact g2
  · cases hs
end Jvm.Own
namespace Jvm.Own
open Jvm Jvm.ClassFile Sem Op Lib Jvm.Free Jvm.Stand Jvm.LawKit Jvm.RoadKit Bundle
theorem store2_sim {ρ : List Addr} {L : List Slot} {A : Array Slot} (h : LR ρ L A) {k : Nat} {v w : Value} {L' : List Slot} (hs : st2 L k v = some L') (hv : VR ρ v w) (hc : w.category = 2) : ∃ A', storeLocals A k w = some A' ∧ LR ρ L' A' := by
  unfold st2 at hs
  split at hs
  · rename_i q
    cases hs
    simp only [Bool.and_eq_true] at q
    obtain ⟨⟨q1, q2⟩, q3⟩ := q
    obtain ⟨hA, ⟨w1, w2⟩, hl⟩ := h
    have hk1 : k + 1 < L.length := by
      rcases Nat.lt_or_ge (k + 1) L.length with z | z
      · exact z
      · rw [List.getElem?_eq_none z] at q1
        cases h0 : L[k]? with
        | none => rw [h0] at q1; cases q1
        | some s0 => rw [h0] at q1; cases s0 <;> cases q1
    have hk : k < L.length := by omega
    have hkA : k < A.size := hA ▸ hk
    have hkA1 : k + 1 < A.size := hA ▸ hk1
    obtain ⟨sl, hsl⟩ : ∃ sl, A[k]? = some sl := ⟨A[k], Array.getElem?_eq_getElem hkA⟩
    obtain ⟨sm, hsm⟩ : ∃ sm, A[k + 1]? = some sm := ⟨A[k + 1], Array.getElem?_eq_getElem hkA1⟩
    have n1 : ¬ k = k + 1 := by omega
    have n2 : ¬ k + 2 = k + 1 := by omega
    have n3 : ¬ k + 2 = k := by omega
    classical
    have key : ∃ A', storeLocals A k w = some A' ∧ A'.size = A.size ∧ (∀ j, A'[j]? = if j = k then some (.val w) else if j = k + 1 then some .second else if (sl = .second ∧ j + 1 = k) ∨ ((∃ u, sm = .val u ∧ u.category = 2) ∧ j = k + 2) then some .unset else A[j]?) := by
      by_cases hm : ∃ u, sm = .val u ∧ u.category = 2
      · obtain ⟨u, rfl, hu⟩ := hm
        have g := w1 (k + 1) u hsm hu
        have hk2 : k + 2 < A.size := (Array.getElem?_eq_some_iff.mp g).1
        cases sl with
        | unset =>
          refine ⟨((A.setIfInBounds k (.val w)).setIfInBounds (k + 2) .unset).setIfInBounds (k + 1) .second, ?_, by simp, fun j => ?_⟩
          · rw [sl_unset hsl]; exact ss_2c hkA hkA1 hk2 hc (by rw [get_set, if_neg n1]; exact hsm) hu
          · rw [get_set, get_set, get_set]
            by_cases e0 : j = k
            · subst e0; simp [hkA]
            · by_cases e1 : j = k + 1
              · subst e1; simp [hkA1]
              · by_cases e2 : j = k + 2
                · subst e2; simp [hk2, hu]
                · have e0' : ¬ k = j := fun z => e0 z.symm
                  have e1' : ¬ k + 1 = j := fun z => e1 z.symm
                  have e2' : ¬ k + 2 = j := fun z => e2 z.symm
                  simp [e0, e1, e2, e0', e1', e2']
        | second =>
          obtain ⟨j0, u0, rfl, g1, g2⟩ := w2 k hsl
          have hj0 : j0 < A.size := by omega
          refine ⟨(((A.setIfInBounds j0 .unset).setIfInBounds (j0 + 1) (.val w)).setIfInBounds (j0 + 1 + 2) .unset).setIfInBounds (j0 + 1 + 1) .second, ?_, by simp, fun j => ?_⟩
          · have m1 : ¬ j0 + 1 = j0 + 1 + 1 := by omega
            have m2 : ¬ j0 = j0 + 1 + 1 := by omega
            rw [sl_second hsl (show j0 + 1 - 1 < A.size by omega)]
            exact ss_2c (by simpa using hkA) (by simpa using hkA1) (by simpa using hk2) hc (by rw [get_set, if_neg m1, get_set, if_neg (by omega)]; exact hsm) hu
          · rw [get_set, get_set, get_set, get_set]
            by_cases e0 : j = j0 + 1
            · subst e0; simp [hkA]
            · by_cases e1 : j = j0 + 1 + 1
              · subst e1; simp [hkA1]
              · by_cases e2 : j = j0 + 1 + 2
                · subst e2; simp [hk2, hu]
                · by_cases e3 : j = j0
                  · subst e3
                    rw [if_neg (by omega), if_neg (by omega), if_neg (by omega), if_pos rfl, if_pos hj0, if_neg (by omega), if_neg (by omega), if_pos (Or.inl ⟨rfl, rfl⟩)]
                  · have e0' : ¬ j0 + 1 = j := fun z => e0 z.symm
                    have e1' : ¬ j0 + 1 + 1 = j := fun z => e1 z.symm
                    have e2' : ¬ j0 + 1 + 2 = j := fun z => e2 z.symm
                    have e3' : ¬ j0 = j := fun z => e3 z.symm
                    simp [e0, e1, e2, e3, e0', e1', e2', e3']
        | val u1 =>
          have hu1 : ¬ u1.category = 2 := fun z => by have := w1 k u1 hsl z; rw [hsm] at this; cases this
          refine ⟨((A.setIfInBounds k (.val w)).setIfInBounds (k + 2) .unset).setIfInBounds (k + 1) .second, ?_, by simp, fun j => ?_⟩
          · rw [sl_val1 hsl hu1]; exact ss_2c hkA hkA1 hk2 hc (by rw [get_set, if_neg n1]; exact hsm) hu
          · rw [get_set, get_set, get_set]
            by_cases e0 : j = k
            · subst e0; simp [hkA]
            · by_cases e1 : j = k + 1
              · subst e1; simp [hkA1]
              · by_cases e2 : j = k + 2
                · subst e2; simp [hk2, hu]
                · have e0' : ¬ k = j := fun z => e0 z.symm
                  have e1' : ¬ k + 1 = j := fun z => e1 z.symm
                  have e2' : ¬ k + 2 = j := fun z => e2 z.symm
                  simp [e0, e1, e2, e0', e1', e2']
      · cases sl with
        | unset =>
          refine ⟨(A.setIfInBounds k (.val w)).setIfInBounds (k + 1) .second, ?_, by simp, fun j => ?_⟩
          · rw [sl_unset hsl]; exact ss_2 hkA hkA1 hc (by rw [get_set, if_neg n1]; exact hsm) hm
          · rw [get_set, get_set]
            by_cases e0 : j = k
            · subst e0; simp [hkA]
            · by_cases e1 : j = k + 1
              · subst e1; simp [hkA1]
              · have e0' : ¬ k = j := fun z => e0 z.symm
                have e1' : ¬ k + 1 = j := fun z => e1 z.symm
                simp [e0, e1, e0', e1', hm]
        | second =>
          obtain ⟨j0, u0, rfl, g1, g2⟩ := w2 k hsl
          have hj0 : j0 < A.size := by omega
          have m1 : ¬ j0 + 1 = j0 + 1 + 1 := by omega
          have m2 : ¬ j0 = j0 + 1 + 1 := by omega
          refine ⟨((A.setIfInBounds j0 .unset).setIfInBounds (j0 + 1) (.val w)).setIfInBounds (j0 + 1 + 1) .second, ?_, by simp, fun j => ?_⟩
          · rw [sl_second hsl (show j0 + 1 - 1 < A.size by omega)]
            exact ss_2 (by simpa using hkA) (by simpa using hkA1) hc (by rw [get_set, if_neg m1, get_set, if_neg (by omega)]; exact hsm) hm
          · rw [get_set, get_set, get_set]
            by_cases e0 : j = j0 + 1
            · subst e0; simp [hkA]
            · by_cases e1 : j = j0 + 1 + 1
              · subst e1; simp [hkA1]
              · by_cases e3 : j = j0
                · subst e3
                  rw [if_neg (by omega), if_neg (by omega), if_pos rfl, if_pos hj0, if_neg (by omega), if_neg (by omega), if_pos (Or.inl ⟨rfl, rfl⟩)]
                · have e0' : ¬ j0 + 1 = j := fun z => e0 z.symm
                  have e1' : ¬ j0 + 1 + 1 = j := fun z => e1 z.symm
                  have e3' : ¬ j0 = j := fun z => e3 z.symm
                  simp [e0, e1, e3, e0', e1', e3', hm]
        | val u1 =>
          by_cases hu1 : u1.category = 2
          · refine ⟨((A.setIfInBounds (k + 1) .unset).setIfInBounds k (.val w)).setIfInBounds (k + 1) .second, ?_, by simp, fun j => ?_⟩
            · rw [sl_val2 hsl hu1 hkA1]
              exact ss_2 (o := .unset) (by simpa using hkA) (by simpa using hkA1) hc (by rw [get_set, if_neg n1, get_set, if_pos rfl, if_pos hkA1]) (by rintro ⟨u, z, -⟩; cases z)
            · rw [get_set, get_set, get_set]
              by_cases e0 : j = k
              · subst e0; simp [hkA]
              · by_cases e1 : j = k + 1
                · subst e1; simp [hkA1]
                · have e0' : ¬ k = j := fun z => e0 z.symm
                  have e1' : ¬ k + 1 = j := fun z => e1 z.symm
                  simp [e0, e1, e0', e1', hm]
          · refine ⟨(A.setIfInBounds k (.val w)).setIfInBounds (k + 1) .second, ?_, by simp, fun j => ?_⟩
            · rw [sl_val1 hsl hu1]; exact ss_2 hkA hkA1 hc (by rw [get_set, if_neg n1]; exact hsm) hm
            · rw [get_set, get_set]
              by_cases e0 : j = k
              · subst e0; simp [hkA]
              · by_cases e1 : j = k + 1
                · subst e1; simp [hkA1]
                · have e0' : ¬ k = j := fun z => e0 z.symm
                  have e1' : ¬ k + 1 = j := fun z => e1 z.symm
                  simp [e0, e1, e0', e1', hm]
    obtain ⟨A', k1, k2, k3⟩ := key
    refine ⟨A', k1, by rw [k2, hA]; simp, ⟨fun i u g1 g2 => ?_, fun i g1 => ?_⟩, fun i s g => ?_⟩
    · by_cases e1 : i = k
      · subst e1; rw [k3]; simp
      · have g1' := g1
        rw [k3, if_neg e1] at g1'
        split at g1'
        · cases g1'
        · rename_i e2
          split at g1'
          · cases g1'
          · rename_i e4
            have g3 := w1 i u g1' g2
            rw [k3]
            have c1 : ¬ i + 1 = k := fun e3 => by
              have : sl = .second := by rw [← e3] at hsl; exact Option.some.inj (hsl.symm.trans g3)
              exact e4 (Or.inl ⟨this, e3⟩)
            have c2 : ¬ i + 1 = k + 1 := by omega
            have c3 : ¬ ((sl = .second ∧ i + 1 + 1 = k) ∨ ((∃ u, sm = .val u ∧ u.category = 2) ∧ i + 1 = k + 2)) := fun z => by
              rcases z with ⟨z1, z2⟩ | ⟨z1, z2⟩
              · subst z2
                rw [z1] at hsl
                obtain ⟨j0, u0, y1, y2, y3⟩ := w2 _ hsl
                have : j0 = i + 1 := by omega
                subst this
                rw [g3] at y2; cases y2
              · omega
            rw [if_neg c1, if_neg c2, if_neg c3]
            exact g3
    · rw [k3] at g1
      split at g1
      · cases g1
      · rename_i e1
        split at g1
        · rename_i e2
          exact ⟨k, w, e2, by rw [k3]; simp, hc⟩
        · rename_i e2
          split at g1
          · cases g1
          · rename_i e4
            obtain ⟨j, u, z1, z2, z3⟩ := w2 i g1
            refine ⟨j, u, z1, ?_, z3⟩
            rw [k3]
            have c1 : ¬ j = k := by omega
            have c2 : ¬ j = k + 1 := fun e => by
              subst e
              exact e4 (Or.inr ⟨⟨u, Option.some.inj (hsm.symm.trans z2), z3⟩, by omega⟩)
            have c3 : ¬ ((sl = .second ∧ j + 1 = k) ∨ ((∃ u, sm = .val u ∧ u.category = 2) ∧ j = k + 2)) := fun z => by
              rcases z with ⟨y1, y2⟩ | ⟨⟨u', y1, y2⟩, y3⟩
              · exact e1 (z1.trans y2)
              · subst y3
                have g5 := w1 (k + 1) u' (y1 ▸ hsm) y2
                rw [z2] at g5; cases g5
            rw [if_neg c1, if_neg c2, if_neg c3]
            exact z2
    · rw [List.getElem?_set] at g
      split at g
      · rename_i e
        subst e
        have : k + 1 < (L.set k (.val v)).length := by simp [hk1]
        rw [if_pos this] at g
        cases g
        show A'[k + 1]? = some .second
        rw [k3]; simp
      · rename_i e
        have e' : ¬ i = k + 1 := fun z => e z.symm
        rw [List.getElem?_set] at g
        split at g
        · rename_i e0
          subst e0
          cases g
          exact ⟨w, hv, by rw [k3]; simp⟩
        · rename_i e0
          have e0' : ¬ i = k := fun z => e0 z.symm
          have g2 := hl i s g
          rw [k3, if_neg e0', if_neg e']
          split
          · rename_i e4
            cases s with
            | unset => trivial
            | second =>
              exfalso
              have g2' : A[i]? = some .second := g2
              rcases e4 with ⟨y1, y2⟩ | ⟨⟨u', y1, y2⟩, y3⟩
              · obtain ⟨j0, u0, x1, x2, x3⟩ := w2 k (y1 ▸ hsl)
                have : i = j0 := by omega
                subst this
                rw [x2] at g2'; cases g2'
              · subst y3
                rw [g] at q3
                simp [isSec] at q3
            | val v0 =>
              exfalso
              obtain ⟨w0, x1, x2⟩ := g2
              rcases e4 with ⟨y1, y2⟩ | ⟨⟨u', y1, y2⟩, y3⟩
              · obtain ⟨j0, u0, z1, z2, z3⟩ := w2 k (y1 ▸ hsl)
                have : i = j0 := by omega
                subst this
                have hw0 : w0 = u0 := by rw [x2] at z2; cases z2; rfl
                have hcat : v0.category = 2 := by rw [← x1.cat, hw0]; exact z3
                subst y2
                have : L[i + 1 - 1]? = some (.val v0) := g
                rw [this] at q2
                simp [isC2, hcat] at q2
              · subst y3
                have g5 := w1 (k + 1) u' (y1 ▸ hsm) y2
                rw [x2] at g5; cases g5
          · exact g2
  · cases hs
/-! The frame with which a method is entered -/
theorem entA_app (ws : List Value) : ∀ acc : Array Slot, ws.foldl (fun acc v => if v.category = 2 then (acc.push (.val v)).push .second else acc.push (.val v)) acc = acc ++ (entA ws).toArray := by
  induction ws with
  | nil => intro acc; simp [entA]
  | cons v r ih =>
    intro acc
    rw [List.foldl_cons, ih]
    show _ = acc ++ (if v.category = 2 then .val v :: .second :: entA r else .val v :: entA r).toArray
    by_cases h : v.category = 2
    · rw [if_pos h, if_pos h]; simp
    · rw [if_neg h, if_neg h]; simp
theorem argsToLocals_eq (ws : List Value) (n : Nat) : argsToLocals ws.toArray n = (entL ws n).toArray := by
  unfold argsToLocals entL
  have h := entA_app ws #[]
  simp only [List.foldl_toArray', List.size_toArray] at *
  simp [h]
theorem entA_len {ρ : List Addr} : ∀ {v w : List Value}, SR ρ v w → (entA w).length = (entA v).length
  | [], _, h => by cases h; rfl
  | _ :: _, _, ⟨w, ws, h1, h2, h3⟩ => by
    subst h1
    unfold entA
    rw [h2.cat]
    split <;> simp [entA_len h3]
theorem entA_rel {ρ : List Addr} : ∀ {v w : List Value}, SR ρ v w → ∀ (m i : Nat) (s : Slot), (entA v ++ List.replicate m .unset)[i]? = some s → SlR ρ s (entA w ++ List.replicate m .unset)[i]?
  | [], _, h, m, i, s, q => by
    cases h
    simp only [entA, List.nil_append] at q ⊢
    rw [List.getElem?_replicate] at q
    split at q
    · cases q; trivial
    · cases q
  | v :: vs, _, ⟨w, ws, h1, h2, h3⟩, m, i, s, q => by
    subst h1
    unfold entA at q ⊢
    rw [h2.cat]
    split
    · rename_i c
      rw [if_pos c] at q
      match i, q with
      | 0, q => simp at q; subst q; exact ⟨w, h2, by simp⟩
      | 1, q => simp at q; subst q; simp [SlR]
      | i + 2, q => simp at q ⊢; exact entA_rel h3 m i s q
    · rename_i c
      rw [if_neg c] at q
      match i, q with
      | 0, q => simp at q; subst q; exact ⟨w, h2, by simp⟩
      | i + 1, q => simp at q ⊢; exact entA_rel h3 m i s q
theorem entA_wf : ∀ (ws : List Value) (m : Nat), (∀ (i : Nat) w, (entA ws ++ List.replicate m .unset)[i]? = some (.val w) → w.category = 2 → (entA ws ++ List.replicate m .unset)[i + 1]? = some .second) ∧
    ∀ (i : Nat), (entA ws ++ List.replicate m .unset)[i]? = some .second → ∃ j w, i = j + 1 ∧ (entA ws ++ List.replicate m .unset)[j]? = some (.val w) ∧ w.category = 2
  | [], m => by
    constructor
    · intro i w q
      simp only [entA, List.nil_append, List.getElem?_replicate] at q
      split at q <;> cases q
    · intro i q
      simp only [entA, List.nil_append, List.getElem?_replicate] at q
      split at q <;> cases q
  | v :: vs, m => by
    obtain ⟨h1, h2⟩ := entA_wf vs m
    unfold entA
    split
    · rename_i c
      constructor
      · intro i w q
        match i, q with
        | 0, q => intro _; simp
        | 1, q => simp at q
        | i + 2, q => simp at q ⊢; exact h1 i w q
      · intro i q
        match i, q with
        | 0, q => simp at q
        | 1, q => exact ⟨0, v, rfl, by simp, c⟩
        | i + 2, q =>
          simp at q
          obtain ⟨j, w, e, g1, g2⟩ := h2 i q
          exact ⟨j + 2, w, by omega, by simpa using g1, g2⟩
    · rename_i c
      constructor
      · intro i w q
        match i, q with
        | 0, q => intro z; simp at q; subst q; exact absurd z c
        | i + 1, q => simp at q ⊢; exact h1 i w q
      · intro i q
        match i, q with
        | 0, q => simp at q
        | i + 1, q =>
          simp at q
          obtain ⟨j, w, e, g1, g2⟩ := h2 i q
          exact ⟨j + 1, w, by omega, by simpa using g1, g2⟩
theorem LR.enter {ρ : List Addr} {v w : List Value} (h : SR ρ v w) {n : Nat} (hn : (entA v).length ≤ n) : LR ρ (entL v n) (argsToLocals w.toArray n) ∧ (argsToLocals w.toArray n).size = n := by
  rw [argsToLocals_eq]
  have hl := entA_len h
  refine ⟨⟨by simp [entL, hl], ?_, fun i s q => ?_⟩, by simp [entL, hl]; omega⟩
  · obtain ⟨h1, h2⟩ := entA_wf w (n - (entA w).length)
    exact ⟨fun i u q c => by simpa [entL] using h1 i u (by simpa [entL] using q) c, fun i q => by
      obtain ⟨j, u, e, g1, g2⟩ := h2 i (by simpa [entL] using q)
      exact ⟨j, u, e, by simpa [entL] using g1, g2⟩⟩
  · unfold entL at q ⊢
    rw [hl]
    simpa using entA_rel h _ i s q
end Jvm.Own
namespace Jvm.RoadKit
open Sem ClassFile Op Lib Jvm.Stand Jvm.Free Jvm.LawKit
section New
variable {p : Program} {l : Launch} {e : Env} {R : Room} {s : State} {m : MethodId} {args : Array Value} {below : List Frame} {meth : Method} {c : Code} {T : State} {locs : List Loc} {cells slots : Nat}
theorem retI (X : Stand p l e R s m args below meth c T locs cells slots) (hx : p.tables.exec = Jvm.exec) {pc : Nat} {Ls : Array Slot} {z : Int32} {rest : List Value} (hret : meth.sig.returnType = some .int) (hd : decode c.code pc = .ok (.ireturn, 1)) {fs : List Frame}
    (hl : ∀ (f : JFrame) (acts : List Action), f.method = m → f.locked = none → f.entered = [] → (doReturn e (T.setTop f) acts (some (.int z))).1 = T.setFrames fs) : Steps p.tables e below (T.setTop (mkF m pc Ls (.int z :: rest))) (T.setFrames fs) := by
  have hm' : T.vm.method? m = some meth := X.method'
  have hn : narrow .int (.int z) = .int z := rfl
  show Steps p.tables e below (T.setTop { method := m, pc := pc, locals := Ls, stack := _ :: rest, locked := none }) _
  jvm_step X.here [X.here.top, hx, hd, hm', hret, hn]
  first | (intro acts; rw [hl _ acts rfl rfl rfl]) | rw [hl _ _ rfl rfl rfl]
  exact Steps.refl _
end New
end Jvm.RoadKit
namespace Jvm.Own
open Jvm Jvm.ClassFile Sem Op Lib Jvm.Free Jvm.Stand Jvm.LawKit Jvm.RoadKit Bundle
/-! The plain heap and the real one -/
def tyA (b : Bool) : FieldType := if b then .boolean else .int
def CR (P : PD) (Z : State) (h : Heap) (ρ : List Addr) (a : Addr) : ACell → Prop
  | .inl (c, fs) => ∃ cd, P.cls[c]? = some cd ∧ Exa Z h a cd.1 ∧ fs.length = cd.2.2.length ∧ ∀ (i : Nat) v fd, fs[i]? = some v → cd.2.2[i]? = some fd → ∃ w, VR ρ v w ∧ Fld Z h a cd.1 fd.1 fd.2.1 w
  | .inr (.inl (b, L)) => ∃ cl, Arr Z h a cl (tyA b) ∧ cl.slots.size = L.length ∧ L.length < 2 ^ 31 ∧ ∀ (i : Nat) x, L[i]? = some x → cl.slots[i]? = some (.int x)
  | .inr (.inr L) => ∃ cl, Arr Z h a cl .long ∧ cl.slots.size = L.length ∧ L.length < 2 ^ 31 ∧ ∀ (i : Nat) x, L[i]? = some x → cl.slots[i]? = some (.long x)
def HR (P : PD) (Z : State) (n0 : Nat) (h : Heap) (ρ : List Addr) (H : AHeap) : Prop :=
  n0 ≤ h.size ∧ ρ.length = H.length ∧ (∀ (i j : Nat) a, ρ[i]? = some a → ρ[j]? = some a → i = j) ∧ (∀ (k : Nat) a, ρ[k]? = some a → P.nr ≤ k → n0 ≤ a) ∧ ∀ (k : Nat) a c, ρ[k]? = some a → H[k]? = some c → CR P Z h ρ a c
section Heaps
variable {P : PD} {Z : State} {n0 : Nat} {h h' : Heap} {ρ : List Addr} {H : AHeap} {a : Addr} {k : Nat} {a0 : Array Value}
theorem CR.lt {c : ACell} (q : CR P Z h ρ a c) : a < h.size := by
  match c, q with
  | .inl (_, _), q => obtain ⟨cd, -, E, -⟩ := q; exact E.lt
  | .inr (.inl (_, _)), q => obtain ⟨cl, A, -⟩ := q; exact A.lt
  | .inr (.inr _), q => obtain ⟨cl, A, -⟩ := q; exact A.lt
theorem HR.at (q : HR P Z n0 h ρ H) {c : ACell} (hc : H[k]? = some c) : ∃ a, ρ[k]? = some a ∧ CR P Z h ρ a c := by
  obtain ⟨-, q1, -, -, q4⟩ := q
  have hk : k < ρ.length := by rw [q1]; exact (List.getElem?_eq_some_iff.mp hc).1
  exact ⟨ρ[k], List.getElem?_eq_getElem hk, q4 k _ c (List.getElem?_eq_getElem hk) hc⟩
theorem HR.lt (q : HR P Z n0 h ρ H) (hk : ρ[k]? = some a) : a < h.size := by
  obtain ⟨-, q1, -, -, q4⟩ := q
  have hk' : k < H.length := by rw [← q1]; exact (List.getElem?_eq_some_iff.mp hk).1
  exact (q4 k a _ hk (List.getElem?_eq_getElem hk')).lt
theorem CR.grow {t : List Addr} {c : ACell} (E : Ext h h') (q : CR P Z h ρ a c) : CR P Z h' (ρ ++ t) a c := by
  match c, q with
  | .inl (_, _), ⟨cd, q1, q2, q3, q4⟩ => exact ⟨cd, q1, q2.ext E, q3, fun i v fd g1 g2 => by obtain ⟨w, z1, z2⟩ := q4 i v fd g1 g2; exact ⟨w, z1.mono, z2.ext E⟩⟩
  | .inr (.inl (_, _)), ⟨cl, q1, q2⟩ => exact ⟨cl, q1.ext E, q2⟩
  | .inr (.inr _), ⟨cl, q1, q2⟩ => exact ⟨cl, q1.ext E, q2⟩
theorem HR.push {c : ACell} (q : HR P Z n0 h ρ H) (E : Ext h h') (hc : CR P Z h' (ρ ++ [h.size]) h.size c) : HR P Z n0 h' (ρ ++ [h.size]) (H ++ [c]) := by
  have q0 := q
  obtain ⟨q1, q2, q3, q4, q5⟩ := q
  have old : ∀ (i : Nat) b, (ρ ++ [h.size])[i]? = some b → (ρ[i]? = some b ∧ b < h.size) ∨ (i = ρ.length ∧ b = h.size) := fun i b g => by
    rw [List.getElem?_append] at g
    split at g
    · exact Or.inl ⟨g, q0.lt g⟩
    · rename_i z
      right
      have : i - ρ.length = 0 := by
        rcases Nat.eq_zero_or_pos (i - ρ.length) with y | y
        · exact y
        · rw [List.getElem?_eq_none (by simp; omega)] at g; cases g
      rw [this] at g
      simp at g
      exact ⟨by omega, g.symm⟩
  refine ⟨Nat.le_trans q1 E.1, by simp [q2], fun i j b g1 g2 => ?_, fun i b g1 g2 => ?_, fun i b c' g1 g2 => ?_⟩
  · rcases old i b g1 with ⟨y1, y2⟩ | ⟨y1, y2⟩ <;> rcases old j b g2 with ⟨z1, z2⟩ | ⟨z1, z2⟩
    · exact q3 i j b y1 z1
    · exact absurd (z2 ▸ y2) (Nat.lt_irrefl _)
    · exact absurd (y2 ▸ z2) (Nat.lt_irrefl _)
    · rw [y1, z1]
  · rcases old i b g1 with ⟨y1, y2⟩ | ⟨y1, y2⟩
    · exact q4 i b y1 g2
    · rw [y2]; exact q1
  · rcases old i b g1 with ⟨y1, y2⟩ | ⟨y1, y2⟩
    · have hi : i < H.length := by rw [← q2]; exact (List.getElem?_eq_some_iff.mp y1).1
      rw [List.getElem?_append_left hi] at g2
      exact (q5 i b c' y1 g2).grow E
    · subst y1 y2
      rw [q2] at g2
      simp at g2
      subst g2
      exact hc
theorem CR.other {v : Value} {sl : Nat} {b : Addr} {c : ACell} (W : Wr h h' a sl v) (ne : b ≠ a) (q : CR P Z h ρ b c) : CR P Z h' ρ b c := by
  match c, q with
  | .inl (_, _), ⟨cd, q1, q2, q3, q4⟩ => exact ⟨cd, q1, q2.wr W, q3, fun i v fd g1 g2 => by obtain ⟨w, z1, z2⟩ := q4 i v fd g1 g2; exact ⟨w, z1, z2.other W (Or.inl ne)⟩⟩
  | .inr (.inl (_, _)), ⟨cl, q1, q2⟩ => exact ⟨cl, q1.other W ne, q2⟩
  | .inr (.inr _), ⟨cl, q1, q2⟩ => exact ⟨cl, q1.other W ne, q2⟩
theorem HR.set {v : Value} {sl : Nat} {c : ACell} (q : HR P Z n0 h ρ H) (hk : ρ[k]? = some a) (W : Wr h h' a sl v) (hc : CR P Z h' ρ a c) : HR P Z n0 h' ρ (H.set k c) := by
  obtain ⟨q1, q2, q3, q4, q5⟩ := q
  refine ⟨by rw [W.size]; exact q1, by simp [q2], q3, q4, fun i b c' g1 g2 => ?_⟩
  rw [List.getElem?_set] at g2
  split at g2
  · rename_i e
    subst e
    split at g2
    · cases g2
      rw [hk] at g1; cases g1
      exact hc
    · cases g2
  · rename_i e
    exact (q5 i b c' g1 g2).other W fun z => e (q3 k i a hk (z ▸ g1))
theorem nodup_ne : ∀ {l : List String}, nodup l = true → ∀ {i j : Nat} {x y : String}, l[i]? = some x → l[j]? = some y → i ≠ j → x ≠ y
  | [], _, i, j, x, y, h1, _, _ => by simp at h1
  | z :: r, hn, i, j, x, y, h1, h2, ne => by
    simp only [nodup, Bool.and_eq_true, Bool.not_eq_true', List.contains_eq_mem, decide_eq_false_iff_not] at hn
    match i, j, h1, h2, ne with
    | 0, 0, _, _, ne => exact absurd rfl ne
    | 0, j + 1, h1, h2, _ => simp at h1 h2; subst h1; exact fun e => hn.1 (e ▸ List.mem_of_getElem? h2)
    | i + 1, 0, h1, h2, _ => simp at h1 h2; subst h2; exact fun e => hn.1 (e ▸ List.mem_of_getElem? h1)
    | i + 1, j + 1, h1, h2, ne => simp at h1 h2; exact nodup_ne hn.2 h1 h2 (fun e => ne (by rw [e]))
theorem laid_of {C : String} {f : FD} (w : (fWord C f).before a0 Z = true) : Laid Z a0 C C f.1 f.2.1 := by
  unfold fWord at w
  split at w
  · exact Or.inr w
  · exact Or.inl w
theorem HR.putF {c j : Nat} {fs : List Value} {cd : CD} {fd : FD} {v w : Value} (q : HR P Z n0 h ρ H) (hk : ρ[k]? = some a) (hc : H[k]? = some (.inl (c, fs))) (hcd : P.cls[c]? = some cd) (hfd : cd.2.2[j]? = some fd)
    (hck : cChk cd = true) (hl : ∀ f ∈ cd.2.2, (fWord cd.1 f).before a0 Z = true) (W : Wr h h' a (RoadKit.slotOf Z cd.1 fd.1 fd.2.1) w) (hv : VR ρ v w) : HR P Z n0 h' ρ (H.set k (.inl (c, fs.set j v))) := by
  obtain ⟨a', ha, cr⟩ := q.at hc
  rw [hk] at ha; cases ha
  obtain ⟨cd', q1, q2, q3, q4⟩ := cr
  rw [hcd] at q1; cases q1
  refine q.set hk W ⟨cd, hcd, q2.wr W, by simp [q3], fun i v0 fd' g1 g2 => ?_⟩
  simp only [cChk, Bool.and_eq_true, List.all_eq_true] at hck
  obtain ⟨n1, n2⟩ := hck
  by_cases e : j = i
  · subst e
    rw [hfd] at g2; cases g2
    rw [List.getElem?_set] at g1
    split at g1
    · split at g1
      · cases g1
        rename_i z
        obtain ⟨w0, -, F⟩ := q4 j _ fd (List.getElem?_eq_getElem z) hfd
        exact ⟨w, hv, F.same W⟩
      · cases g1
    · rename_i z; exact absurd rfl z
  · rw [List.getElem?_set_ne e] at g1
    obtain ⟨w0, z1, F⟩ := q4 i v0 fd' g1 g2
    refine ⟨w0, z1, F.other W (Or.inr ?_)⟩
    have m1 := List.mem_of_getElem? hfd
    have m2 := List.mem_of_getElem? g2
    have f1 := n2 fd m1
    have f2 := n2 fd' m2
    simp only [fChk, Bool.and_eq_true, decide_eq_true_eq] at f1 f2
    refine slot_ne (laid_of (hl fd' m2)) (laid_of (hl fd m1)) ?_ f2.1 f1.1
    exact nodup_ne n1 (i := i) (j := j) (by simp [g2]) (by simp [hfd]) (fun z => e z.symm)
theorem HR.wrI {b : Bool} {L : List Int32} {i : Nat} {x : Int32} (q : HR P Z n0 h ρ H) (hk : ρ[k]? = some a) (hc : H[k]? = some (.inr (.inl (b, L)))) (W : Wr h h' a i (.int x)) : HR P Z n0 h' ρ (H.set k (.inr (.inl (b, L.set i x)))) := by
  obtain ⟨a', ha, cr⟩ := q.at hc
  rw [hk] at ha; cases ha
  obtain ⟨cl, A, q2, q3, q4⟩ := cr
  have lt : i < cl.slots.size := by
    obtain ⟨cl', z1, -, z3, -⟩ := W
    rw [A.1] at z1; cases z1
    exact z3
  refine q.set hk W ⟨_, A.same W, by simp [sz_set, q2], by simpa using q3, fun j y g => ?_⟩
  rw [List.getElem?_set] at g
  split at g
  · rename_i e
    subst e
    split at g
    · cases g; simp [Cell.setSlot, lt]
    · cases g
  · rename_i e
    have := q4 j y g
    simp [Cell.setSlot, Array.getElem?_setIfInBounds, e, this]
theorem HR.wrJ {L : List Int64} {i : Nat} {x : Int64} (q : HR P Z n0 h ρ H) (hk : ρ[k]? = some a) (hc : H[k]? = some (.inr (.inr L))) (W : Wr h h' a i (.long x)) : HR P Z n0 h' ρ (H.set k (.inr (.inr (L.set i x)))) := by
  obtain ⟨a', ha, cr⟩ := q.at hc
  rw [hk] at ha; cases ha
  obtain ⟨cl, A, q2, q3, q4⟩ := cr
  have lt : i < cl.slots.size := by
    obtain ⟨cl', z1, -, z3, -⟩ := W
    rw [A.1] at z1; cases z1
    exact z3
  refine q.set hk W ⟨_, A.same W, by simp [sz_set, q2], by simpa using q3, fun j y g => ?_⟩
  rw [List.getElem?_set] at g
  split at g
  · rename_i e
    subst e
    split at g
    · cases g; simp [Cell.setSlot, lt]
    · cases g
  · rename_i e
    have := q4 j y g
    simp [Cell.setSlot, Array.getElem?_setIfInBounds, e, this]
end Heaps
theorem SR.int {ρ : List Addr} {x : Int32} {S Sc : List Value} (h : SR ρ (.int x :: S) Sc) : ∃ Sc', Sc = .int x :: Sc' ∧ SR ρ S Sc' := by
  obtain ⟨w, ws, h1, h2, h3⟩ := h
  exact ⟨ws, by rw [h1, show w = .int x from h2], h3⟩
theorem SR.long {ρ : List Addr} {x : Int64} {S Sc : List Value} (h : SR ρ (.long x :: S) Sc) : ∃ Sc', Sc = .long x :: Sc' ∧ SR ρ S Sc' := by
  obtain ⟨w, ws, h1, h2, h3⟩ := h
  exact ⟨ws, by rw [h1, show w = .long x from h2], h3⟩
theorem SR.ref {ρ : List Addr} {x : Nat} {S Sc : List Value} (h : SR ρ (.ref x :: S) Sc) : ∃ a Sc', ρ[x]? = some a ∧ Sc = .ref a :: Sc' ∧ SR ρ S Sc' := by
  obtain ⟨w, ws, h1, ⟨a, h2, h4⟩, h3⟩ := h
  exact ⟨a, ws, h2, by rw [h1, h4], h3⟩
theorem rdA_spec {α : Type} {L : List α} {j : Int32} {x : α} (h : rdA L j = some x) : ¬ j < 0 ∧ L[j.toNatClampNeg]? = some x := by
  unfold rdA at h
  split at h
  · cases h
  · rename_i q; exact ⟨q, h⟩
theorem wrA_spec {α : Type} {L L' : List α} {j : Int32} {x : α} (h : wrA L j x = some L') : ¬ j < 0 ∧ j.toNatClampNeg < L.length ∧ L' = L.set j.toNatClampNeg x := by
  unfold wrA at h
  split at h
  · cases h
  · rename_i q
    split at h
    · rename_i z; cases h; exact ⟨q, z, rfl⟩
    · cases h
end Jvm.Own
namespace Jvm.Own
open Jvm Jvm.ClassFile Sem Op Lib Jvm.Free Jvm.Stand Jvm.LawKit Jvm.RoadKit Bundle
theorem st1_len {L L' : List Slot} {k : Nat} {v : Value} (h : st1 L k v = some L') : L'.length = L.length := by
  unfold st1 at h
  split at h
  · cases h; simp
  · cases h
theorem st2_len {L L' : List Slot} {k : Nat} {v : Value} (h : st2 L k v = some L') : L'.length = L.length := by
  unfold st2 at h
  split at h
  · cases h; simp
  · cases h
theorem lrem_mod (x y : Int64) : x - (x / y) * y = x % y := by
  apply Int64.toInt_inj.mp
  have h1 := Int64.le_toInt (x % y)
  have h2 := Int64.toInt_lt (x % y)
  rw [Int64.toInt_sub, Int64.toInt_mul, Int64.toInt_div, Int.bmod_mul_bmod, Int.sub_bmod_bmod, Int.mul_comm (x.toInt.tdiv y.toInt), ← Int.tmod_def, ← Int64.toInt_mod]
  exact Int.bmod_eq_of_le_mul_two (by omega) (by omega)
theorem putOk_sim {ρ : List Addr} {ty : FieldType} {v w : Value} (h : putOk ty v = true) (hv : VR ρ v w) : narrow ty w = w ∧ fits ty w = true := by
  cases ty <;> cases v <;> first | (simp [putOk] at h; done) | skip
  · cases hv; exact ⟨rfl, rfl⟩
  · cases hv; exact ⟨rfl, rfl⟩
  · rename_i x
    cases hv
    simp only [putOk, Bool.or_eq_true, beq_iff_eq] at h
    rcases h with rfl | rfl
    · exact ⟨rfl, rfl⟩
    · exact ⟨rfl, rfl⟩
  · obtain ⟨a, -, rfl⟩ := hv; exact ⟨rfl, rfl⟩
theorem dflt_sim {ρ : List Addr} {ty : FieldType} (h : dfOk ty = true) : VR ρ (dflt ty) (defaultValue ty) := by
  cases ty <;> first | (simp [dfOk] at h; done) | exact rfl
theorem fieldOf_spec {P : PD} {c a : Nat} {cd : CD} {f : FD} (h1 : P.cls[c]? = some cd) (h2 : cd.2.2[a]? = some f) : fieldOf P c a = some f := by simp [fieldOf, h1, h2]
theorem in_wordsOf {P : PD} {d : MD} {x : Nat × It} {w : Jvm.Cond} (hd : d ∈ P.mth) (hx : x ∈ d.code) (hw : w ∈ iWords P d x) : w ∈ wordsOf P :=
  List.mem_append_right _ (List.mem_flatMap.mpr ⟨d, hd, List.mem_flatMap.mpr ⟨x, hx, hw⟩⟩)
theorem in_wordsC {P : PD} {cd : CD} {w : Jvm.Cond} (hd : cd ∈ P.cls) (hw : w ∈ cWords cd) : w ∈ wordsOf P :=
  List.mem_append_left _ (List.mem_append_left _ (List.mem_flatMap.mpr ⟨cd, hd, hw⟩))
theorem in_wordsM {P : PD} {y : MD} {j : Nat} {w : Jvm.Cond} (hd : P.mth[j]? = some y) (hj : 0 < j) (hw : w ∈ mWords y) : w ∈ wordsOf P := by
  refine List.mem_append_left _ (List.mem_append_right _ (List.mem_flatMap.mpr ⟨y, ?_, hw⟩))
  have : (P.mth.drop 1)[j - 1]? = some y := by rw [List.getElem?_drop]; rw [show 1 + (j - 1) = j by omega]; exact hd
  exact List.mem_of_getElem? this
theorem fWord_in {cd : CD} {f : FD} (h : f ∈ cd.2.2) : fWord cd.1 f ∈ cWords cd := List.mem_cons_of_mem _ (List.mem_cons_of_mem _ (List.mem_map.mpr ⟨f, h, rfl⟩))
theorem cChk_of {P : PD} (hP : chk P = true) {cd : CD} (h : cd ∈ P.cls) : cChk cd = true := by
  simp only [chk, Bool.and_eq_true, List.all_eq_true] at hP
  exact hP.1 cd h
theorem mChk_of {P : PD} (hP : chk P = true) {d : MD} (h : d ∈ P.mth) : mChk P d = true := by
  simp only [chk, Bool.and_eq_true, List.all_eq_true] at hP
  exact hP.2 d h
theorem cid_of {P : PD} (hP : chk P = true) {d : MD} (h : d ∈ P.mth) {cd : CD} (hc : P.cls[d.cid]? = some cd) : cd.1 = d.name.cls := by
  have := mChk_of hP h
  simp only [mChk, Bool.and_eq_true] at this
  have h4 := this.1.1.1.2
  unfold clsChk at h4
  rw [hc] at h4
  simpa using h4
section Step
variable {P : PD} {Z : State} {n0 : Nat} {a0 : Array Value} {l : Launch} {p : Program} {e : Env} {R : Room} {s : State} {m : MethodId} {args : Array Value} {below : List Frame} {meth : Method} {c : Code} {T : State} {locs : List Loc} {cells slots : Nat} {d : MD}
def Nxt (P : PD) (Z : State) (n0 : Nat) (l : Launch) (p : Program) (e : Env) (R : Room) (s : State) (m : MethodId) (args : Array Value) (below : List Frame) (meth : Method) (c : Code) (T : State) (cells slots : Nat) (ρ : List Addr) (g : JFrame) (pc' : Nat) (L L' : List Slot) (S' : List Value) (H1 : AHeap) : Prop :=
  ∃ T' locs' A' Sc', Stand p l e R s m args below meth c T' locs' cells slots ∧ L'.length = L.length ∧ LR ρ L' A' ∧ SR ρ S' Sc' ∧ HR P Z n0 T'.heap ρ H1 ∧ Fr n0 locs' ∧
    ∀ target, Steps p.tables e below (T'.setTop (mkF m pc' A' Sc')) target → Steps p.tables e below (T.setTop g) target
theorem Nxt.pure {ρ : List Addr} {H : AHeap} {g : JFrame} {pc' : Nat} {L L' : List Slot} {S' Sc' : List Value} {A' : Array Slot} (X : Stand p l e R s m args below meth c T locs cells slots) (hl : L'.length = L.length) (hL : LR ρ L' A') (hS : SR ρ S' Sc') (hH : HR P Z n0 T.heap ρ H) (hF : Fr n0 locs)
    (k : ∀ target, Steps p.tables e below (T.setTop (mkF m pc' A' Sc')) target → Steps p.tables e below (T.setTop g) target) : Nxt P Z n0 l p e R s m args below meth c T cells slots ρ g pc' L L' S' H :=
  ⟨T, locs, A', Sc', X, hl, hL, hS, hH, hF, k⟩
theorem Nxt.mem {ρ : List Addr} {H1 : AHeap} {g : JFrame} {pc' : Nat} {L L' : List Slot} {S' Sc' : List Value} {A' : Array Slot} {T' : State} {locs' : List Loc} (X : Stand p l e R s m args below meth c T' locs' cells slots) (hl : L'.length = L.length) (hL : LR ρ L' A') (hS : SR ρ S' Sc') (hH : HR P Z n0 T'.heap ρ H1) (hF : Fr n0 locs')
    (k : ∀ target, Steps p.tables e below (T'.setTop (mkF m pc' A' Sc')) target → Steps p.tables e below (T.setTop g) target) : Nxt P Z n0 l p e R s m args below meth c T cells slots ρ g pc' L L' S' H1 :=
  ⟨T', locs', A', Sc', X, hl, hL, hS, hH, hF, k⟩
set_option maxHeartbeats 4000000 in
theorem stepX (X : Stand p l e R s m args below meth c T locs cells slots) (hx : p.tables.exec = Jvm.exec) (hZ : Z.Warmed39 s.vm) (hown : s.vm.findClass d.name.cls = some m.cls) (hnm : meth.name = d.name.name) (hP : chk P = true) (hW : ∀ w ∈ wordsOf P, w.before a0 Z = true) (hdm : d ∈ P.mth)
    {pc len a : Nat} {er : List Bool} {b : Int} {i : Instr} (hit : (pc, i, len, er, a, b) ∈ d.code) (hd : decode c.code pc = .ok (i, len)) (hlen : lenOk i len = true) {ρ : List Addr} {L L' : List Slot} {S S' Sc : List Value} {H H1 : AHeap} {A : Array Slot}
    (hL : LR ρ L A) (hS : SR ρ S Sc) (hH : HR P Z n0 T.heap ρ H) (hF : Fr n0 locs) (h : xI P (d.name.name == "<init>") d.cid i a b L S H = some (L', S', H1)) :
    Nxt P Z n0 l p e R s m args below meth c T cells slots ρ (mkF m pc A Sc) (pc + len) L L' S' H1 := by
  have hWi : ∀ w ∈ iWords P d (pc, i, len, er, a, b), w.before a0 Z = true := fun w q => hW w (in_wordsOf hdm hit q)
  cases i with
  | aload_n k =>
    obtain rfl : len = 1 := by simpa [lenOk] using hlen
    simp only [xI] at h
    split at h
    · rename_i x q
      cases h
      obtain ⟨w, hv, hg⟩ := hL.get q
      obtain ⟨ad, h1, rfl⟩ := hv
      exact Nxt.pure X rfl hL ⟨_, _, rfl, ⟨ad, h1, rfl⟩, hS⟩ hH hF (fun t z => XS.aloadN (g := mkF m pc A Sc) X.here hx rfl hd hg rfl z)
    · cases h
  | aload k =>
    obtain rfl : len = 2 := by simpa [lenOk] using hlen
    simp only [xI] at h
    split at h
    · rename_i x q
      cases h
      obtain ⟨w, hv, hg⟩ := hL.get q
      obtain ⟨ad, h1, rfl⟩ := hv
      exact Nxt.pure X rfl hL ⟨_, _, rfl, ⟨ad, h1, rfl⟩, hS⟩ hH hF (fun t z => XS.aload (g := mkF m pc A Sc) X.here hx rfl hd hg rfl z)
    · cases h
  | iload_n k =>
    obtain rfl : len = 1 := by simpa [lenOk] using hlen
    simp only [xI] at h
    split at h
    · rename_i x q
      cases h
      obtain ⟨w, hv, hg⟩ := hL.get q
      obtain rfl : w = .int _ := hv
      exact Nxt.pure X rfl hL ⟨_, _, rfl, rfl, hS⟩ hH hF (fun t z => XS.iloadN (g := mkF m pc A Sc) X.here hx rfl hd hg z)
    · cases h
  | iload k =>
    obtain rfl : len = 2 := by simpa [lenOk] using hlen
    simp only [xI] at h
    split at h
    · rename_i x q
      cases h
      obtain ⟨w, hv, hg⟩ := hL.get q
      obtain rfl : w = .int _ := hv
      exact Nxt.pure X rfl hL ⟨_, _, rfl, rfl, hS⟩ hH hF (fun t z => XS.iload (g := mkF m pc A Sc) X.here hx rfl hd hg z)
    · cases h
  | lload_n k =>
    obtain rfl : len = 1 := by simpa [lenOk] using hlen
    simp only [xI] at h
    split at h
    · rename_i x q
      cases h
      obtain ⟨w, hv, hg⟩ := hL.get q
      obtain rfl : w = .long _ := hv
      exact Nxt.pure X rfl hL ⟨_, _, rfl, rfl, hS⟩ hH hF (fun t z => XT.lloadN (g := mkF m pc A Sc) X.here hx rfl hd hg z)
    · cases h
  | lload k =>
    obtain rfl : len = 2 := by simpa [lenOk] using hlen
    simp only [xI] at h
    split at h
    · rename_i x q
      cases h
      obtain ⟨w, hv, hg⟩ := hL.get q
      obtain rfl : w = .long _ := hv
      exact Nxt.pure X rfl hL ⟨_, _, rfl, rfl, hS⟩ hH hF (fun t z => XT.lload (g := mkF m pc A Sc) X.here hx rfl hd hg z)
    · cases h
  | istore_n k =>
    obtain rfl : len = 1 := by simpa [lenOk] using hlen
    simp only [xI] at h
    split at h
    · rename_i x S0
      obtain ⟨L1, q, e1⟩ := Option.map_eq_some_iff.mp h
      cases e1
      obtain ⟨S2, rfl, h2⟩ := hS.int
      obtain ⟨A', z1, z2⟩ := store1_sim hL q (show VR ρ (.int x) (.int x) from rfl) rfl
      exact Nxt.pure X (st1_len q) z2 h2 hH hF (fun t z => XS.istoreN (g := mkF m pc A _) X.here hx rfl hd rfl z1 z)
    · cases h
  | istore k =>
    obtain rfl : len = 2 := by simpa [lenOk] using hlen
    simp only [xI] at h
    split at h
    · rename_i x S0
      obtain ⟨L1, q, e1⟩ := Option.map_eq_some_iff.mp h
      cases e1
      obtain ⟨S2, rfl, h2⟩ := hS.int
      obtain ⟨A', z1, z2⟩ := store1_sim hL q (show VR ρ (.int x) (.int x) from rfl) rfl
      exact Nxt.pure X (st1_len q) z2 h2 hH hF (fun t z => XS.istore (g := mkF m pc A _) X.here hx rfl hd rfl z1 z)
    · cases h
  | astore_n k =>
    obtain rfl : len = 1 := by simpa [lenOk] using hlen
    simp only [xI] at h
    split at h
    · rename_i x S0
      obtain ⟨L1, q, e1⟩ := Option.map_eq_some_iff.mp h
      cases e1
      obtain ⟨ad, S2, h1, rfl, h2⟩ := hS.ref
      obtain ⟨A', z1, z2⟩ := store1_sim hL q (show VR ρ (.ref x) (.ref ad) from ⟨ad, h1, rfl⟩) rfl
      exact Nxt.pure X (st1_len q) z2 h2 hH hF (fun t z => XS.astoreN (g := mkF m pc A _) X.here hx rfl hd rfl rfl z1 z)
    · cases h
  | astore k =>
    obtain rfl : len = 2 := by simpa [lenOk] using hlen
    simp only [xI] at h
    split at h
    · rename_i x S0
      obtain ⟨L1, q, e1⟩ := Option.map_eq_some_iff.mp h
      cases e1
      obtain ⟨ad, S2, h1, rfl, h2⟩ := hS.ref
      obtain ⟨A', z1, z2⟩ := store1_sim hL q (show VR ρ (.ref x) (.ref ad) from ⟨ad, h1, rfl⟩) rfl
      exact Nxt.pure X (st1_len q) z2 h2 hH hF (fun t z => XS.astore (g := mkF m pc A _) X.here hx rfl hd rfl rfl z1 z)
    · cases h
  | lstore_n k =>
    obtain rfl : len = 1 := by simpa [lenOk] using hlen
    simp only [xI] at h
    split at h
    · rename_i x S0
      obtain ⟨L1, q, e1⟩ := Option.map_eq_some_iff.mp h
      cases e1
      obtain ⟨S2, rfl, h2⟩ := hS.long
      obtain ⟨A', z1, z2⟩ := store2_sim hL q (show VR ρ (.long x) (.long x) from rfl) rfl
      exact Nxt.pure X (st2_len q) z2 h2 hH hF (fun t z => XT.lstoreN (g := mkF m pc A _) X.here hx rfl hd rfl z1 z)
    · cases h
  | lstore k =>
    obtain rfl : len = 2 := by simpa [lenOk] using hlen
    simp only [xI] at h
    split at h
    · rename_i x S0
      obtain ⟨L1, q, e1⟩ := Option.map_eq_some_iff.mp h
      cases e1
      obtain ⟨S2, rfl, h2⟩ := hS.long
      obtain ⟨A', z1, z2⟩ := store2_sim hL q (show VR ρ (.long x) (.long x) from rfl) rfl
      exact Nxt.pure X (st2_len q) z2 h2 hH hF (fun t z => XT.lstore (g := mkF m pc A _) X.here hx rfl hd rfl z1 z)
    · cases h
  | iinc k dd =>
    obtain rfl : len = 3 := by simpa [lenOk] using hlen
    simp only [xI] at h
    split at h
    · rename_i x q0
      obtain ⟨L1, q, e1⟩ := Option.map_eq_some_iff.mp h
      cases e1
      obtain ⟨w, hv, hg⟩ := hL.get q0
      obtain rfl : w = .int _ := hv
      obtain ⟨A', z1, z2⟩ := store1_sim hL q (show VR ρ (.int (x + Int32.ofInt dd)) (.int (x + Int32.ofInt dd)) from rfl) rfl
      exact Nxt.pure X (st1_len q) z2 hS hH hF (fun t z => XS.iinc (g := mkF m pc A Sc) X.here hx rfl hd hg z1 z)
    · cases h
  | iconst v =>
    obtain rfl : len = 1 := by simpa [lenOk] using hlen
    simp only [xI] at h
    cases h
    exact Nxt.pure X rfl hL ⟨_, _, rfl, rfl, hS⟩ hH hF (fun t z => XS.iconst (g := mkF m pc A Sc) X.here hx rfl hd z)
  | bipush v =>
    obtain rfl : len = 2 := by simpa [lenOk] using hlen
    simp only [xI] at h
    cases h
    exact Nxt.pure X rfl hL ⟨_, _, rfl, rfl, hS⟩ hH hF (fun t z => XS.bipush (g := mkF m pc A Sc) X.here hx rfl hd z)
  | sipush v =>
    obtain rfl : len = 3 := by simpa [lenOk] using hlen
    simp only [xI] at h
    cases h
    exact Nxt.pure X rfl hL ⟨_, _, rfl, rfl, hS⟩ hH hF (fun t z => XS.sipush (g := mkF m pc A Sc) X.here hx rfl hd z)
  | lconst v =>
    obtain rfl : len = 1 := by simpa [lenOk] using hlen
    simp only [xI] at h
    cases h
    exact Nxt.pure X rfl hL ⟨_, _, rfl, rfl, hS⟩ hH hF (fun t z => XT.lconst (g := mkF m pc A Sc) X.here hx rfl hd z)
  | ldc k =>
    obtain rfl : len = 2 := by simpa [lenOk] using hlen
    simp only [xI] at h
    cases h
    have w1 := hWi (.constant d.name.cls k (Int32.ofInt b)) (List.mem_singleton.mpr rfl)
    exact Nxt.pure X rfl hL ⟨_, _, rfl, rfl, hS⟩ hH hF (fun t z => X.ldcInt hx hown (mvT hZ w1) (g := mkF m pc A Sc) rfl hd t z)
  | ldc2_w k =>
    obtain rfl : len = 3 := by simpa [lenOk] using hlen
    simp only [xI] at h
    cases h
    have w1 := hWi (.constantLong d.name.cls k (Int64.ofInt b)) (List.mem_singleton.mpr rfl)
    exact Nxt.pure X rfl hL ⟨_, _, rfl, rfl, hS⟩ hH hF (fun t z => X.ldc2Long hx hown (mvT hZ w1) (g := mkF m pc A Sc) rfl hd t z)
  | iadd =>
    obtain rfl : len = 1 := by simpa [lenOk] using hlen
    simp only [xI] at h
    split at h
    · rename_i y x S0
      cases h
      obtain ⟨S1, rfl, h1⟩ := hS.int
      obtain ⟨S2, rfl, h2⟩ := h1.int
      exact Nxt.pure X rfl hL ⟨_, _, rfl, rfl, h2⟩ hH hF (fun t z => XS.iadd (g := mkF m pc A _) X.here hx rfl hd rfl z)
    · cases h
  | isub =>
    obtain rfl : len = 1 := by simpa [lenOk] using hlen
    simp only [xI] at h
    split at h
    · rename_i y x S0
      cases h
      obtain ⟨S1, rfl, h1⟩ := hS.int
      obtain ⟨S2, rfl, h2⟩ := h1.int
      exact Nxt.pure X rfl hL ⟨_, _, rfl, rfl, h2⟩ hH hF (fun t z => XS.isub (g := mkF m pc A _) X.here hx rfl hd rfl z)
    · cases h
  | imul =>
    obtain rfl : len = 1 := by simpa [lenOk] using hlen
    simp only [xI] at h
    split at h
    · rename_i y x S0
      cases h
      obtain ⟨S1, rfl, h1⟩ := hS.int
      obtain ⟨S2, rfl, h2⟩ := h1.int
      exact Nxt.pure X rfl hL ⟨_, _, rfl, rfl, h2⟩ hH hF (fun t z => XS.imul (g := mkF m pc A _) X.here hx rfl hd rfl z)
    · cases h
  | iand =>
    obtain rfl : len = 1 := by simpa [lenOk] using hlen
    simp only [xI] at h
    split at h
    · rename_i y x S0
      cases h
      obtain ⟨S1, rfl, h1⟩ := hS.int
      obtain ⟨S2, rfl, h2⟩ := h1.int
      exact Nxt.pure X rfl hL ⟨_, _, rfl, rfl, h2⟩ hH hF (fun t z => XS.iand (g := mkF m pc A _) X.here hx rfl hd rfl z)
    · cases h
  | ior =>
    obtain rfl : len = 1 := by simpa [lenOk] using hlen
    simp only [xI] at h
    split at h
    · rename_i y x S0
      cases h
      obtain ⟨S1, rfl, h1⟩ := hS.int
      obtain ⟨S2, rfl, h2⟩ := h1.int
      exact Nxt.pure X rfl hL ⟨_, _, rfl, rfl, h2⟩ hH hF (fun t z => XT.ior (g := mkF m pc A _) X.here hx rfl hd rfl z)
    · cases h
  | ixor =>
    obtain rfl : len = 1 := by simpa [lenOk] using hlen
    simp only [xI] at h
    split at h
    · rename_i y x S0
      cases h
      obtain ⟨S1, rfl, h1⟩ := hS.int
      obtain ⟨S2, rfl, h2⟩ := h1.int
      exact Nxt.pure X rfl hL ⟨_, _, rfl, rfl, h2⟩ hH hF (fun t z => XT.ixor (g := mkF m pc A _) X.here hx rfl hd rfl z)
    · cases h
  | ishl =>
    obtain rfl : len = 1 := by simpa [lenOk] using hlen
    simp only [xI] at h
    split at h
    · rename_i y x S0
      cases h
      obtain ⟨S1, rfl, h1⟩ := hS.int
      obtain ⟨S2, rfl, h2⟩ := h1.int
      exact Nxt.pure X rfl hL ⟨_, _, rfl, rfl, h2⟩ hH hF (fun t z => XT.ishl (g := mkF m pc A _) X.here hx rfl hd rfl z)
    · cases h
  | ishr =>
    obtain rfl : len = 1 := by simpa [lenOk] using hlen
    simp only [xI] at h
    split at h
    · rename_i y x S0
      cases h
      obtain ⟨S1, rfl, h1⟩ := hS.int
      obtain ⟨S2, rfl, h2⟩ := h1.int
      exact Nxt.pure X rfl hL ⟨_, _, rfl, rfl, h2⟩ hH hF (fun t z => XT.ishr (g := mkF m pc A _) X.here hx rfl hd rfl z)
    · cases h
  | iushr =>
    obtain rfl : len = 1 := by simpa [lenOk] using hlen
    simp only [xI] at h
    split at h
    · rename_i y x S0
      cases h
      obtain ⟨S1, rfl, h1⟩ := hS.int
      obtain ⟨S2, rfl, h2⟩ := h1.int
      exact Nxt.pure X rfl hL ⟨_, _, rfl, rfl, h2⟩ hH hF (fun t z => XT.iushr (g := mkF m pc A _) X.here hx rfl hd rfl z)
    · cases h
  | ladd =>
    obtain rfl : len = 1 := by simpa [lenOk] using hlen
    simp only [xI] at h
    split at h
    · rename_i y x S0
      cases h
      obtain ⟨S1, rfl, h1⟩ := hS.long
      obtain ⟨S2, rfl, h2⟩ := h1.long
      exact Nxt.pure X rfl hL ⟨_, _, rfl, rfl, h2⟩ hH hF (fun t z => XT.ladd (g := mkF m pc A _) X.here hx rfl hd rfl z)
    · cases h
  | lsub =>
    obtain rfl : len = 1 := by simpa [lenOk] using hlen
    simp only [xI] at h
    split at h
    · rename_i y x S0
      cases h
      obtain ⟨S1, rfl, h1⟩ := hS.long
      obtain ⟨S2, rfl, h2⟩ := h1.long
      exact Nxt.pure X rfl hL ⟨_, _, rfl, rfl, h2⟩ hH hF (fun t z => XT.lsub (g := mkF m pc A _) X.here hx rfl hd rfl z)
    · cases h
  | lmul =>
    obtain rfl : len = 1 := by simpa [lenOk] using hlen
    simp only [xI] at h
    split at h
    · rename_i y x S0
      cases h
      obtain ⟨S1, rfl, h1⟩ := hS.long
      obtain ⟨S2, rfl, h2⟩ := h1.long
      exact Nxt.pure X rfl hL ⟨_, _, rfl, rfl, h2⟩ hH hF (fun t z => XT.lmul (g := mkF m pc A _) X.here hx rfl hd rfl z)
    · cases h
  | land =>
    obtain rfl : len = 1 := by simpa [lenOk] using hlen
    simp only [xI] at h
    split at h
    · rename_i y x S0
      cases h
      obtain ⟨S1, rfl, h1⟩ := hS.long
      obtain ⟨S2, rfl, h2⟩ := h1.long
      exact Nxt.pure X rfl hL ⟨_, _, rfl, rfl, h2⟩ hH hF (fun t z => XT.land (g := mkF m pc A _) X.here hx rfl hd rfl z)
    · cases h
  | lor =>
    obtain rfl : len = 1 := by simpa [lenOk] using hlen
    simp only [xI] at h
    split at h
    · rename_i y x S0
      cases h
      obtain ⟨S1, rfl, h1⟩ := hS.long
      obtain ⟨S2, rfl, h2⟩ := h1.long
      exact Nxt.pure X rfl hL ⟨_, _, rfl, rfl, h2⟩ hH hF (fun t z => XT.lor (g := mkF m pc A _) X.here hx rfl hd rfl z)
    · cases h
  | lxor =>
    obtain rfl : len = 1 := by simpa [lenOk] using hlen
    simp only [xI] at h
    split at h
    · rename_i y x S0
      cases h
      obtain ⟨S1, rfl, h1⟩ := hS.long
      obtain ⟨S2, rfl, h2⟩ := h1.long
      exact Nxt.pure X rfl hL ⟨_, _, rfl, rfl, h2⟩ hH hF (fun t z => XT.lxor (g := mkF m pc A _) X.here hx rfl hd rfl z)
    · cases h
  | lcmp =>
    obtain rfl : len = 1 := by simpa [lenOk] using hlen
    simp only [xI] at h
    split at h
    · rename_i y x S0
      cases h
      obtain ⟨S1, rfl, h1⟩ := hS.long
      obtain ⟨S2, rfl, h2⟩ := h1.long
      exact Nxt.pure X rfl hL ⟨_, _, rfl, rfl, h2⟩ hH hF (fun t z => XT.lcmp (g := mkF m pc A _) X.here hx rfl hd rfl z)
    · cases h
  | lshl =>
    obtain rfl : len = 1 := by simpa [lenOk] using hlen
    simp only [xI] at h
    split at h
    · rename_i y x S0
      cases h
      obtain ⟨S1, rfl, h1⟩ := hS.int
      obtain ⟨S2, rfl, h2⟩ := h1.long
      exact Nxt.pure X rfl hL ⟨_, _, rfl, rfl, h2⟩ hH hF (fun t z => XT.lshl (g := mkF m pc A _) X.here hx rfl hd rfl z)
    · cases h
  | lshr =>
    obtain rfl : len = 1 := by simpa [lenOk] using hlen
    simp only [xI] at h
    split at h
    · rename_i y x S0
      cases h
      obtain ⟨S1, rfl, h1⟩ := hS.int
      obtain ⟨S2, rfl, h2⟩ := h1.long
      exact Nxt.pure X rfl hL ⟨_, _, rfl, rfl, h2⟩ hH hF (fun t z => XT.lshr (g := mkF m pc A _) X.here hx rfl hd rfl z)
    · cases h
  | lushr =>
    obtain rfl : len = 1 := by simpa [lenOk] using hlen
    simp only [xI] at h
    split at h
    · rename_i y x S0
      cases h
      obtain ⟨S1, rfl, h1⟩ := hS.int
      obtain ⟨S2, rfl, h2⟩ := h1.long
      exact Nxt.pure X rfl hL ⟨_, _, rfl, rfl, h2⟩ hH hF (fun t z => XT.lushr (g := mkF m pc A _) X.here hx rfl hd rfl z)
    · cases h
  | idiv =>
    obtain rfl : len = 1 := by simpa [lenOk] using hlen
    simp only [xI] at h
    split at h
    · rename_i y x S0
      split at h
      · cases h
      · rename_i hy
        cases h
        obtain ⟨S1, rfl, h1⟩ := hS.int
        obtain ⟨S2, rfl, h2⟩ := h1.int
        exact Nxt.pure X rfl hL ⟨_, _, rfl, rfl, h2⟩ hH hF (fun t z => XS.idiv (g := mkF m pc A _) X.here hx rfl hd rfl hy z)
    · cases h
  | irem =>
    obtain rfl : len = 1 := by simpa [lenOk] using hlen
    simp only [xI] at h
    split at h
    · rename_i y x S0
      split at h
      · cases h
      · rename_i hy
        cases h
        obtain ⟨S1, rfl, h1⟩ := hS.int
        obtain ⟨S2, rfl, h2⟩ := h1.int
        exact Nxt.pure X rfl hL ⟨_, _, rfl, rfl, h2⟩ hH hF (fun t z => iremM (g := mkF m pc A _) X hx rfl hd rfl hy z)
    · cases h
  | ldiv =>
    obtain rfl : len = 1 := by simpa [lenOk] using hlen
    simp only [xI] at h
    split at h
    · rename_i y x S0
      split at h
      · cases h
      · rename_i hy
        cases h
        obtain ⟨S1, rfl, h1⟩ := hS.long
        obtain ⟨S2, rfl, h2⟩ := h1.long
        exact Nxt.pure X rfl hL ⟨_, _, rfl, rfl, h2⟩ hH hF (fun t z => XT.ldiv (g := mkF m pc A _) X.here hx rfl hd rfl hy z)
    · cases h
  | lrem =>
    obtain rfl : len = 1 := by simpa [lenOk] using hlen
    simp only [xI] at h
    split at h
    · rename_i y x S0
      split at h
      · cases h
      · rename_i hy
        cases h
        obtain ⟨S1, rfl, h1⟩ := hS.long
        obtain ⟨S2, rfl, h2⟩ := h1.long
        exact Nxt.pure X rfl hL ⟨_, _, rfl, rfl, h2⟩ hH hF (fun t z => XT.lrem (g := mkF m pc A _) X.here hx rfl hd rfl hy (by rw [lrem_mod]; exact z))
    · cases h
  | i2l =>
    obtain rfl : len = 1 := by simpa [lenOk] using hlen
    simp only [xI] at h
    split at h
    · rename_i x S0
      cases h
      obtain ⟨S1, rfl, h1⟩ := hS.int
      exact Nxt.pure X rfl hL ⟨_, _, rfl, rfl, h1⟩ hH hF (fun t z => XT.i2l (g := mkF m pc A _) X.here hx rfl hd rfl z)
    · cases h
  | l2i =>
    obtain rfl : len = 1 := by simpa [lenOk] using hlen
    simp only [xI] at h
    split at h
    · rename_i x S0
      cases h
      obtain ⟨S1, rfl, h1⟩ := hS.long
      exact Nxt.pure X rfl hL ⟨_, _, rfl, rfl, h1⟩ hH hF (fun t z => XT.l2i (g := mkF m pc A _) X.here hx rfl hd rfl z)
    · cases h
  | dup =>
    obtain rfl : len = 1 := by simpa [lenOk] using hlen
    simp only [xI] at h
    split at h
    · rename_i x S0
      cases h
      obtain ⟨S1, rfl, h1⟩ := hS.int
      exact Nxt.pure X rfl hL ⟨_, _, rfl, rfl, _, _, rfl, rfl, h1⟩ hH hF (fun t z => XS.dup (g := mkF m pc A _) X.here hx rfl hd rfl rfl z)
    · rename_i x S0
      cases h
      obtain ⟨ad, S1, g1, rfl, h1⟩ := hS.ref
      exact Nxt.pure X rfl hL ⟨_, _, rfl, ⟨ad, g1, rfl⟩, _, _, rfl, ⟨ad, g1, rfl⟩, h1⟩ hH hF (fun t z => XS.dup (g := mkF m pc A _) X.here hx rfl hd rfl rfl z)
    · cases h
  | dup2 =>
    obtain rfl : len = 1 := by simpa [lenOk] using hlen
    simp only [xI] at h
    split at h
    · rename_i x y S0
      cases h
      obtain ⟨S1, rfl, h1⟩ := hS.int
      obtain ⟨ad, S2, g1, rfl, h2⟩ := h1.ref
      exact Nxt.pure X rfl hL ⟨_, _, rfl, rfl, _, _, rfl, ⟨ad, g1, rfl⟩, _, _, rfl, rfl, _, _, rfl, ⟨ad, g1, rfl⟩, h2⟩ hH hF (fun t z => XT.dup2 (g := mkF m pc A _) X.here hx rfl hd rfl rfl rfl z)
    · rename_i x S0
      cases h
      obtain ⟨S1, rfl, h1⟩ := hS.long
      exact Nxt.pure X rfl hL ⟨_, _, rfl, rfl, _, _, rfl, rfl, h1⟩ hH hF (fun t z => XT.dup2L (g := mkF m pc A _) X.here hx rfl hd rfl z)
    · cases h
  | pop =>
    obtain rfl : len = 1 := by simpa [lenOk] using hlen
    simp only [xI] at h
    split at h
    · rename_i x S0
      cases h
      obtain ⟨S1, rfl, h1⟩ := hS.int
      exact Nxt.pure X rfl hL h1 hH hF (fun t z => XT.pop (g := mkF m pc A _) X.here hx rfl hd rfl rfl z)
    · cases h
  | getfield k =>
    obtain rfl : len = 3 := by simpa [lenOk] using hlen
    simp only [xI] at h
    split at h
    · rename_i o S0
      obtain ⟨ad, S1, g1, rfl, h1⟩ := hS.ref
      split at h
      · rename_i c0 fs hc0
        split at h
        · rename_i ec
          subst ec
          obtain ⟨ad', g2, cd, q1, q2, q3, q4⟩ := hH.at hc0
          rw [g1] at g2; cases g2
          have hcd := cid_of hP hdm q1
          have core : ∀ v, fs[a]? = some v → ∃ w T2, VR ρ v w ∧ Stand p l e R s m args below meth c T2 locs cells slots ∧ T2.heap = T.heap ∧ ∀ target, Steps p.tables e below (T2.setTop (mkF m (pc + 3) A (w :: S1))) target → Steps p.tables e below (T.setTop (mkF m pc A (.ref ad :: S1))) target := fun v hv => by
            have ha : a < cd.2.2.length := by rw [← q3]; exact (List.getElem?_eq_some_iff.mp hv).1
            obtain ⟨w, hvw, F⟩ := q4 a v _ hv (List.getElem?_eq_getElem ha)
            have w1 := hWi (.fieldLink d.name.cls k d.name.cls cd.2.2[a].1 cd.2.2[a].2.1) (by
              show _ ∈ fLink P d k a
              unfold fLink
              rw [fieldOf_spec q1 (List.getElem?_eq_getElem ha)]
              exact List.mem_singleton.mpr rfl)
            rw [hcd] at F
            obtain ⟨T2, X2, e2, st2⟩ := getF X hx hZ hown (host := "") (Or.inl w1) Via.refl rfl F (g := mkF m pc A (.ref ad :: S1)) rfl rfl hd
            exact ⟨w, T2, hvw, X2, e2, st2⟩
          split at h
          · rename_i x hv
            cases h
            obtain ⟨w, T2, hvw, X2, e2, st2⟩ := core _ hv
            exact Nxt.mem X2 rfl hL ⟨_, _, rfl, hvw, h1⟩ (by rw [e2]; exact hH) hF st2
          · rename_i x hv
            cases h
            obtain ⟨w, T2, hvw, X2, e2, st2⟩ := core _ hv
            exact Nxt.mem X2 rfl hL ⟨_, _, rfl, hvw, h1⟩ (by rw [e2]; exact hH) hF st2
          · rename_i x hv
            cases h
            obtain ⟨w, T2, hvw, X2, e2, st2⟩ := core _ hv
            exact Nxt.mem X2 rfl hL ⟨_, _, rfl, hvw, h1⟩ (by rw [e2]; exact hH) hF st2
          · cases h
        · cases h
      · cases h
    · cases h
  | putfield k =>
    obtain rfl : len = 3 := by simpa [lenOk] using hlen
    simp only [xI] at h
    split at h
    · rename_i v o S0
      obtain ⟨w, Sx, rfl, hvw, hS1⟩ := hS
      obtain ⟨ad, S1, g1, rfl, h1⟩ := hS1.ref
      split at h
      · rename_i c0 fs hc0
        split at h
        · rename_i ec
          obtain ⟨ec, enr⟩ := ec
          subst ec
          split at h
          · rename_i nm ds ty fin hf
            split at h
            · rename_i hok
              cases h
              simp only [Bool.and_eq_true] at hok
              obtain ⟨hok, hfin⟩ := hok
              obtain ⟨ad', g2, cd, q1, q2, q3, q4⟩ := hH.at hc0
              rw [g1] at g2; cases g2
              have hcd := cid_of hP hdm q1
              rw [q1] at hf
              have hf' : cd.2.2[a]? = some (nm, ds, ty, fin) := hf
              have ha : a < fs.length := by rw [q3]; exact (List.getElem?_eq_some_iff.mp hf').1
              obtain ⟨w0, -, F⟩ := q4 a _ _ (List.getElem?_eq_getElem ha) hf'
              have w1 := hWi (.fieldLink d.name.cls k d.name.cls nm ds) (by
                show _ ∈ fLink P d k a
                unfold fLink
                rw [fieldOf_spec q1 hf']
                exact List.mem_singleton.mpr rfl)
              have hcm : cd ∈ P.cls := List.mem_of_getElem? q1
              have w2 := hW _ (in_wordsC hcm (fWord_in (List.mem_of_getElem? hf')))
              have w3 := hW (.instantiable cd.1 cd.2.1) (in_wordsC hcm (List.mem_cons_self ..))
              have hck := cChk_of hP hcm
              have hck' := hck
              simp only [cChk, Bool.and_eq_true, List.all_eq_true] at hck'
              have f1 := hck'.2 _ (List.mem_of_getElem? hf')
              simp only [fChk, Bool.and_eq_true, decide_eq_true_eq] at f1
              obtain ⟨p1, p2⟩ := putOk_sim hok hvw
              have Ly : (Jvm.Cond.lays cd.1 cd.1 nm ds).before a0 Z = true ∨ ((Jvm.Cond.laysFinal cd.1 cd.1 nm ds).before a0 Z = true ∧ d.name.cls = cd.1 ∧ meth.name = "<init>") := by
                unfold fWord at w2
                cases fin with
                | false => exact Or.inl w2
                | true => exact Or.inr ⟨w2, hcd.symm, by rw [hnm]; simpa using hfin⟩
              obtain ⟨T2, h2, X2, e2, W2, st2⟩ := putF X hx hZ hown (host := "") (R0 := d.name.cls) (O := cd.1) (Or.inl w1) (by rw [hcd]; exact Via.refl) rfl F q2 Ly w3 f1.1 p1 p2 (g := mkF m pc A (w :: .ref ad :: S1)) rfl rfl hd
              have hH2 := hH.putF (a0 := a0) g1 hc0 q1 hf' hck (fun f hfm => hW _ (in_wordsC hcm (fWord_in hfm))) W2 hvw
              exact Nxt.mem X2 rfl hL h1 (by rw [e2]; exact hH2) (Fr.snoc X2 hF (hH.2.2.2.1 _ _ g1 enr)) st2
            · cases h
          · cases h
        · cases h
      · cases h
    · cases h
  | iaload =>
    obtain rfl : len = 1 := by simpa [lenOk] using hlen
    simp only [xI] at h
    split at h
    · rename_i j o S0
      obtain ⟨S1, rfl, h1⟩ := hS.int
      obtain ⟨ad, S2, g1, rfl, h2⟩ := h1.ref
      split at h
      · rename_i B hc0
        obtain ⟨x, q, e1⟩ := Option.map_eq_some_iff.mp h
        cases e1
        obtain ⟨hj, hat⟩ := rdA_spec q
        obtain ⟨ad', g2, cl, Ar, z1, z2, z3⟩ := hH.at hc0
        rw [g1] at g2; cases g2
        have hin : ¬ (j < 0 ∨ cl.slots.size ≤ j.toNatClampNeg) := by
          have := (List.getElem?_eq_some_iff.mp hat).1
          rintro (y | y)
          · exact hj y
          · omega
        exact Nxt.pure X rfl hL ⟨_, _, rfl, rfl, h2⟩ hH hF (fun t z => X.iaload hx (j := j) (v := .int x) Ar.1 (State.isArrayOf_alike hZ.alike Ar.2.1) Ar.2.2 hin (z3 _ _ hat) (g := mkF m pc A _) rfl rfl hd t z)
      · cases h
    · cases h
  | baload =>
    obtain rfl : len = 1 := by simpa [lenOk] using hlen
    simp only [xI] at h
    split at h
    · rename_i j o S0
      obtain ⟨S1, rfl, h1⟩ := hS.int
      obtain ⟨ad, S2, g1, rfl, h2⟩ := h1.ref
      split at h
      · rename_i B hc0
        obtain ⟨x, q, e1⟩ := Option.map_eq_some_iff.mp h
        cases e1
        obtain ⟨hj, hat⟩ := rdA_spec q
        obtain ⟨ad', g2, cl, Ar, z1, z2, z3⟩ := hH.at hc0
        rw [g1] at g2; cases g2
        have hin : ¬ (j < 0 ∨ cl.slots.size ≤ j.toNatClampNeg) := by
          have := (List.getElem?_eq_some_iff.mp hat).1
          rintro (y | y)
          · exact hj y
          · omega
        exact Nxt.pure X rfl hL ⟨_, _, rfl, rfl, h2⟩ hH hF (fun t z => X.baloadBooleans hx (j := j) (v := .int x) Ar.1 (State.isArrayOf_alike hZ.alike Ar.2.1) Ar.2.2 hin (z3 _ _ hat) (g := mkF m pc A _) rfl rfl hd t z)
      · cases h
    · cases h
  | laload =>
    obtain rfl : len = 1 := by simpa [lenOk] using hlen
    simp only [xI] at h
    split at h
    · rename_i j o S0
      obtain ⟨S1, rfl, h1⟩ := hS.int
      obtain ⟨ad, S2, g1, rfl, h2⟩ := h1.ref
      split at h
      · rename_i B hc0
        obtain ⟨x, q, e1⟩ := Option.map_eq_some_iff.mp h
        cases e1
        obtain ⟨hj, hat⟩ := rdA_spec q
        obtain ⟨ad', g2, cl, Ar, z1, z2, z3⟩ := hH.at hc0
        rw [g1] at g2; cases g2
        have hin : ¬ (j < 0 ∨ cl.slots.size ≤ j.toNatClampNeg) := by
          have := (List.getElem?_eq_some_iff.mp hat).1
          rintro (y | y)
          · exact hj y
          · omega
        exact Nxt.pure X rfl hL ⟨_, _, rfl, rfl, h2⟩ hH hF (fun t z => X.laload hx (j := j) (v := .long x) Ar.1 (State.isArrayOf_alike hZ.alike Ar.2.1) Ar.2.2 hin (z3 _ _ hat) (g := mkF m pc A _) rfl rfl hd t z)
      · cases h
    · cases h
  | iastore =>
    obtain rfl : len = 1 := by simpa [lenOk] using hlen
    simp only [xI] at h
    split at h
    · rename_i x j o S0
      obtain ⟨S1, rfl, h1⟩ := hS.int
      obtain ⟨S2, rfl, h2⟩ := h1.int
      obtain ⟨ad, S3, g1, rfl, h3⟩ := h2.ref
      split at h
      · rename_i B hc0
        split at h
        · rename_i enr
          obtain ⟨B', q, e1⟩ := Option.map_eq_some_iff.mp h
          cases e1
          obtain ⟨hj, hlt, rfl⟩ := wrA_spec q
          obtain ⟨ad', g2, cl, Ar, z1, z2, z3⟩ := hH.at hc0
          rw [g1] at g2; cases g2
          have hin : ¬ (j < 0 ∨ cl.slots.size ≤ j.toNatClampNeg) := by
            rintro (y | y)
            · exact hj y
            · omega
          obtain ⟨T2, h2', X2, e2, W2, st2⟩ := stI X hx hZ rfl Ar (j := j) (x := x) hin (g := mkF m pc A _) rfl rfl hd
          exact Nxt.mem X2 rfl hL h3 (by rw [e2]; exact hH.wrI g1 hc0 W2) (Fr.snoc X2 hF (hH.2.2.2.1 _ _ g1 enr)) st2
        · cases h
      · cases h
    · cases h
  | bastore =>
    obtain rfl : len = 1 := by simpa [lenOk] using hlen
    simp only [xI] at h
    split at h
    · rename_i x j o S0
      obtain ⟨S1, rfl, h1⟩ := hS.int
      obtain ⟨S2, rfl, h2⟩ := h1.int
      obtain ⟨ad, S3, g1, rfl, h3⟩ := h2.ref
      split at h
      · rename_i B hc0
        split at h
        · rename_i enr
          obtain ⟨B', q, e1⟩ := Option.map_eq_some_iff.mp h
          cases e1
          obtain ⟨hj, hlt, rfl⟩ := wrA_spec q
          obtain ⟨ad', g2, cl, Ar, z1, z2, z3⟩ := hH.at hc0
          rw [g1] at g2; cases g2
          have hin : ¬ (j < 0 ∨ cl.slots.size ≤ j.toNatClampNeg) := by
            rintro (y | y)
            · exact hj y
            · omega
          obtain ⟨T2, h2', X2, e2, W2, st2⟩ := stZ X hx hZ rfl Ar (j := j) (x := x) hin (g := mkF m pc A _) rfl rfl hd
          exact Nxt.mem X2 rfl hL h3 (by rw [e2]; exact hH.wrI g1 hc0 W2) (Fr.snoc X2 hF (hH.2.2.2.1 _ _ g1 enr)) st2
        · cases h
      · cases h
    · cases h
  | lastore =>
    obtain rfl : len = 1 := by simpa [lenOk] using hlen
    simp only [xI] at h
    split at h
    · rename_i x j o S0
      obtain ⟨S1, rfl, h1⟩ := hS.long
      obtain ⟨S2, rfl, h2⟩ := h1.int
      obtain ⟨ad, S3, g1, rfl, h3⟩ := h2.ref
      split at h
      · rename_i B hc0
        split at h
        · rename_i enr
          obtain ⟨B', q, e1⟩ := Option.map_eq_some_iff.mp h
          cases e1
          obtain ⟨hj, hlt, rfl⟩ := wrA_spec q
          obtain ⟨ad', g2, cl, Ar, z1, z2, z3⟩ := hH.at hc0
          rw [g1] at g2; cases g2
          have hin : ¬ (j < 0 ∨ cl.slots.size ≤ j.toNatClampNeg) := by
            rintro (y | y)
            · exact hj y
            · omega
          obtain ⟨T2, h2', X2, e2, W2, st2⟩ := stJ X hx hZ rfl Ar (j := j) (x := x) hin (g := mkF m pc A _) rfl rfl hd
          exact Nxt.mem X2 rfl hL h3 (by rw [e2]; exact hH.wrJ g1 hc0 W2) (Fr.snoc X2 hF (hH.2.2.2.1 _ _ g1 enr)) st2
        · cases h
      · cases h
    · cases h
  | arraylength =>
    obtain rfl : len = 1 := by simpa [lenOk] using hlen
    simp only [xI] at h
    split at h
    · rename_i o S0
      obtain ⟨ad, S1, g1, rfl, h1⟩ := hS.ref
      split at h
      · rename_i bb B hc0
        cases h
        obtain ⟨ad', g2, cl, Ar, z1, z2, z3⟩ := hH.at hc0
        rw [g1] at g2; cases g2
        exact Nxt.pure X rfl hL ⟨_, _, rfl, rfl, h1⟩ hH hF (fun t z => X.arraylength hx (cell := cl) Ar.1 (State.isArrayOf_alike hZ.alike Ar.2.1) (g := mkF m pc A _) rfl rfl hd t (by rw [z1]; exact z))
      · cases h
    · cases h
  | _ => simp [xI] at h
set_option maxHeartbeats 4000000 in
theorem stepN (X : Stand p l e R s m args below meth c T locs cells slots) (hx : p.tables.exec = Jvm.exec) (hZ : Z.Warmed39 s.vm) (hown : s.vm.findClass d.name.cls = some m.cls) (hP : chk P = true) (hW : ∀ w ∈ wordsOf P, w.before a0 Z = true) (hdm : d ∈ P.mth)
    {pc len a ks : Nat} {er : List Bool} {b : Int} {i : Instr} (hit : (pc, i, len, er, a, b) ∈ d.code) (hd : decode c.code pc = .ok (i, len)) (hlen : lenOk i len = true) {ρ : List Addr} {S S' Sc : List Value} {H H1 : AHeap} {A : Array Slot}
    (hS : SR ρ S Sc) (hH : HR P Z n0 T.heap ρ H) (h : xN P i a S H = some (S', H1, ks)) (hc : cells + 1 ≤ R.cells) (hl : slots + ks ≤ R.slots) :
    ∃ T' ad Sc', Stand p l e R s m args below meth c T' locs (cells + 1) (slots + ks) ∧ SR (ρ ++ [ad]) S' Sc' ∧ HR P Z n0 T'.heap (ρ ++ [ad]) H1 ∧
      ∀ target, Steps p.tables e below (T'.setTop (mkF m (pc + len) A Sc')) target → Steps p.tables e below (T.setTop (mkF m pc A Sc)) target := by
  have hWi : ∀ w ∈ iWords P d (pc, i, len, er, a, b), w.before a0 Z = true := fun w q => hW w (in_wordsOf hdm hit q)
  cases i with
  | new k =>
    obtain rfl : len = 3 := by simpa [lenOk] using hlen
    simp only [xN] at h
    split at h
    · rename_i cd q1
      cases h
      have hcm : cd ∈ P.cls := List.mem_of_getElem? q1
      have w1 := hWi (.classLink d.name.cls k cd.1) (by simp only [iWords, q1]; exact List.mem_singleton.mpr rfl)
      have w2 := hW (.instantiable cd.1 cd.2.1) (in_wordsC hcm (List.mem_cons_self ..))
      have w3 := hW (.initialized cd.1) (in_wordsC hcm (List.mem_cons_of_mem _ (List.mem_cons_self ..)))
      obtain ⟨T2, h2, X2, e2, E2, A2, D2, -, st2⟩ := newO X hx hZ hown w1 w2 w3 rfl (g := mkF m pc A Sc) rfl hd hc hl
      have hck := cChk_of hP hcm
      simp only [cChk, Bool.and_eq_true, List.all_eq_true] at hck
      have hcr : CR P Z h2 (ρ ++ [T.heap.size]) T.heap.size (.inl (a, cd.2.2.map fun f => dflt f.2.2.1)) := by
        refine ⟨cd, q1, A2, by simp, fun j v fd y1 y2 => ?_⟩
        rw [List.getElem?_map, y2] at y1
        cases y1
        have f1 := hck.2 _ (List.mem_of_getElem? y2)
        simp only [fChk, Bool.and_eq_true, decide_eq_true_eq] at f1
        exact ⟨_, dflt_sim f1.2, D2 (laid_of (hW _ (in_wordsC hcm (fWord_in (List.mem_of_getElem? y2))))) f1.1⟩
      refine ⟨T2, T.heap.size, _, X2, ⟨_, _, rfl, ⟨T.heap.size, ?_, rfl⟩, hS.mono⟩, (by rw [e2]; exact hH.push E2 hcr), st2⟩
      rw [← hH.2.1]; simp
    · cases h
  | newarray t =>
    obtain rfl : len = 2 := by simpa [lenOk] using hlen
    simp only [xN] at h
    split at h
    · rename_i n S0
      obtain ⟨S1, rfl, h1⟩ := hS.int
      split at h
      · cases h
      · rename_i hn
        have hn1 : ¬ n < 0 := fun z => hn (Or.inl z)
        have hn2 : n.toNatClampNeg ≤ 100000 := Nat.le_of_not_lt fun z => hn (Or.inr z)
        have w1 := hWi (.arrayClass (newarray.typeOf t)) (List.mem_singleton.mpr rfl)
        have top : (ρ ++ [T.heap.size])[H.length]? = some T.heap.size := by rw [← hH.2.1]; simp
        split at h
        · cases h
          obtain ⟨T2, h2, cA, X2, e2, E2, A2, st2⟩ := newP X hx hZ w1 rfl (g := mkF m pc A _) rfl hd rfl hn1 (cap := n.toNatClampNeg) (Nat.le_refl _) (by omega) hc hl
          have hcr : CR P Z h2 (ρ ++ [T.heap.size]) T.heap.size ((.inr (.inl (false, List.replicate n.toNatClampNeg 0)) : ACell)) := by
            refine ⟨_, A2, by simp [sz_new], by simp; omega, fun j x y => ?_⟩
            rw [List.getElem?_replicate] at y
            split at y
            · rename_i lt
              cases y
              simp [newA, lt, newarray.typeOf, defaultValue]
            · cases y
          exact ⟨T2, T.heap.size, _, X2, ⟨_, _, rfl, ⟨T.heap.size, top, rfl⟩, h1.mono⟩, (by rw [e2]; exact hH.push E2 hcr), st2⟩
        · cases h
          obtain ⟨T2, h2, cA, X2, e2, E2, A2, st2⟩ := newP X hx hZ w1 rfl (g := mkF m pc A _) rfl hd rfl hn1 (cap := n.toNatClampNeg) (Nat.le_refl _) (by omega) hc hl
          have hcr : CR P Z h2 (ρ ++ [T.heap.size]) T.heap.size ((.inr (.inl (true, List.replicate n.toNatClampNeg 0)) : ACell)) := by
            refine ⟨_, A2, by simp [sz_new], by simp; omega, fun j x y => ?_⟩
            rw [List.getElem?_replicate] at y
            split at y
            · rename_i lt
              cases y
              simp [newA, lt, newarray.typeOf, defaultValue]
            · cases y
          exact ⟨T2, T.heap.size, _, X2, ⟨_, _, rfl, ⟨T.heap.size, top, rfl⟩, h1.mono⟩, (by rw [e2]; exact hH.push E2 hcr), st2⟩
        · cases h
          obtain ⟨T2, h2, cA, X2, e2, E2, A2, st2⟩ := newP X hx hZ w1 rfl (g := mkF m pc A _) rfl hd rfl hn1 (cap := n.toNatClampNeg) (Nat.le_refl _) (by omega) hc hl
          have hcr : CR P Z h2 (ρ ++ [T.heap.size]) T.heap.size ((.inr (.inr (List.replicate n.toNatClampNeg 0)) : ACell)) := by
            refine ⟨_, A2, by simp [sz_new], by simp; omega, fun j x y => ?_⟩
            rw [List.getElem?_replicate] at y
            split at y
            · rename_i lt
              cases y
              simp [newA, lt, newarray.typeOf, defaultValue]
            · cases y
          exact ⟨T2, T.heap.size, _, X2, ⟨_, _, rfl, ⟨T.heap.size, top, rfl⟩, h1.mono⟩, (by rw [e2]; exact hH.push E2 hcr), st2⟩
        · cases h
    · cases h
  | _ => simp [xN] at h
end Step
end Jvm.Own
namespace Jvm.Own
open Jvm Jvm.ClassFile Sem Op Lib Jvm.Free Jvm.Stand Jvm.LawKit Jvm.RoadKit Bundle
theorem fetch_mem : ∀ {l : List (Nat × It)} {pc : Nat} {i : It}, fetch l pc = some i → (pc, i) ∈ l
  | [], _, _, h => by simp [fetch] at h
  | (q, j) :: r, pc, i, h => by
    unfold fetch at h
    split at h
    · rename_i e; cases h; subst e; exact List.mem_cons_self ..
    · exact List.mem_cons_of_mem _ (fetch_mem h)
theorem tgt_spec {pc q : Nat} {o : Int} (h : tgt pc o = some q) : 0 ≤ (pc : Int) + o ∧ ((pc : Int) + o).toNat = q := by
  unfold tgt at h
  split at h
  · rename_i z; cases h; exact ⟨z, rfl⟩
  · cases h
/-- the end of a method's run -/
def Done (P : PD) (Z : State) (n0 : Nat) (p : Program) (e : Env) (below : List Frame) (s : State) (ρ : List Addr) (v : Option Value) (H' : AHeap) (kc ks : Nat) (t0 : State) : Prop :=
  ∃ s₂ v' L' t, Steps p.tables e below t0 s₂ ∧ s₂.status = .running ∧ Ended s₂ below (.returned v') ∧ OV (ρ ++ t) v v' ∧ HR P Z n0 s₂.heap (ρ ++ t) H' ∧ Fr n0 L' ∧ FrameEnd s (.returned v') s₂ L' kc ks
def Cx (P : PD) (Z : State) (p : Program) (R : Room) (s : State) (m : MethodId) (meth : Method) (c : Code) (d : MD) : Prop :=
  p.tables.exec = Jvm.exec ∧ Z.Warmed39 s.vm ∧ c.code = d.bytes ∧ c.maxLocals = d.maxL ∧ s.vm.findClass d.name.cls = some m.cls ∧ meth.name = d.name.name ∧ meth.sig.returnType = d.ret ∧ meth.locks = false ∧ d.rf ≤ R.frames ∧ d.rw ≤ R.locals
/-- what the machine says of a run that has come to pc is what the model does -/
def Says (P : PD) (Z : State) (n0 : Nat) (l : Launch) (n : Nat) : Prop :=
  ∀ (mi pc : Nat) (L : List Slot) (S : List Value) (H : AHeap) (v : Option Value) (H' : AHeap) (kc ks : Nat), exe P n mi pc L S H = some (v, H', kc, ks) → ∀ d, P.mth[mi]? = some d →
    ∀ (p : Program) (e : Env) (R : Room) (s : State) (m : MethodId) (args : Array Value) (below : List Frame) (meth : Method) (c : Code) (T : State) (locs : List Loc) (cells slots : Nat),
      Stand p l e R s m args below meth c T locs cells slots → Cx P Z p R s m meth c d → cells + kc ≤ R.cells → slots + ks ≤ R.slots →
      ∀ (ρ : List Addr) (A : Array Slot) (Sc : List Value), LR ρ L A → L.length = d.maxL → SR ρ S Sc → HR P Z n0 T.heap ρ H → Fr n0 locs →
        Done P Z n0 p e below s ρ v H' (cells + kc) (slots + ks) (T.setTop (mkF m pc A Sc))
def QQ (P : PD) (Z : State) (n0 : Nat) (ρ : List Addr) (v : Option Value) (H1 : AHeap) (v' : Option Value) (h' : Heap) (L : List Loc) : Prop := Fr n0 L ∧ ∃ t, OV (ρ ++ t) v v' ∧ HR P Z n0 h' (ρ ++ t) H1
theorem met_of {P : PD} {Z : State} {n0 : Nat} {l : Launch} {n : Nat} (ih : Says P Z n0 l n) {j : Nat} {y : MD} (hy : P.mth[j]? = some y) (hpn : plainName y.name.cls = true) {as ws : List Value} {H H1 : AHeap} {v : Option Value} {kc ks : Nat} (he : exe P n j 0 (entL as y.maxL) [] H = some (v, H1, kc, ks)) {ρ : List Addr} (hS : SR ρ as ws) (hlen : (entA as).length ≤ y.maxL) {h : Heap} (hH : HR P Z n0 h ρ H) (w0 : List Jvm.Cond) (rm : Room) (r1 : y.rf ≤ rm.frames) (r2 : y.rw ≤ rm.locals) (r3 : kc ≤ rm.cells) (r4 : ks ≤ rm.slots) :
    MetFree l y.name (head1 (Jvm.Cond.code y.name y.bytes y.maxL y.ret :: w0) rm) (fun a U => a = ws.toArray ∧ Z.Warmed39 U.vm ∧ U.heap = h) (fun _ _ _ _ _ => True)
      (fun _ U o U' => ∃ v' L, o = .returned v' ∧ QQ P Z n0 ρ v H1 v' U'.heap L ∧ FrameEnd U o U' L kc ks) := by
  refine MetFree.of_bodySF (plainFor_of_name hpn) hisR ?_
  intro p e s m args below meth c s₁ Bd hml0 hP hK
  obtain ⟨rfl, hZ, hh⟩ := hP
  have X0 : Stand p l e rm s m ws.toArray below meth c s₁ [] 0 0 := Stand.of_body Bd
  have e0 : s₁.heap = h := by rw [← hh, Bd.state]; rfl
  obtain ⟨hL, hsz⟩ := LR.enter hS hlen
  have hLl : (entL as y.maxL).length = y.maxL := by rw [← hL.1]; exact hsz
  obtain ⟨s₂, v', L', t, h1, h2, h3, h4, h5, h6, h7⟩ := ih j 0 _ [] H v H1 kc ks he y hy p e _ s m ws.toArray below meth c s₁ [] 0 0 X0
    ⟨Bd.exec, hZ, Bd.bytes, hml0, findClass_of_methodNamed Bd.named, (name_of_methodNamed Bd.named Bd.method).1, Bd.returns, BodyLoose.notSynchronized Bd, r1, r2⟩
    (by rw [Nat.zero_add]; exact r3) (by rw [Nat.zero_add]; exact r4) ρ _ [] hL hLl rfl (by rw [e0]; exact hH) (Fr.nil n0)
  refine ⟨s₂, _, h1, h2, h3, v', L', rfl, ⟨h6, t, h4, h5⟩, ?_⟩
  rw [Nat.zero_add, Nat.zero_add] at h7
  exact h7
section Sound
variable {P : PD} {Z : State} {n0 : Nat} {a0 : Array Value} {l : Launch}
theorem Done.step {p : Program} {e : Env} {below : List Frame} {s : State} {ρ t : List Addr} {v : Option Value} {H' : AHeap} {kc ks : Nat} {t0 t1 : State} (h : Done P Z n0 p e below s (ρ ++ t) v H' kc ks t1) (k : ∀ target, Steps p.tables e below t1 target → Steps p.tables e below t0 target) : Done P Z n0 p e below s ρ v H' kc ks t0 := by
  obtain ⟨s₂, v', L', t', h1, h2, h3, h4, h5, h6, h7⟩ := h
  exact ⟨s₂, v', L', t ++ t', k _ h1, h2, h3, by rw [← List.append_assoc]; exact h4, by rw [← List.append_assoc]; exact h5, h6, h7⟩
theorem argsOf_spec {n : Nat} {S as rest : List Value} (h : argsOf n S = some (as, rest)) : n ≤ S.length ∧ as = (S.take n).reverse ∧ rest = S.drop n := by
  unfold argsOf at h
  split at h
  · rename_i z; cases h; exact ⟨z, rfl, rfl⟩
  · cases h
theorem res_ext {α : Type} {o : Option Res} {v : Option Value} {H' : AHeap} {kc ks c1 s1 : Nat} (h : (o.map fun r => addR r c1 s1) = some (v, H', kc, ks)) : ∃ kc' ks', o = some (v, H', kc', ks') ∧ kc = kc' + c1 ∧ ks = ks' + s1 := by
  obtain ⟨⟨v0, H0, c0, s0⟩, h1, h2⟩ := Option.map_eq_some_iff.mp h
  simp only [addR] at h2
  cases h2
  exact ⟨c0, s0, h1, rfl, rfl⟩
set_option maxHeartbeats 4000000 in
theorem sound (hP : chk P = true) (hW : ∀ w ∈ wordsOf P, w.before a0 Z = true) : ∀ n, Says P Z n0 l n
  | 0 => fun mi pc L S H v H' kc ks h => by simp [exe] at h
  | n + 1 => by
    have ih := sound hP hW n
    intro mi pc L S H v H' kc ks h d hmi
    unfold exe at h
    rw [hmi] at h
    simp only at h
    have hdm : d ∈ P.mth := List.mem_of_getElem? hmi
    split at h
    · cases h
    rename_i it i len er a b hft
    have hit := fetch_mem hft
    have hmc := mChk_of hP hdm
    simp only [mChk, Bool.and_eq_true] at hmc
    obtain ⟨⟨⟨⟨⟨⟨mc1, mc2⟩, mc3⟩, mc4⟩, mc5⟩, mc6⟩, mc7⟩ := hmc
    unfold codeChk at mc3
    rw [List.all_eq_true] at mc3
    have hci := mc3 _ hit
    simp only [Bool.and_eq_true, decide_eq_true_eq] at hci
    obtain ⟨hdec, hlenOk⟩ := hci
    -- a jump, or a fall through
    have jump : ∀ (q : Nat) (S1 : List Value) (h1 : exe P n mi q (forget er L) S1 H = some (v, H', kc, ks)),
        (∀ (p : Program) (e : Env) (R : Room) (s : State) (m : MethodId) (args : Array Value) (below : List Frame) (meth : Method) (c : Code) (T : State) (locs : List Loc) (cells slots : Nat),
          Stand p l e R s m args below meth c T locs cells slots → Cx P Z p R s m meth c d → ∀ (ρ : List Addr) (A : Array Slot) (Sc : List Value), LR ρ L A → SR ρ S Sc → ∃ Sc1, SR ρ S1 Sc1 ∧ ∀ target, Steps p.tables e below (T.setTop (mkF m q A Sc1)) target → Steps p.tables e below (T.setTop (mkF m pc A Sc)) target) →
        ∀ (p : Program) (e : Env) (R : Room) (s : State) (m : MethodId) (args : Array Value) (below : List Frame) (meth : Method) (c : Code) (T : State) (locs : List Loc) (cells slots : Nat),
          Stand p l e R s m args below meth c T locs cells slots → Cx P Z p R s m meth c d → cells + kc ≤ R.cells → slots + ks ≤ R.slots →
          ∀ (ρ : List Addr) (A : Array Slot) (Sc : List Value), LR ρ L A → L.length = d.maxL → SR ρ S Sc → HR P Z n0 T.heap ρ H → Fr n0 locs →
            Done P Z n0 p e below s ρ v H' (cells + kc) (slots + ks) (T.setTop (mkF m pc A Sc)) := by
      intro q S1 h1 st p e R s m args below meth c T locs cells slots X cx k1 k2 ρ A Sc hL hLl hS hH hF
      obtain ⟨Sc1, hS1, st1⟩ := st p e R s m args below meth c T locs cells slots X cx ρ A Sc hL hS
      have := ih mi q _ S1 H v H' kc ks h1 d hmi p e R s m args below meth c T locs cells slots X cx k1 k2 ρ A Sc1 (hL.forget er) (by rw [forget_len]; exact hLl) hS1 hH hF
      exact Done.step (t := []) (by rw [List.append_nil]; exact this) st1
    have dec : ∀ {c : Code}, c.code = d.bytes → decode c.code pc = .ok (i, len) := fun hc => by rw [hc]; exact hdec
    split at h
    · -- goto
      rename_i o
      split at h
      · rename_i q hq
        obtain ⟨t1, t2⟩ := tgt_spec hq
        have m3 := jump q S h
        obtain rfl : len = 3 := by simpa [lenOk] using hlenOk
        exact m3 fun p e R s m args below meth c T locs cells slots X cx ρ A Sc hL hS => ⟨Sc, hS, fun t z => XS.goto (g := mkF m pc A Sc) X.here cx.1 rfl (pc0 := pc) (pc' := q) rfl (dec cx.2.2.1) t1 t2 z⟩
      · cases h
    · -- if_icmp
      rename_i cd o
      split at h
      · rename_i y x S1
        obtain rfl : len = 3 := by simpa [lenOk] using hlenOk
        split at h
        · rename_i hc
          split at h
          · rename_i q hq
            obtain ⟨t1, t2⟩ := tgt_spec hq
            have m3 := jump q S1 h
            exact m3 fun p e R s m args below meth c T locs cells slots X cx ρ A Sc hL hS => by
              obtain ⟨Sa, rfl, ha⟩ := hS.int
              obtain ⟨Sb, rfl, hb⟩ := ha.int
              exact ⟨Sb, hb, fun t z => XS.icmpYes (g := mkF m pc A _) X.here cx.1 rfl (pc0 := pc) (pc' := q) rfl (dec cx.2.2.1) rfl hc t1 t2 z⟩
          · cases h
        · rename_i hc
          have m3 := jump (pc + 3) S1 h
          exact m3 fun p e R s m args below meth c T locs cells slots X cx ρ A Sc hL hS => by
            obtain ⟨Sa, rfl, ha⟩ := hS.int
            obtain ⟨Sb, rfl, hb⟩ := ha.int
            exact ⟨Sb, hb, fun t z => XS.icmpNo (g := mkF m pc A _) X.here cx.1 rfl (dec cx.2.2.1) rfl (by simpa using hc) z⟩
      · cases h
    · -- ifCond
      rename_i cd o
      split at h
      · rename_i x S1
        obtain rfl : len = 3 := by simpa [lenOk] using hlenOk
        split at h
        · rename_i hc
          split at h
          · rename_i q hq
            obtain ⟨t1, t2⟩ := tgt_spec hq
            have m3 := jump q S1 h
            exact m3 fun p e R s m args below meth c T locs cells slots X cx ρ A Sc hL hS => by
              obtain ⟨Sa, rfl, ha⟩ := hS.int
              exact ⟨Sa, ha, fun t z => XS.ifYes (g := mkF m pc A _) X.here cx.1 rfl (pc0 := pc) (pc' := q) rfl (dec cx.2.2.1) rfl hc t1 t2 z⟩
          · cases h
        · rename_i hc
          have m3 := jump (pc + 3) S1 h
          exact m3 fun p e R s m args below meth c T locs cells slots X cx ρ A Sc hL hS => by
            obtain ⟨Sa, rfl, ha⟩ := hS.int
            exact ⟨Sa, ha, fun t z => XS.ifNo (g := mkF m pc A _) X.here cx.1 rfl (dec cx.2.2.1) rfl (by simpa using hc) z⟩
      · cases h
    · -- ifnonnull
      rename_i o
      split at h
      · rename_i x S1
        split at h
        · rename_i q hq
          obtain ⟨t1, t2⟩ := tgt_spec hq
          have m3 := jump q S1 h
          obtain rfl : len = 3 := by simpa [lenOk] using hlenOk
          exact m3 fun p e R s m args below meth c T locs cells slots X cx ρ A Sc hL hS => by
            obtain ⟨ad, Sa, -, rfl, ha⟩ := hS.ref
            exact ⟨Sa, ha, fun t z => XT.ifnonnullYes (g := mkF m pc A _) X.here cx.1 rfl (pc0 := pc) (pc' := q) rfl (dec cx.2.2.1) rfl t1 t2 z⟩
        · cases h
      · cases h
    · -- ireturn
      split at h
      · rename_i x
        split at h
        · rename_i v0 hv0
          cases h
          obtain rfl : len = 1 := by simpa [lenOk] using hlenOk
          intro p e R s m args below meth c T locs cells slots X cx k1 k2 ρ A Sc hL hLl hS hH hF
          obtain ⟨hx, hZ, hby, hml, hown, hnm, hret, hlk, -, -⟩ := cx
          obtain ⟨Sa, rfl, ha⟩ := hS.int
          unfold retV at hv0
          split at hv0
          · rename_i hr0
            cases hv0
            obtain ⟨fs, hr, hrun, hended, hWm, hsame⟩ := X.leave (v := some (.int x)) (fun q => by rw [hret, hr0] at q; cases q) hlk
            exact ⟨_, _, locs, [], retI X hx (by rw [hret, hr0]) (dec hby) hr, hrun, hended, ⟨_, rfl, rfl⟩, by rw [List.append_nil]; exact hH, hF, ⟨_, rfl⟩, hWm, hsame⟩
          · rename_i hr0
            cases hv0
            obtain ⟨fs, hr, hrun, hended, hWm, hsame⟩ := X.leave (v := some (.int (x &&& 1))) (fun q => by rw [hret, hr0] at q; cases q) hlk
            exact ⟨_, _, locs, [], retN X hx (t := .boolean) (by rw [hret, hr0]) (by simp) (dec hby) hr, hrun, hended, ⟨_, rfl, rfl⟩, by rw [List.append_nil]; exact hH, hF, ⟨_, rfl⟩, hWm, hsame⟩
          · cases hv0
        · cases h
      · cases h
    · -- lreturn
      split at h
      · rename_i x
        split at h
        · rename_i hr0
          cases h
          obtain rfl : len = 1 := by simpa [lenOk] using hlenOk
          intro p e R s m args below meth c T locs cells slots X cx k1 k2 ρ A Sc hL hLl hS hH hF
          obtain ⟨hx, hZ, hby, hml, hown, hnm, hret, hlk, -, -⟩ := cx
          obtain ⟨Sa, rfl, ha⟩ := hS.long
          obtain rfl : Sa = [] := ha
          obtain ⟨fs, hr, hrun, hended, hWm, hsame⟩ := X.leave (v := some (.long x)) (fun q => by rw [hret, hr0] at q; cases q) hlk
          exact ⟨_, _, locs, [], X.lreturnOut hx (by rw [hret, hr0]) (dec hby) hr, hrun, hended, ⟨_, rfl, rfl⟩, by rw [List.append_nil]; exact hH, hF, ⟨_, rfl⟩, hWm, hsame⟩
        · cases h
      · cases h
    · -- return
      split at h
      · split at h
        · rename_i hr0
          cases h
          obtain rfl : len = 1 := by simpa [lenOk] using hlenOk
          intro p e R s m args below meth c T locs cells slots X cx k1 k2 ρ A Sc hL hLl hS hH hF
          obtain ⟨hx, hZ, hby, hml, hown, hnm, hret, hlk, -, -⟩ := cx
          obtain rfl : Sc = [] := hS
          obtain ⟨fs, hr, hrun, hended, hWm, hsame⟩ := X.leave (v := none) (fun _ => rfl) hlk
          exact ⟨_, _, locs, [], X.returnOut hx (by rw [hret, hr0]) (dec hby) hr, hrun, hended, rfl, by rw [List.append_nil]; exact hH, hF, ⟨_, rfl⟩, hWm, hsame⟩
        · cases h
      · cases h
    · -- a call, or a plain step
      split at h
      · rename_i hinv
        split at h
        · -- Object.<init>
          rename_i hb1
          subst hb1
          have hk : ∃ k x S1, i = .invokespecial k ∧ S = .ref x :: S1 ∧ (if 1 ≤ d.rf ∧ catSum S1 + 12 ≤ d.rw then exe P n mi (pc + 3) (forget er L) S1 H else none) = some (v, H', kc, ks) := by
            split at h
            · exact ⟨_, _, _, rfl, rfl, h⟩
            · cases h
          clear h
          obtain ⟨k, x, S1, rfl, rfl, h⟩ := hk
          · split at h
            · rename_i hroom
              have m3 := ih mi (pc + 3) _ S1 H v H' kc ks h d hmi
              obtain rfl : len = 3 := by simpa [lenOk] using hlenOk
              have hWi : ∀ w ∈ iWords P d (pc, .invokespecial k, 3, er, a, -1), w.before a0 Z = true := fun w q => hW w (in_wordsOf hdm hit q)
              have hWi' : ∀ w ∈ [Jvm.Cond.methodLink d.name.cls k Lib.objectInit, .instanceMethod Lib.objectInit, .code Lib.objectInit ⟨#[0xb1]⟩ 1 none], w.before a0 Z = true := hWi
              intro p e R s m args below meth c T locs cells slots X cx k1 k2 ρ A Sc hL hLl hS hH hF
              have cx0 := cx
              obtain ⟨hx, hZ, hby, hml, hown, hnm, hret, hlk, hrf, hrw⟩ := cx
              obtain ⟨ad, Sa, -, rfl, ha⟩ := hS.ref
              obtain ⟨T2, X2, e2, st2⟩ := initO X hx hZ hown (hWi' _ (by simp)) (hWi' _ (by simp)) (hWi' _ (by simp)) rfl (g := mkF m pc A (.ref ad :: Sa)) rfl (by rw [hml]; exact hL.1.trans hLl) rfl (dec hby) (by omega) (W := catSum S1) (by show 2 * 0 + _ ≤ _; rw [ha.cat]; omega) (by omega)
              have := m3 p e R s m args below meth c T2 locs cells slots X2 cx0 k1 k2 ρ A Sa (hL.forget er) (by rw [forget_len]; exact hLl) ha (by rw [e2]; exact hH) hF
              exact Done.step (t := []) (by rw [List.append_nil]; exact this) st2
            · cases h
        · rename_i hb1
          split at h
          · cases h
          rename_i y hy
          split at h
          · cases h
          rename_i as rest hao
          split at h
          · rename_i hcond
            simp only [Bool.and_eq_true, decide_eq_true_eq] at hcond
            obtain ⟨⟨⟨⟨hj, hik⟩, hrecv⟩, hroom⟩, hent⟩ := hcond
            split at h
            · rename_i v1 H1 c1 s1 hcal
              obtain ⟨c0, s0, hcon, rfl, rfl⟩ := res_ext (α := Unit) h
              have m3 := ih mi (pc + 3) _ _ H1 v H' c0 s0 hcon d hmi
              intro p e R s m args below meth c T locs cells slots X cx k1 k2 ρ A Sc hL hLl hS hH hF
              have cx0 := cx
              obtain ⟨hx, hZ, hby, hml, hown, hnm, hret, hlk, hrf, hrw⟩ := cx
              have hym : y ∈ P.mth := List.mem_of_getElem? hy
              have hyc := mChk_of hP hym
              simp only [mChk, Bool.and_eq_true, decide_eq_true_eq] at hyc
              obtain ⟨⟨⟨⟨⟨⟨yc1, yc2⟩, yc3⟩, yc4⟩, yc5⟩, yc6⟩, yc7⟩ := hyc
              simp only [fitsRoom, Bool.and_eq_true, decide_eq_true_eq] at hroom
              obtain ⟨hn, has, hrest⟩ := argsOf_spec hao
              have hnc : nargs y ≤ Sc.length := by rw [hS.len]; exact hn
              have hSa : SR ρ as (Sc.take (nargs y)).reverse := by rw [has]; exact (hS.take _).rev
              have hSr : SR ρ rest (Sc.drop (nargs y)) := by rw [hrest]; exact hS.drop _
              have hsplit : Sc = (Sc.take (nargs y)).reverse.reverse ++ Sc.drop (nargs y) := by rw [List.reverse_reverse, List.take_append_drop]
              obtain ⟨ws, hws⟩ : ∃ ws, ws = (Sc.take (nargs y)).reverse := ⟨_, rfl⟩
              obtain ⟨rc, hrc⟩ : ∃ rc, rc = Sc.drop (nargs y) := ⟨_, rfl⟩
              have hwl : ws.length = nargs y := by rw [hws]; simp; omega
              rw [← hws] at hSa hsplit
              rw [← hrc] at hSr hsplit
              have wcode := hW (.code y.name y.bytes y.maxL y.ret) (in_wordsM hy hj (List.mem_cons_self ..))
              have winit := hW (.initialized y.name.cls) (in_wordsM hy hj (List.mem_cons_of_mem _ (List.mem_cons_self ..)))
              have wmore : ∀ w ∈ (if y.kind = 0 then [Jvm.Cond.static y.name] else if y.kind = 1 then [.instanceMethod y.name] else if y.kind = 2 then [.instanceMethod y.name, .privateMethod y.name] else [.declares y.name, .selects y.name.cls y.name y.name, .instanceMethod y.name]), w.before a0 Z = true := fun w q => hW w (in_wordsM hy hj (List.mem_cons_of_mem _ (List.mem_cons_of_mem _ q)))
              have hMH : y.name.cls ≠ "java/lang/invoke/MethodHandle" ∧ y.name.cls ≠ "java/lang/invoke/VarHandle" := ⟨yc5, yc6⟩
              have back := backOf (W := catSum rest) (len := 3) (R := R) (p := p) (e := e) (below := below) (s := s) (args := args) (met_of ih hy yc1 hcal hSa hent hH [] ({ frames := y.rf, cells := c1, slots := s1, locals := y.rw } : Room) (Nat.le_refl _) (Nat.le_refl _) (Nat.le_refl _) (Nat.le_refl _)) hZ wcode winit (by show y.rf + 1 ≤ _; omega) (by show _ + y.rw ≤ _; omega)
              have hWW : 2 * (mkF m pc A Sc).monitorRoom + (rc.map fun v => v.category).sum ≤ catSum rest := by show 2 * 0 + _ ≤ _; rw [hSr.cat]; omega
              have hpar : ∀ sig, parseMethodDescriptor y.name.desc = some sig → sig.parameters.length = y.npar := fun sig q => by
                unfold sigChk at yc2
                rw [q] at yc2
                simpa using yc2
              have fin : ∀ (v1' : Option Value) (T2 : State) (Lc : List Loc), Stand p l e R s m args below meth c T2 (locs ++ Lc) (cells + c1) (slots + s1) → QQ P Z n0 ρ v1 H1 v1' T2.heap Lc →
                  (∀ target, Steps p.tables e below (T2.setTop (mkF m (pc + 3) A (v1'.toList ++ rc))) target → Steps p.tables e below (T.setTop (mkF m pc A Sc)) target) →
                  Done P Z n0 p e below s ρ v H' (cells + (c0 + c1)) (slots + (s0 + s1)) (T.setTop (mkF m pc A Sc)) := by
                intro v1' T2 Lc X2 hq st2
                obtain ⟨hF2, t, hov, hH2⟩ := hq
                have := m3 p e R s m args below meth c T2 (locs ++ Lc) _ _ X2 cx0 (by omega) (by omega) (ρ ++ t) A (v1'.toList ++ rc) (hL.forget er).mono (by rw [forget_len]; exact hLl) (hov.list.app hSr.mono) hH2 (hF.app hF2)
                have q1 : cells + c1 + c0 = cells + (c0 + c1) := by omega
                have q2 : slots + s1 + s0 = slots + (s0 + s1) := by omega
                rw [q1, q2] at this
                exact this.step st2
              have hcR : cells + c1 ≤ R.cells := by omega
              have hsR : slots + s1 ≤ R.slots := by omega
              cases i with
              | invokestatic k =>
                obtain rfl : len = 3 := by simpa [lenOk] using hlenOk
                have hk0 : y.kind = 0 := by simpa [invKind] using hik
                have wl := hW (.methodLink d.name.cls k y.name) (in_wordsOf hdm hit (by show _ ∈ mLink P d k a b; unfold mLink; rw [if_neg hb1, hy]; exact List.mem_singleton.mpr rfl))
                have wst := wmore (.static y.name) (by rw [if_pos hk0]; exact List.mem_singleton.mpr rfl)
                have hna : nargs y = y.npar := by simp [nargs, hk0]
                obtain ⟨v1', _, ⟨T2, L2, k2', n2⟩, -, X2, ⟨Lc, hQ, l2, y2, z2⟩, st2⟩ := Jvm.LawKit.callS X hx (y := y.name) hown (mvT hZ wl) (mvT hZ wst) (mvT hZ winit) (mvT hZ wcode) hMH back (g := mkF m pc A Sc) rfl (by rw [hml]; exact hL.1.trans hLl) (argsL := ws) (rest := rc) (fun sig q => by rw [hpar sig q, hwl, hna]) hsplit hWW (dec hby) (fun _ _ => ⟨rfl, rfl, hcR, hsR⟩)
                dsimp only [Pt.U, Pt.locs, Pt.cells, Pt.slots] at X2 l2 y2 z2 st2 hQ
                subst l2 y2 z2
                exact fin v1' T2 Lc X2 hQ st2
              | invokespecial k =>
                obtain rfl : len = 3 := by simpa [lenOk] using hlenOk
                have hk1 : y.kind = 1 := by simpa [invKind] using hik
                have wl := hW (.methodLink d.name.cls k y.name) (in_wordsOf hdm hit (by show _ ∈ mLink P d k a b; unfold mLink; rw [if_neg hb1, hy]; exact List.mem_singleton.mpr rfl))
                have wst := wmore (.instanceMethod y.name) (by rw [if_neg (by omega), if_pos hk1]; exact List.mem_singleton.mpr rfl)
                have hna : nargs y = y.npar + 1 := by simp [nargs, hk1]
                simp [hk1] at yc7
                have wcode' : (Jvm.Cond.code y.name y.bytes y.maxL none).before a0 Z = true := by rw [← yc7.2]; exact wcode
                unfold recvOk at hrecv
                rw [if_neg (by omega)] at hrecv
                split at hrecv
                · rename_i o as'
                  obtain ⟨ad, ws', g1, rfl, ha'⟩ := hSa.ref
                  have hst : Sc = ws'.reverse ++ .ref ad :: rc := by rw [hsplit]; simp
                  obtain ⟨v1', _, ⟨T2, L2, k2', n2⟩, -, X2, ⟨Lc, hQ, l2, y2, z2⟩, st2⟩ := X.specialBack hx (y := y.name) yc7.1 hown (mvT hZ wl) (mvT hZ wst) (mvT hZ wcode') hMH back (g := mkF m pc A Sc) rfl (by rw [hml]; exact hL.1.trans hLl) (Steps.refl _) (a := ad) (argsL := ws') (rest := rc) (fun sig q => by rw [hpar sig q]; simp [hna] at hwl; omega) hst hWW (dec hby) (fun _ _ => ⟨rfl, rfl, hcR, hsR⟩)
                  dsimp only [Pt.U, Pt.locs, Pt.cells, Pt.slots] at X2 l2 y2 z2 st2 hQ
                  subst l2 y2 z2
                  exact fin v1' T2 Lc X2 hQ fun t z => st2.trans z
                · cases hrecv
              | invokevirtual k =>
                obtain rfl : len = 3 := by simpa [lenOk] using hlenOk
                have wl := hW (.methodLink d.name.cls k y.name) (in_wordsOf hdm hit (by show _ ∈ mLink P d k a b; unfold mLink; rw [if_neg hb1, hy]; exact List.mem_singleton.mpr rfl))
                have hk23 : y.kind = 2 ∨ y.kind = 3 := by simpa [invKind] using hik
                have hk0 : ¬ y.kind = 0 := by omega
                have hk1 : ¬ y.kind = 1 := by omega
                have hna : nargs y = y.npar + 1 := by simp [nargs, hk0]
                unfold recvOk at hrecv
                rw [if_neg hk0] at hrecv
                split at hrecv
                · rename_i o as'
                  obtain ⟨ad, ws', g1, rfl, ha'⟩ := hSa.ref
                  have hst : Sc = ws'.reverse ++ .ref ad :: rc := by rw [hsplit]; simp
                  split at hrecv
                  · rename_i c0 fs hc0
                    obtain rfl : c0 = y.cid := by simpa using hrecv
                    obtain ⟨ad', g2, cd, q1, q2, q3, q4⟩ := hH.at hc0
                    rw [g1] at g2; cases g2
                    have hcd := cid_of hP hym q1
                    have hcm : cd ∈ P.cls := List.mem_of_getElem? q1
                    rw [hcd] at q2
                    by_cases hk2 : y.kind = 2
                    · have w1 := wmore (.instanceMethod y.name) (by rw [if_neg hk0, if_neg hk1, if_pos hk2]; simp)
                      have w2 := wmore (.privateMethod y.name) (by rw [if_neg hk0, if_neg hk1, if_pos hk2]; simp)
                      have w3 := hW (.instantiable cd.1 cd.2.1) (in_wordsC hcm (List.mem_cons_self ..))
                      rw [hcd] at w3
                      obtain ⟨cI, kI, i1, i2, i3, i4, -⟩ := Cond.instantiable_spec (mvT hZ w3 (args := args) : (Jvm.Cond.instantiable y.name.cls cd.2.1).before args s = true)
                      have hsel := selects_self_of_private (args := args) i1 i2 (by simp at i4; exact i4.1) (Cond.privateMethod_at (mvP hZ w2 (args := #[]))) (mvT hZ w1) hMH
                      obtain ⟨cq, hq1, hq2⟩ := q2.cell
                      obtain ⟨v1', _, ⟨T2, L2, k2', n2⟩, -, X2, ⟨Lc, hQ, l2, y2, z2⟩, st2⟩ := X.privateBack hx (y := y.name) hown (mvT hZ wl) (mvT hZ w1) hsel (Cond.privateMethod_at (mvP hZ w2 (args := #[]))) (mvT hZ wcode) hMH back (g := mkF m pc A Sc) rfl (by rw [hml]; exact hL.1.trans hLl) (Steps.refl _) (a := ad) hq1 hq2 (argsL := ws') (rest := rc) (fun sig q => by rw [hpar sig q]; simp [hna] at hwl; omega) hst hWW (dec hby) (fun _ _ => ⟨rfl, rfl, hcR, hsR⟩)
                      dsimp only [Pt.U, Pt.locs, Pt.cells, Pt.slots] at X2 l2 y2 z2 st2 hQ
                      subst l2 y2 z2
                      exact fin v1' T2 Lc X2 hQ fun t z => st2.trans z
                    · have w1 := wmore (.declares y.name) (by rw [if_neg hk0, if_neg hk1, if_neg hk2]; simp)
                      have w2 := wmore (.selects y.name.cls y.name y.name) (by rw [if_neg hk0, if_neg hk1, if_neg hk2]; simp)
                      have w3 := wmore (.instanceMethod y.name) (by rw [if_neg hk0, if_neg hk1, if_neg hk2]; simp)
                      obtain ⟨cq, kq, qa, qb, qc⟩ := isOf hZ rfl q2
                      obtain ⟨v1', _, ⟨T2, L2, k2', n2⟩, -, X2, ⟨Lc, hQ, l2, y2, z2⟩, st2⟩ := X.virtualBack hx (y := y.name) (z := y.name) hown (mvT hZ wl) (mvT hZ w1) (notFace_of_selects (args := #[]) (mvT hZ w2)) (mvT hZ w2) (mvT hZ w3) hMH back qa qc (g := mkF m pc A Sc) rfl (by rw [hml]; exact hL.1.trans hLl) (Steps.refl _) (argsL := ws') (rest := rc) (fun sig q => by rw [hpar sig q]; simp [hna] at hwl; omega) hst hWW (dec hby) (fun _ _ => ⟨rfl, rfl, hcR, hsR⟩)
                      dsimp only [Pt.U, Pt.locs, Pt.cells, Pt.slots] at X2 l2 y2 z2 st2 hQ
                      subst l2 y2 z2
                      exact fin v1' T2 Lc X2 hQ fun t z => st2.trans z
                  · cases hrecv
                · cases hrecv
              | _ => simp [isInv] at hinv
            · cases h
          · cases h
      · split at h
        · split at h
          · rename_i S1 H1 k1' hxN
            obtain ⟨c0, s0, hcon, rfl, rfl⟩ := res_ext (α := Unit) h
            have m3 := ih mi (pc + len) _ S1 H1 v H' c0 s0 hcon d hmi
            intro p e R s m args below meth c T locs cells slots X cx k1 k2 ρ A Sc hL hLl hS hH hF
            have cx0 := cx
            obtain ⟨hx, hZ, hby, hml, hown, hnm, hret, hlk, hrf, hrw⟩ := cx
            obtain ⟨T2, ad, Sc2, X2, hS2, hH2, st2⟩ := stepN (A := A) X hx hZ hown hP hW hdm hit (dec hby) hlenOk hS hH hxN (by omega) (by omega)
            have := m3 p e R s m args below meth c T2 locs _ _ X2 cx0 (by omega) (by omega) (ρ ++ [ad]) A Sc2 (hL.forget er).mono (by rw [forget_len]; exact hLl) hS2 hH2 hF
            have q1 : cells + 1 + c0 = cells + (c0 + 1) := by omega
            have q2 : slots + k1' + s0 = slots + (s0 + k1') := by omega
            rw [q1, q2] at this
            exact this.step st2
          · cases h
        · split at h
          · rename_i L1 S1 H1 hxI
            have m3 := ih mi (pc + len) L1 S1 H1 v H' kc ks h d hmi
            intro p e R s m args below meth c T locs cells slots X cx k1 k2 ρ A Sc hL hLl hS hH hF
            have cx0 := cx
            obtain ⟨hx, hZ, hby, hml, hown, hnm, hret, hlk, hrf, hrw⟩ := cx
            obtain ⟨T2, locs2, A2, Sc2, X2, x3, hL2, hS2, hH2, hF2, st2⟩ := stepX X hx hZ hown hnm hP hW hdm hit (dec hby) hlenOk (hL.forget er) hS hH hF hxI
            have := m3 p e R s m args below meth c T2 locs2 cells slots X2 cx0 k1 k2 ρ A2 Sc2 hL2 (by rw [x3, forget_len]; exact hLl) hS2 hH2 hF2
            exact Done.step (t := []) (by rw [List.append_nil]; exact this) st2
          · cases h
end Sound
end Jvm.Own
namespace Jvm.Own
open Jvm Jvm.ClassFile Sem Op Lib Jvm.Free Jvm.Stand Jvm.LawKit Jvm.RoadKit Bundle
/-! Runs of the plain machine, rule by rule -/
def OEnds (P : PD) (mi pc : Nat) (L : List Slot) (S : List Value) (H : AHeap) (r : Res) : Prop := ∃ n0, ∀ n, n0 ≤ n → exe P n mi pc L S H = some r
def plainI : Instr → Bool
  | .goto _ => false
  | .if_icmp _ _ => false
  | .ifCond _ _ => false
  | .ifnonnull _ => false
  | .ireturn => false
  | .lreturn => false
  | .return_ => false
  | .invokestatic _ => false
  | .invokespecial _ => false
  | .invokevirtual _ => false
  | .new _ => false
  | .newarray _ => false
  | _ => true
section Rules
variable {P : PD} {mi pc len a q : Nat} {er : List Bool} {b : Int} {i : Instr} {d y : MD} {L L' : List Slot} {S S' as rest : List Value} {H H' H1 : AHeap} {r : Res} {kc ks : Nat} {v : Option Value}
theorem OEnds.up (h : ∀ n, exe P n mi q L' S' H' = some r → exe P (n + 1) mi pc L S H = some r) (E : OEnds P mi q L' S' H' r) : OEnds P mi pc L S H r := by
  obtain ⟨n0, E⟩ := E
  refine ⟨n0 + 1, fun n hn => ?_⟩
  obtain ⟨k, rfl⟩ : ∃ k, n = k + 1 := ⟨n - 1, by omega⟩
  exact h k (E k (by omega))
theorem OEnds.plain (hm : P.mth[mi]? = some d) (hf : fetch d.code pc = some (i, len, er, a, b)) (hp : plainI i = true) (hx : xI P (d.name.name == "<init>") d.cid i a b (forget er L) S H = some (L', S', H')) (E : OEnds P mi (pc + len) L' S' H' r) : OEnds P mi pc L S H r := by
  refine E.up fun n h => ?_
  unfold exe
  rw [hm]
  simp only
  rw [hf]
  simp only
  split
  all_goals first | (simp [plainI] at hp; done) | skip
  have h1 : ¬ isInv i = true := by
    cases i <;> first | (simp [plainI] at hp; done) | simp [isInv]
  have h2 : ¬ isNew i = true := by
    cases i <;> first | (simp [plainI] at hp; done) | simp [isNew]
  rw [if_neg h1, if_neg h2, hx]
  exact h
theorem OEnds.goto {o : Int} (hm : P.mth[mi]? = some d) (hf : fetch d.code pc = some (.goto o, len, er, a, b)) (ht : tgt pc o = some q) (E : OEnds P mi q (forget er L) S H r) : OEnds P mi pc L S H r := by
  refine E.up fun n h => ?_
  unfold exe
  rw [hm]
  simp only
  rw [hf]
  simp only
  rw [ht]
  exact h
theorem OEnds.icmpT {o : Int} {cd : ClassFile.Cond} {x z : Int32} (hm : P.mth[mi]? = some d) (hf : fetch d.code pc = some (.if_icmp cd o, len, er, a, b)) (ht : tgt pc o = some q) (hc : if_icmp.holds cd x z = true) (E : OEnds P mi q (forget er L) S H r) : OEnds P mi pc L (.int z :: .int x :: S) H r := by
  refine E.up fun n h => ?_
  unfold exe
  rw [hm]
  simp only
  rw [hf]
  simp only
  rw [if_pos hc, ht]
  exact h
theorem OEnds.icmpF {o : Int} {cd : ClassFile.Cond} {x z : Int32} (hm : P.mth[mi]? = some d) (hf : fetch d.code pc = some (.if_icmp cd o, len, er, a, b)) (hc : if_icmp.holds cd x z = false) (E : OEnds P mi (pc + 3) (forget er L) S H r) : OEnds P mi pc L (.int z :: .int x :: S) H r := by
  refine E.up fun n h => ?_
  unfold exe
  rw [hm]
  simp only
  rw [hf]
  simp only
  rw [if_neg (by rw [hc]; exact Bool.false_ne_true)]
  exact h
theorem OEnds.ifT {o : Int} {cd : ClassFile.Cond} {x : Int32} (hm : P.mth[mi]? = some d) (hf : fetch d.code pc = some (.ifCond cd o, len, er, a, b)) (ht : tgt pc o = some q) (hc : if_icmp.holds cd x 0 = true) (E : OEnds P mi q (forget er L) S H r) : OEnds P mi pc L (.int x :: S) H r := by
  refine E.up fun n h => ?_
  unfold exe
  rw [hm]
  simp only
  rw [hf]
  simp only
  rw [if_pos ((if0 cd x).trans hc), ht]
  exact h
theorem OEnds.ifF {o : Int} {cd : ClassFile.Cond} {x : Int32} (hm : P.mth[mi]? = some d) (hf : fetch d.code pc = some (.ifCond cd o, len, er, a, b)) (hc : if_icmp.holds cd x 0 = false) (E : OEnds P mi (pc + 3) (forget er L) S H r) : OEnds P mi pc L (.int x :: S) H r := by
  refine E.up fun n h => ?_
  unfold exe
  rw [hm]
  simp only
  rw [hf]
  simp only
  rw [if_neg (by rw [if0 cd x, hc]; exact Bool.false_ne_true)]
  exact h
theorem OEnds.nonnull {o : Int} {x : Nat} (hm : P.mth[mi]? = some d) (hf : fetch d.code pc = some (.ifnonnull o, len, er, a, b)) (ht : tgt pc o = some q) (E : OEnds P mi q (forget er L) S H r) : OEnds P mi pc L (.ref x :: S) H r := by
  refine E.up fun n h => ?_
  unfold exe
  rw [hm]
  simp only
  rw [hf]
  simp only
  rw [ht]
  exact h
theorem OEnds.iret {x : Int32} {u : Value} (hm : P.mth[mi]? = some d) (hf : fetch d.code pc = some (.ireturn, len, er, a, b)) (hv : retV d.ret x = some u) : OEnds P mi pc L [.int x] H (some u, H, 0, 0) := by
  refine ⟨1, fun n hn => ?_⟩
  obtain ⟨k, rfl⟩ : ∃ k, n = k + 1 := ⟨n - 1, by omega⟩
  unfold exe
  rw [hm]
  simp only
  rw [hf]
  simp only
  rw [hv]
theorem OEnds.lret {x : Int64} (hm : P.mth[mi]? = some d) (hf : fetch d.code pc = some (.lreturn, len, er, a, b)) (hv : d.ret = some .long) : OEnds P mi pc L [.long x] H (some (.long x), H, 0, 0) := by
  refine ⟨1, fun n hn => ?_⟩
  obtain ⟨k, rfl⟩ : ∃ k, n = k + 1 := ⟨n - 1, by omega⟩
  unfold exe
  rw [hm]
  simp only
  rw [hf]
  simp only
  rw [if_pos hv]
theorem OEnds.vret (hm : P.mth[mi]? = some d) (hf : fetch d.code pc = some (.return_, len, er, a, b)) (hv : d.ret = none) : OEnds P mi pc L [] H (none, H, 0, 0) := by
  refine ⟨1, fun n hn => ?_⟩
  obtain ⟨k, rfl⟩ : ∃ k, n = k + 1 := ⟨n - 1, by omega⟩
  unfold exe
  rw [hm]
  simp only
  rw [hf]
  simp only
  rw [if_pos hv]
theorem OEnds.oinit {k x : Nat} (hm : P.mth[mi]? = some d) (hf : fetch d.code pc = some (.invokespecial k, len, er, a, -1)) (hr : 1 ≤ d.rf ∧ catSum S + 12 ≤ d.rw) (E : OEnds P mi (pc + 3) (forget er L) S H r) : OEnds P mi pc L (.ref x :: S) H r := by
  refine E.up fun n h => ?_
  unfold exe
  rw [hm]
  simp only
  rw [hf]
  simp only [isInv, if_true]
  rw [if_pos hr]
  exact h
theorem OEnds.call (hm : P.mth[mi]? = some d) (hf : fetch d.code pc = some (i, len, er, a, b)) (hi : isInv i = true) (hb : ¬ b = -1) (hy : P.mth[a]? = some y) (hao : argsOf (nargs y) S = some (as, rest))
    (hc : (decide (0 < a) && invKind i y.kind && recvOk P H y as && fitsRoom d y rest && decide ((entA as).length ≤ y.maxL)) = true) (E1 : OEnds P a 0 (entL as y.maxL) [] H (v, H1, kc, ks)) (E2 : OEnds P mi (pc + 3) (forget er L) (v.toList ++ rest) H1 r) : OEnds P mi pc L S H (addR r kc ks) := by
  obtain ⟨n1, E1⟩ := E1
  obtain ⟨n2, E2⟩ := E2
  refine ⟨n1 + n2 + 1, fun n hn => ?_⟩
  obtain ⟨k, rfl⟩ : ∃ k, n = k + 1 := ⟨n - 1, by omega⟩
  have e1 := E1 k (by omega)
  have e2 := E2 k (by omega)
  unfold exe
  rw [hm]
  simp only
  rw [hf]
  simp only
  split
  all_goals first | (simp [isInv] at hi; done) | skip
  rw [if_pos hi, if_neg hb, hy]
  simp only
  rw [hao]
  simp only
  rw [if_pos hc, e1]
  simp only
  rw [e2]
  rfl
theorem OEnds.call0 (hm : P.mth[mi]? = some d) (hf : fetch d.code pc = some (i, len, er, a, b)) (hi : isInv i = true) (hb : ¬ b = -1) (hy : P.mth[a]? = some y) (hao : argsOf (nargs y) S = some (as, rest))
    (hc : (decide (0 < a) && invKind i y.kind && recvOk P H y as && fitsRoom d y rest && decide ((entA as).length ≤ y.maxL)) = true) (E1 : OEnds P a 0 (entL as y.maxL) [] H (v, H1, 0, 0)) (E2 : OEnds P mi (pc + 3) (forget er L) (v.toList ++ rest) H1 r) : OEnds P mi pc L S H r :=
  OEnds.call (r := r) hm hf hi hb hy hao hc E1 E2
theorem OEnds.made (hm : P.mth[mi]? = some d) (hf : fetch d.code pc = some (i, len, er, a, b)) (hi : isNew i = true) (hx : xN P i a S H = some (S', H', ks)) (E : OEnds P mi (pc + len) (forget er L) S' H' r) : OEnds P mi pc L S H (addR r 1 ks) := by
  obtain ⟨n0, E⟩ := E
  refine ⟨n0 + 1, fun n hn => ?_⟩
  obtain ⟨k, rfl⟩ : ∃ k, n = k + 1 := ⟨n - 1, by omega⟩
  have e1 := E k (by omega)
  unfold exe
  rw [hm]
  simp only
  rw [hf]
  simp only
  split
  all_goals first | (simp [isNew] at hi; done) | skip
  have h1 : ¬ isInv i = true := by
    cases i <;> first | (simp [isNew] at hi; done) | simp [isInv]
  rw [if_neg h1, if_pos hi, hx]
  simp only
  rw [e1]
  rfl
end Rules
/-- k plain instructions and jumps in one go -/
def adv (P : PD) (d : MD) : Nat → Nat → List Slot → List Value → AHeap → Option (Nat × List Slot × List Value × AHeap)
  | 0, pc, L, S, H => some (pc, L, S, H)
  | k + 1, pc, L, S, H => match fetch d.code pc with
    | some (i, len, er, a, b) => match i with
      | .goto o => match tgt pc o with
        | some q => adv P d k q (forget er L) S H
        | none => none
      | i => if plainI i = true then match xI P (d.name.name == "<init>") d.cid i a b (forget er L) S H with
          | some (L', S', H') => adv P d k (pc + len) L' S' H'
          | none => none
        else none
    | none => none
theorem OEnds.adv {P : PD} {mi : Nat} {d : MD} (hm : P.mth[mi]? = some d) {r : Res} : ∀ (k : Nat) {pc pc' : Nat} {L L' : List Slot} {S S' : List Value} {H H' : AHeap}, adv P d k pc L S H = some (pc', L', S', H') → OEnds P mi pc' L' S' H' r → OEnds P mi pc L S H r
  | 0, _, _, _, _, _, _, _, _, h, E => by
    unfold Own.adv at h
    cases h
    exact E
  | k + 1, pc, pc', L, L', S, S', H, H', h, E => by
    unfold Own.adv at h
    split at h
    · rename_i it i len er a b hf
      split at h
      · rename_i o
        split at h
        · rename_i q hq
          exact OEnds.goto hm hf hq (OEnds.adv hm k h E)
        · cases h
      · split at h
        · rename_i hp
          split at h
          · rename_i L1 S1 H1 hx
            exact OEnds.plain hm hf hp hx (OEnds.adv hm k h E)
          · cases h
        · cases h
    · cases h
theorem x_iaload {P : PD} {ini : Bool} {cid a o : Nat} {b : Int} {L : List Slot} {S : List Value} {H : AHeap} {A : List Int32} {j x : Int32} (h : H[o]? = some (.inr (.inl (false, A)))) (hx : rdA A j = some x) : xI P ini cid .iaload a b L (.int j :: .ref o :: S) H = some (L, .int x :: S, H) := by simp [xI, h, hx]
theorem x_baload {P : PD} {ini : Bool} {cid a o : Nat} {b : Int} {L : List Slot} {S : List Value} {H : AHeap} {A : List Int32} {j x : Int32} (h : H[o]? = some (.inr (.inl (true, A)))) (hx : rdA A j = some x) : xI P ini cid .baload a b L (.int j :: .ref o :: S) H = some (L, .int x :: S, H) := by simp [xI, h, hx]
theorem x_laload {P : PD} {ini : Bool} {cid a o : Nat} {b : Int} {L : List Slot} {S : List Value} {H : AHeap} {A : List Int64} {j : Int32} {x : Int64} (h : H[o]? = some (.inr (.inr A))) (hx : rdA A j = some x) : xI P ini cid .laload a b L (.int j :: .ref o :: S) H = some (L, .long x :: S, H) := by simp [xI, h, hx]
theorem x_iastore {P : PD} {ini : Bool} {cid a o : Nat} {b : Int} {L : List Slot} {S : List Value} {H : AHeap} {A A' : List Int32} {j x : Int32} (h : H[o]? = some (.inr (.inl (false, A)))) (hn : P.nr ≤ o) (hx : wrA A j x = some A') : xI P ini cid .iastore a b L (.int x :: .int j :: .ref o :: S) H = some (L, S, H.set o (.inr (.inl (false, A')))) := by simp [xI, h, hx, hn]
theorem x_bastore {P : PD} {ini : Bool} {cid a o : Nat} {b : Int} {L : List Slot} {S : List Value} {H : AHeap} {A A' : List Int32} {j x : Int32} (h : H[o]? = some (.inr (.inl (true, A)))) (hn : P.nr ≤ o) (hx : wrA A j (x &&& 1) = some A') : xI P ini cid .bastore a b L (.int x :: .int j :: .ref o :: S) H = some (L, S, H.set o (.inr (.inl (true, A')))) := by simp [xI, h, hx, hn]
theorem x_lastore {P : PD} {ini : Bool} {cid a o : Nat} {b : Int} {L : List Slot} {S : List Value} {H : AHeap} {A A' : List Int64} {j : Int32} {x : Int64} (h : H[o]? = some (.inr (.inr A))) (hn : P.nr ≤ o) (hx : wrA A j x = some A') : xI P ini cid .lastore a b L (.long x :: .int j :: .ref o :: S) H = some (L, S, H.set o (.inr (.inr A'))) := by simp [xI, h, hx, hn]
theorem x_irem {P : PD} {ini : Bool} {cid a : Nat} {b : Int} {L : List Slot} {S : List Value} {H : AHeap} {x y : Int32} (h : ¬ y = 0) : xI P ini cid .irem a b L (.int y :: .int x :: S) H = some (L, .int (x % y) :: S, H) := by simp [xI, h]
theorem x_idiv {P : PD} {ini : Bool} {cid a : Nat} {b : Int} {L : List Slot} {S : List Value} {H : AHeap} {x y : Int32} (h : ¬ y = 0) : xI P ini cid .idiv a b L (.int y :: .int x :: S) H = some (L, .int (x / y) :: S, H) := by simp [xI, h]
theorem x_lrem {P : PD} {ini : Bool} {cid a : Nat} {b : Int} {L : List Slot} {S : List Value} {H : AHeap} {x y : Int64} (h : ¬ y = 0) : xI P ini cid .lrem a b L (.long y :: .long x :: S) H = some (L, .long (x % y) :: S, H) := by simp [xI, h]
theorem x_ldiv {P : PD} {ini : Bool} {cid a : Nat} {b : Int} {L : List Slot} {S : List Value} {H : AHeap} {x y : Int64} (h : ¬ y = 0) : xI P ini cid .ldiv a b L (.long y :: .long x :: S) H = some (L, .long (x / y) :: S, H) := by simp [xI, h]
theorem c_lt {x y : Int64} : XT.cmpL x y < 0 ↔ x < y := by
  unfold XT.cmpL; split <;> (try split) <;> simp_all [Int64.lt_iff_toInt_lt, ← Int64.toInt_inj] <;> omega
theorem c_gt {x y : Int64} : 0 < XT.cmpL x y ↔ y < x := by
  unfold XT.cmpL; split <;> (try split) <;> simp_all [Int64.lt_iff_toInt_lt, ← Int64.toInt_inj] <;> omega
theorem c_eq {x y : Int64} : XT.cmpL x y = 0 ↔ x = y := by
  unfold XT.cmpL; split <;> (try split) <;> simp_all [Int64.lt_iff_toInt_lt, ← Int64.toInt_inj] <;> omega
end Jvm.Own
namespace Jvm.Own
open Jvm Jvm.ClassFile Sem Op Lib Jvm.Free Jvm.Stand Jvm.LawKit Jvm.RoadKit Bundle
theorem bnd {α β : Type} {o : Option α} {f : α → Option β} {b : β} (h : o.bind f = some b) : ∃ a, o = some a ∧ f a = some b := Option.bind_eq_some_iff.mp h
theorem x_putZ {P : PD} {ini : Bool} {k cid a o : Nat} {b : Int} {L : List Slot} {S : List Value} {H : AHeap} {fs : List Value} {nm ds : String} {x : Int32} (h : H[o]? = some (.inl (cid, fs))) (hn : P.nr ≤ o) (hf : ((P.cls[cid]?).bind fun cd => cd.2.2[a]?) = some (nm, ds, .boolean, false)) (hx : x = 0 ∨ x = 1) :
    xI P ini cid (.putfield k) a b L (.int x :: .ref o :: S) H = some (L, S, H.set o (.inl (cid, fs.set a (.int x)))) := by
  rcases hx with rfl | rfl <;> simp [xI, h, hn, hf, putOk]
section Rules
variable {P : PD} {mi pc len a q : Nat} {er : List Bool} {b : Int} {i : Instr} {d y : MD} {L L' : List Slot} {S S' as rest : List Value} {H H' H1 : AHeap} {r : Res} {kc ks : Nat} {v : Option Value}
theorem OEnds.made1 {w : Option Value} {Hf : AHeap} (hm : P.mth[mi]? = some d) (hf : fetch d.code pc = some (i, len, er, a, b)) (hi : isNew i = true) (hx : xN P i a S H = some (S', H', ks)) {c0 s0 c1 s1 : Nat} (hr : (c1, s1) = (c0 + 1, s0 + ks)) (E : OEnds P mi (pc + len) (forget er L) S' H' (w, Hf, c0, s0)) : OEnds P mi pc L S H (w, Hf, c1, s1) := by
  cases hr
  exact OEnds.made (r := (w, Hf, c0, s0)) hm hf hi hx E
/-! The same, of a run whose end is told by a property -/
def OEndsQ (P : PD) (mi pc : Nat) (L : List Slot) (S : List Value) (H : AHeap) (Q : Res → Prop) : Prop := ∃ r, OEnds P mi pc L S H r ∧ Q r
variable {Q : Res → Prop}
theorem OEndsQ.plain (hm : P.mth[mi]? = some d) (hf : fetch d.code pc = some (i, len, er, a, b)) (hp : plainI i = true) (hx : xI P (d.name.name == "<init>") d.cid i a b (forget er L) S H = some (L', S', H')) (E : OEndsQ P mi (pc + len) L' S' H' Q) : OEndsQ P mi pc L S H Q := by
  obtain ⟨r, E, hq⟩ := E; exact ⟨r, OEnds.plain hm hf hp hx E, hq⟩
theorem OEndsQ.icmpT {o : Int} {cd : ClassFile.Cond} {x z : Int32} (hm : P.mth[mi]? = some d) (hf : fetch d.code pc = some (.if_icmp cd o, len, er, a, b)) (ht : tgt pc o = some q) (hc : if_icmp.holds cd x z = true) (E : OEndsQ P mi q (forget er L) S H Q) : OEndsQ P mi pc L (.int z :: .int x :: S) H Q := by
  obtain ⟨r, E, hq⟩ := E; exact ⟨r, OEnds.icmpT hm hf ht hc E, hq⟩
theorem OEndsQ.icmpF {o : Int} {cd : ClassFile.Cond} {x z : Int32} (hm : P.mth[mi]? = some d) (hf : fetch d.code pc = some (.if_icmp cd o, len, er, a, b)) (hc : if_icmp.holds cd x z = false) (E : OEndsQ P mi (pc + 3) (forget er L) S H Q) : OEndsQ P mi pc L (.int z :: .int x :: S) H Q := by
  obtain ⟨r, E, hq⟩ := E; exact ⟨r, OEnds.icmpF hm hf hc E, hq⟩
theorem OEndsQ.ifT {o : Int} {cd : ClassFile.Cond} {x : Int32} (hm : P.mth[mi]? = some d) (hf : fetch d.code pc = some (.ifCond cd o, len, er, a, b)) (ht : tgt pc o = some q) (hc : if_icmp.holds cd x 0 = true) (E : OEndsQ P mi q (forget er L) S H Q) : OEndsQ P mi pc L (.int x :: S) H Q := by
  obtain ⟨r, E, hq⟩ := E; exact ⟨r, OEnds.ifT hm hf ht hc E, hq⟩
theorem OEndsQ.ifF {o : Int} {cd : ClassFile.Cond} {x : Int32} (hm : P.mth[mi]? = some d) (hf : fetch d.code pc = some (.ifCond cd o, len, er, a, b)) (hc : if_icmp.holds cd x 0 = false) (E : OEndsQ P mi (pc + 3) (forget er L) S H Q) : OEndsQ P mi pc L (.int x :: S) H Q := by
  obtain ⟨r, E, hq⟩ := E; exact ⟨r, OEnds.ifF hm hf hc E, hq⟩
theorem OEndsQ.nonnull {o : Int} {x : Nat} (hm : P.mth[mi]? = some d) (hf : fetch d.code pc = some (.ifnonnull o, len, er, a, b)) (ht : tgt pc o = some q) (E : OEndsQ P mi q (forget er L) S H Q) : OEndsQ P mi pc L (.ref x :: S) H Q := by
  obtain ⟨r, E, hq⟩ := E; exact ⟨r, OEnds.nonnull hm hf ht E, hq⟩
theorem OEndsQ.call0 (hm : P.mth[mi]? = some d) (hf : fetch d.code pc = some (i, len, er, a, b)) (hi : isInv i = true) (hb : ¬ b = -1) (hy : P.mth[a]? = some y) (hao : argsOf (nargs y) S = some (as, rest))
    (hc : (decide (0 < a) && invKind i y.kind && recvOk P H y as && fitsRoom d y rest && decide ((entA as).length ≤ y.maxL)) = true) (E1 : OEnds P a 0 (entL as y.maxL) [] H (v, H1, 0, 0)) (E2 : OEndsQ P mi (pc + 3) (forget er L) (v.toList ++ rest) H1 Q) : OEndsQ P mi pc L S H Q := by
  obtain ⟨r, E, hq⟩ := E2; exact ⟨r, OEnds.call0 hm hf hi hb hy hao hc E1 E, hq⟩
theorem OEndsQ.adv (hm : P.mth[mi]? = some d) (k : Nat) {pc' : Nat} (h : adv P d k pc L S H = some (pc', L', S', H')) (E : OEndsQ P mi pc' L' S' H' Q) : OEndsQ P mi pc L S H Q := by
  obtain ⟨r, E, hq⟩ := E; exact ⟨r, OEnds.adv hm k h E, hq⟩
/-- what a law's run ends with: its answer, and at the most so many cells and slots made -/
def LawQ (x : Int32) (kc ks : Nat) (r : Res) : Prop := r.1 = some (.int x) ∧ r.2.2.1 ≤ kc ∧ r.2.2.2 ≤ ks
theorem OEndsQ.iret {x u : Int32} (hm : P.mth[mi]? = some d) (hf : fetch d.code pc = some (.ireturn, len, er, a, b)) (hv : retV d.ret x = some (.int u)) : OEndsQ P mi pc L [.int x] H (LawQ u kc ks) :=
  ⟨_, OEnds.iret hm hf hv, rfl, Nat.zero_le _, Nat.zero_le _⟩
theorem OEndsQ.weak {x : Int32} {c0 s0 : Nat} (h1 : c0 ≤ kc) (h2 : s0 ≤ ks) (E : OEndsQ P mi pc L S H (LawQ x c0 s0)) : OEndsQ P mi pc L S H (LawQ x kc ks) := by
  obtain ⟨r, E, q1, q2, q3⟩ := E; exact ⟨r, E, q1, Nat.le_trans q2 h1, Nat.le_trans q3 h2⟩
theorem OEndsQ.made {x : Int32} {c0 s0 c1 s1 : Nat} (hm : P.mth[mi]? = some d) (hf : fetch d.code pc = some (i, len, er, a, b)) (hi : isNew i = true) (hx : xN P i a S H = some (S', H', ks)) (h1 : c0 + 1 ≤ c1) (h2 : s0 + ks ≤ s1) (E : OEndsQ P mi (pc + len) (forget er L) S' H' (LawQ x c0 s0)) : OEndsQ P mi pc L S H (LawQ x c1 s1) := by
  obtain ⟨⟨v, Hf, k, n⟩, E, q1, q2, q3⟩ := E
  dsimp only at q1 q2 q3
  exact ⟨_, OEnds.made hm hf hi hx E, q1, by show k + 1 ≤ c1; omega, by show n + ks ≤ s1; omega⟩
theorem OEndsQ.callN {x : Int32} {c0 s0 c1 s1 : Nat} (hm : P.mth[mi]? = some d) (hf : fetch d.code pc = some (i, len, er, a, b)) (hi : isInv i = true) (hb : ¬ b = -1) (hy : P.mth[a]? = some y) (hao : argsOf (nargs y) S = some (as, rest))
    (hc : (decide (0 < a) && invKind i y.kind && recvOk P H y as && fitsRoom d y rest && decide ((entA as).length ≤ y.maxL)) = true) (E1 : OEnds P a 0 (entL as y.maxL) [] H (v, H1, kc, ks)) (h1 : c0 + kc ≤ c1) (h2 : s0 + ks ≤ s1) (E2 : OEndsQ P mi (pc + 3) (forget er L) (v.toList ++ rest) H1 (LawQ x c0 s0)) : OEndsQ P mi pc L S H (LawQ x c1 s1) := by
  obtain ⟨⟨v, Hf, k, n⟩, E, q1, q2, q3⟩ := E2
  dsimp only at q1 q2 q3
  exact ⟨_, OEnds.call hm hf hi hb hy hao hc E1 E, q1, by show k + kc ≤ c1; omega, by show n + ks ≤ s1; omega⟩
end Rules
/-! From the machine to the claim -/
theorem law_met {P : PD} {Z : State} {a0 : Array Value} {l : Launch} {y : MD} {as ws : List Value} {H : AHeap} {ρ : List Addr} {n0 kc ks : Nat} {h : Heap} (hP : chk P = true) (hW : ∀ w ∈ wordsOf P, w.before a0 Z = true) (hy : P.mth[0]? = some y)
    (E : OEndsQ P 0 0 (entL as y.maxL) [] H (LawQ 1 kc ks)) (hS : SR ρ as ws) (hlen : (entA as).length ≤ y.maxL) (hH : HR P Z n0 h ρ H) (w0 : List Jvm.Cond) (rm : Room) (r1 : y.rf ≤ rm.frames) (r2 : y.rw ≤ rm.locals) (r3 : kc ≤ rm.cells) (r4 : ks ≤ rm.slots) :
    MetFree l y.name (head1 (Jvm.Cond.code y.name y.bytes y.maxL y.ret :: w0) rm) (fun a U => a = ws.toArray ∧ Z.Warmed39 U.vm ∧ U.heap = h) (fun _ _ _ _ _ => True)
      (fun _ U o U' => ∃ L, o = .returned (some (.int 1)) ∧ Fr n0 L ∧ FrameEnd U o U' L kc ks) := by
  obtain ⟨⟨v, H1, c1, s1⟩, ⟨n, E⟩, q1, q2, q3⟩ := E
  dsimp only at q1 q2 q3
  subst q1
  have hpn : plainName y.name.cls = true := by
    have := mChk_of hP (List.mem_of_getElem? hy)
    simp only [mChk, Bool.and_eq_true] at this
    exact this.1.1.1.1.1.1
  have M := met_of (l := l) (n := n) (sound hP hW n) hy hpn (E n (Nat.le_refl _)) hS hlen hH w0 rm r1 r2 (Nat.le_trans q2 r3) (Nat.le_trans q3 r4)
  intro p e ha hc hk s m args below hf happ hp hK
  obtain ⟨n', o, h1, h2, h3, v', L, rfl, ⟨hF, t, ⟨u, rfl, hu⟩, -⟩, hq⟩ := M p e ha hc hk s m args below hf happ hp hK
  obtain rfl : u = .int 1 := hu
  exact ⟨n', _, h1, h2, h3, L, rfl, hF, hq.1, hq.2.1, hq.2.2.mono q2 q3⟩
end Jvm.Own
namespace Jvm.Own
open Jvm Jvm.ClassFile Sem Op Lib Jvm.Free Jvm.Stand Jvm.LawKit Jvm.RoadKit Bundle
/-- the law's script: an int array of at most 260 -/
theorem script_of {s : State} {ad : Addr} {cl : Cell} (hf : Fit s) (A : Arr s s.heap ad cl .int) (e0 : (Term.arg 0).eval #[.ref ad] s none [] s = some (.ref ad)) (hn : (Jvm.Cond.le (.length (.arg 0)) (.int 260)).value #[.ref ad] s none s [] = some true) :
    ∃ scr : List Int32, cl.slots.size = scr.length ∧ scr.length ≤ 260 ∧ ∀ (i : Nat) x, scr[i]? = some x → cl.slots[i]? = some (.int x) := by
  obtain ⟨u, v, g1, g2, -, -⟩ := cmp_v (Or.inr (Or.inr hn))
  obtain ⟨a', cl', z1, z2, z3⟩ := Term.length_spec g1
  have hat := A.fin (Vm.Alike.refl _)
  rw [e0] at z1
  cases z1
  rw [hat] at z2
  cases z2
  have hsz : cl.slots.size < 2 ^ 31 := by
    rcases Nat.lt_or_ge cl.slots.size (2 ^ 31) with q | q
    · exact q
    · exfalso
      simp [Term.eval, hat] at g1
      omega
  subst z3
  have hv : v = .int 260 := by simpa [Term.eval] using g2.symm
  subst hv
  have hle : cl.slots.size.toInt32 ≤ 260 := by
    simpa [Cond.value, g1, g2] using hn
  have hle' : cl.slots.size ≤ 260 := by
    rw [Int32.le_iff_toInt_le, len_toInt hsz] at hle
    have : (260 : Int32).toInt = 260 := rfl
    rw [this] at hle
    omega
  have key : ∀ i, i < cl.slots.size → ∃ x, cl.slots[i]? = some (.int x) := fun i hi => by
    have hj := idx_in hi hsz
    obtain ⟨v, e1, e2⟩ := elem_fit hf A hj
    have : i.toInt32.toNatClampNeg = i := by
      have h1 : i.toInt32.toInt = i := len_toInt (by omega)
      simp [Int32.toNatClampNeg, h1]
    rw [this] at e1
    obtain ⟨x, rfl⟩ := fit_I e2 (Or.inl rfl)
    exact ⟨x, e1⟩
  refine ⟨cl.slots.toList.map fun v => match v with | .int x => x | _ => 0, by simp, by simpa using hle', fun i x hx => ?_⟩
  rw [List.getElem?_map] at hx
  obtain ⟨v, h1, h2⟩ := Option.map_eq_some_iff.mp hx
  have h1' : cl.slots[i]? = some v := by simpa using h1
  obtain ⟨y, hy⟩ := key i (Array.getElem?_eq_some_iff.mp h1').1
  rw [h1'] at hy
  cases hy
  rw [h1']
  simp at h2
  rw [h2]
theorem hr_script {P : PD} {s : State} {ad : Addr} {cl : Cell} {scr : List Int32} (hnr : P.nr = 1) (A : Arr s s.heap ad cl .int) (h1 : cl.slots.size = scr.length) (h2 : scr.length ≤ 260) (h3 : ∀ (i : Nat) x, scr[i]? = some x → cl.slots[i]? = some (.int x)) : HR P s s.heap.size s.heap [ad] [.inr (.inl (false, scr))] := by
  refine ⟨Nat.le_refl _, rfl, fun i j a g1 g2 => ?_, fun k a g1 g2 => ?_, fun k a c g1 g2 => ?_⟩
  · match i, j, g1, g2 with
    | 0, 0, _, _ => rfl
    | i + 1, _, g1, _ => simp at g1
    | 0, j + 1, _, g2 => simp at g2
  · match k, g1, g2 with
    | 0, _, g2 => rw [hnr] at g2; omega
    | k + 1, g1, _ => simp at g1
  · match k, g1, g2 with
    | 0, g1, g2 =>
      simp at g1 g2
      subst g1 g2
      exact ⟨cl, A, h1, by omega, h3⟩
    | k + 1, g1, _ => simp at g1
end Jvm.Own
namespace Jvm.Own
open Jvm
/-! Ints in range, arrays -/
theorem ilt {a b : Int32} : a < b ↔ a.toInt < b.toInt := Int32.lt_iff_toInt_lt
theorem ile {a b : Int32} : a ≤ b ↔ a.toInt ≤ b.toInt := Int32.le_iff_toInt_le
theorem ieq {a b : Int32} : a = b ↔ a.toInt = b.toInt := Int32.toInt_inj.symm
theorem irng (a : Int32) : -2147483648 ≤ a.toInt ∧ a.toInt < 2147483648 := ⟨Int32.le_toInt a, Int32.toInt_lt a⟩
theorem iadd_i {a b : Int32} (h1 : -2147483648 ≤ a.toInt + b.toInt) (h2 : a.toInt + b.toInt < 2147483648) : (a + b).toInt = a.toInt + b.toInt := by
  rw [Int32.toInt_add]; exact Int.bmod_eq_of_le (by omega) (by omega)
theorem isub_i {a b : Int32} (h1 : -2147483648 ≤ a.toInt - b.toInt) (h2 : a.toInt - b.toInt < 2147483648) : (a - b).toInt = a.toInt - b.toInt := by
  rw [Int32.toInt_sub]; exact Int.bmod_eq_of_le (by omega) (by omega)
theorem imul_i {a b : Int32} (h1 : -2147483648 ≤ a.toInt * b.toInt) (h2 : a.toInt * b.toInt < 2147483648) : (a * b).toInt = a.toInt * b.toInt := by
  rw [Int32.toInt_mul]; exact Int.bmod_eq_of_le (by omega) (by omega)
theorem rdA_nn {α : Type} {L : List α} {j : Int32} (h0 : 0 ≤ j.toInt) : rdA L j = L[j.toInt.toNat]? := by
  unfold rdA
  rw [if_neg (by rw [ilt]; exact Int.not_lt.mpr h0)]
  rfl
theorem rdA_in {α : Type} {L : List α} {j : Int32} (h0 : 0 ≤ j.toInt) (h1 : j.toInt.toNat < L.length) : rdA L j = some L[j.toInt.toNat] := by
  rw [rdA_nn h0, List.getElem?_eq_getElem h1]
theorem wrA_in {α : Type} {L : List α} {j : Int32} {x : α} (h0 : 0 ≤ j.toInt) (h1 : j.toInt.toNat < L.length) : wrA L j x = some (L.set j.toInt.toNat x) := by
  unfold wrA
  rw [if_neg (by rw [ilt]; exact Int.not_lt.mpr h0)]
  exact if_pos h1
theorem rdA_rep {α : Type} {n : Nat} {x : α} {j : Int32} (h0 : 0 ≤ j.toInt) (h1 : j.toInt < n) : rdA (List.replicate n x) j = some x := by
  rw [rdA_nn h0, List.getElem?_replicate, if_pos (by omega)]
end Jvm.Own
namespace Jvm.Own
open Jvm
/-! Sums of ints with their wrap, for omega; runs that answer, and what they answer -/
theorem bmod32 (x : Int) : x.bmod (2 ^ 32) = (x + 2147483648) % 4294967296 - 2147483648 := by
  rw [Int.bmod_def]
  split <;> omega
theorem iadd_e (a b : Int32) : (a + b).toInt = (a.toInt + b.toInt + 2147483648) % 4294967296 - 2147483648 := by
  rw [Int32.toInt_add, bmod32]
theorem isub_e (a b : Int32) : (a - b).toInt = (a.toInt - b.toInt + 2147483648) % 4294967296 - 2147483648 := by
  rw [Int32.toInt_sub, bmod32]
theorem imul_e (a b : Int32) : (a * b).toInt = (a.toInt * b.toInt + 2147483648) % 4294967296 - 2147483648 := by
  rw [Int32.toInt_mul, bmod32]
theorem iscr {n : Nat} (h : n ≤ 260) : (n.toInt32).toInt = n := Int32.toInt_ofNat_of_lt (by omega)
def Tot {α : Type} (x : Option α) (P : α → Prop) : Prop := ∃ r, x = some r ∧ P r
theorem Tot.mk {α : Type} {P : α → Prop} {a : α} (h : P a) : Tot (some a) P := ⟨a, rfl, h⟩
theorem Tot.bind {α β : Type} {x : Option α} {f : α → Option β} {P : α → Prop} {Q : β → Prop} (h : Tot x P) (g : ∀ a, P a → Tot (f a) Q) : Tot (x.bind f) Q := by
  obtain ⟨r, e, p⟩ := h
  rw [e]
  exact g r p
theorem Tot.mono {α : Type} {x : Option α} {P Q : α → Prop} (h : Tot x P) (g : ∀ a, P a → Q a) : Tot x Q := by
  obtain ⟨r, e, p⟩ := h
  exact ⟨r, e, g r p⟩
theorem Tot.ite {α : Type} {c : Prop} [Decidable c] {a b : Option α} {Q : α → Prop} (h1 : c → Tot a Q) (h2 : ¬ c → Tot b Q) : Tot (if c then a else b) Q := by
  by_cases h : c
  · rw [if_pos h]; exact h1 h
  · rw [if_neg h]; exact h2 h
theorem Tot.rd {α β : Type} {L : List α} {j : Int32} {f : α → Option β} {Q : β → Prop} (h0 : 0 ≤ j.toInt) (h1 : j.toInt < L.length) (g : ∀ a, L[j.toInt.toNat]? = some a → Tot (f a) Q) : Tot ((rdA L j).bind f) Q := by
  have h2 : j.toInt.toNat < L.length := by omega
  rw [rdA_in h0 h2]
  exact g _ (List.getElem?_eq_getElem h2)
theorem Tot.wr {α β : Type} {L : List α} {j : Int32} {x : α} {f : List α → Option β} {Q : β → Prop} (h0 : 0 ≤ j.toInt) (h1 : j.toInt < L.length) (g : ∀ L' : List α, L' = L.set j.toInt.toNat x → L'.length = L.length → Tot (f L') Q) : Tot ((wrA L j x).bind f) Q := by
  rw [wrA_in h0 (by omega)]
  exact g _ rfl (by simp)
theorem Tot.eq {α : Type} {x : Option α} {a : α} (h : Tot x (fun r => r = a)) : x = some a := by
  obtain ⟨r, e, p⟩ := h
  rw [e, p]
theorem Tot.of {α : Type} {x : Option α} {a : α} {P : α → Prop} (e : x = some a) (p : P a) : Tot x P := ⟨a, e, p⟩
/-- a bit mask at 15, 31 .. -/
theorem iand_rng (x : Int32) (m : Int32) (h : 0 ≤ m.toInt) : 0 ≤ (x &&& m).toInt ∧ (x &&& m).toInt ≤ m.toInt := by
  have hm : m.toBitVec.msb = false := by
    rw [BitVec.msb_eq_toInt]; simpa using h
  have hx : (x &&& m).toBitVec.msb = false := by
    rw [Int32.toBitVec_and, BitVec.msb_and, hm, Bool.and_false]
  have e1 : m.toInt = (m.toBitVec.toNat : Int) := BitVec.toInt_eq_toNat_of_msb hm
  have e2 : (x &&& m).toInt = (((x &&& m).toBitVec).toNat : Int) := BitVec.toInt_eq_toNat_of_msb hx
  have e3 : ((x &&& m).toBitVec).toNat ≤ m.toBitVec.toNat := by
    rw [Int32.toBitVec_and, BitVec.toNat_and]; exact Nat.and_le_right
  omega
def gI (L : List Int32) (j : Int32) : Int32 := (rdA L j).getD 0
theorem rdg {L : List Int32} {j : Int32} (h0 : 0 ≤ j.toInt) (h1 : j.toInt < L.length) : rdA L j = some (gI L j) := by
  have h2 : j.toInt.toNat < L.length := by omega
  unfold gI
  rw [rdA_in h0 h2]
  (first | done | rfl | simp)
theorem gset {L : List Int32} {i j : Int32} {x : Int32} (hi : 0 ≤ i.toInt) (hl : i.toInt < L.length) (hj : 0 ≤ j.toInt) : gI (L.set i.toInt.toNat x) j = if i = j then x else gI L j := by
  unfold gI
  rw [rdA_nn hj, rdA_nn hj]
  by_cases h : i = j
  · subst h
    rw [if_pos rfl, List.getElem?_set_self (by omega)]
    (first | done | rfl | simp)
  · rw [if_neg h, List.getElem?_set_ne (by rw [ieq] at h; omega)]
theorem gext {A B : List Int32} (hl : A.length < 100000) (ha : A.length = B.length) (h : ∀ i : Int32, 0 ≤ i.toInt → i.toInt < A.length → gI A i = gI B i) : A = B := by
  apply List.ext_getElem ha
  intro k h1 h2
  have e : (Int32.ofNat k).toInt = k := Int32.toInt_ofNat_of_lt (by omega)
  have q := h (Int32.ofNat k) (by omega) (by omega)
  unfold gI at q
  rw [rdA_nn (by omega), rdA_nn (by omega), e] at q
  simpa [h1, h2] using q
theorem Tot.rdI {β : Type} {L : List Int32} {j : Int32} {f : Int32 → Option β} {Q : β → Prop} (h0 : 0 ≤ j.toInt) (h1 : j.toInt < L.length) (g : Tot (f (gI L j)) Q) : Tot ((rdA L j).bind f) Q := by
  rw [rdg h0 h1]
  exact g
theorem gI_rep {n : Nat} {x : Int32} {j : Int32} (h0 : 0 ≤ j.toInt) (h1 : j.toInt < n) : gI (List.replicate n x) j = x := by
  unfold gI
  rw [rdA_rep h0 h1]
  (first | done | rfl | simp)
/-! Longs -/
theorem lltI {a b : Int64} : a < b ↔ a.toInt < b.toInt := Int64.lt_iff_toInt_lt
theorem leqI {a b : Int64} : a = b ↔ a.toInt = b.toInt := Int64.toInt_inj.symm
theorem lrng (a : Int64) : -9223372036854775808 ≤ a.toInt ∧ a.toInt < 9223372036854775808 := ⟨Int64.le_toInt a, Int64.toInt_lt a⟩
theorem ladd_i {a b : Int64} (h1 : -9223372036854775808 ≤ a.toInt + b.toInt) (h2 : a.toInt + b.toInt < 9223372036854775808) : (a + b).toInt = a.toInt + b.toInt := by
  rw [Int64.toInt_add]; exact Int.bmod_eq_of_le (by omega) (by omega)
theorem lsub_i {a b : Int64} (h1 : -9223372036854775808 ≤ a.toInt - b.toInt) (h2 : a.toInt - b.toInt < 9223372036854775808) : (a - b).toInt = a.toInt - b.toInt := by
  rw [Int64.toInt_sub]; exact Int.bmod_eq_of_le (by omega) (by omega)
theorem lmul_i {a b : Int64} (h1 : -9223372036854775808 ≤ a.toInt * b.toInt) (h2 : a.toInt * b.toInt < 9223372036854775808) : (a * b).toInt = a.toInt * b.toInt := by
  rw [Int64.toInt_mul]; exact Int.bmod_eq_of_le (by omega) (by omega)
theorem lmod_i {a b : Int64} (h : 0 ≤ a.toInt) : (a % b).toInt = a.toInt % b.toInt := by
  rw [Int64.toInt_mod, Int.tmod_eq_emod_of_nonneg h]
theorem lback {a : Int64} (h1 : -2147483648 ≤ a.toInt) (h2 : a.toInt < 2147483648) : a.toInt32.toInt64 = a := by
  rw [leqI, Int32.toInt_toInt64, Int64.toInt_toInt32, bmod32]
  omega
theorem mulb {a b M : Int} (h0 : 0 ≤ a) (h1 : a ≤ M) (h2 : 0 ≤ b) (h3 : b ≤ M) : 0 ≤ a * b ∧ a * b ≤ M * M :=
  ⟨Int.mul_nonneg h0 h2, Int.mul_le_mul h1 h3 h2 (by omega)⟩
end Jvm.Own
namespace Jvm.Pilot.@@N@@
open Jvm Jvm.ClassFile Sem Op Lib Jvm.Free Jvm.Stand Jvm.LawKit Jvm.RoadKit Bundle Jvm.Own Jvm.Pilot.@@N@@.Jvm.D
def d_0 : MD := (x, code, maxLocals, ret, 0, 2, 999, 5, 81, [(0, .new 34, 3, [], 0, 0), (3, .dup, 1, [], 0, 0), (4, .iconst 1, 1, [], 0, 0), (5, .invokespecial 39, 3, [], 1, 0), (8, .astore_n 2, 1, [], 0, 0), (9, .aload_n 2, 1, [], 0, 0), (10, .iload_n 0, 1, [], 0, 0), (11, .invokevirtual 42, 3, [], 2, 0), (14, .ifCond .ne 5, 3, [], 0, 0), (17, .iconst 0, 1, [], 0, 0), (18, .ireturn, 1, [], 0, 0), (19, .iload_n 0, 1, [], 0, 0), (20, .iconst 0, 1, [], 0, 0), (21, .invokestatic 46, 3, [], 14, 0), (24, .istore_n 3, 1, [], 0, 0), (25, .iload_n 0, 1, [], 0, 0), (26, .iconst 1, 1, [], 0, 0), (27, .invokestatic 46, 3, [], 14, 0), (30, .istore 4, 2, [], 0, 0), (32, .aload_n 2, 1, [], 0, 0), (33, .invokevirtual 49, 3, [], 20, 0), (36, .ldc 53, 2, [], 0, 805371904), (38, .iload_n 3, 1, [], 0, 0), (39, .iload 4, 2, [], 0, 0), (41, .invokestatic 15, 3, [], 17, 0), (44, .if_icmp .eq 5, 3, [], 0, 0), (47, .iconst 0, 1, [], 0, 0), (48, .ireturn, 1, [], 0, 0), (49, .aload_n 2, 1, [], 0, 0), (50, .iload_n 1, 1, [], 0, 0), (51, .invokevirtual 54, 3, [], 21, 0), (54, .ifCond .eq 5, 3, [], 0, 0), (57, .iconst 0, 1, [], 0, 0), (58, .ireturn, 1, [], 0, 0), (59, .aload_n 2, 1, [], 0, 0), (60, .invokevirtual 57, 3, [], 24, 0), (63, .ifCond .eq 5, 3, [], 0, 0), (66, .iconst 0, 1, [], 0, 0), (67, .ireturn, 1, [], 0, 0), (68, .iconst 0, 1, [], 0, 0), (69, .istore 5, 2, [], 0, 0), (71, .iload 5, 2, [false, false, false, true, false, false, true], 0, 0), (73, .iconst 5, 1, [], 0, 0), (74, .if_icmp .ge 41, 3, [], 0, 0), (77, .aload_n 2, 1, [], 0, 0), (78, .iload_n 0, 1, [], 0, 0), (79, .iload_n 1, 1, [], 0, 0), (80, .iload 5, 2, [], 0, 0), (82, .invokestatic 60, 3, [], 25, 0), (85, .ifCond .ne 5, 3, [], 0, 0), (88, .iconst 0, 1, [], 0, 0), (89, .ireturn, 1, [], 0, 0), (90, .iload 5, 2, [], 0, 0), (92, .iconst 5, 1, [], 0, 0), (93, .iadd, 1, [], 0, 0), (94, .istore 6, 2, [], 0, 0), (96, .aload_n 2, 1, [], 0, 0), (97, .iload_n 0, 1, [], 0, 0), (98, .iload_n 1, 1, [], 0, 0), (99, .iload 6, 2, [], 0, 0), (101, .invokestatic 60, 3, [], 25, 0), (104, .ifCond .ne 5, 3, [], 0, 0), (107, .iconst 0, 1, [], 0, 0), (108, .ireturn, 1, [], 0, 0), (109, .iinc 5 1, 3, [], 0, 0), (112, .goto (-41), 3, [], 0, 0), (115, .aload_n 2, 1, [true, true, false, true, false, true, true], 0, 0), (116, .bipush 10, 2, [], 0, 0), (118, .invokevirtual 33, 3, [], 27, 0), (121, .iload 4, 2, [], 0, 0), (123, .if_icmp .eq 5, 3, [], 0, 0), (126, .iconst 0, 1, [], 0, 0), (127, .ireturn, 1, [], 0, 0), (128, .iconst 0, 1, [], 0, 0), (129, .istore 5, 2, [], 0, 0), (131, .iload 5, 2, [true, true, false, true, true, false, true], 0, 0), (133, .iconst 3, 1, [], 0, 0), (134, .if_icmp .ge 27, 3, [], 0, 0), (137, .bipush 11, 2, [], 0, 0), (139, .iload 5, 2, [], 0, 0), (141, .iadd, 1, [], 0, 0), (142, .istore 6, 2, [], 0, 0), (144, .aload_n 2, 1, [], 0, 0), (145, .iload 6, 2, [], 0, 0), (147, .invokevirtual 33, 3, [], 27, 0), (150, .ifCond .eq 5, 3, [], 0, 0), (153, .iconst 0, 1, [], 0, 0), (154, .ireturn, 1, [], 0, 0), (155, .iinc 5 1, 3, [], 0, 0), (158, .goto (-27), 3, [], 0, 0), (161, .iconst 1, 1, [], 0, 0), (162, .ireturn, 1, [], 0, 0)])
def d_1 : MD := (⟨"ChainTreeSigner", "<init>", "(I)V"⟩, prog_1_method_1_code, 3, none, 1, 1, 0, 1, 12, [(0, .aload_n 0, 1, [], 0, 0), (1, .invokespecial 1, 3, [], 0, -1), (4, .aload_n 0, 1, [], 0, 0), (5, .bipush 14, 2, [], 0, 0), (7, .newarray .int, 2, [], 0, 0), (9, .putfield 7, 3, [], 0, 0), (12, .aload_n 0, 1, [], 0, 0), (13, .bipush 14, 2, [], 0, 0), (15, .newarray .int, 2, [], 0, 0), (17, .putfield 13, 3, [], 1, 0), (20, .aload_n 0, 1, [], 0, 0), (21, .bipush 80, 2, [], 0, 0), (23, .newarray .int, 2, [], 0, 0), (25, .putfield 16, 3, [], 2, 0), (28, .aload_n 0, 1, [], 0, 0), (29, .sipush 160, 3, [], 0, 0), (32, .newarray .int, 2, [], 0, 0), (34, .putfield 19, 3, [], 3, 0), (37, .aload_n 0, 1, [], 0, 0), (38, .bipush 10, 2, [], 0, 0), (40, .newarray .int, 2, [], 0, 0), (42, .putfield 22, 3, [], 4, 0), (45, .aload_n 0, 1, [], 0, 0), (46, .bipush 10, 2, [], 0, 0), (48, .newarray .int, 2, [], 0, 0), (50, .putfield 25, 3, [], 5, 0), (53, .iload_n 1, 1, [], 0, 0), (54, .istore_n 2, 1, [], 0, 0), (55, .iload_n 2, 1, [], 0, 0), (56, .iconst 1, 1, [], 0, 0), (57, .if_icmp .ge 5, 3, [], 0, 0), (60, .iconst 1, 1, [], 0, 0), (61, .istore_n 2, 1, [], 0, 0), (62, .iload_n 2, 1, [false, true], 0, 0), (63, .iconst 4, 1, [], 0, 0), (64, .if_icmp .le 5, 3, [], 0, 0), (67, .iconst 4, 1, [], 0, 0), (68, .istore_n 2, 1, [], 0, 0), (69, .aload_n 0, 1, [false, true], 0, 0), (70, .iload_n 2, 1, [], 0, 0), (71, .putfield 28, 3, [], 6, 0), (74, .aload_n 0, 1, [], 0, 0), (75, .iconst 1, 1, [], 0, 0), (76, .iload_n 2, 1, [], 0, 0), (77, .ishl, 1, [], 0, 0), (78, .putfield 32, 3, [], 7, 0), (81, .aload_n 0, 1, [], 0, 0), (82, .iconst 0, 1, [], 0, 0), (83, .putfield 35, 3, [], 8, 0), (86, .aload_n 0, 1, [], 0, 0), (87, .iconst 0, 1, [], 0, 0), (88, .putfield 39, 3, [], 9, 0), (91, .aload_n 0, 1, [], 0, 0), (92, .iconst 0, 1, [], 0, 0), (93, .putfield 42, 3, [], 10, 0), (96, .aload_n 0, 1, [], 0, 0), (97, .iconst 0, 1, [], 0, 0), (98, .putfield 45, 3, [], 11, 0), (101, .aload_n 0, 1, [], 0, 0), (102, .iconst (-1), 1, [], 0, 0), (103, .putfield 48, 3, [], 12, 0), (106, .aload_n 0, 1, [], 0, 0), (107, .iconst 0, 1, [], 0, 0), (108, .putfield 51, 3, [], 13, 0), (111, .return_, 1, [], 0, 0)])
def d_2 : MD := (⟨"ChainTreeSigner", "keygen", "(I)Z"⟩, prog_1_method_4_code, 2, some .boolean, 3, 1, 0, 4, 68, [(0, .aload_n 0, 1, [], 0, 0), (1, .getfield 35, 3, [], 8, 0), (4, .ifCond .eq 5, 3, [], 0, 0), (7, .iconst 0, 1, [], 0, 0), (8, .ireturn, 1, [], 0, 0), (9, .aload_n 0, 1, [], 0, 0), (10, .iload_n 1, 1, [], 0, 0), (11, .putfield 39, 3, [], 9, 0), (14, .aload_n 0, 1, [], 0, 0), (15, .invokevirtual 63, 3, [], 3, 0), (18, .aload_n 0, 1, [], 0, 0), (19, .invokevirtual 66, 3, [], 12, 0), (22, .aload_n 0, 1, [], 0, 0), (23, .aload_n 0, 1, [], 0, 0), (24, .getfield 16, 3, [], 2, 0), (27, .aload_n 0, 1, [], 0, 0), (28, .getfield 28, 3, [], 6, 0), (31, .bipush 16, 2, [], 0, 0), (33, .imul, 1, [], 0, 0), (34, .iaload, 1, [], 0, 0), (35, .putfield 42, 3, [], 10, 0), (38, .aload_n 0, 1, [], 0, 0), (39, .iconst 1, 1, [], 0, 0), (40, .putfield 35, 3, [], 8, 0), (43, .aload_n 0, 1, [], 0, 0), (44, .iconst 0, 1, [], 0, 0), (45, .putfield 45, 3, [], 11, 0), (48, .iconst 1, 1, [], 0, 0), (49, .ireturn, 1, [], 0, 0)])
def d_3 : MD := (⟨"ChainTreeSigner", "buildLeaves", "()V"⟩, prog_1_method_28_code, 5, none, 2, 0, 0, 3, 52, [(0, .iconst 0, 1, [], 0, 0), (1, .istore_n 1, 1, [], 0, 0), (2, .iload_n 1, 1, [false, false, true, true, true], 0, 0), (3, .aload_n 0, 1, [], 0, 0), (4, .getfield 32, 3, [], 7, 0), (7, .if_icmp .ge 80, 3, [], 0, 0), (10, .iload_n 1, 1, [], 0, 0), (11, .bipush 16, 2, [], 0, 0), (13, .if_icmp .ge 74, 3, [], 0, 0), (16, .iconst 0, 1, [], 0, 0), (17, .istore_n 2, 1, [], 0, 0), (18, .iload_n 2, 1, [false, false, false, true, true], 0, 0), (19, .bipush 10, 2, [], 0, 0), (21, .if_icmp .ge 49, 3, [], 0, 0), (24, .aload_n 0, 1, [], 0, 0), (25, .iload_n 1, 1, [], 0, 0), (26, .iload_n 2, 1, [], 0, 0), (27, .invokevirtual 69, 3, [], 4, 0), (30, .istore_n 3, 1, [], 0, 0), (31, .aload_n 0, 1, [], 0, 0), (32, .iload_n 1, 1, [], 0, 0), (33, .iload_n 2, 1, [], 0, 0), (34, .iload_n 3, 1, [], 0, 0), (35, .iconst 0, 1, [], 0, 0), (36, .bipush 15, 2, [], 0, 0), (38, .invokevirtual 72, 3, [], 8, 0), (41, .istore 4, 2, [], 0, 0), (43, .aload_n 0, 1, [], 0, 0), (44, .getfield 19, 3, [], 3, 0), (47, .iload_n 1, 1, [], 0, 0), (48, .bipush 10, 2, [], 0, 0), (50, .imul, 1, [], 0, 0), (51, .iload_n 2, 1, [], 0, 0), (52, .iadd, 1, [], 0, 0), (53, .iload 4, 2, [], 0, 0), (55, .iastore, 1, [], 0, 0), (56, .aload_n 0, 1, [], 0, 0), (57, .getfield 25, 3, [], 5, 0), (60, .iload_n 2, 1, [], 0, 0), (61, .iload 4, 2, [], 0, 0), (63, .iastore, 1, [], 0, 0), (64, .iinc 2 1, 3, [], 0, 0), (67, .goto (-49), 3, [], 0, 0), (70, .aload_n 0, 1, [false, false, true, true, true], 0, 0), (71, .getfield 16, 3, [], 2, 0), (74, .iload_n 1, 1, [], 0, 0), (75, .aload_n 0, 1, [], 0, 0), (76, .iload_n 1, 1, [], 0, 0), (77, .invokevirtual 79, 3, [], 10, 0), (80, .iastore, 1, [], 0, 0), (81, .iinc 1 1, 3, [], 0, 0), (84, .goto (-82), 3, [], 0, 0), (87, .return_, 1, [], 0, 0)])
def d_4 : MD := (⟨"ChainTreeSigner", "secretKey", "(II)I"⟩, prog_1_method_24_code, 4, some .int, 2, 2, 0, 2, 32, [(0, .aload_n 0, 1, [], 0, 0), (1, .iload_n 1, 1, [], 0, 0), (2, .iload_n 2, 1, [], 0, 0), (3, .invokevirtual 89, 3, [], 5, 0), (6, .istore_n 3, 1, [], 0, 0), (7, .aload_n 0, 1, [], 0, 0), (8, .iload_n 3, 1, [], 0, 0), (9, .aload_n 0, 1, [], 0, 0), (10, .getfield 39, 3, [], 9, 0), (13, .iconst 0, 1, [], 0, 0), (14, .invokevirtual 92, 3, [], 6, 0), (17, .ireturn, 1, [], 0, 0)])
def d_5 : MD := (⟨"ChainTreeSigner", "secretTweak", "(II)I"⟩, prog_1_method_20_code, 3, some .int, 2, 2, 0, 0, 0, [(0, .iload_n 1, 1, [], 0, 0), (1, .bipush 16, 2, [], 0, 0), (3, .ishl, 1, [], 0, 0), (4, .iload_n 2, 1, [], 0, 0), (5, .bipush 8, 2, [], 0, 0), (7, .ishl, 1, [], 0, 0), (8, .ior, 1, [], 0, 0), (9, .ireturn, 1, [], 0, 0)])
def d_6 : MD := (⟨"ChainTreeSigner", "hash", "(III)I"⟩, prog_1_method_2_code, 7, some .int, 3, 3, 0, 1, 14, [(0, .iload_n 2, 1, [], 0, 0), (1, .iload_n 1, 1, [], 0, 0), (2, .ixor, 1, [], 0, 0), (3, .istore 4, 2, [], 0, 0), (5, .iload_n 3, 1, [], 0, 0), (6, .ldc 54, 2, [], 0, -1640531527), (8, .iadd, 1, [], 0, 0), (9, .istore 5, 2, [], 0, 0), (11, .iconst 0, 1, [], 0, 0), (12, .istore 6, 2, [], 0, 0), (14, .iload 6, 2, [false, false, true, true], 0, 0), (16, .iconst 4, 1, [], 0, 0), (17, .if_icmp .ge 44, 3, [], 0, 0), (20, .iload 4, 2, [], 0, 0), (22, .iload 5, 2, [], 0, 0), (24, .iadd, 1, [], 0, 0), (25, .istore 4, 2, [], 0, 0), (27, .aload_n 0, 1, [], 0, 0), (28, .iload 5, 2, [], 0, 0), (30, .bipush 7, 2, [], 0, 0), (32, .invokevirtual 55, 3, [], 7, 0), (35, .iload 4, 2, [], 0, 0), (37, .ixor, 1, [], 0, 0), (38, .istore 5, 2, [], 0, 0), (40, .aload_n 0, 1, [], 0, 0), (41, .iload 4, 2, [], 0, 0), (43, .bipush 13, 2, [], 0, 0), (45, .invokevirtual 55, 3, [], 7, 0), (48, .iload_n 1, 1, [], 0, 0), (49, .iadd, 1, [], 0, 0), (50, .iload 6, 2, [], 0, 0), (52, .iadd, 1, [], 0, 0), (53, .istore 4, 2, [], 0, 0), (55, .iinc 6 1, 3, [], 0, 0), (58, .goto (-44), 3, [], 0, 0), (61, .iload 4, 2, [], 0, 0), (63, .iload 5, 2, [], 0, 0), (65, .ixor, 1, [], 0, 0), (66, .ireturn, 1, [], 0, 0)])
def d_7 : MD := (⟨"ChainTreeSigner", "rotl", "(II)I"⟩, prog_1_method_19_code, 3, some .int, 2, 2, 0, 0, 0, [(0, .iload_n 1, 1, [], 0, 0), (1, .iload_n 2, 1, [], 0, 0), (2, .ishl, 1, [], 0, 0), (3, .iload_n 1, 1, [], 0, 0), (4, .bipush 32, 2, [], 0, 0), (6, .iload_n 2, 1, [], 0, 0), (7, .isub, 1, [], 0, 0), (8, .iushr, 1, [], 0, 0), (9, .ior, 1, [], 0, 0), (10, .ireturn, 1, [], 0, 0)])
def d_8 : MD := (⟨"ChainTreeSigner", "walk", "(IIIII)I"⟩, prog_1_method_25_code, 9, some .int, 2, 5, 0, 2, 32, [(0, .iload_n 3, 1, [], 0, 0), (1, .istore 6, 2, [], 0, 0), (3, .iconst 0, 1, [], 0, 0), (4, .istore 7, 2, [], 0, 0), (6, .iload 7, 2, [false, false, false, true, false, false, false, false, true], 0, 0), (8, .iload 5, 2, [], 0, 0), (10, .if_icmp .ge 40, 3, [], 0, 0), (13, .iload 7, 2, [], 0, 0), (15, .bipush 16, 2, [], 0, 0), (17, .if_icmp .ge 33, 3, [], 0, 0), (20, .aload_n 0, 1, [], 0, 0), (21, .iload_n 1, 1, [], 0, 0), (22, .iload_n 2, 1, [], 0, 0), (23, .iload 4, 2, [], 0, 0), (25, .iload 7, 2, [], 0, 0), (27, .iadd, 1, [], 0, 0), (28, .invokevirtual 96, 3, [], 9, 0), (31, .istore 8, 2, [], 0, 0), (33, .aload_n 0, 1, [], 0, 0), (34, .iload 8, 2, [], 0, 0), (36, .iload 6, 2, [], 0, 0), (38, .iconst 0, 1, [], 0, 0), (39, .invokevirtual 92, 3, [], 6, 0), (42, .istore 6, 2, [], 0, 0), (44, .iinc 7 1, 3, [], 0, 0), (47, .goto (-41), 3, [], 0, 0), (50, .iload 6, 2, [], 0, 0), (52, .ireturn, 1, [], 0, 0)])
def d_9 : MD := (⟨"ChainTreeSigner", "stepTweak", "(III)I"⟩, prog_1_method_21_code, 4, some .int, 2, 3, 0, 0, 0, [(0, .ldc 86, 2, [], 0, 268435456), (2, .iload_n 1, 1, [], 0, 0), (3, .bipush 16, 2, [], 0, 0), (5, .ishl, 1, [], 0, 0), (6, .ior, 1, [], 0, 0), (7, .iload_n 2, 1, [], 0, 0), (8, .bipush 8, 2, [], 0, 0), (10, .ishl, 1, [], 0, 0), (11, .ior, 1, [], 0, 0), (12, .iload_n 3, 1, [], 0, 0), (13, .ior, 1, [], 0, 0), (14, .ireturn, 1, [], 0, 0)])
def d_10 : MD := (⟨"ChainTreeSigner", "foldEnds", "(I)I"⟩, prog_1_method_26_code, 5, some .int, 2, 1, 0, 2, 32, [(0, .aload_n 0, 1, [], 0, 0), (1, .getfield 25, 3, [], 5, 0), (4, .iconst 0, 1, [], 0, 0), (5, .iaload, 1, [], 0, 0), (6, .istore_n 2, 1, [], 0, 0), (7, .iconst 1, 1, [], 0, 0), (8, .istore_n 3, 1, [], 0, 0), (9, .iload_n 3, 1, [false, false, false, false, true], 0, 0), (10, .bipush 10, 2, [], 0, 0), (12, .if_icmp .ge 31, 3, [], 0, 0), (15, .aload_n 0, 1, [], 0, 0), (16, .iload_n 1, 1, [], 0, 0), (17, .iload_n 3, 1, [], 0, 0), (18, .invokevirtual 99, 3, [], 11, 0), (21, .istore 4, 2, [], 0, 0), (23, .aload_n 0, 1, [], 0, 0), (24, .iload 4, 2, [], 0, 0), (26, .iload_n 2, 1, [], 0, 0), (27, .aload_n 0, 1, [], 0, 0), (28, .getfield 25, 3, [], 5, 0), (31, .iload_n 3, 1, [], 0, 0), (32, .iaload, 1, [], 0, 0), (33, .invokevirtual 92, 3, [], 6, 0), (36, .istore_n 2, 1, [], 0, 0), (37, .iinc 3 1, 3, [], 0, 0), (40, .goto (-31), 3, [], 0, 0), (43, .iload_n 2, 1, [], 0, 0), (44, .ireturn, 1, [], 0, 0)])
def d_11 : MD := (⟨"ChainTreeSigner", "foldTweak", "(II)I"⟩, prog_1_method_22_code, 3, some .int, 2, 2, 0, 0, 0, [(0, .ldc 87, 2, [], 0, 536870912), (2, .iload_n 1, 1, [], 0, 0), (3, .bipush 16, 2, [], 0, 0), (5, .ishl, 1, [], 0, 0), (6, .ior, 1, [], 0, 0), (7, .iload_n 2, 1, [], 0, 0), (8, .ior, 1, [], 0, 0), (9, .ireturn, 1, [], 0, 0)])
def d_12 : MD := (⟨"ChainTreeSigner", "buildUpperLevels", "()V"⟩, prog_1_method_29_code, 7, none, 2, 0, 0, 2, 34, [(0, .iconst 1, 1, [], 0, 0), (1, .istore_n 1, 1, [], 0, 0), (2, .iload_n 1, 1, [false, false, true, true, true, true, true], 0, 0), (3, .aload_n 0, 1, [], 0, 0), (4, .getfield 28, 3, [], 6, 0), (7, .if_icmp .gt 105, 3, [], 0, 0), (10, .iload_n 1, 1, [], 0, 0), (11, .iconst 4, 1, [], 0, 0), (12, .if_icmp .gt 100, 3, [], 0, 0), (15, .aload_n 0, 1, [], 0, 0), (16, .getfield 32, 3, [], 7, 0), (19, .iload_n 1, 1, [], 0, 0), (20, .ishr, 1, [], 0, 0), (21, .istore_n 2, 1, [], 0, 0), (22, .iconst 0, 1, [], 0, 0), (23, .istore_n 3, 1, [], 0, 0), (24, .iload_n 3, 1, [false, false, false, false, true, true, true], 0, 0), (25, .iload_n 2, 1, [], 0, 0), (26, .if_icmp .ge 80, 3, [], 0, 0), (29, .iload_n 3, 1, [], 0, 0), (30, .bipush 16, 2, [], 0, 0), (32, .if_icmp .ge 74, 3, [], 0, 0), (35, .aload_n 0, 1, [], 0, 0), (36, .iload_n 1, 1, [], 0, 0), (37, .iload_n 3, 1, [], 0, 0), (38, .invokevirtual 102, 3, [], 13, 0), (41, .istore 4, 2, [], 0, 0), (43, .aload_n 0, 1, [], 0, 0), (44, .getfield 16, 3, [], 2, 0), (47, .iload_n 1, 1, [], 0, 0), (48, .iconst 1, 1, [], 0, 0), (49, .isub, 1, [], 0, 0), (50, .bipush 16, 2, [], 0, 0), (52, .imul, 1, [], 0, 0), (53, .iconst 2, 1, [], 0, 0), (54, .iload_n 3, 1, [], 0, 0), (55, .imul, 1, [], 0, 0), (56, .iadd, 1, [], 0, 0), (57, .iaload, 1, [], 0, 0), (58, .istore 5, 2, [], 0, 0), (60, .aload_n 0, 1, [], 0, 0), (61, .getfield 16, 3, [], 2, 0), (64, .iload_n 1, 1, [], 0, 0), (65, .iconst 1, 1, [], 0, 0), (66, .isub, 1, [], 0, 0), (67, .bipush 16, 2, [], 0, 0), (69, .imul, 1, [], 0, 0), (70, .iconst 2, 1, [], 0, 0), (71, .iload_n 3, 1, [], 0, 0), (72, .imul, 1, [], 0, 0), (73, .iadd, 1, [], 0, 0), (74, .iconst 1, 1, [], 0, 0), (75, .iadd, 1, [], 0, 0), (76, .iaload, 1, [], 0, 0), (77, .istore 6, 2, [], 0, 0), (79, .aload_n 0, 1, [], 0, 0), (80, .getfield 16, 3, [], 2, 0), (83, .iload_n 1, 1, [], 0, 0), (84, .bipush 16, 2, [], 0, 0), (86, .imul, 1, [], 0, 0), (87, .iload_n 3, 1, [], 0, 0), (88, .iadd, 1, [], 0, 0), (89, .aload_n 0, 1, [], 0, 0), (90, .iload 4, 2, [], 0, 0), (92, .iload 5, 2, [], 0, 0), (94, .iload 6, 2, [], 0, 0), (96, .invokevirtual 92, 3, [], 6, 0), (99, .iastore, 1, [], 0, 0), (100, .iinc 3 1, 3, [], 0, 0), (103, .goto (-79), 3, [], 0, 0), (106, .iinc 1 1, 3, [], 0, 0), (109, .goto (-107), 3, [], 0, 0), (112, .return_, 1, [], 0, 0)])
def d_13 : MD := (⟨"ChainTreeSigner", "nodeTweak", "(II)I"⟩, prog_1_method_23_code, 3, some .int, 2, 2, 0, 0, 0, [(0, .ldc 88, 2, [], 0, 805306368), (2, .iload_n 1, 1, [], 0, 0), (3, .bipush 16, 2, [], 0, 0), (5, .ishl, 1, [], 0, 0), (6, .ior, 1, [], 0, 0), (7, .iload_n 2, 1, [], 0, 0), (8, .ior, 1, [], 0, 0), (9, .ireturn, 1, [], 0, 0)])
def d_14 : MD := (⟨"ChainTreeSignerL3", "leaf", "(II)I"⟩, method_7_code, 5, some .int, 0, 2, 999, 4, 64, [(0, .iload_n 0, 1, [], 0, 0), (1, .iload_n 1, 1, [], 0, 0), (2, .iconst 0, 1, [], 0, 0), (3, .invokestatic 26, 3, [], 15, 0), (6, .istore_n 2, 1, [], 0, 0), (7, .iconst 1, 1, [], 0, 0), (8, .istore_n 3, 1, [], 0, 0), (9, .iload_n 3, 1, [false, false, false, false, true], 0, 0), (10, .bipush 8, 2, [], 0, 0), (12, .if_icmp .gt 33, 3, [], 0, 0), (15, .iload_n 0, 1, [], 0, 0), (16, .iload_n 1, 1, [], 0, 0), (17, .iload_n 3, 1, [], 0, 0), (18, .invokestatic 26, 3, [], 15, 0), (21, .istore 4, 2, [], 0, 0), (23, .ldc 29, 2, [], 0, 536870912), (25, .iload_n 1, 1, [], 0, 0), (26, .bipush 16, 2, [], 0, 0), (28, .ishl, 1, [], 0, 0), (29, .ior, 1, [], 0, 0), (30, .iload_n 3, 1, [], 0, 0), (31, .ior, 1, [], 0, 0), (32, .iload_n 2, 1, [], 0, 0), (33, .iload 4, 2, [], 0, 0), (35, .invokestatic 15, 3, [], 17, 0), (38, .istore_n 2, 1, [], 0, 0), (39, .iinc 3 1, 3, [], 0, 0), (42, .goto (-33), 3, [], 0, 0), (45, .iload_n 0, 1, [false, false, false, true, true], 0, 0), (46, .iload_n 1, 1, [], 0, 0), (47, .bipush 9, 2, [], 0, 0), (49, .invokestatic 26, 3, [], 15, 0), (52, .istore_n 3, 1, [], 0, 0), (53, .ldc 29, 2, [], 0, 536870912), (55, .iload_n 1, 1, [], 0, 0), (56, .bipush 16, 2, [], 0, 0), (58, .ishl, 1, [], 0, 0), (59, .ior, 1, [], 0, 0), (60, .bipush 9, 2, [], 0, 0), (62, .ior, 1, [], 0, 0), (63, .iload_n 2, 1, [], 0, 0), (64, .iload_n 3, 1, [], 0, 0), (65, .invokestatic 15, 3, [], 17, 0), (68, .ireturn, 1, [], 0, 0)])
def d_15 : MD := (⟨"ChainTreeSignerL3", "end", "(III)I"⟩, method_6_code, 4, some .int, 0, 3, 999, 3, 49, [(0, .iload_n 0, 1, [], 0, 0), (1, .iload_n 1, 1, [], 0, 0), (2, .iload_n 2, 1, [], 0, 0), (3, .invokestatic 19, 3, [], 16, 0), (6, .istore_n 3, 1, [], 0, 0), (7, .iload_n 1, 1, [], 0, 0), (8, .iload_n 2, 1, [], 0, 0), (9, .iload_n 3, 1, [], 0, 0), (10, .iconst 0, 1, [], 0, 0), (11, .bipush 15, 2, [], 0, 0), (13, .invokestatic 22, 3, [], 19, 0), (16, .ireturn, 1, [], 0, 0)])
def d_16 : MD := (⟨"ChainTreeSignerL3", "sk", "(III)I"⟩, method_5_code, 3, some .int, 0, 3, 999, 2, 30, [(0, .iload_n 1, 1, [], 0, 0), (1, .bipush 16, 2, [], 0, 0), (3, .ishl, 1, [], 0, 0), (4, .iload_n 2, 1, [], 0, 0), (5, .bipush 8, 2, [], 0, 0), (7, .ishl, 1, [], 0, 0), (8, .ior, 1, [], 0, 0), (9, .iload_n 0, 1, [], 0, 0), (10, .iconst 0, 1, [], 0, 0), (11, .invokestatic 15, 3, [], 17, 0), (14, .ireturn, 1, [], 0, 0)])
def d_17 : MD := (⟨"ChainTreeSignerL3", "H", "(III)I"⟩, method_3_code, 6, some .int, 0, 3, 999, 1, 13, [(0, .iload_n 1, 1, [], 0, 0), (1, .iload_n 0, 1, [], 0, 0), (2, .ixor, 1, [], 0, 0), (3, .istore_n 3, 1, [], 0, 0), (4, .iload_n 2, 1, [], 0, 0), (5, .ldc 7, 2, [], 0, -1640531527), (7, .iadd, 1, [], 0, 0), (8, .istore 4, 2, [], 0, 0), (10, .iconst 0, 1, [], 0, 0), (11, .istore 5, 2, [], 0, 0), (13, .iload 5, 2, [false, true, true], 0, 0), (15, .iconst 4, 1, [], 0, 0), (16, .if_icmp .ge 37, 3, [], 0, 0), (19, .iload_n 3, 1, [], 0, 0), (20, .iload 4, 2, [], 0, 0), (22, .iadd, 1, [], 0, 0), (23, .istore_n 3, 1, [], 0, 0), (24, .iload 4, 2, [], 0, 0), (26, .bipush 7, 2, [], 0, 0), (28, .invokestatic 8, 3, [], 18, 0), (31, .iload_n 3, 1, [], 0, 0), (32, .ixor, 1, [], 0, 0), (33, .istore 4, 2, [], 0, 0), (35, .iload_n 3, 1, [], 0, 0), (36, .bipush 13, 2, [], 0, 0), (38, .invokestatic 8, 3, [], 18, 0), (41, .iload_n 0, 1, [], 0, 0), (42, .iadd, 1, [], 0, 0), (43, .iload 5, 2, [], 0, 0), (45, .iadd, 1, [], 0, 0), (46, .istore_n 3, 1, [], 0, 0), (47, .iinc 5 1, 3, [], 0, 0), (50, .goto (-37), 3, [], 0, 0), (53, .iload_n 3, 1, [], 0, 0), (54, .iload 4, 2, [], 0, 0), (56, .ixor, 1, [], 0, 0), (57, .ireturn, 1, [], 0, 0)])
def d_18 : MD := (⟨"ChainTreeSignerL3", "rotl", "(II)I"⟩, method_2_code, 2, some .int, 0, 2, 999, 0, 0, [(0, .iload_n 0, 1, [], 0, 0), (1, .iload_n 1, 1, [], 0, 0), (2, .ishl, 1, [], 0, 0), (3, .iload_n 0, 1, [], 0, 0), (4, .bipush 32, 2, [], 0, 0), (6, .iload_n 1, 1, [], 0, 0), (7, .isub, 1, [], 0, 0), (8, .iushr, 1, [], 0, 0), (9, .ior, 1, [], 0, 0), (10, .ireturn, 1, [], 0, 0)])
def d_19 : MD := (⟨"ChainTreeSignerL3", "walk", "(IIIII)I"⟩, method_4_code, 8, some .int, 0, 5, 999, 2, 30, [(0, .iconst 0, 1, [], 0, 0), (1, .istore 5, 2, [], 0, 0), (3, .iload 5, 2, [false, false, false, false, false, false, true, true], 0, 0), (5, .iconst 4, 1, [], 0, 0), (6, .if_icmp .ge 63, 3, [], 0, 0), (9, .iconst 0, 1, [], 0, 0), (10, .istore 6, 2, [], 0, 0), (12, .iload 6, 2, [false, false, false, false, false, false, false, true], 0, 0), (14, .iconst 4, 1, [], 0, 0), (15, .if_icmp .ge 48, 3, [], 0, 0), (18, .iconst 4, 1, [], 0, 0), (19, .iload 5, 2, [], 0, 0), (21, .imul, 1, [], 0, 0), (22, .iload 6, 2, [], 0, 0), (24, .iadd, 1, [], 0, 0), (25, .istore 7, 2, [], 0, 0), (27, .iload 7, 2, [], 0, 0), (29, .iload 4, 2, [], 0, 0), (31, .if_icmp .ge 26, 3, [], 0, 0), (34, .ldc 14, 2, [], 0, 268435456), (36, .iload_n 0, 1, [], 0, 0), (37, .bipush 16, 2, [], 0, 0), (39, .ishl, 1, [], 0, 0), (40, .ior, 1, [], 0, 0), (41, .iload_n 1, 1, [], 0, 0), (42, .bipush 8, 2, [], 0, 0), (44, .ishl, 1, [], 0, 0), (45, .ior, 1, [], 0, 0), (46, .iload_n 3, 1, [], 0, 0), (47, .iload 7, 2, [], 0, 0), (49, .iadd, 1, [], 0, 0), (50, .ior, 1, [], 0, 0), (51, .iload_n 2, 1, [], 0, 0), (52, .iconst 0, 1, [], 0, 0), (53, .invokestatic 15, 3, [], 17, 0), (56, .istore_n 2, 1, [], 0, 0), (57, .iinc 6 1, 3, [], 0, 0), (60, .goto (-48), 3, [], 0, 0), (63, .iinc 5 1, 3, [], 0, 0), (66, .goto (-63), 3, [], 0, 0), (69, .iload_n 2, 1, [], 0, 0), (70, .ireturn, 1, [], 0, 0)])
def d_20 : MD := (⟨"ChainTreeSigner", "getRoot", "()I"⟩, prog_1_method_5_code, 1, some .int, 3, 0, 0, 0, 0, [(0, .aload_n 0, 1, [], 0, 0), (1, .getfield 35, 3, [], 8, 0), (4, .ifCond .ne 5, 3, [], 0, 0), (7, .iconst 0, 1, [], 0, 0), (8, .ireturn, 1, [], 0, 0), (9, .aload_n 0, 1, [], 0, 0), (10, .getfield 42, 3, [], 10, 0), (13, .ireturn, 1, [], 0, 0)])
def d_21 : MD := (⟨"ChainTreeSigner", "sign", "(I)I"⟩, prog_1_method_7_code, 5, some .int, 3, 1, 0, 3, 54, [(0, .aload_n 0, 1, [], 0, 0), (1, .getfield 35, 3, [], 8, 0), (4, .ifCond .ne 5, 3, [], 0, 0), (7, .iconst (-1), 1, [], 0, 0), (8, .ireturn, 1, [], 0, 0), (9, .aload_n 0, 1, [], 0, 0), (10, .getfield 45, 3, [], 11, 0), (13, .aload_n 0, 1, [], 0, 0), (14, .getfield 32, 3, [], 7, 0), (17, .if_icmp .lt 6, 3, [], 0, 0), (20, .bipush (-2), 2, [], 0, 0), (22, .ireturn, 1, [], 0, 0), (23, .aload_n 0, 1, [], 0, 0), (24, .getfield 45, 3, [], 11, 0), (27, .istore_n 2, 1, [], 0, 0), (28, .aload_n 0, 1, [], 0, 0), (29, .iload_n 1, 1, [], 0, 0), (30, .invokevirtual 59, 3, [], 22, 0), (33, .iconst 0, 1, [], 0, 0), (34, .istore_n 3, 1, [], 0, 0), (35, .iload_n 3, 1, [false, true, false, false, true], 0, 0), (36, .bipush 10, 2, [], 0, 0), (38, .if_icmp .ge 38, 3, [], 0, 0), (41, .aload_n 0, 1, [], 0, 0), (42, .iload_n 2, 1, [], 0, 0), (43, .iload_n 3, 1, [], 0, 0), (44, .invokevirtual 69, 3, [], 4, 0), (47, .istore 4, 2, [], 0, 0), (49, .aload_n 0, 1, [], 0, 0), (50, .getfield 7, 3, [], 0, 0), (53, .iload_n 3, 1, [], 0, 0), (54, .aload_n 0, 1, [], 0, 0), (55, .iload_n 2, 1, [], 0, 0), (56, .iload_n 3, 1, [], 0, 0), (57, .iload 4, 2, [], 0, 0), (59, .iconst 0, 1, [], 0, 0), (60, .aload_n 0, 1, [], 0, 0), (61, .getfield 22, 3, [], 4, 0), (64, .iload_n 3, 1, [], 0, 0), (65, .iaload, 1, [], 0, 0), (66, .invokevirtual 72, 3, [], 8, 0), (69, .iastore, 1, [], 0, 0), (70, .iinc 3 1, 3, [], 0, 0), (73, .goto (-38), 3, [], 0, 0), (76, .aload_n 0, 1, [false, true, false, true, true], 0, 0), (77, .iload_n 2, 1, [], 0, 0), (78, .invokevirtual 76, 3, [], 23, 0), (81, .aload_n 0, 1, [], 0, 0), (82, .iload_n 2, 1, [], 0, 0), (83, .putfield 48, 3, [], 12, 0), (86, .aload_n 0, 1, [], 0, 0), (87, .iload_n 2, 1, [], 0, 0), (88, .iconst 1, 1, [], 0, 0), (89, .iadd, 1, [], 0, 0), (90, .putfield 45, 3, [], 11, 0), (93, .iload_n 2, 1, [], 0, 0), (94, .ireturn, 1, [], 0, 0)])
def d_22 : MD := (⟨"ChainTreeSigner", "fillDigits", "(I)V"⟩, prog_1_method_27_code, 5, none, 2, 1, 0, 0, 0, [(0, .iconst 0, 1, [], 0, 0), (1, .istore_n 2, 1, [], 0, 0), (2, .iconst 0, 1, [], 0, 0), (3, .istore_n 3, 1, [], 0, 0), (4, .iload_n 3, 1, [false, false, false, false, true], 0, 0), (5, .bipush 8, 2, [], 0, 0), (7, .if_icmp .ge 38, 3, [], 0, 0), (10, .iload_n 1, 1, [], 0, 0), (11, .bipush 28, 2, [], 0, 0), (13, .iconst 4, 1, [], 0, 0), (14, .iload_n 3, 1, [], 0, 0), (15, .imul, 1, [], 0, 0), (16, .isub, 1, [], 0, 0), (17, .iushr, 1, [], 0, 0), (18, .bipush 15, 2, [], 0, 0), (20, .iand, 1, [], 0, 0), (21, .istore 4, 2, [], 0, 0), (23, .aload_n 0, 1, [], 0, 0), (24, .getfield 22, 3, [], 4, 0), (27, .iload_n 3, 1, [], 0, 0), (28, .iload 4, 2, [], 0, 0), (30, .iastore, 1, [], 0, 0), (31, .iload_n 2, 1, [], 0, 0), (32, .bipush 15, 2, [], 0, 0), (34, .iload 4, 2, [], 0, 0), (36, .isub, 1, [], 0, 0), (37, .iadd, 1, [], 0, 0), (38, .istore_n 2, 1, [], 0, 0), (39, .iinc 3 1, 3, [], 0, 0), (42, .goto (-38), 3, [], 0, 0), (45, .aload_n 0, 1, [false, true, false, true, true], 0, 0), (46, .getfield 22, 3, [], 4, 0), (49, .bipush 8, 2, [], 0, 0), (51, .iload_n 2, 1, [], 0, 0), (52, .iconst 4, 1, [], 0, 0), (53, .iushr, 1, [], 0, 0), (54, .bipush 15, 2, [], 0, 0), (56, .iand, 1, [], 0, 0), (57, .iastore, 1, [], 0, 0), (58, .aload_n 0, 1, [], 0, 0), (59, .getfield 22, 3, [], 4, 0), (62, .bipush 9, 2, [], 0, 0), (64, .iload_n 2, 1, [], 0, 0), (65, .bipush 15, 2, [], 0, 0), (67, .iand, 1, [], 0, 0), (68, .iastore, 1, [], 0, 0), (69, .return_, 1, [], 0, 0)])
def d_23 : MD := (⟨"ChainTreeSigner", "fillPath", "(I)V"⟩, prog_1_method_30_code, 5, none, 2, 1, 0, 0, 0, [(0, .iconst 0, 1, [], 0, 0), (1, .istore_n 2, 1, [], 0, 0), (2, .iload_n 2, 1, [false, false, false, true, true], 0, 0), (3, .iconst 4, 1, [], 0, 0), (4, .if_icmp .ge 52, 3, [], 0, 0), (7, .iconst 0, 1, [], 0, 0), (8, .istore_n 3, 1, [], 0, 0), (9, .iload_n 2, 1, [], 0, 0), (10, .aload_n 0, 1, [], 0, 0), (11, .getfield 28, 3, [], 6, 0), (14, .if_icmp .ge 26, 3, [], 0, 0), (17, .iload_n 1, 1, [], 0, 0), (18, .iload_n 2, 1, [], 0, 0), (19, .iushr, 1, [], 0, 0), (20, .iconst 1, 1, [], 0, 0), (21, .ixor, 1, [], 0, 0), (22, .bipush 15, 2, [], 0, 0), (24, .iand, 1, [], 0, 0), (25, .istore 4, 2, [], 0, 0), (27, .aload_n 0, 1, [], 0, 0), (28, .getfield 16, 3, [], 2, 0), (31, .iload_n 2, 1, [], 0, 0), (32, .bipush 16, 2, [], 0, 0), (34, .imul, 1, [], 0, 0), (35, .iload 4, 2, [], 0, 0), (37, .iadd, 1, [], 0, 0), (38, .iaload, 1, [], 0, 0), (39, .istore_n 3, 1, [], 0, 0), (40, .aload_n 0, 1, [false, false, false, false, true], 0, 0), (41, .getfield 7, 3, [], 0, 0), (44, .bipush 10, 2, [], 0, 0), (46, .iload_n 2, 1, [], 0, 0), (47, .iadd, 1, [], 0, 0), (48, .iload_n 3, 1, [], 0, 0), (49, .iastore, 1, [], 0, 0), (50, .iinc 2 1, 3, [], 0, 0), (53, .goto (-51), 3, [], 0, 0), (56, .return_, 1, [], 0, 0)])
def d_24 : MD := (⟨"ChainTreeSigner", "issuedLeaf", "()I"⟩, prog_1_method_8_code, 1, some .int, 3, 0, 0, 0, 0, [(0, .aload_n 0, 1, [], 0, 0), (1, .getfield 48, 3, [], 12, 0), (4, .ireturn, 1, [], 0, 0)])
def d_25 : MD := (⟨"ChainTreeSignerL3", "slotOk", "(LChainTreeSigner;III)Z"⟩, method_9_code, 7, some .boolean, 0, 4, 999, 3, 49, [(0, .iload_n 1, 1, [], 0, 0), (1, .iconst 0, 1, [], 0, 0), (2, .iload_n 3, 1, [], 0, 0), (3, .invokestatic 19, 3, [], 16, 0), (6, .istore 4, 2, [], 0, 0), (8, .iload_n 2, 1, [], 0, 0), (9, .iload_n 3, 1, [], 0, 0), (10, .invokestatic 30, 3, [], 26, 0), (13, .istore 5, 2, [], 0, 0), (15, .iconst 0, 1, [], 0, 0), (16, .iload_n 3, 1, [], 0, 0), (17, .iload 4, 2, [], 0, 0), (19, .iconst 0, 1, [], 0, 0), (20, .iload 5, 2, [], 0, 0), (22, .invokestatic 22, 3, [], 19, 0), (25, .istore 6, 2, [], 0, 0), (27, .aload_n 0, 1, [], 0, 0), (28, .iload_n 3, 1, [], 0, 0), (29, .invokevirtual 33, 3, [], 27, 0), (32, .iload 6, 2, [], 0, 0), (34, .if_icmp .ne 7, 3, [], 0, 0), (37, .iconst 1, 1, [], 0, 0), (38, .goto 4, 3, [], 0, 0), (41, .iconst 0, 1, [], 0, 0), (42, .ireturn, 1, [], 0, 0)])
def d_26 : MD := (⟨"ChainTreeSignerL3", "dig", "(II)I"⟩, method_8_code, 4, some .int, 0, 2, 999, 0, 0, [(0, .iload_n 1, 1, [], 0, 0), (1, .bipush 8, 2, [], 0, 0), (3, .if_icmp .ge 15, 3, [], 0, 0), (6, .iload_n 0, 1, [], 0, 0), (7, .bipush 28, 2, [], 0, 0), (9, .iconst 4, 1, [], 0, 0), (10, .iload_n 1, 1, [], 0, 0), (11, .imul, 1, [], 0, 0), (12, .isub, 1, [], 0, 0), (13, .iushr, 1, [], 0, 0), (14, .bipush 15, 2, [], 0, 0), (16, .iand, 1, [], 0, 0), (17, .ireturn, 1, [], 0, 0), (18, .iconst 0, 1, [], 0, 0), (19, .istore_n 2, 1, [], 0, 0), (20, .iconst 0, 1, [], 0, 0), (21, .istore_n 3, 1, [], 0, 0), (22, .iload_n 3, 1, [], 0, 0), (23, .bipush 8, 2, [], 0, 0), (25, .if_icmp .ge 26, 3, [], 0, 0), (28, .iload_n 2, 1, [], 0, 0), (29, .bipush 15, 2, [], 0, 0), (31, .iload_n 0, 1, [], 0, 0), (32, .bipush 28, 2, [], 0, 0), (34, .iconst 4, 1, [], 0, 0), (35, .iload_n 3, 1, [], 0, 0), (36, .imul, 1, [], 0, 0), (37, .isub, 1, [], 0, 0), (38, .iushr, 1, [], 0, 0), (39, .bipush 15, 2, [], 0, 0), (41, .iand, 1, [], 0, 0), (42, .isub, 1, [], 0, 0), (43, .iadd, 1, [], 0, 0), (44, .istore_n 2, 1, [], 0, 0), (45, .iinc 3 1, 3, [], 0, 0), (48, .goto (-26), 3, [], 0, 0), (51, .iload_n 1, 1, [true, false, false, true], 0, 0), (52, .bipush 8, 2, [], 0, 0), (54, .if_icmp .ne 12, 3, [], 0, 0), (57, .iload_n 2, 1, [], 0, 0), (58, .iconst 4, 1, [], 0, 0), (59, .iushr, 1, [], 0, 0), (60, .bipush 15, 2, [], 0, 0), (62, .iand, 1, [], 0, 0), (63, .goto 7, 3, [], 0, 0), (66, .iload_n 2, 1, [], 0, 0), (67, .bipush 15, 2, [], 0, 0), (69, .iand, 1, [], 0, 0), (70, .ireturn, 1, [], 0, 0)])
def d_27 : MD := (⟨"ChainTreeSigner", "issuedValue", "(I)I"⟩, prog_1_method_9_code, 2, some .int, 3, 1, 0, 0, 0, [(0, .iload_n 1, 1, [], 0, 0), (1, .ifCond .lt 9, 3, [], 0, 0), (4, .iload_n 1, 1, [], 0, 0), (5, .bipush 14, 2, [], 0, 0), (7, .if_icmp .lt 5, 3, [], 0, 0), (10, .iconst 0, 1, [], 0, 0), (11, .ireturn, 1, [], 0, 0), (12, .aload_n 0, 1, [], 0, 0), (13, .getfield 7, 3, [], 0, 0), (16, .iload_n 1, 1, [], 0, 0), (17, .iaload, 1, [], 0, 0), (18, .ireturn, 1, [], 0, 0)])
def own_P : PD := ([("ChainTreeSigner", 14, [("issued", "[I", (.array .int), true), ("cand", "[I", (.array .int), true), ("tree", "[I", (.array .int), true), ("ends", "[I", (.array .int), true), ("dig", "[I", (.array .int), true), ("ev", "[I", (.array .int), true), ("h", "I", .int, false), ("leafCount", "I", .int, false), ("keyed", "Z", .boolean, false), ("seed", "I", .int, false), ("root", "I", .int, false), ("next", "I", .int, false), ("issuedQ", "I", .int, false), ("candQ", "I", .int, false)])], [d_0, d_1, d_2, d_3, d_4, d_5, d_6, d_7, d_8, d_9, d_10, d_11, d_12, d_13, d_14, d_15, d_16, d_17, d_18, d_19, d_20, d_21, d_22, d_23, d_24, d_25, d_26, d_27], 0)
theorem hm_0 : own_P.mth[0]? = some d_0 := rfl
theorem hm_1 : own_P.mth[1]? = some d_1 := rfl
theorem hm_2 : own_P.mth[2]? = some d_2 := rfl
theorem hm_3 : own_P.mth[3]? = some d_3 := rfl
theorem hm_4 : own_P.mth[4]? = some d_4 := rfl
theorem hm_5 : own_P.mth[5]? = some d_5 := rfl
theorem hm_6 : own_P.mth[6]? = some d_6 := rfl
theorem hm_7 : own_P.mth[7]? = some d_7 := rfl
theorem hm_8 : own_P.mth[8]? = some d_8 := rfl
theorem hm_9 : own_P.mth[9]? = some d_9 := rfl
theorem hm_10 : own_P.mth[10]? = some d_10 := rfl
theorem hm_11 : own_P.mth[11]? = some d_11 := rfl
theorem hm_12 : own_P.mth[12]? = some d_12 := rfl
theorem hm_13 : own_P.mth[13]? = some d_13 := rfl
theorem hm_14 : own_P.mth[14]? = some d_14 := rfl
theorem hm_15 : own_P.mth[15]? = some d_15 := rfl
theorem hm_16 : own_P.mth[16]? = some d_16 := rfl
theorem hm_17 : own_P.mth[17]? = some d_17 := rfl
theorem hm_18 : own_P.mth[18]? = some d_18 := rfl
theorem hm_19 : own_P.mth[19]? = some d_19 := rfl
theorem hm_20 : own_P.mth[20]? = some d_20 := rfl
theorem hm_21 : own_P.mth[21]? = some d_21 := rfl
theorem hm_22 : own_P.mth[22]? = some d_22 := rfl
theorem hm_23 : own_P.mth[23]? = some d_23 := rfl
theorem hm_24 : own_P.mth[24]? = some d_24 := rfl
theorem hm_25 : own_P.mth[25]? = some d_25 := rfl
theorem hm_26 : own_P.mth[26]? = some d_26 := rfl
theorem hm_27 : own_P.mth[27]? = some d_27 := rfl
set_option maxRecDepth 100000 in
theorem own_chk : chk own_P = true := by decide +kernel
def own_ix : List Nat := [1, 2, 11, 13, 15, 17, 19, 21, 23, 25, 27, 29, 31, 33, 35, 37, 5, 2, 4, 42, 2, 39, 41, 40, 46, 2, 44, 45, 50, 2, 48, 49, 54, 2, 52, 53, 59, 2, 56, 58, 57, 64, 2, 62, 63, 68, 2, 66, 67, 72, 2, 70, 71, 77, 2, 75, 76, 81, 2, 79, 80, 86, 2, 84, 85, 90, 2, 88, 89, 95, 94, 93, 98, 94, 97, 101, 94, 100, 104, 94, 103, 108, 94, 107, 111, 94, 110, 118, 2, 115, 117, 116, 124, 2, 121, 123, 122, 128, 2, 126, 127, 132, 2, 130, 131, 137, 2, 134, 136, 135, 140, 94, 139, 143, 94, 142, 148, 2, 145, 147, 146, 0, 3, 38, 92, 92, 114, 119, 102, 120, 133, 138, 138, 144, 144, 6, 7, 8, 9, 10, 9, 12, 9, 14, 9, 16, 9, 18, 9, 20, 22, 24, 26, 28, 30, 32, 34, 36, 26, 28, 43, 83, 14, 22, 30, 26, 32, 24, 47, 65, 16, 20, 14, 74, 51, 28, 55, 60, 61, 61, 69, 55, 73, 20, 78, 20, 55, 82, 22, 24, 87, 14, 14, 14, 55, 91, 96, 96, 113, 102, 96, 113, 102, 99, 109, 102, 105, 106, 106, 112, 102, 26, 30, 26, 32, 24, 32, 125, 47, 10, 18, 65, 129, 34, 32, 18, 18, 18, 22, 14, 10, 34, 99, 141, 109, 144, 10]
set_option maxRecDepth 100000 in
theorem own_words : (wordsOf own_P).map some = own_ix.map fun k => tables_1[k]? := rfl
theorem own_in : ∀ d ∈ wordsOf own_P, d ∈ tables_1 := fun d hd => by
  have h1 : some d ∈ (wordsOf own_P).map some := List.mem_map.mpr ⟨d, hd, rfl⟩
  rw [own_words] at h1
  obtain ⟨k, -, hk⟩ := List.mem_map.mp h1
  exact List.mem_of_getElem? hk
abbrev bk0 (s_issued : List Int32) (s_cand : List Int32) (s_tree : List Int32) (s_ends : List Int32) (s_dig : List Int32) (s_ev : List Int32) (s_h : Int32) (s_leafCount : Int32) (s_keyed : Int32) (s_seed : Int32) (s_root : Int32) (s_next : Int32) (s_issuedQ : Int32) (s_candQ : Int32) (po : List ACell) : List ACell := .inl (0, [.ref 1, .ref 2, .ref 3, .ref 4, .ref 5, .ref 6, .int s_h, .int s_leafCount, .int s_keyed, .int s_seed, .int s_root, .int s_next, .int s_issuedQ, .int s_candQ]) :: .inr (.inl (false, s_issued)) :: .inr (.inl (false, s_cand)) :: .inr (.inl (false, s_tree)) :: .inr (.inl (false, s_ends)) :: .inr (.inl (false, s_dig)) :: .inr (.inl (false, s_ev)) :: po
def f_init_69 (o_issued : List Int32) (o_cand : List Int32) (o_tree : List Int32) (o_ends : List Int32) (o_dig : List Int32) (o_ev : List Int32) (o_h : Int32) (o_leafCount : Int32) (o_keyed : Int32) (o_seed : Int32) (o_root : Int32) (o_next : Int32) (o_issuedQ : Int32) (o_candQ : Int32) (v2 : Int32) : Option (List Int32 × List Int32 × List Int32 × List Int32 × List Int32 × List Int32 × Int32 × Int32 × Int32 × Int32 × Int32 × Int32 × Int32 × Int32) :=
  some (o_issued, o_cand, o_tree, o_ends, o_dig, o_ev, v2, ((1 : Int32) <<< (v2 &&& 31)), (0 : Int32), (0 : Int32), (0 : Int32), (0 : Int32), (-1 : Int32), (0 : Int32))
def f_init_62 (o_issued : List Int32) (o_cand : List Int32) (o_tree : List Int32) (o_ends : List Int32) (o_dig : List Int32) (o_ev : List Int32) (o_h : Int32) (o_leafCount : Int32) (o_keyed : Int32) (o_seed : Int32) (o_root : Int32) (o_next : Int32) (o_issuedQ : Int32) (o_candQ : Int32) (v2 : Int32) : Option (List Int32 × List Int32 × List Int32 × List Int32 × List Int32 × List Int32 × Int32 × Int32 × Int32 × Int32 × Int32 × Int32 × Int32 × Int32) :=
  f_init_69 o_issued o_cand o_tree o_ends o_dig o_ev o_h o_leafCount o_keyed o_seed o_root o_next o_issuedQ o_candQ (if (4 : Int32) < v2 then (4 : Int32) else v2)
def f_init (v1 : Int32) : Option (List Int32 × List Int32 × List Int32 × List Int32 × List Int32 × List Int32 × Int32 × Int32 × Int32 × Int32 × Int32 × Int32 × Int32 × Int32) :=
  f_init_62 (List.replicate 14 0) (List.replicate 14 0) (List.replicate 80 0) (List.replicate 160 0) (List.replicate 10 0) (List.replicate 10 0) (0 : Int32) (0 : Int32) (0 : Int32) (0 : Int32) (0 : Int32) (0 : Int32) (0 : Int32) (0 : Int32) (if v1 < (1 : Int32) then (1 : Int32) else v1)
def f_secretTweak (v1 : Int32) (v2 : Int32) : Option (Int32) :=
  some ((v1 <<< ((16 : Int32) &&& 31)) ||| (v2 <<< ((8 : Int32) &&& 31)))
def f_rotl (v1 : Int32) (v2 : Int32) : Option (Int32) :=
  some ((v1 <<< (v2 &&& 31)) ||| (XT.ushr v1 ((32 : Int32) - v2)))
def f_hash_14 : Nat → Int32 → Int32 → Int32 → Int32 → Option (Int32)
  | 0, _, _, _, _ => none
  | n + 1, v1, v4, v5, v6 =>
    if v6 < (4 : Int32) then
      (f_rotl v5 (7 : Int32)).bind fun r1 =>
      (f_rotl (v4 + v5) (13 : Int32)).bind fun r2 =>
      f_hash_14 n v1 ((r2 + v1) + v6) (r1 ^^^ (v4 + v5)) (v6 + (1 : Int32))
    else
      some (v4 ^^^ v5)
def f_hash (v1 : Int32) (v2 : Int32) (v3 : Int32) : Option (Int32) :=
  f_hash_14 100000 v1 (v2 ^^^ v1) (v3 + (-1640531527 : Int32)) (0 : Int32)
def f_secretKey (o_seed : Int32) (v1 : Int32) (v2 : Int32) : Option (Int32) :=
  (f_secretTweak v1 v2).bind fun r3 =>
  (f_hash r3 o_seed (0 : Int32)).bind fun r4 =>
  some r4
def f_stepTweak (v1 : Int32) (v2 : Int32) (v3 : Int32) : Option (Int32) :=
  some ((((268435456 : Int32) ||| (v1 <<< ((16 : Int32) &&& 31))) ||| (v2 <<< ((8 : Int32) &&& 31))) ||| v3)
def f_walk_6 : Nat → Int32 → Int32 → Int32 → Int32 → Int32 → Int32 → Option (Int32)
  | 0, _, _, _, _, _, _ => none
  | n + 1, v1, v2, v4, v5, v6, v7 =>
    if v7 < v5 then
      if v7 < (16 : Int32) then
        (f_stepTweak v1 v2 (v4 + v7)).bind fun r5 =>
        (f_hash r5 v6 (0 : Int32)).bind fun r6 =>
        f_walk_6 n v1 v2 v4 v5 r6 (v7 + (1 : Int32))
      else
        some v6
    else
      some v6
def f_walk (v1 : Int32) (v2 : Int32) (v3 : Int32) (v4 : Int32) (v5 : Int32) : Option (Int32) :=
  f_walk_6 100000 v1 v2 v4 v5 v3 (0 : Int32)
def f_foldTweak (v1 : Int32) (v2 : Int32) : Option (Int32) :=
  some (((536870912 : Int32) ||| (v1 <<< ((16 : Int32) &&& 31))) ||| v2)
def f_foldEnds_9 (o_ev : List Int32) : Nat → Int32 → Int32 → Int32 → Option (Int32)
  | 0, _, _, _ => none
  | n + 1, v1, v2, v3 =>
    if v3 < (10 : Int32) then
      (f_foldTweak v1 v3).bind fun r8 =>
      (rdA o_ev v3).bind fun x9 =>
      (f_hash r8 v2 x9).bind fun r10 =>
      f_foldEnds_9 o_ev n v1 r10 (v3 + (1 : Int32))
    else
      some v2
def f_foldEnds (o_ev : List Int32) (v1 : Int32) : Option (Int32) :=
  (rdA o_ev (0 : Int32)).bind fun x7 =>
  f_foldEnds_9 o_ev 100000 v1 x7 (1 : Int32)
def f_buildLeaves_70 (kb : List Int32 → List Int32 → List Int32 → Int32 → Option (List Int32 × List Int32 × List Int32)) (o_leafCount : Int32) (o_seed : Int32) (o_tree : List Int32) (o_ends : List Int32) (o_ev : List Int32) (v1 : Int32) : Option (List Int32 × List Int32 × List Int32) :=
  (f_foldEnds o_ev v1).bind fun r15 =>
  (wrA o_tree v1 r15).bind fun A16 =>
  kb A16 o_ends o_ev (v1 + (1 : Int32))
def f_buildLeaves_18 (k70 : List Int32 → List Int32 → List Int32 → Int32 → Option (List Int32 × List Int32 × List Int32)) (o_leafCount : Int32) (o_seed : Int32) : Nat → List Int32 → List Int32 → List Int32 → Int32 → Int32 → Option (List Int32 × List Int32 × List Int32)
  | 0, _, _, _, _, _ => none
  | n + 1, o_tree, o_ends, o_ev, v1, v2 =>
    if v2 < (10 : Int32) then
      (f_secretKey o_seed v1 v2).bind fun r11 =>
      (f_walk v1 v2 r11 (0 : Int32) (15 : Int32)).bind fun r12 =>
      (wrA o_ends ((v1 * (10 : Int32)) + v2) r12).bind fun A13 =>
      (wrA o_ev v2 r12).bind fun A14 =>
      f_buildLeaves_18 k70 o_leafCount o_seed n o_tree A13 A14 v1 (v2 + (1 : Int32))
    else
      k70 o_tree o_ends o_ev v1
def f_buildLeaves_2 (o_leafCount : Int32) (o_seed : Int32) : Nat → List Int32 → List Int32 → List Int32 → Int32 → Option (List Int32 × List Int32 × List Int32)
  | 0, _, _, _, _ => none
  | n + 1, o_tree, o_ends, o_ev, v1 =>
    if v1 < o_leafCount then
      if v1 < (16 : Int32) then
        f_buildLeaves_18 (f_buildLeaves_70 (f_buildLeaves_2 o_leafCount o_seed n) o_leafCount o_seed) o_leafCount o_seed 100000 o_tree o_ends o_ev v1 (0 : Int32)
      else
        some (o_tree, o_ends, o_ev)
    else
      some (o_tree, o_ends, o_ev)
def f_buildLeaves (o_leafCount : Int32) (o_seed : Int32) (o_tree : List Int32) (o_ends : List Int32) (o_ev : List Int32) : Option (List Int32 × List Int32 × List Int32) :=
  f_buildLeaves_2 o_leafCount o_seed 100000 o_tree o_ends o_ev (0 : Int32)
def f_nodeTweak (v1 : Int32) (v2 : Int32) : Option (Int32) :=
  some (((805306368 : Int32) ||| (v1 <<< ((16 : Int32) &&& 31))) ||| v2)
def f_buildUpperLevels_24 (k2 : List Int32 → Int32 → Option (List Int32)) (o_h : Int32) (o_leafCount : Int32) : Nat → List Int32 → Int32 → Int32 → Int32 → Option (List Int32)
  | 0, _, _, _, _ => none
  | n + 1, o_tree, v1, v2, v3 =>
    if v3 < v2 then
      if v3 < (16 : Int32) then
        (f_nodeTweak v1 v3).bind fun r17 =>
        (rdA o_tree (((v1 - (1 : Int32)) * (16 : Int32)) + ((2 : Int32) * v3))).bind fun x18 =>
        (rdA o_tree ((((v1 - (1 : Int32)) * (16 : Int32)) + ((2 : Int32) * v3)) + (1 : Int32))).bind fun x19 =>
        (f_hash r17 x18 x19).bind fun r20 =>
        (wrA o_tree ((v1 * (16 : Int32)) + v3) r20).bind fun A21 =>
        f_buildUpperLevels_24 k2 o_h o_leafCount n A21 v1 v2 (v3 + (1 : Int32))
      else
        k2 o_tree (v1 + (1 : Int32))
    else
      k2 o_tree (v1 + (1 : Int32))
def f_buildUpperLevels_2 (o_h : Int32) (o_leafCount : Int32) : Nat → List Int32 → Int32 → Option (List Int32)
  | 0, _, _ => none
  | n + 1, o_tree, v1 =>
    if o_h < v1 then
      some o_tree
    else
      if (4 : Int32) < v1 then
        some o_tree
      else
        f_buildUpperLevels_24 (f_buildUpperLevels_2 o_h o_leafCount n) o_h o_leafCount 100000 o_tree v1 (o_leafCount >>> (v1 &&& 31)) (0 : Int32)
def f_buildUpperLevels (o_h : Int32) (o_leafCount : Int32) (o_tree : List Int32) : Option (List Int32) :=
  f_buildUpperLevels_2 o_h o_leafCount 100000 o_tree (1 : Int32)
def f_keygen (o_h : Int32) (o_leafCount : Int32) (o_tree : List Int32) (o_ends : List Int32) (o_ev : List Int32) (o_keyed : Int32) (o_seed : Int32) (o_root : Int32) (o_next : Int32) (v1 : Int32) : Option (Int32 × List Int32 × List Int32 × List Int32 × Int32 × Int32 × Int32 × Int32) :=
  if o_keyed = (0 : Int32) then
    (f_buildLeaves o_leafCount v1 o_tree o_ends o_ev).bind fun (s22, s23, s24) =>
    (f_buildUpperLevels o_h o_leafCount s22).bind fun s25 =>
    (rdA s25 (o_h * (16 : Int32))).bind fun x26 =>
    some ((1 : Int32), s25, s23, s24, (1 : Int32), v1, x26, (0 : Int32))
  else
    some ((0 : Int32), o_tree, o_ends, o_ev, o_keyed, o_seed, o_root, o_next)
def f_L_rotl (v0 : Int32) (v1 : Int32) : Option (Int32) :=
  some ((v0 <<< (v1 &&& 31)) ||| (XT.ushr v0 ((32 : Int32) - v1)))
def f_L_H_13 : Nat → Int32 → Int32 → Int32 → Int32 → Option (Int32)
  | 0, _, _, _, _ => none
  | n + 1, v0, v3, v4, v5 =>
    if v5 < (4 : Int32) then
      (f_L_rotl v4 (7 : Int32)).bind fun r27 =>
      (f_L_rotl (v3 + v4) (13 : Int32)).bind fun r28 =>
      f_L_H_13 n v0 ((r28 + v0) + v5) (r27 ^^^ (v3 + v4)) (v5 + (1 : Int32))
    else
      some (v3 ^^^ v4)
def f_L_H (v0 : Int32) (v1 : Int32) (v2 : Int32) : Option (Int32) :=
  f_L_H_13 100000 v0 (v1 ^^^ v0) (v2 + (-1640531527 : Int32)) (0 : Int32)
def f_L_sk (v0 : Int32) (v1 : Int32) (v2 : Int32) : Option (Int32) :=
  (f_L_H ((v1 <<< ((16 : Int32) &&& 31)) ||| (v2 <<< ((8 : Int32) &&& 31))) v0 (0 : Int32)).bind fun r29 =>
  some r29
def f_L_walk_12 (k3 : Int32 → Int32 → Int32 → Int32 → Int32 → Int32 → Option (Int32)) : Nat → Int32 → Int32 → Int32 → Int32 → Int32 → Int32 → Int32 → Option (Int32)
  | 0, _, _, _, _, _, _, _ => none
  | n + 1, v0, v1, v2, v3, v4, v5, v6 =>
    if v6 < (4 : Int32) then
      if (((4 : Int32) * v5) + v6) < v4 then
        (f_L_H ((((268435456 : Int32) ||| (v0 <<< ((16 : Int32) &&& 31))) ||| (v1 <<< ((8 : Int32) &&& 31))) ||| (v3 + (((4 : Int32) * v5) + v6))) v2 (0 : Int32)).bind fun r30 =>
        f_L_walk_12 k3 n v0 v1 r30 v3 v4 v5 (v6 + (1 : Int32))
      else
        f_L_walk_12 k3 n v0 v1 v2 v3 v4 v5 (v6 + (1 : Int32))
    else
      k3 v0 v1 v2 v3 v4 (v5 + (1 : Int32))
def f_L_walk_3 : Nat → Int32 → Int32 → Int32 → Int32 → Int32 → Int32 → Option (Int32)
  | 0, _, _, _, _, _, _ => none
  | n + 1, v0, v1, v2, v3, v4, v5 =>
    if v5 < (4 : Int32) then
      f_L_walk_12 (f_L_walk_3 n) 100000 v0 v1 v2 v3 v4 v5 (0 : Int32)
    else
      some v2
def f_L_walk (v0 : Int32) (v1 : Int32) (v2 : Int32) (v3 : Int32) (v4 : Int32) : Option (Int32) :=
  f_L_walk_3 100000 v0 v1 v2 v3 v4 (0 : Int32)
def f_L_end (v0 : Int32) (v1 : Int32) (v2 : Int32) : Option (Int32) :=
  (f_L_sk v0 v1 v2).bind fun r31 =>
  (f_L_walk v1 v2 r31 (0 : Int32) (15 : Int32)).bind fun r32 =>
  some r32
def f_L_leaf_45 (v0 : Int32) (v1 : Int32) (v2 : Int32) : Option (Int32) :=
  (f_L_end v0 v1 (9 : Int32)).bind fun r36 =>
  (f_L_H (((536870912 : Int32) ||| (v1 <<< ((16 : Int32) &&& 31))) ||| (9 : Int32)) v2 r36).bind fun r37 =>
  some r37
def f_L_leaf_9 (k45 : Int32 → Int32 → Int32 → Option (Int32)) : Nat → Int32 → Int32 → Int32 → Int32 → Option (Int32)
  | 0, _, _, _, _ => none
  | n + 1, v0, v1, v2, v3 =>
    if (8 : Int32) < v3 then
      k45 v0 v1 v2
    else
      (f_L_end v0 v1 v3).bind fun r34 =>
      (f_L_H (((536870912 : Int32) ||| (v1 <<< ((16 : Int32) &&& 31))) ||| v3) v2 r34).bind fun r35 =>
      f_L_leaf_9 k45 n v0 v1 r35 (v3 + (1 : Int32))
def f_L_leaf (v0 : Int32) (v1 : Int32) : Option (Int32) :=
  (f_L_end v0 v1 (0 : Int32)).bind fun r33 =>
  f_L_leaf_9 f_L_leaf_45 100000 v0 v1 r33 (1 : Int32)
def f_getRoot (o_keyed : Int32) (o_root : Int32) : Option (Int32) :=
  some (if o_keyed = (0 : Int32) then (0 : Int32) else o_root)
def f_fillDigits_45 (o_dig : List Int32) (v2 : Int32) : Option (List Int32) :=
  (wrA o_dig (8 : Int32) ((XT.ushr v2 (4 : Int32)) &&& (15 : Int32))).bind fun A39 =>
  (wrA A39 (9 : Int32) (v2 &&& (15 : Int32))).bind fun A40 =>
  some A40
def f_fillDigits_4 (k45 : List Int32 → Int32 → Option (List Int32)) : Nat → List Int32 → Int32 → Int32 → Int32 → Option (List Int32)
  | 0, _, _, _, _ => none
  | n + 1, o_dig, v1, v2, v3 =>
    if v3 < (8 : Int32) then
      (wrA o_dig v3 ((XT.ushr v1 ((28 : Int32) - ((4 : Int32) * v3))) &&& (15 : Int32))).bind fun A38 =>
      f_fillDigits_4 k45 n A38 v1 (v2 + ((15 : Int32) - ((XT.ushr v1 ((28 : Int32) - ((4 : Int32) * v3))) &&& (15 : Int32)))) (v3 + (1 : Int32))
    else
      k45 o_dig v2
def f_fillDigits (o_dig : List Int32) (v1 : Int32) : Option (List Int32) :=
  f_fillDigits_4 f_fillDigits_45 100000 o_dig v1 (0 : Int32) (0 : Int32)
def f_fillPath_40 (kb : List Int32 → Int32 → Int32 → Option (List Int32)) (o_tree : List Int32) (o_h : Int32) (o_issued : List Int32) (v1 : Int32) (v2 : Int32) (v3 : Int32) : Option (List Int32) :=
  (wrA o_issued ((10 : Int32) + v2) v3).bind fun A42 =>
  kb A42 v1 (v2 + (1 : Int32))
def f_fillPath_2 (o_tree : List Int32) (o_h : Int32) : Nat → List Int32 → Int32 → Int32 → Option (List Int32)
  | 0, _, _, _ => none
  | n + 1, o_issued, v1, v2 =>
    if v2 < (4 : Int32) then
      if v2 < o_h then
        (rdA o_tree ((v2 * (16 : Int32)) + (((XT.ushr v1 v2) ^^^ (1 : Int32)) &&& (15 : Int32)))).bind fun x41 =>
        f_fillPath_40 (f_fillPath_2 o_tree o_h n) o_tree o_h o_issued v1 v2 x41
      else
        f_fillPath_40 (f_fillPath_2 o_tree o_h n) o_tree o_h o_issued v1 v2 (0 : Int32)
    else
      some o_issued
def f_fillPath (o_tree : List Int32) (o_h : Int32) (o_issued : List Int32) (v1 : Int32) : Option (List Int32) :=
  f_fillPath_2 o_tree o_h 100000 o_issued v1 (0 : Int32)
def f_sign_76 (o_tree : List Int32) (o_h : Int32) (o_leafCount : Int32) (o_keyed : Int32) (o_seed : Int32) (o_issued : List Int32) (o_dig : List Int32) (o_next : Int32) (o_issuedQ : Int32) (v2 : Int32) : Option (Int32 × List Int32 × List Int32 × Int32 × Int32) :=
  (f_fillPath o_tree o_h o_issued v2).bind fun s48 =>
  some (v2, s48, o_dig, (v2 + (1 : Int32)), v2)
def f_sign_35 (k76 : List Int32 → List Int32 → Int32 → Int32 → Int32 → Option (Int32 × List Int32 × List Int32 × Int32 × Int32)) (o_tree : List Int32) (o_h : Int32) (o_leafCount : Int32) (o_keyed : Int32) (o_seed : Int32) : Nat → List Int32 → List Int32 → Int32 → Int32 → Int32 → Int32 → Option (Int32 × List Int32 × List Int32 × Int32 × Int32)
  | 0, _, _, _, _, _, _ => none
  | n + 1, o_issued, o_dig, o_next, o_issuedQ, v2, v3 =>
    if v3 < (10 : Int32) then
      (f_secretKey o_seed v2 v3).bind fun r44 =>
      (rdA o_dig v3).bind fun x45 =>
      (f_walk v2 v3 r44 (0 : Int32) x45).bind fun r46 =>
      (wrA o_issued v3 r46).bind fun A47 =>
      f_sign_35 k76 o_tree o_h o_leafCount o_keyed o_seed n A47 o_dig o_next o_issuedQ v2 (v3 + (1 : Int32))
    else
      k76 o_issued o_dig o_next o_issuedQ v2
def f_sign (o_tree : List Int32) (o_h : Int32) (o_leafCount : Int32) (o_keyed : Int32) (o_seed : Int32) (o_issued : List Int32) (o_dig : List Int32) (o_next : Int32) (o_issuedQ : Int32) (v1 : Int32) : Option (Int32 × List Int32 × List Int32 × Int32 × Int32) :=
  if o_keyed = (0 : Int32) then
    some ((-1 : Int32), o_issued, o_dig, o_next, o_issuedQ)
  else
    if o_next < o_leafCount then
      (f_fillDigits o_dig v1).bind fun s43 =>
      f_sign_35 (f_sign_76 o_tree o_h o_leafCount o_keyed o_seed) o_tree o_h o_leafCount o_keyed o_seed 100000 o_issued s43 o_next o_issuedQ o_next (0 : Int32)
    else
      some ((-2 : Int32), o_issued, o_dig, o_next, o_issuedQ)
def f_issuedLeaf (o_issuedQ : Int32) : Option (Int32) :=
  some o_issuedQ
def f_L_dig_51 (v1 : Int32) (v2 : Int32) : Option (Int32) :=
  some (if v1 = (8 : Int32) then ((XT.ushr v2 (4 : Int32)) &&& (15 : Int32)) else (v2 &&& (15 : Int32)))
def f_L_dig_22 (k51 : Int32 → Int32 → Option (Int32)) : Nat → Int32 → Int32 → Int32 → Int32 → Option (Int32)
  | 0, _, _, _, _ => none
  | n + 1, v0, v1, v2, v3 =>
    if v3 < (8 : Int32) then
      f_L_dig_22 k51 n v0 v1 (v2 + ((15 : Int32) - ((XT.ushr v0 ((28 : Int32) - ((4 : Int32) * v3))) &&& (15 : Int32)))) (v3 + (1 : Int32))
    else
      k51 v1 v2
def f_L_dig (v0 : Int32) (v1 : Int32) : Option (Int32) :=
  if v1 < (8 : Int32) then
    some ((XT.ushr v0 ((28 : Int32) - ((4 : Int32) * v1))) &&& (15 : Int32))
  else
    f_L_dig_22 f_L_dig_51 100000 v0 v1 (0 : Int32) (0 : Int32)
def f_issuedValue (o_issued : List Int32) (v1 : Int32) : Option (Int32) :=
  if v1 < (0 : Int32) then
    some (0 : Int32)
  else
    if v1 < (14 : Int32) then
      (rdA o_issued v1).bind fun x49 =>
      some x49
    else
      some (0 : Int32)
def f_L_slotOk (p0_issued : List Int32) (v1 : Int32) (v2 : Int32) (v3 : Int32) : Option (Int32) :=
  (f_L_sk v1 (0 : Int32) v3).bind fun r50 =>
  (f_L_dig v2 v3).bind fun r51 =>
  (f_L_walk (0 : Int32) v3 r50 (0 : Int32) r51).bind fun r52 =>
  (f_issuedValue p0_issued v3).bind fun r53 =>
  some (if r53 = r52 then (1 : Int32) else (0 : Int32))
def f_L_law_131 : Nat → List Int32 → Int32 → Option (Int32)
  | 0, _, _ => none
  | n + 1, n0_issued, v5 =>
    if v5 < (3 : Int32) then
      (f_issuedValue n0_issued ((11 : Int32) + v5)).bind fun r89 =>
      if r89 = (0 : Int32) then
        f_L_law_131 n n0_issued (v5 + (1 : Int32))
      else
        some (0 : Int32)
    else
      some (1 : Int32)
def f_L_law_115 (n0_issued : List Int32) (v4 : Int32) : Option (Int32) :=
  (f_issuedValue n0_issued (10 : Int32)).bind fun r88 =>
  if r88 = v4 then
    f_L_law_131 100000 n0_issued (0 : Int32)
  else
    some (0 : Int32)
def f_L_law_71 (k115 : List Int32 → Int32 → Option (Int32)) : Nat → List Int32 → Int32 → Int32 → Int32 → Int32 → Option (Int32)
  | 0, _, _, _, _, _ => none
  | n + 1, n0_issued, v0, v1, v4, v5 =>
    if v5 < (5 : Int32) then
      (f_L_slotOk n0_issued v0 v1 v5).bind fun r86 =>
      if r86 = (0 : Int32) then
        some (0 : Int32)
      else
        (f_L_slotOk n0_issued v0 v1 (v5 + (5 : Int32))).bind fun r87 =>
        if r87 = (0 : Int32) then
          some (0 : Int32)
        else
          f_L_law_71 k115 n n0_issued v0 v1 v4 (v5 + (1 : Int32))
    else
      k115 n0_issued v4
def f_L_law (v0 : Int32) (v1 : Int32) : Option (Int32) :=
  (f_init (1 : Int32)).bind fun (s54, s55, s56, s57, s58, s59, s60, s61, s62, s63, s64, s65, s66, s67) =>
  (f_keygen s60 s61 s56 s57 s59 s62 s63 s64 s65 v0).bind fun (r68, s69, s70, s71, s72, s73, s74, s75) =>
  if r68 = (0 : Int32) then
    some (0 : Int32)
  else
    (f_L_leaf v0 (0 : Int32)).bind fun r76 =>
    (f_L_leaf v0 (1 : Int32)).bind fun r77 =>
    (f_getRoot s72 s74).bind fun r78 =>
    (f_L_H (805371904 : Int32) r76 r77).bind fun r79 =>
    if r78 = r79 then
      (f_sign s69 s60 s61 s72 s73 s54 s58 s75 s66 v1).bind fun (r80, s81, s82, s83, s84) =>
      if r80 = (0 : Int32) then
        (f_issuedLeaf s84).bind fun r85 =>
        if r85 = (0 : Int32) then
          f_L_law_71 f_L_law_115 100000 s81 v0 v1 r77 (0 : Int32)
        else
          some (0 : Int32)
      else
        some (0 : Int32)
    else
      some (0 : Int32)
set_option maxHeartbeats 4000000
set_option maxRecDepth 10000
theorem ok_init_69 : ∀ {o_issued : List Int32} {o_cand : List Int32} {o_tree : List Int32} {o_ends : List Int32} {o_dig : List Int32} {o_ev : List Int32} {o_h : Int32} {o_leafCount : Int32} {o_keyed : Int32} {o_seed : Int32} {o_root : Int32} {o_next : Int32} {o_issuedQ : Int32} {o_candQ : Int32} {v2 : Int32} {d1 : Slot} {w_o_issued : List Int32} {w_o_cand : List Int32} {w_o_tree : List Int32} {w_o_ends : List Int32} {w_o_dig : List Int32} {w_o_ev : List Int32} {w_o_h : Int32} {w_o_leafCount : Int32} {w_o_keyed : Int32} {w_o_seed : Int32} {w_o_root : Int32} {w_o_next : Int32} {w_o_issuedQ : Int32} {w_o_candQ : Int32}, f_init_69 o_issued o_cand o_tree o_ends o_dig o_ev o_h o_leafCount o_keyed o_seed o_root o_next o_issuedQ o_candQ v2 = some (w_o_issued, w_o_cand, w_o_tree, w_o_ends, w_o_dig, w_o_ev, w_o_h, w_o_leafCount, w_o_keyed, w_o_seed, w_o_root, w_o_next, w_o_issuedQ, w_o_candQ) → OEnds own_P 1 69 [.val (.ref 0), d1, .val (.int v2)] [] (bk0 o_issued o_cand o_tree o_ends o_dig o_ev o_h o_leafCount o_keyed o_seed o_root o_next o_issuedQ o_candQ []) (none, (bk0 w_o_issued w_o_cand w_o_tree w_o_ends w_o_dig w_o_ev w_o_h w_o_leafCount w_o_keyed w_o_seed w_o_root w_o_next w_o_issuedQ w_o_candQ []), 0, 0) := by
  intro o_issued o_cand o_tree o_ends o_dig o_ev o_h o_leafCount o_keyed o_seed o_root o_next o_issuedQ o_candQ v2 d1 w_o_issued w_o_cand w_o_tree w_o_ends w_o_dig w_o_ev w_o_h w_o_leafCount w_o_keyed w_o_seed w_o_root w_o_next w_o_issuedQ w_o_candQ h
  unfold f_init_69 at h
  refine OEnds.adv hm_1 26 (pc' := 111) (L' := [.val (.ref 0), .unset, .val (.int v2)]) (S' := []) (H' := (bk0 o_issued o_cand o_tree o_ends o_dig o_ev v2 ((1 : Int32) <<< (v2 &&& 31)) 0 0 0 0 (-1) 0 [])) rfl ?_
  cases h
  exact OEnds.vret hm_1 rfl rfl
theorem ok_init_62 : ∀ {o_issued : List Int32} {o_cand : List Int32} {o_tree : List Int32} {o_ends : List Int32} {o_dig : List Int32} {o_ev : List Int32} {o_h : Int32} {o_leafCount : Int32} {o_keyed : Int32} {o_seed : Int32} {o_root : Int32} {o_next : Int32} {o_issuedQ : Int32} {o_candQ : Int32} {v2 : Int32} {d1 : Slot} {w_o_issued : List Int32} {w_o_cand : List Int32} {w_o_tree : List Int32} {w_o_ends : List Int32} {w_o_dig : List Int32} {w_o_ev : List Int32} {w_o_h : Int32} {w_o_leafCount : Int32} {w_o_keyed : Int32} {w_o_seed : Int32} {w_o_root : Int32} {w_o_next : Int32} {w_o_issuedQ : Int32} {w_o_candQ : Int32}, f_init_62 o_issued o_cand o_tree o_ends o_dig o_ev o_h o_leafCount o_keyed o_seed o_root o_next o_issuedQ o_candQ v2 = some (w_o_issued, w_o_cand, w_o_tree, w_o_ends, w_o_dig, w_o_ev, w_o_h, w_o_leafCount, w_o_keyed, w_o_seed, w_o_root, w_o_next, w_o_issuedQ, w_o_candQ) → OEnds own_P 1 62 [.val (.ref 0), d1, .val (.int v2)] [] (bk0 o_issued o_cand o_tree o_ends o_dig o_ev o_h o_leafCount o_keyed o_seed o_root o_next o_issuedQ o_candQ []) (none, (bk0 w_o_issued w_o_cand w_o_tree w_o_ends w_o_dig w_o_ev w_o_h w_o_leafCount w_o_keyed w_o_seed w_o_root w_o_next w_o_issuedQ w_o_candQ []), 0, 0) := by
  intro o_issued o_cand o_tree o_ends o_dig o_ev o_h o_leafCount o_keyed o_seed o_root o_next o_issuedQ o_candQ v2 d1 w_o_issued w_o_cand w_o_tree w_o_ends w_o_dig w_o_ev w_o_h w_o_leafCount w_o_keyed w_o_seed w_o_root w_o_next w_o_issuedQ w_o_candQ h
  unfold f_init_62 at h
  refine OEnds.adv hm_1 2 (pc' := 64) (L' := [.val (.ref 0), .unset, .val (.int v2)]) (S' := [.int 4, .int v2]) (H' := (bk0 o_issued o_cand o_tree o_ends o_dig o_ev o_h o_leafCount o_keyed o_seed o_root o_next o_issuedQ o_candQ [])) rfl ?_
  by_cases hc1 : (4 : Int32) < v2
  · simp only [if_pos hc1] at h
    refine OEnds.icmpF hm_1 rfl ((tlt hc1).2.2.2) ?_
    refine OEnds.adv hm_1 2 (pc' := 69) (L' := [.val (.ref 0), .unset, .val (.int 4)]) (S' := []) (H' := (bk0 o_issued o_cand o_tree o_ends o_dig o_ev o_h o_leafCount o_keyed o_seed o_root o_next o_issuedQ o_candQ [])) rfl ?_
    exact ok_init_69 h
  · simp only [if_neg hc1] at h
    refine OEnds.icmpT hm_1 rfl (q := 69) rfl ((flt hc1).2.2.2) ?_
    show OEnds own_P 1 69 [.val (.ref 0), .unset, .val (.int v2)] [] (bk0 o_issued o_cand o_tree o_ends o_dig o_ev o_h o_leafCount o_keyed o_seed o_root o_next o_issuedQ o_candQ []) _
    exact ok_init_69 h
theorem ok_init {v1 : Int32} {w_o_issued : List Int32} {w_o_cand : List Int32} {w_o_tree : List Int32} {w_o_ends : List Int32} {w_o_dig : List Int32} {w_o_ev : List Int32} {w_o_h : Int32} {w_o_leafCount : Int32} {w_o_keyed : Int32} {w_o_seed : Int32} {w_o_root : Int32} {w_o_next : Int32} {w_o_issuedQ : Int32} {w_o_candQ : Int32} (h : f_init v1 = some (w_o_issued, w_o_cand, w_o_tree, w_o_ends, w_o_dig, w_o_ev, w_o_h, w_o_leafCount, w_o_keyed, w_o_seed, w_o_root, w_o_next, w_o_issuedQ, w_o_candQ)) : OEnds own_P 1 0 [.val (.ref 0), .val (.int v1), .unset] [] ((.inl (0, [.null, .null, .null, .null, .null, .null, .int 0, .int 0, .int 0, .int 0, .int 0, .int 0, .int 0, .int 0]) : ACell) :: []) (none, (bk0 w_o_issued w_o_cand w_o_tree w_o_ends w_o_dig w_o_ev w_o_h w_o_leafCount w_o_keyed w_o_seed w_o_root w_o_next w_o_issuedQ w_o_candQ []), 6, 288) := by
  unfold f_init at h
  refine OEnds.adv hm_1 1 (pc' := 1) (L' := [.val (.ref 0), .val (.int v1), .unset]) (S' := [.ref 0]) (H' := ((.inl (0, [.null, .null, .null, .null, .null, .null, .int 0, .int 0, .int 0, .int 0, .int 0, .int 0, .int 0, .int 0]) : ACell) :: [])) rfl ?_
  refine OEnds.oinit hm_1 rfl ⟨Nat.le_of_ble_eq_true rfl, Nat.le_of_ble_eq_true rfl⟩ ?_
  refine OEnds.adv hm_1 2 (pc' := 7) (L' := [.val (.ref 0), .val (.int v1), .unset]) (S' := [.int 14, .ref 0]) (H' := ((.inl (0, [.null, .null, .null, .null, .null, .null, .int 0, .int 0, .int 0, .int 0, .int 0, .int 0, .int 0, .int 0]) : ACell) :: [])) rfl ?_
  refine OEnds.made1 hm_1 rfl rfl (ks := 14) rfl rfl ?_
  refine OEnds.adv hm_1 3 (pc' := 15) (L' := [.val (.ref 0), .val (.int v1), .unset]) (S' := [.int 14, .ref 0]) (H' := ((.inl (0, [.ref 1, .null, .null, .null, .null, .null, .int 0, .int 0, .int 0, .int 0, .int 0, .int 0, .int 0, .int 0]) : ACell) :: .inr (.inl (false, (List.replicate 14 0))) :: [])) rfl ?_
  refine OEnds.made1 hm_1 rfl rfl (ks := 14) rfl rfl ?_
  refine OEnds.adv hm_1 3 (pc' := 23) (L' := [.val (.ref 0), .val (.int v1), .unset]) (S' := [.int 80, .ref 0]) (H' := ((.inl (0, [.ref 1, .ref 2, .null, .null, .null, .null, .int 0, .int 0, .int 0, .int 0, .int 0, .int 0, .int 0, .int 0]) : ACell) :: .inr (.inl (false, (List.replicate 14 0))) :: .inr (.inl (false, (List.replicate 14 0))) :: [])) rfl ?_
  refine OEnds.made1 hm_1 rfl rfl (ks := 80) rfl rfl ?_
  refine OEnds.adv hm_1 3 (pc' := 32) (L' := [.val (.ref 0), .val (.int v1), .unset]) (S' := [.int 160, .ref 0]) (H' := ((.inl (0, [.ref 1, .ref 2, .ref 3, .null, .null, .null, .int 0, .int 0, .int 0, .int 0, .int 0, .int 0, .int 0, .int 0]) : ACell) :: .inr (.inl (false, (List.replicate 14 0))) :: .inr (.inl (false, (List.replicate 14 0))) :: .inr (.inl (false, (List.replicate 80 0))) :: [])) rfl ?_
  refine OEnds.made1 hm_1 rfl rfl (ks := 160) rfl rfl ?_
  refine OEnds.adv hm_1 3 (pc' := 40) (L' := [.val (.ref 0), .val (.int v1), .unset]) (S' := [.int 10, .ref 0]) (H' := ((.inl (0, [.ref 1, .ref 2, .ref 3, .ref 4, .null, .null, .int 0, .int 0, .int 0, .int 0, .int 0, .int 0, .int 0, .int 0]) : ACell) :: .inr (.inl (false, (List.replicate 14 0))) :: .inr (.inl (false, (List.replicate 14 0))) :: .inr (.inl (false, (List.replicate 80 0))) :: .inr (.inl (false, (List.replicate 160 0))) :: [])) rfl ?_
  refine OEnds.made1 hm_1 rfl rfl (ks := 10) rfl rfl ?_
  refine OEnds.adv hm_1 3 (pc' := 48) (L' := [.val (.ref 0), .val (.int v1), .unset]) (S' := [.int 10, .ref 0]) (H' := ((.inl (0, [.ref 1, .ref 2, .ref 3, .ref 4, .ref 5, .null, .int 0, .int 0, .int 0, .int 0, .int 0, .int 0, .int 0, .int 0]) : ACell) :: .inr (.inl (false, (List.replicate 14 0))) :: .inr (.inl (false, (List.replicate 14 0))) :: .inr (.inl (false, (List.replicate 80 0))) :: .inr (.inl (false, (List.replicate 160 0))) :: .inr (.inl (false, (List.replicate 10 0))) :: [])) rfl ?_
  refine OEnds.made1 hm_1 rfl rfl (ks := 10) rfl rfl ?_
  refine OEnds.adv hm_1 5 (pc' := 57) (L' := [.val (.ref 0), .val (.int v1), .val (.int v1)]) (S' := [.int 1, .int v1]) (H' := (bk0 (List.replicate 14 0) (List.replicate 14 0) (List.replicate 80 0) (List.replicate 160 0) (List.replicate 10 0) (List.replicate 10 0) 0 0 0 0 0 0 0 0 [])) rfl ?_
  by_cases hc2 : v1 < (1 : Int32)
  · simp only [if_pos hc2] at h
    refine OEnds.icmpF hm_1 rfl ((tlt hc2).2.1) ?_
    refine OEnds.adv hm_1 2 (pc' := 62) (L' := [.val (.ref 0), .val (.int v1), .val (.int 1)]) (S' := []) (H' := (bk0 (List.replicate 14 0) (List.replicate 14 0) (List.replicate 80 0) (List.replicate 160 0) (List.replicate 10 0) (List.replicate 10 0) 0 0 0 0 0 0 0 0 [])) rfl ?_
    exact ok_init_62 h
  · simp only [if_neg hc2] at h
    refine OEnds.icmpT hm_1 rfl (q := 62) rfl ((flt hc2).2.1) ?_
    show OEnds own_P 1 62 [.val (.ref 0), .val (.int v1), .val (.int v1)] [] (bk0 (List.replicate 14 0) (List.replicate 14 0) (List.replicate 80 0) (List.replicate 160 0) (List.replicate 10 0) (List.replicate 10 0) 0 0 0 0 0 0 0 0 []) _
    exact ok_init_62 h
theorem ok_secretTweak {o_issued : List Int32} {o_cand : List Int32} {o_tree : List Int32} {o_ends : List Int32} {o_dig : List Int32} {o_ev : List Int32} {o_h : Int32} {o_leafCount : Int32} {o_keyed : Int32} {o_seed : Int32} {o_root : Int32} {o_next : Int32} {o_issuedQ : Int32} {o_candQ : Int32} {po : List ACell} {v1 : Int32} {v2 : Int32} {res : Int32} (h : f_secretTweak v1 v2 = some res) : OEnds own_P 5 0 [.val (.ref 0), .val (.int v1), .val (.int v2)] [] (bk0 o_issued o_cand o_tree o_ends o_dig o_ev o_h o_leafCount o_keyed o_seed o_root o_next o_issuedQ o_candQ po) (some (.int res), (bk0 o_issued o_cand o_tree o_ends o_dig o_ev o_h o_leafCount o_keyed o_seed o_root o_next o_issuedQ o_candQ po), 0, 0) := by
  unfold f_secretTweak at h
  refine OEnds.adv hm_5 7 (pc' := 9) (L' := [.val (.ref 0), .val (.int v1), .val (.int v2)]) (S' := [.int ((v1 <<< ((16 : Int32) &&& 31)) ||| (v2 <<< ((8 : Int32) &&& 31)))]) (H' := (bk0 o_issued o_cand o_tree o_ends o_dig o_ev o_h o_leafCount o_keyed o_seed o_root o_next o_issuedQ o_candQ po)) rfl ?_
  cases h
  exact OEnds.iret hm_5 rfl rfl
theorem ok_rotl {o_issued : List Int32} {o_cand : List Int32} {o_tree : List Int32} {o_ends : List Int32} {o_dig : List Int32} {o_ev : List Int32} {o_h : Int32} {o_leafCount : Int32} {o_keyed : Int32} {o_seed : Int32} {o_root : Int32} {o_next : Int32} {o_issuedQ : Int32} {o_candQ : Int32} {po : List ACell} {v1 : Int32} {v2 : Int32} {res : Int32} (h : f_rotl v1 v2 = some res) : OEnds own_P 7 0 [.val (.ref 0), .val (.int v1), .val (.int v2)] [] (bk0 o_issued o_cand o_tree o_ends o_dig o_ev o_h o_leafCount o_keyed o_seed o_root o_next o_issuedQ o_candQ po) (some (.int res), (bk0 o_issued o_cand o_tree o_ends o_dig o_ev o_h o_leafCount o_keyed o_seed o_root o_next o_issuedQ o_candQ po), 0, 0) := by
  unfold f_rotl at h
  refine OEnds.adv hm_7 9 (pc' := 10) (L' := [.val (.ref 0), .val (.int v1), .val (.int v2)]) (S' := [.int ((v1 <<< (v2 &&& 31)) ||| (XT.ushr v1 ((32 : Int32) - v2)))]) (H' := (bk0 o_issued o_cand o_tree o_ends o_dig o_ev o_h o_leafCount o_keyed o_seed o_root o_next o_issuedQ o_candQ po)) rfl ?_
  cases h
  exact OEnds.iret hm_7 rfl rfl
theorem ok_hash_14 {o_issued : List Int32} {o_cand : List Int32} {o_tree : List Int32} {o_ends : List Int32} {o_dig : List Int32} {o_ev : List Int32} {o_h : Int32} {o_leafCount : Int32} {o_keyed : Int32} {o_seed : Int32} {o_root : Int32} {o_next : Int32} {o_issuedQ : Int32} {o_candQ : Int32} {po : List ACell} : ∀ (n : Nat), ∀ {v1 : Int32} {v4 : Int32} {v5 : Int32} {v6 : Int32} {d2 d3 : Slot} {res : Int32}, f_hash_14 n v1 v4 v5 v6 = some res → OEnds own_P 6 14 [.val (.ref 0), .val (.int v1), d2, d3, .val (.int v4), .val (.int v5), .val (.int v6)] [] (bk0 o_issued o_cand o_tree o_ends o_dig o_ev o_h o_leafCount o_keyed o_seed o_root o_next o_issuedQ o_candQ po) (some (.int res), (bk0 o_issued o_cand o_tree o_ends o_dig o_ev o_h o_leafCount o_keyed o_seed o_root o_next o_issuedQ o_candQ po), 0, 0) := by
  intro n
  induction n with
  | zero => intro v1 v4 v5 v6 d2 d3 res h; cases h
  | succ n ih =>
    intro v1 v4 v5 v6 d2 d3 res h
    unfold f_hash_14 at h
    refine OEnds.adv hm_6 2 (pc' := 17) (L' := [.val (.ref 0), .val (.int v1), .unset, .unset, .val (.int v4), .val (.int v5), .val (.int v6)]) (S' := [.int 4, .int v6]) (H' := (bk0 o_issued o_cand o_tree o_ends o_dig o_ev o_h o_leafCount o_keyed o_seed o_root o_next o_issuedQ o_candQ po)) rfl ?_
    by_cases hc3 : v6 < (4 : Int32)
    · simp only [if_pos hc3] at h
      refine OEnds.icmpF hm_6 rfl ((tlt hc3).2.1) ?_
      refine OEnds.adv hm_6 7 (pc' := 32) (L' := [.val (.ref 0), .val (.int v1), .unset, .unset, .val (.int (v4 + v5)), .val (.int v5), .val (.int v6)]) (S' := [.int 7, .int v5, .ref 0]) (H' := (bk0 o_issued o_cand o_tree o_ends o_dig o_ev o_h o_leafCount o_keyed o_seed o_root o_next o_issuedQ o_candQ po)) rfl ?_
      obtain ⟨r1, hq4, h⟩ := bnd h
      refine OEnds.call0 hm_6 rfl rfl (by decide) rfl (as := [.ref 0, .int v5, .int 7]) (rest := []) rfl rfl (ok_rotl hq4) ?_
      refine OEnds.adv hm_6 6 (pc' := 45) (L' := [.val (.ref 0), .val (.int v1), .unset, .unset, .val (.int (v4 + v5)), .val (.int (r1 ^^^ (v4 + v5))), .val (.int v6)]) (S' := [.int 13, .int (v4 + v5), .ref 0]) (H' := (bk0 o_issued o_cand o_tree o_ends o_dig o_ev o_h o_leafCount o_keyed o_seed o_root o_next o_issuedQ o_candQ po)) rfl ?_
      obtain ⟨r2, hq5, h⟩ := bnd h
      refine OEnds.call0 hm_6 rfl rfl (by decide) rfl (as := [.ref 0, .int (v4 + v5), .int 13]) (rest := []) rfl rfl (ok_rotl hq5) ?_
      refine OEnds.adv hm_6 7 (pc' := 14) (L' := [.val (.ref 0), .val (.int v1), .unset, .unset, .val (.int ((r2 + v1) + v6)), .val (.int (r1 ^^^ (v4 + v5))), .val (.int (v6 + (1 : Int32)))]) (S' := []) (H' := (bk0 o_issued o_cand o_tree o_ends o_dig o_ev o_h o_leafCount o_keyed o_seed o_root o_next o_issuedQ o_candQ po)) rfl ?_
      exact ih h
    · simp only [if_neg hc3] at h
      refine OEnds.icmpT hm_6 rfl (q := 61) rfl ((flt hc3).2.1) ?_
      refine OEnds.adv hm_6 3 (pc' := 66) (L' := [.val (.ref 0), .val (.int v1), .unset, .unset, .val (.int v4), .val (.int v5), .val (.int v6)]) (S' := [.int (v4 ^^^ v5)]) (H' := (bk0 o_issued o_cand o_tree o_ends o_dig o_ev o_h o_leafCount o_keyed o_seed o_root o_next o_issuedQ o_candQ po)) rfl ?_
      cases h
      exact OEnds.iret hm_6 rfl rfl
theorem ok_hash {o_issued : List Int32} {o_cand : List Int32} {o_tree : List Int32} {o_ends : List Int32} {o_dig : List Int32} {o_ev : List Int32} {o_h : Int32} {o_leafCount : Int32} {o_keyed : Int32} {o_seed : Int32} {o_root : Int32} {o_next : Int32} {o_issuedQ : Int32} {o_candQ : Int32} {po : List ACell} {v1 : Int32} {v2 : Int32} {v3 : Int32} {res : Int32} (h : f_hash v1 v2 v3 = some res) : OEnds own_P 6 0 [.val (.ref 0), .val (.int v1), .val (.int v2), .val (.int v3), .unset, .unset, .unset] [] (bk0 o_issued o_cand o_tree o_ends o_dig o_ev o_h o_leafCount o_keyed o_seed o_root o_next o_issuedQ o_candQ po) (some (.int res), (bk0 o_issued o_cand o_tree o_ends o_dig o_ev o_h o_leafCount o_keyed o_seed o_root o_next o_issuedQ o_candQ po), 0, 0) := by
  unfold f_hash at h
  refine OEnds.adv hm_6 10 (pc' := 14) (L' := [.val (.ref 0), .val (.int v1), .val (.int v2), .val (.int v3), .val (.int (v2 ^^^ v1)), .val (.int (v3 + (-1640531527 : Int32))), .val (.int 0)]) (S' := []) (H' := (bk0 o_issued o_cand o_tree o_ends o_dig o_ev o_h o_leafCount o_keyed o_seed o_root o_next o_issuedQ o_candQ po)) rfl ?_
  exact ok_hash_14 100000 h
theorem ok_secretKey {o_issued : List Int32} {o_cand : List Int32} {o_tree : List Int32} {o_ends : List Int32} {o_dig : List Int32} {o_ev : List Int32} {o_h : Int32} {o_leafCount : Int32} {o_keyed : Int32} {o_seed : Int32} {o_root : Int32} {o_next : Int32} {o_issuedQ : Int32} {o_candQ : Int32} {po : List ACell} {v1 : Int32} {v2 : Int32} {res : Int32} (h : f_secretKey o_seed v1 v2 = some res) : OEnds own_P 4 0 [.val (.ref 0), .val (.int v1), .val (.int v2), .unset] [] (bk0 o_issued o_cand o_tree o_ends o_dig o_ev o_h o_leafCount o_keyed o_seed o_root o_next o_issuedQ o_candQ po) (some (.int res), (bk0 o_issued o_cand o_tree o_ends o_dig o_ev o_h o_leafCount o_keyed o_seed o_root o_next o_issuedQ o_candQ po), 0, 0) := by
  unfold f_secretKey at h
  refine OEnds.adv hm_4 3 (pc' := 3) (L' := [.val (.ref 0), .val (.int v1), .val (.int v2), .unset]) (S' := [.int v2, .int v1, .ref 0]) (H' := (bk0 o_issued o_cand o_tree o_ends o_dig o_ev o_h o_leafCount o_keyed o_seed o_root o_next o_issuedQ o_candQ po)) rfl ?_
  obtain ⟨r3, hq6, h⟩ := bnd h
  refine OEnds.call0 hm_4 rfl rfl (by decide) rfl (as := [.ref 0, .int v1, .int v2]) (rest := []) rfl rfl (ok_secretTweak hq6) ?_
  refine OEnds.adv hm_4 6 (pc' := 14) (L' := [.val (.ref 0), .val (.int v1), .val (.int v2), .val (.int r3)]) (S' := [.int 0, .int o_seed, .int r3, .ref 0]) (H' := (bk0 o_issued o_cand o_tree o_ends o_dig o_ev o_h o_leafCount o_keyed o_seed o_root o_next o_issuedQ o_candQ po)) rfl ?_
  obtain ⟨r4, hq7, h⟩ := bnd h
  refine OEnds.call0 hm_4 rfl rfl (by decide) rfl (as := [.ref 0, .int r3, .int o_seed, .int 0]) (rest := []) rfl rfl (ok_hash hq7) ?_
  show OEnds own_P 4 17 [.val (.ref 0), .val (.int v1), .val (.int v2), .val (.int r3)] [.int r4] (bk0 o_issued o_cand o_tree o_ends o_dig o_ev o_h o_leafCount o_keyed o_seed o_root o_next o_issuedQ o_candQ po) _
  cases h
  exact OEnds.iret hm_4 rfl rfl
theorem ok_stepTweak {o_issued : List Int32} {o_cand : List Int32} {o_tree : List Int32} {o_ends : List Int32} {o_dig : List Int32} {o_ev : List Int32} {o_h : Int32} {o_leafCount : Int32} {o_keyed : Int32} {o_seed : Int32} {o_root : Int32} {o_next : Int32} {o_issuedQ : Int32} {o_candQ : Int32} {po : List ACell} {v1 : Int32} {v2 : Int32} {v3 : Int32} {res : Int32} (h : f_stepTweak v1 v2 v3 = some res) : OEnds own_P 9 0 [.val (.ref 0), .val (.int v1), .val (.int v2), .val (.int v3)] [] (bk0 o_issued o_cand o_tree o_ends o_dig o_ev o_h o_leafCount o_keyed o_seed o_root o_next o_issuedQ o_candQ po) (some (.int res), (bk0 o_issued o_cand o_tree o_ends o_dig o_ev o_h o_leafCount o_keyed o_seed o_root o_next o_issuedQ o_candQ po), 0, 0) := by
  unfold f_stepTweak at h
  refine OEnds.adv hm_9 11 (pc' := 14) (L' := [.val (.ref 0), .val (.int v1), .val (.int v2), .val (.int v3)]) (S' := [.int ((((268435456 : Int32) ||| (v1 <<< ((16 : Int32) &&& 31))) ||| (v2 <<< ((8 : Int32) &&& 31))) ||| v3)]) (H' := (bk0 o_issued o_cand o_tree o_ends o_dig o_ev o_h o_leafCount o_keyed o_seed o_root o_next o_issuedQ o_candQ po)) rfl ?_
  cases h
  exact OEnds.iret hm_9 rfl rfl
theorem ok_walk_6 {o_issued : List Int32} {o_cand : List Int32} {o_tree : List Int32} {o_ends : List Int32} {o_dig : List Int32} {o_ev : List Int32} {o_h : Int32} {o_leafCount : Int32} {o_keyed : Int32} {o_seed : Int32} {o_root : Int32} {o_next : Int32} {o_issuedQ : Int32} {o_candQ : Int32} {po : List ACell} : ∀ (n : Nat), ∀ {v1 : Int32} {v2 : Int32} {v4 : Int32} {v5 : Int32} {v6 : Int32} {v7 : Int32} {d3 d8 : Slot} {res : Int32}, f_walk_6 n v1 v2 v4 v5 v6 v7 = some res → OEnds own_P 8 6 [.val (.ref 0), .val (.int v1), .val (.int v2), d3, .val (.int v4), .val (.int v5), .val (.int v6), .val (.int v7), d8] [] (bk0 o_issued o_cand o_tree o_ends o_dig o_ev o_h o_leafCount o_keyed o_seed o_root o_next o_issuedQ o_candQ po) (some (.int res), (bk0 o_issued o_cand o_tree o_ends o_dig o_ev o_h o_leafCount o_keyed o_seed o_root o_next o_issuedQ o_candQ po), 0, 0) := by
  intro n
  induction n with
  | zero => intro v1 v2 v4 v5 v6 v7 d3 d8 res h; cases h
  | succ n ih =>
    intro v1 v2 v4 v5 v6 v7 d3 d8 res h
    unfold f_walk_6 at h
    refine OEnds.adv hm_8 2 (pc' := 10) (L' := [.val (.ref 0), .val (.int v1), .val (.int v2), .unset, .val (.int v4), .val (.int v5), .val (.int v6), .val (.int v7), .unset]) (S' := [.int v5, .int v7]) (H' := (bk0 o_issued o_cand o_tree o_ends o_dig o_ev o_h o_leafCount o_keyed o_seed o_root o_next o_issuedQ o_candQ po)) rfl ?_
    by_cases hc8 : v7 < v5
    · simp only [if_pos hc8] at h
      refine OEnds.icmpF hm_8 rfl ((tlt hc8).2.1) ?_
      refine OEnds.adv hm_8 2 (pc' := 17) (L' := [.val (.ref 0), .val (.int v1), .val (.int v2), .unset, .val (.int v4), .val (.int v5), .val (.int v6), .val (.int v7), .unset]) (S' := [.int 16, .int v7]) (H' := (bk0 o_issued o_cand o_tree o_ends o_dig o_ev o_h o_leafCount o_keyed o_seed o_root o_next o_issuedQ o_candQ po)) rfl ?_
      by_cases hc9 : v7 < (16 : Int32)
      · simp only [if_pos hc9] at h
        refine OEnds.icmpF hm_8 rfl ((tlt hc9).2.1) ?_
        refine OEnds.adv hm_8 6 (pc' := 28) (L' := [.val (.ref 0), .val (.int v1), .val (.int v2), .unset, .val (.int v4), .val (.int v5), .val (.int v6), .val (.int v7), .unset]) (S' := [.int (v4 + v7), .int v2, .int v1, .ref 0]) (H' := (bk0 o_issued o_cand o_tree o_ends o_dig o_ev o_h o_leafCount o_keyed o_seed o_root o_next o_issuedQ o_candQ po)) rfl ?_
        obtain ⟨r5, hq10, h⟩ := bnd h
        refine OEnds.call0 hm_8 rfl rfl (by decide) rfl (as := [.ref 0, .int v1, .int v2, .int (v4 + v7)]) (rest := []) rfl rfl (ok_stepTweak hq10) ?_
        refine OEnds.adv hm_8 5 (pc' := 39) (L' := [.val (.ref 0), .val (.int v1), .val (.int v2), .unset, .val (.int v4), .val (.int v5), .val (.int v6), .val (.int v7), .val (.int r5)]) (S' := [.int 0, .int v6, .int r5, .ref 0]) (H' := (bk0 o_issued o_cand o_tree o_ends o_dig o_ev o_h o_leafCount o_keyed o_seed o_root o_next o_issuedQ o_candQ po)) rfl ?_
        obtain ⟨r6, hq11, h⟩ := bnd h
        refine OEnds.call0 hm_8 rfl rfl (by decide) rfl (as := [.ref 0, .int r5, .int v6, .int 0]) (rest := []) rfl rfl (ok_hash hq11) ?_
        refine OEnds.adv hm_8 3 (pc' := 6) (L' := [.val (.ref 0), .val (.int v1), .val (.int v2), .unset, .val (.int v4), .val (.int v5), .val (.int r6), .val (.int (v7 + (1 : Int32))), .val (.int r5)]) (S' := []) (H' := (bk0 o_issued o_cand o_tree o_ends o_dig o_ev o_h o_leafCount o_keyed o_seed o_root o_next o_issuedQ o_candQ po)) rfl ?_
        exact ih h
      · simp only [if_neg hc9] at h
        refine OEnds.icmpT hm_8 rfl (q := 50) rfl ((flt hc9).2.1) ?_
        refine OEnds.adv hm_8 1 (pc' := 52) (L' := [.val (.ref 0), .val (.int v1), .val (.int v2), .unset, .val (.int v4), .val (.int v5), .val (.int v6), .val (.int v7), .unset]) (S' := [.int v6]) (H' := (bk0 o_issued o_cand o_tree o_ends o_dig o_ev o_h o_leafCount o_keyed o_seed o_root o_next o_issuedQ o_candQ po)) rfl ?_
        cases h
        exact OEnds.iret hm_8 rfl rfl
    · simp only [if_neg hc8] at h
      refine OEnds.icmpT hm_8 rfl (q := 50) rfl ((flt hc8).2.1) ?_
      refine OEnds.adv hm_8 1 (pc' := 52) (L' := [.val (.ref 0), .val (.int v1), .val (.int v2), .unset, .val (.int v4), .val (.int v5), .val (.int v6), .val (.int v7), .unset]) (S' := [.int v6]) (H' := (bk0 o_issued o_cand o_tree o_ends o_dig o_ev o_h o_leafCount o_keyed o_seed o_root o_next o_issuedQ o_candQ po)) rfl ?_
      cases h
      exact OEnds.iret hm_8 rfl rfl
theorem ok_walk {o_issued : List Int32} {o_cand : List Int32} {o_tree : List Int32} {o_ends : List Int32} {o_dig : List Int32} {o_ev : List Int32} {o_h : Int32} {o_leafCount : Int32} {o_keyed : Int32} {o_seed : Int32} {o_root : Int32} {o_next : Int32} {o_issuedQ : Int32} {o_candQ : Int32} {po : List ACell} {v1 : Int32} {v2 : Int32} {v3 : Int32} {v4 : Int32} {v5 : Int32} {res : Int32} (h : f_walk v1 v2 v3 v4 v5 = some res) : OEnds own_P 8 0 [.val (.ref 0), .val (.int v1), .val (.int v2), .val (.int v3), .val (.int v4), .val (.int v5), .unset, .unset, .unset] [] (bk0 o_issued o_cand o_tree o_ends o_dig o_ev o_h o_leafCount o_keyed o_seed o_root o_next o_issuedQ o_candQ po) (some (.int res), (bk0 o_issued o_cand o_tree o_ends o_dig o_ev o_h o_leafCount o_keyed o_seed o_root o_next o_issuedQ o_candQ po), 0, 0) := by
  unfold f_walk at h
  refine OEnds.adv hm_8 4 (pc' := 6) (L' := [.val (.ref 0), .val (.int v1), .val (.int v2), .val (.int v3), .val (.int v4), .val (.int v5), .val (.int v3), .val (.int 0), .unset]) (S' := []) (H' := (bk0 o_issued o_cand o_tree o_ends o_dig o_ev o_h o_leafCount o_keyed o_seed o_root o_next o_issuedQ o_candQ po)) rfl ?_
  exact ok_walk_6 100000 h
theorem ok_foldTweak {o_issued : List Int32} {o_cand : List Int32} {o_tree : List Int32} {o_ends : List Int32} {o_dig : List Int32} {o_ev : List Int32} {o_h : Int32} {o_leafCount : Int32} {o_keyed : Int32} {o_seed : Int32} {o_root : Int32} {o_next : Int32} {o_issuedQ : Int32} {o_candQ : Int32} {po : List ACell} {v1 : Int32} {v2 : Int32} {res : Int32} (h : f_foldTweak v1 v2 = some res) : OEnds own_P 11 0 [.val (.ref 0), .val (.int v1), .val (.int v2)] [] (bk0 o_issued o_cand o_tree o_ends o_dig o_ev o_h o_leafCount o_keyed o_seed o_root o_next o_issuedQ o_candQ po) (some (.int res), (bk0 o_issued o_cand o_tree o_ends o_dig o_ev o_h o_leafCount o_keyed o_seed o_root o_next o_issuedQ o_candQ po), 0, 0) := by
  unfold f_foldTweak at h
  refine OEnds.adv hm_11 7 (pc' := 9) (L' := [.val (.ref 0), .val (.int v1), .val (.int v2)]) (S' := [.int (((536870912 : Int32) ||| (v1 <<< ((16 : Int32) &&& 31))) ||| v2)]) (H' := (bk0 o_issued o_cand o_tree o_ends o_dig o_ev o_h o_leafCount o_keyed o_seed o_root o_next o_issuedQ o_candQ po)) rfl ?_
  cases h
  exact OEnds.iret hm_11 rfl rfl
theorem ok_foldEnds_9 {o_issued : List Int32} {o_cand : List Int32} {o_tree : List Int32} {o_ends : List Int32} {o_dig : List Int32} {o_ev : List Int32} {o_h : Int32} {o_leafCount : Int32} {o_keyed : Int32} {o_seed : Int32} {o_root : Int32} {o_next : Int32} {o_issuedQ : Int32} {o_candQ : Int32} {po : List ACell} : ∀ (n : Nat), ∀ {v1 : Int32} {v2 : Int32} {v3 : Int32} {d4 : Slot} {res : Int32}, f_foldEnds_9 o_ev n v1 v2 v3 = some res → OEnds own_P 10 9 [.val (.ref 0), .val (.int v1), .val (.int v2), .val (.int v3), d4] [] (bk0 o_issued o_cand o_tree o_ends o_dig o_ev o_h o_leafCount o_keyed o_seed o_root o_next o_issuedQ o_candQ po) (some (.int res), (bk0 o_issued o_cand o_tree o_ends o_dig o_ev o_h o_leafCount o_keyed o_seed o_root o_next o_issuedQ o_candQ po), 0, 0) := by
  intro n
  induction n with
  | zero => intro v1 v2 v3 d4 res h; cases h
  | succ n ih =>
    intro v1 v2 v3 d4 res h
    unfold f_foldEnds_9 at h
    refine OEnds.adv hm_10 2 (pc' := 12) (L' := [.val (.ref 0), .val (.int v1), .val (.int v2), .val (.int v3), .unset]) (S' := [.int 10, .int v3]) (H' := (bk0 o_issued o_cand o_tree o_ends o_dig o_ev o_h o_leafCount o_keyed o_seed o_root o_next o_issuedQ o_candQ po)) rfl ?_
    by_cases hc12 : v3 < (10 : Int32)
    · simp only [if_pos hc12] at h
      refine OEnds.icmpF hm_10 rfl ((tlt hc12).2.1) ?_
      refine OEnds.adv hm_10 3 (pc' := 18) (L' := [.val (.ref 0), .val (.int v1), .val (.int v2), .val (.int v3), .unset]) (S' := [.int v3, .int v1, .ref 0]) (H' := (bk0 o_issued o_cand o_tree o_ends o_dig o_ev o_h o_leafCount o_keyed o_seed o_root o_next o_issuedQ o_candQ po)) rfl ?_
      obtain ⟨r8, hq13, h⟩ := bnd h
      refine OEnds.call0 hm_10 rfl rfl (by decide) rfl (as := [.ref 0, .int v1, .int v3]) (rest := []) rfl rfl (ok_foldTweak hq13) ?_
      refine OEnds.adv hm_10 7 (pc' := 32) (L' := [.val (.ref 0), .val (.int v1), .val (.int v2), .val (.int v3), .val (.int r8)]) (S' := [.int v3, .ref 6, .int v2, .int r8, .ref 0]) (H' := (bk0 o_issued o_cand o_tree o_ends o_dig o_ev o_h o_leafCount o_keyed o_seed o_root o_next o_issuedQ o_candQ po)) rfl ?_
      obtain ⟨x9, hx9, h⟩ := bnd h
      refine OEnds.plain hm_10 rfl rfl (x_iaload rfl hx9) ?_
      show OEnds own_P 10 33 [.val (.ref 0), .val (.int v1), .val (.int v2), .val (.int v3), .val (.int r8)] [.int x9, .int v2, .int r8, .ref 0] (bk0 o_issued o_cand o_tree o_ends o_dig o_ev o_h o_leafCount o_keyed o_seed o_root o_next o_issuedQ o_candQ po) _
      obtain ⟨r10, hq14, h⟩ := bnd h
      refine OEnds.call0 hm_10 rfl rfl (by decide) rfl (as := [.ref 0, .int r8, .int v2, .int x9]) (rest := []) rfl rfl (ok_hash hq14) ?_
      refine OEnds.adv hm_10 3 (pc' := 9) (L' := [.val (.ref 0), .val (.int v1), .val (.int r10), .val (.int (v3 + (1 : Int32))), .val (.int r8)]) (S' := []) (H' := (bk0 o_issued o_cand o_tree o_ends o_dig o_ev o_h o_leafCount o_keyed o_seed o_root o_next o_issuedQ o_candQ po)) rfl ?_
      exact ih h
    · simp only [if_neg hc12] at h
      refine OEnds.icmpT hm_10 rfl (q := 43) rfl ((flt hc12).2.1) ?_
      refine OEnds.adv hm_10 1 (pc' := 44) (L' := [.val (.ref 0), .val (.int v1), .val (.int v2), .val (.int v3), .unset]) (S' := [.int v2]) (H' := (bk0 o_issued o_cand o_tree o_ends o_dig o_ev o_h o_leafCount o_keyed o_seed o_root o_next o_issuedQ o_candQ po)) rfl ?_
      cases h
      exact OEnds.iret hm_10 rfl rfl
theorem ok_foldEnds {o_issued : List Int32} {o_cand : List Int32} {o_tree : List Int32} {o_ends : List Int32} {o_dig : List Int32} {o_ev : List Int32} {o_h : Int32} {o_leafCount : Int32} {o_keyed : Int32} {o_seed : Int32} {o_root : Int32} {o_next : Int32} {o_issuedQ : Int32} {o_candQ : Int32} {po : List ACell} {v1 : Int32} {res : Int32} (h : f_foldEnds o_ev v1 = some res) : OEnds own_P 10 0 [.val (.ref 0), .val (.int v1), .unset, .unset, .unset] [] (bk0 o_issued o_cand o_tree o_ends o_dig o_ev o_h o_leafCount o_keyed o_seed o_root o_next o_issuedQ o_candQ po) (some (.int res), (bk0 o_issued o_cand o_tree o_ends o_dig o_ev o_h o_leafCount o_keyed o_seed o_root o_next o_issuedQ o_candQ po), 0, 0) := by
  unfold f_foldEnds at h
  refine OEnds.adv hm_10 3 (pc' := 5) (L' := [.val (.ref 0), .val (.int v1), .unset, .unset, .unset]) (S' := [.int 0, .ref 6]) (H' := (bk0 o_issued o_cand o_tree o_ends o_dig o_ev o_h o_leafCount o_keyed o_seed o_root o_next o_issuedQ o_candQ po)) rfl ?_
  obtain ⟨x7, hx7, h⟩ := bnd h
  refine OEnds.plain hm_10 rfl rfl (x_iaload rfl hx7) ?_
  refine OEnds.adv hm_10 3 (pc' := 9) (L' := [.val (.ref 0), .val (.int v1), .val (.int x7), .val (.int 1), .unset]) (S' := []) (H' := (bk0 o_issued o_cand o_tree o_ends o_dig o_ev o_h o_leafCount o_keyed o_seed o_root o_next o_issuedQ o_candQ po)) rfl ?_
  exact ok_foldEnds_9 100000 h
theorem ok_buildLeaves_70 {o_issued : List Int32} {o_cand : List Int32} {o_dig : List Int32} {o_h : Int32} {o_leafCount : Int32} {o_keyed : Int32} {o_seed : Int32} {o_root : Int32} {o_next : Int32} {o_issuedQ : Int32} {o_candQ : Int32} {po : List ACell} {kb : List Int32 → List Int32 → List Int32 → Int32 → Option (List Int32 × List Int32 × List Int32)} (hkb : ∀ {o_tree : List Int32} {o_ends : List Int32} {o_ev : List Int32} {v1 : Int32} {d2 d3 d4 : Slot} {w_o_tree : List Int32} {w_o_ends : List Int32} {w_o_ev : List Int32}, kb o_tree o_ends o_ev v1 = some (w_o_tree, w_o_ends, w_o_ev) → OEnds own_P 3 2 [.val (.ref 0), .val (.int v1), d2, d3, d4] [] (bk0 o_issued o_cand o_tree o_ends o_dig o_ev o_h o_leafCount o_keyed o_seed o_root o_next o_issuedQ o_candQ po) (none, (bk0 o_issued o_cand w_o_tree w_o_ends o_dig w_o_ev o_h o_leafCount o_keyed o_seed o_root o_next o_issuedQ o_candQ po), 0, 0)) : ∀ {o_tree : List Int32} {o_ends : List Int32} {o_ev : List Int32} {v1 : Int32} {d2 d3 d4 : Slot} {w_o_tree : List Int32} {w_o_ends : List Int32} {w_o_ev : List Int32}, f_buildLeaves_70 kb o_leafCount o_seed o_tree o_ends o_ev v1 = some (w_o_tree, w_o_ends, w_o_ev) → OEnds own_P 3 70 [.val (.ref 0), .val (.int v1), d2, d3, d4] [] (bk0 o_issued o_cand o_tree o_ends o_dig o_ev o_h o_leafCount o_keyed o_seed o_root o_next o_issuedQ o_candQ po) (none, (bk0 o_issued o_cand w_o_tree w_o_ends o_dig w_o_ev o_h o_leafCount o_keyed o_seed o_root o_next o_issuedQ o_candQ po), 0, 0) := by
  intro o_tree o_ends o_ev v1 d2 d3 d4 w_o_tree w_o_ends w_o_ev h
  unfold f_buildLeaves_70 at h
  refine OEnds.adv hm_3 5 (pc' := 77) (L' := [.val (.ref 0), .val (.int v1), .unset, .unset, .unset]) (S' := [.int v1, .ref 0, .int v1, .ref 3]) (H' := (bk0 o_issued o_cand o_tree o_ends o_dig o_ev o_h o_leafCount o_keyed o_seed o_root o_next o_issuedQ o_candQ po)) rfl ?_
  obtain ⟨r15, hq15, h⟩ := bnd h
  refine OEnds.call0 hm_3 rfl rfl (by decide) rfl (as := [.ref 0, .int v1]) (rest := [.int v1, .ref 3]) rfl rfl (ok_foldEnds hq15) ?_
  show OEnds own_P 3 80 [.val (.ref 0), .val (.int v1), .unset, .unset, .unset] [.int r15, .int v1, .ref 3] (bk0 o_issued o_cand o_tree o_ends o_dig o_ev o_h o_leafCount o_keyed o_seed o_root o_next o_issuedQ o_candQ po) _
  obtain ⟨A16, hA16, h⟩ := bnd h
  refine OEnds.plain hm_3 rfl rfl (x_iastore rfl (Nat.le_of_ble_eq_true rfl) hA16) ?_
  refine OEnds.adv hm_3 2 (pc' := 2) (L' := [.val (.ref 0), .val (.int (v1 + (1 : Int32))), .unset, .unset, .unset]) (S' := []) (H' := (bk0 o_issued o_cand A16 o_ends o_dig o_ev o_h o_leafCount o_keyed o_seed o_root o_next o_issuedQ o_candQ po)) rfl ?_
  exact hkb h
theorem ok_buildLeaves_18 {o_issued : List Int32} {o_cand : List Int32} {o_dig : List Int32} {o_h : Int32} {o_leafCount : Int32} {o_keyed : Int32} {o_seed : Int32} {o_root : Int32} {o_next : Int32} {o_issuedQ : Int32} {o_candQ : Int32} {po : List ACell} {k70 : List Int32 → List Int32 → List Int32 → Int32 → Option (List Int32 × List Int32 × List Int32)} (hk70 : ∀ {o_tree : List Int32} {o_ends : List Int32} {o_ev : List Int32} {v1 : Int32} {d2 d3 d4 : Slot} {w_o_tree : List Int32} {w_o_ends : List Int32} {w_o_ev : List Int32}, k70 o_tree o_ends o_ev v1 = some (w_o_tree, w_o_ends, w_o_ev) → OEnds own_P 3 70 [.val (.ref 0), .val (.int v1), d2, d3, d4] [] (bk0 o_issued o_cand o_tree o_ends o_dig o_ev o_h o_leafCount o_keyed o_seed o_root o_next o_issuedQ o_candQ po) (none, (bk0 o_issued o_cand w_o_tree w_o_ends o_dig w_o_ev o_h o_leafCount o_keyed o_seed o_root o_next o_issuedQ o_candQ po), 0, 0)) : ∀ (n : Nat), ∀ {o_tree : List Int32} {o_ends : List Int32} {o_ev : List Int32} {v1 : Int32} {v2 : Int32} {d3 d4 : Slot} {w_o_tree : List Int32} {w_o_ends : List Int32} {w_o_ev : List Int32}, f_buildLeaves_18 k70 o_leafCount o_seed n o_tree o_ends o_ev v1 v2 = some (w_o_tree, w_o_ends, w_o_ev) → OEnds own_P 3 18 [.val (.ref 0), .val (.int v1), .val (.int v2), d3, d4] [] (bk0 o_issued o_cand o_tree o_ends o_dig o_ev o_h o_leafCount o_keyed o_seed o_root o_next o_issuedQ o_candQ po) (none, (bk0 o_issued o_cand w_o_tree w_o_ends o_dig w_o_ev o_h o_leafCount o_keyed o_seed o_root o_next o_issuedQ o_candQ po), 0, 0) := by
  intro n
  induction n with
  | zero => intro o_tree o_ends o_ev v1 v2 d3 d4 w_o_tree w_o_ends w_o_ev h; cases h
  | succ n ih =>
    intro o_tree o_ends o_ev v1 v2 d3 d4 w_o_tree w_o_ends w_o_ev h
    unfold f_buildLeaves_18 at h
    refine OEnds.adv hm_3 2 (pc' := 21) (L' := [.val (.ref 0), .val (.int v1), .val (.int v2), .unset, .unset]) (S' := [.int 10, .int v2]) (H' := (bk0 o_issued o_cand o_tree o_ends o_dig o_ev o_h o_leafCount o_keyed o_seed o_root o_next o_issuedQ o_candQ po)) rfl ?_
    by_cases hc16 : v2 < (10 : Int32)
    · simp only [if_pos hc16] at h
      refine OEnds.icmpF hm_3 rfl ((tlt hc16).2.1) ?_
      refine OEnds.adv hm_3 3 (pc' := 27) (L' := [.val (.ref 0), .val (.int v1), .val (.int v2), .unset, .unset]) (S' := [.int v2, .int v1, .ref 0]) (H' := (bk0 o_issued o_cand o_tree o_ends o_dig o_ev o_h o_leafCount o_keyed o_seed o_root o_next o_issuedQ o_candQ po)) rfl ?_
      obtain ⟨r11, hq17, h⟩ := bnd h
      refine OEnds.call0 hm_3 rfl rfl (by decide) rfl (as := [.ref 0, .int v1, .int v2]) (rest := []) rfl rfl (ok_secretKey hq17) ?_
      refine OEnds.adv hm_3 7 (pc' := 38) (L' := [.val (.ref 0), .val (.int v1), .val (.int v2), .val (.int r11), .unset]) (S' := [.int 15, .int 0, .int r11, .int v2, .int v1, .ref 0]) (H' := (bk0 o_issued o_cand o_tree o_ends o_dig o_ev o_h o_leafCount o_keyed o_seed o_root o_next o_issuedQ o_candQ po)) rfl ?_
      obtain ⟨r12, hq18, h⟩ := bnd h
      refine OEnds.call0 hm_3 rfl rfl (by decide) rfl (as := [.ref 0, .int v1, .int v2, .int r11, .int 0, .int 15]) (rest := []) rfl rfl (ok_walk hq18) ?_
      refine OEnds.adv hm_3 9 (pc' := 55) (L' := [.val (.ref 0), .val (.int v1), .val (.int v2), .val (.int r11), .val (.int r12)]) (S' := [.int r12, .int ((v1 * (10 : Int32)) + v2), .ref 4]) (H' := (bk0 o_issued o_cand o_tree o_ends o_dig o_ev o_h o_leafCount o_keyed o_seed o_root o_next o_issuedQ o_candQ po)) rfl ?_
      obtain ⟨A13, hA13, h⟩ := bnd h
      refine OEnds.plain hm_3 rfl rfl (x_iastore rfl (Nat.le_of_ble_eq_true rfl) hA13) ?_
      refine OEnds.adv hm_3 4 (pc' := 63) (L' := [.val (.ref 0), .val (.int v1), .val (.int v2), .val (.int r11), .val (.int r12)]) (S' := [.int r12, .int v2, .ref 6]) (H' := (bk0 o_issued o_cand o_tree A13 o_dig o_ev o_h o_leafCount o_keyed o_seed o_root o_next o_issuedQ o_candQ po)) rfl ?_
      obtain ⟨A14, hA14, h⟩ := bnd h
      refine OEnds.plain hm_3 rfl rfl (x_iastore rfl (Nat.le_of_ble_eq_true rfl) hA14) ?_
      refine OEnds.adv hm_3 2 (pc' := 18) (L' := [.val (.ref 0), .val (.int v1), .val (.int (v2 + (1 : Int32))), .val (.int r11), .val (.int r12)]) (S' := []) (H' := (bk0 o_issued o_cand o_tree A13 o_dig A14 o_h o_leafCount o_keyed o_seed o_root o_next o_issuedQ o_candQ po)) rfl ?_
      exact ih h
    · simp only [if_neg hc16] at h
      refine OEnds.icmpT hm_3 rfl (q := 70) rfl ((flt hc16).2.1) ?_
      show OEnds own_P 3 70 [.val (.ref 0), .val (.int v1), .val (.int v2), .unset, .unset] [] (bk0 o_issued o_cand o_tree o_ends o_dig o_ev o_h o_leafCount o_keyed o_seed o_root o_next o_issuedQ o_candQ po) _
      exact hk70 h
theorem ok_buildLeaves_2 {o_issued : List Int32} {o_cand : List Int32} {o_dig : List Int32} {o_h : Int32} {o_leafCount : Int32} {o_keyed : Int32} {o_seed : Int32} {o_root : Int32} {o_next : Int32} {o_issuedQ : Int32} {o_candQ : Int32} {po : List ACell} : ∀ (n : Nat), ∀ {o_tree : List Int32} {o_ends : List Int32} {o_ev : List Int32} {v1 : Int32} {d2 d3 d4 : Slot} {w_o_tree : List Int32} {w_o_ends : List Int32} {w_o_ev : List Int32}, f_buildLeaves_2 o_leafCount o_seed n o_tree o_ends o_ev v1 = some (w_o_tree, w_o_ends, w_o_ev) → OEnds own_P 3 2 [.val (.ref 0), .val (.int v1), d2, d3, d4] [] (bk0 o_issued o_cand o_tree o_ends o_dig o_ev o_h o_leafCount o_keyed o_seed o_root o_next o_issuedQ o_candQ po) (none, (bk0 o_issued o_cand w_o_tree w_o_ends o_dig w_o_ev o_h o_leafCount o_keyed o_seed o_root o_next o_issuedQ o_candQ po), 0, 0) := by
  intro n
  induction n with
  | zero => intro o_tree o_ends o_ev v1 d2 d3 d4 w_o_tree w_o_ends w_o_ev h; cases h
  | succ n ih =>
    intro o_tree o_ends o_ev v1 d2 d3 d4 w_o_tree w_o_ends w_o_ev h
    unfold f_buildLeaves_2 at h
    refine OEnds.adv hm_3 3 (pc' := 7) (L' := [.val (.ref 0), .val (.int v1), .unset, .unset, .unset]) (S' := [.int o_leafCount, .int v1]) (H' := (bk0 o_issued o_cand o_tree o_ends o_dig o_ev o_h o_leafCount o_keyed o_seed o_root o_next o_issuedQ o_candQ po)) rfl ?_
    by_cases hc19 : v1 < o_leafCount
    · simp only [if_pos hc19] at h
      refine OEnds.icmpF hm_3 rfl ((tlt hc19).2.1) ?_
      refine OEnds.adv hm_3 2 (pc' := 13) (L' := [.val (.ref 0), .val (.int v1), .unset, .unset, .unset]) (S' := [.int 16, .int v1]) (H' := (bk0 o_issued o_cand o_tree o_ends o_dig o_ev o_h o_leafCount o_keyed o_seed o_root o_next o_issuedQ o_candQ po)) rfl ?_
      by_cases hc20 : v1 < (16 : Int32)
      · simp only [if_pos hc20] at h
        refine OEnds.icmpF hm_3 rfl ((tlt hc20).2.1) ?_
        refine OEnds.adv hm_3 2 (pc' := 18) (L' := [.val (.ref 0), .val (.int v1), .val (.int 0), .unset, .unset]) (S' := []) (H' := (bk0 o_issued o_cand o_tree o_ends o_dig o_ev o_h o_leafCount o_keyed o_seed o_root o_next o_issuedQ o_candQ po)) rfl ?_
        exact ok_buildLeaves_18 (ok_buildLeaves_70 ih) 100000 h
      · simp only [if_neg hc20] at h
        refine OEnds.icmpT hm_3 rfl (q := 87) rfl ((flt hc20).2.1) ?_
        show OEnds own_P 3 87 [.val (.ref 0), .val (.int v1), .unset, .unset, .unset] [] (bk0 o_issued o_cand o_tree o_ends o_dig o_ev o_h o_leafCount o_keyed o_seed o_root o_next o_issuedQ o_candQ po) _
        cases h
        exact OEnds.vret hm_3 rfl rfl
    · simp only [if_neg hc19] at h
      refine OEnds.icmpT hm_3 rfl (q := 87) rfl ((flt hc19).2.1) ?_
      show OEnds own_P 3 87 [.val (.ref 0), .val (.int v1), .unset, .unset, .unset] [] (bk0 o_issued o_cand o_tree o_ends o_dig o_ev o_h o_leafCount o_keyed o_seed o_root o_next o_issuedQ o_candQ po) _
      cases h
      exact OEnds.vret hm_3 rfl rfl
theorem ok_buildLeaves {o_issued : List Int32} {o_cand : List Int32} {o_dig : List Int32} {o_h : Int32} {o_leafCount : Int32} {o_keyed : Int32} {o_seed : Int32} {o_root : Int32} {o_next : Int32} {o_issuedQ : Int32} {o_candQ : Int32} {po : List ACell} {o_tree : List Int32} {o_ends : List Int32} {o_ev : List Int32} {w_o_tree : List Int32} {w_o_ends : List Int32} {w_o_ev : List Int32} (h : f_buildLeaves o_leafCount o_seed o_tree o_ends o_ev = some (w_o_tree, w_o_ends, w_o_ev)) : OEnds own_P 3 0 [.val (.ref 0), .unset, .unset, .unset, .unset] [] (bk0 o_issued o_cand o_tree o_ends o_dig o_ev o_h o_leafCount o_keyed o_seed o_root o_next o_issuedQ o_candQ po) (none, (bk0 o_issued o_cand w_o_tree w_o_ends o_dig w_o_ev o_h o_leafCount o_keyed o_seed o_root o_next o_issuedQ o_candQ po), 0, 0) := by
  unfold f_buildLeaves at h
  refine OEnds.adv hm_3 2 (pc' := 2) (L' := [.val (.ref 0), .val (.int 0), .unset, .unset, .unset]) (S' := []) (H' := (bk0 o_issued o_cand o_tree o_ends o_dig o_ev o_h o_leafCount o_keyed o_seed o_root o_next o_issuedQ o_candQ po)) rfl ?_
  exact ok_buildLeaves_2 100000 h
theorem ok_nodeTweak {o_issued : List Int32} {o_cand : List Int32} {o_tree : List Int32} {o_ends : List Int32} {o_dig : List Int32} {o_ev : List Int32} {o_h : Int32} {o_leafCount : Int32} {o_keyed : Int32} {o_seed : Int32} {o_root : Int32} {o_next : Int32} {o_issuedQ : Int32} {o_candQ : Int32} {po : List ACell} {v1 : Int32} {v2 : Int32} {res : Int32} (h : f_nodeTweak v1 v2 = some res) : OEnds own_P 13 0 [.val (.ref 0), .val (.int v1), .val (.int v2)] [] (bk0 o_issued o_cand o_tree o_ends o_dig o_ev o_h o_leafCount o_keyed o_seed o_root o_next o_issuedQ o_candQ po) (some (.int res), (bk0 o_issued o_cand o_tree o_ends o_dig o_ev o_h o_leafCount o_keyed o_seed o_root o_next o_issuedQ o_candQ po), 0, 0) := by
  unfold f_nodeTweak at h
  refine OEnds.adv hm_13 7 (pc' := 9) (L' := [.val (.ref 0), .val (.int v1), .val (.int v2)]) (S' := [.int (((805306368 : Int32) ||| (v1 <<< ((16 : Int32) &&& 31))) ||| v2)]) (H' := (bk0 o_issued o_cand o_tree o_ends o_dig o_ev o_h o_leafCount o_keyed o_seed o_root o_next o_issuedQ o_candQ po)) rfl ?_
  cases h
  exact OEnds.iret hm_13 rfl rfl
theorem ok_buildUpperLevels_24 {o_issued : List Int32} {o_cand : List Int32} {o_ends : List Int32} {o_dig : List Int32} {o_ev : List Int32} {o_h : Int32} {o_leafCount : Int32} {o_keyed : Int32} {o_seed : Int32} {o_root : Int32} {o_next : Int32} {o_issuedQ : Int32} {o_candQ : Int32} {po : List ACell} {k2 : List Int32 → Int32 → Option (List Int32)} (hk2 : ∀ {o_tree : List Int32} {v1 : Int32} {d2 d3 d4 d5 d6 : Slot} {w_o_tree : List Int32}, k2 o_tree v1 = some w_o_tree → OEnds own_P 12 2 [.val (.ref 0), .val (.int v1), d2, d3, d4, d5, d6] [] (bk0 o_issued o_cand o_tree o_ends o_dig o_ev o_h o_leafCount o_keyed o_seed o_root o_next o_issuedQ o_candQ po) (none, (bk0 o_issued o_cand w_o_tree o_ends o_dig o_ev o_h o_leafCount o_keyed o_seed o_root o_next o_issuedQ o_candQ po), 0, 0)) : ∀ (n : Nat), ∀ {o_tree : List Int32} {v1 : Int32} {v2 : Int32} {v3 : Int32} {d4 d5 d6 : Slot} {w_o_tree : List Int32}, f_buildUpperLevels_24 k2 o_h o_leafCount n o_tree v1 v2 v3 = some w_o_tree → OEnds own_P 12 24 [.val (.ref 0), .val (.int v1), .val (.int v2), .val (.int v3), d4, d5, d6] [] (bk0 o_issued o_cand o_tree o_ends o_dig o_ev o_h o_leafCount o_keyed o_seed o_root o_next o_issuedQ o_candQ po) (none, (bk0 o_issued o_cand w_o_tree o_ends o_dig o_ev o_h o_leafCount o_keyed o_seed o_root o_next o_issuedQ o_candQ po), 0, 0) := by
  intro n
  induction n with
  | zero => intro o_tree v1 v2 v3 d4 d5 d6 w_o_tree h; cases h
  | succ n ih =>
    intro o_tree v1 v2 v3 d4 d5 d6 w_o_tree h
    unfold f_buildUpperLevels_24 at h
    refine OEnds.adv hm_12 2 (pc' := 26) (L' := [.val (.ref 0), .val (.int v1), .val (.int v2), .val (.int v3), .unset, .unset, .unset]) (S' := [.int v2, .int v3]) (H' := (bk0 o_issued o_cand o_tree o_ends o_dig o_ev o_h o_leafCount o_keyed o_seed o_root o_next o_issuedQ o_candQ po)) rfl ?_
    by_cases hc21 : v3 < v2
    · simp only [if_pos hc21] at h
      refine OEnds.icmpF hm_12 rfl ((tlt hc21).2.1) ?_
      refine OEnds.adv hm_12 2 (pc' := 32) (L' := [.val (.ref 0), .val (.int v1), .val (.int v2), .val (.int v3), .unset, .unset, .unset]) (S' := [.int 16, .int v3]) (H' := (bk0 o_issued o_cand o_tree o_ends o_dig o_ev o_h o_leafCount o_keyed o_seed o_root o_next o_issuedQ o_candQ po)) rfl ?_
      by_cases hc22 : v3 < (16 : Int32)
      · simp only [if_pos hc22] at h
        refine OEnds.icmpF hm_12 rfl ((tlt hc22).2.1) ?_
        refine OEnds.adv hm_12 3 (pc' := 38) (L' := [.val (.ref 0), .val (.int v1), .val (.int v2), .val (.int v3), .unset, .unset, .unset]) (S' := [.int v3, .int v1, .ref 0]) (H' := (bk0 o_issued o_cand o_tree o_ends o_dig o_ev o_h o_leafCount o_keyed o_seed o_root o_next o_issuedQ o_candQ po)) rfl ?_
        obtain ⟨r17, hq23, h⟩ := bnd h
        refine OEnds.call0 hm_12 rfl rfl (by decide) rfl (as := [.ref 0, .int v1, .int v3]) (rest := []) rfl rfl (ok_nodeTweak hq23) ?_
        refine OEnds.adv hm_12 12 (pc' := 57) (L' := [.val (.ref 0), .val (.int v1), .val (.int v2), .val (.int v3), .val (.int r17), .unset, .unset]) (S' := [.int (((v1 - (1 : Int32)) * (16 : Int32)) + ((2 : Int32) * v3)), .ref 3]) (H' := (bk0 o_issued o_cand o_tree o_ends o_dig o_ev o_h o_leafCount o_keyed o_seed o_root o_next o_issuedQ o_candQ po)) rfl ?_
        obtain ⟨x18, hx18, h⟩ := bnd h
        refine OEnds.plain hm_12 rfl rfl (x_iaload rfl hx18) ?_
        refine OEnds.adv hm_12 14 (pc' := 76) (L' := [.val (.ref 0), .val (.int v1), .val (.int v2), .val (.int v3), .val (.int r17), .val (.int x18), .unset]) (S' := [.int ((((v1 - (1 : Int32)) * (16 : Int32)) + ((2 : Int32) * v3)) + (1 : Int32)), .ref 3]) (H' := (bk0 o_issued o_cand o_tree o_ends o_dig o_ev o_h o_leafCount o_keyed o_seed o_root o_next o_issuedQ o_candQ po)) rfl ?_
        obtain ⟨x19, hx19, h⟩ := bnd h
        refine OEnds.plain hm_12 rfl rfl (x_iaload rfl hx19) ?_
        refine OEnds.adv hm_12 12 (pc' := 96) (L' := [.val (.ref 0), .val (.int v1), .val (.int v2), .val (.int v3), .val (.int r17), .val (.int x18), .val (.int x19)]) (S' := [.int x19, .int x18, .int r17, .ref 0, .int ((v1 * (16 : Int32)) + v3), .ref 3]) (H' := (bk0 o_issued o_cand o_tree o_ends o_dig o_ev o_h o_leafCount o_keyed o_seed o_root o_next o_issuedQ o_candQ po)) rfl ?_
        obtain ⟨r20, hq24, h⟩ := bnd h
        refine OEnds.call0 hm_12 rfl rfl (by decide) rfl (as := [.ref 0, .int r17, .int x18, .int x19]) (rest := [.int ((v1 * (16 : Int32)) + v3), .ref 3]) rfl rfl (ok_hash hq24) ?_
        show OEnds own_P 12 99 [.val (.ref 0), .val (.int v1), .val (.int v2), .val (.int v3), .val (.int r17), .val (.int x18), .val (.int x19)] [.int r20, .int ((v1 * (16 : Int32)) + v3), .ref 3] (bk0 o_issued o_cand o_tree o_ends o_dig o_ev o_h o_leafCount o_keyed o_seed o_root o_next o_issuedQ o_candQ po) _
        obtain ⟨A21, hA21, h⟩ := bnd h
        refine OEnds.plain hm_12 rfl rfl (x_iastore rfl (Nat.le_of_ble_eq_true rfl) hA21) ?_
        refine OEnds.adv hm_12 2 (pc' := 24) (L' := [.val (.ref 0), .val (.int v1), .val (.int v2), .val (.int (v3 + (1 : Int32))), .val (.int r17), .val (.int x18), .val (.int x19)]) (S' := []) (H' := (bk0 o_issued o_cand A21 o_ends o_dig o_ev o_h o_leafCount o_keyed o_seed o_root o_next o_issuedQ o_candQ po)) rfl ?_
        exact ih h
      · simp only [if_neg hc22] at h
        refine OEnds.icmpT hm_12 rfl (q := 106) rfl ((flt hc22).2.1) ?_
        refine OEnds.adv hm_12 2 (pc' := 2) (L' := [.val (.ref 0), .val (.int (v1 + (1 : Int32))), .val (.int v2), .val (.int v3), .unset, .unset, .unset]) (S' := []) (H' := (bk0 o_issued o_cand o_tree o_ends o_dig o_ev o_h o_leafCount o_keyed o_seed o_root o_next o_issuedQ o_candQ po)) rfl ?_
        exact hk2 h
    · simp only [if_neg hc21] at h
      refine OEnds.icmpT hm_12 rfl (q := 106) rfl ((flt hc21).2.1) ?_
      refine OEnds.adv hm_12 2 (pc' := 2) (L' := [.val (.ref 0), .val (.int (v1 + (1 : Int32))), .val (.int v2), .val (.int v3), .unset, .unset, .unset]) (S' := []) (H' := (bk0 o_issued o_cand o_tree o_ends o_dig o_ev o_h o_leafCount o_keyed o_seed o_root o_next o_issuedQ o_candQ po)) rfl ?_
      exact hk2 h
theorem ok_buildUpperLevels_2 {o_issued : List Int32} {o_cand : List Int32} {o_ends : List Int32} {o_dig : List Int32} {o_ev : List Int32} {o_h : Int32} {o_leafCount : Int32} {o_keyed : Int32} {o_seed : Int32} {o_root : Int32} {o_next : Int32} {o_issuedQ : Int32} {o_candQ : Int32} {po : List ACell} : ∀ (n : Nat), ∀ {o_tree : List Int32} {v1 : Int32} {d2 d3 d4 d5 d6 : Slot} {w_o_tree : List Int32}, f_buildUpperLevels_2 o_h o_leafCount n o_tree v1 = some w_o_tree → OEnds own_P 12 2 [.val (.ref 0), .val (.int v1), d2, d3, d4, d5, d6] [] (bk0 o_issued o_cand o_tree o_ends o_dig o_ev o_h o_leafCount o_keyed o_seed o_root o_next o_issuedQ o_candQ po) (none, (bk0 o_issued o_cand w_o_tree o_ends o_dig o_ev o_h o_leafCount o_keyed o_seed o_root o_next o_issuedQ o_candQ po), 0, 0) := by
  intro n
  induction n with
  | zero => intro o_tree v1 d2 d3 d4 d5 d6 w_o_tree h; cases h
  | succ n ih =>
    intro o_tree v1 d2 d3 d4 d5 d6 w_o_tree h
    unfold f_buildUpperLevels_2 at h
    refine OEnds.adv hm_12 3 (pc' := 7) (L' := [.val (.ref 0), .val (.int v1), .unset, .unset, .unset, .unset, .unset]) (S' := [.int o_h, .int v1]) (H' := (bk0 o_issued o_cand o_tree o_ends o_dig o_ev o_h o_leafCount o_keyed o_seed o_root o_next o_issuedQ o_candQ po)) rfl ?_
    by_cases hc25 : o_h < v1
    · simp only [if_pos hc25] at h
      refine OEnds.icmpT hm_12 rfl (q := 112) rfl ((tlt hc25).2.2.1) ?_
      show OEnds own_P 12 112 [.val (.ref 0), .val (.int v1), .unset, .unset, .unset, .unset, .unset] [] (bk0 o_issued o_cand o_tree o_ends o_dig o_ev o_h o_leafCount o_keyed o_seed o_root o_next o_issuedQ o_candQ po) _
      cases h
      exact OEnds.vret hm_12 rfl rfl
    · simp only [if_neg hc25] at h
      refine OEnds.icmpF hm_12 rfl ((flt hc25).2.2.1) ?_
      refine OEnds.adv hm_12 2 (pc' := 12) (L' := [.val (.ref 0), .val (.int v1), .unset, .unset, .unset, .unset, .unset]) (S' := [.int 4, .int v1]) (H' := (bk0 o_issued o_cand o_tree o_ends o_dig o_ev o_h o_leafCount o_keyed o_seed o_root o_next o_issuedQ o_candQ po)) rfl ?_
      by_cases hc26 : (4 : Int32) < v1
      · simp only [if_pos hc26] at h
        refine OEnds.icmpT hm_12 rfl (q := 112) rfl ((tlt hc26).2.2.1) ?_
        show OEnds own_P 12 112 [.val (.ref 0), .val (.int v1), .unset, .unset, .unset, .unset, .unset] [] (bk0 o_issued o_cand o_tree o_ends o_dig o_ev o_h o_leafCount o_keyed o_seed o_root o_next o_issuedQ o_candQ po) _
        cases h
        exact OEnds.vret hm_12 rfl rfl
      · simp only [if_neg hc26] at h
        refine OEnds.icmpF hm_12 rfl ((flt hc26).2.2.1) ?_
        refine OEnds.adv hm_12 7 (pc' := 24) (L' := [.val (.ref 0), .val (.int v1), .val (.int (o_leafCount >>> (v1 &&& 31))), .val (.int 0), .unset, .unset, .unset]) (S' := []) (H' := (bk0 o_issued o_cand o_tree o_ends o_dig o_ev o_h o_leafCount o_keyed o_seed o_root o_next o_issuedQ o_candQ po)) rfl ?_
        exact ok_buildUpperLevels_24 ih 100000 h
theorem ok_buildUpperLevels {o_issued : List Int32} {o_cand : List Int32} {o_ends : List Int32} {o_dig : List Int32} {o_ev : List Int32} {o_h : Int32} {o_leafCount : Int32} {o_keyed : Int32} {o_seed : Int32} {o_root : Int32} {o_next : Int32} {o_issuedQ : Int32} {o_candQ : Int32} {po : List ACell} {o_tree : List Int32} {w_o_tree : List Int32} (h : f_buildUpperLevels o_h o_leafCount o_tree = some w_o_tree) : OEnds own_P 12 0 [.val (.ref 0), .unset, .unset, .unset, .unset, .unset, .unset] [] (bk0 o_issued o_cand o_tree o_ends o_dig o_ev o_h o_leafCount o_keyed o_seed o_root o_next o_issuedQ o_candQ po) (none, (bk0 o_issued o_cand w_o_tree o_ends o_dig o_ev o_h o_leafCount o_keyed o_seed o_root o_next o_issuedQ o_candQ po), 0, 0) := by
  unfold f_buildUpperLevels at h
  refine OEnds.adv hm_12 2 (pc' := 2) (L' := [.val (.ref 0), .val (.int 1), .unset, .unset, .unset, .unset, .unset]) (S' := []) (H' := (bk0 o_issued o_cand o_tree o_ends o_dig o_ev o_h o_leafCount o_keyed o_seed o_root o_next o_issuedQ o_candQ po)) rfl ?_
  exact ok_buildUpperLevels_2 100000 h
theorem ok_keygen {o_issued : List Int32} {o_cand : List Int32} {o_dig : List Int32} {o_h : Int32} {o_leafCount : Int32} {o_issuedQ : Int32} {o_candQ : Int32} {po : List ACell} {o_tree : List Int32} {o_ends : List Int32} {o_ev : List Int32} {o_keyed : Int32} {o_seed : Int32} {o_root : Int32} {o_next : Int32} {v1 : Int32} {res : Int32} {w_o_tree : List Int32} {w_o_ends : List Int32} {w_o_ev : List Int32} {w_o_keyed : Int32} {w_o_seed : Int32} {w_o_root : Int32} {w_o_next : Int32} (h : f_keygen o_h o_leafCount o_tree o_ends o_ev o_keyed o_seed o_root o_next v1 = some (res, w_o_tree, w_o_ends, w_o_ev, w_o_keyed, w_o_seed, w_o_root, w_o_next)) : OEnds own_P 2 0 [.val (.ref 0), .val (.int v1)] [] (bk0 o_issued o_cand o_tree o_ends o_dig o_ev o_h o_leafCount o_keyed o_seed o_root o_next o_issuedQ o_candQ po) (some (.int res), (bk0 o_issued o_cand w_o_tree w_o_ends o_dig w_o_ev o_h o_leafCount w_o_keyed w_o_seed w_o_root w_o_next o_issuedQ o_candQ po), 0, 0) := by
  unfold f_keygen at h
  refine OEnds.adv hm_2 2 (pc' := 4) (L' := [.val (.ref 0), .val (.int v1)]) (S' := [.int o_keyed]) (H' := (bk0 o_issued o_cand o_tree o_ends o_dig o_ev o_h o_leafCount o_keyed o_seed o_root o_next o_issuedQ o_candQ po)) rfl ?_
  by_cases hc27 : o_keyed = (0 : Int32)
  · simp only [if_pos hc27] at h
    refine OEnds.ifT hm_2 rfl (q := 9) rfl ((teq hc27).1) ?_
    refine OEnds.adv hm_2 4 (pc' := 15) (L' := [.val (.ref 0), .val (.int v1)]) (S' := [.ref 0]) (H' := (bk0 o_issued o_cand o_tree o_ends o_dig o_ev o_h o_leafCount o_keyed v1 o_root o_next o_issuedQ o_candQ po)) rfl ?_
    obtain ⟨⟨s22, s23, s24⟩, hq28, h⟩ := bnd h
    refine OEnds.call0 hm_2 rfl rfl (by decide) rfl (as := [.ref 0]) (rest := []) rfl rfl (ok_buildLeaves hq28) ?_
    refine OEnds.adv hm_2 1 (pc' := 19) (L' := [.val (.ref 0), .val (.int v1)]) (S' := [.ref 0]) (H' := (bk0 o_issued o_cand s22 s23 o_dig s24 o_h o_leafCount o_keyed v1 o_root o_next o_issuedQ o_candQ po)) rfl ?_
    obtain ⟨s25, hq29, h⟩ := bnd h
    refine OEnds.call0 hm_2 rfl rfl (by decide) rfl (as := [.ref 0]) (rest := []) rfl rfl (ok_buildUpperLevels hq29) ?_
    refine OEnds.adv hm_2 7 (pc' := 34) (L' := [.val (.ref 0), .val (.int v1)]) (S' := [.int (o_h * (16 : Int32)), .ref 3, .ref 0]) (H' := (bk0 o_issued o_cand s25 s23 o_dig s24 o_h o_leafCount o_keyed v1 o_root o_next o_issuedQ o_candQ po)) rfl ?_
    obtain ⟨x26, hx26, h⟩ := bnd h
    refine OEnds.plain hm_2 rfl rfl (x_iaload rfl hx26) ?_
    refine OEnds.adv hm_2 8 (pc' := 49) (L' := [.val (.ref 0), .val (.int v1)]) (S' := [.int 1]) (H' := (bk0 o_issued o_cand s25 s23 o_dig s24 o_h o_leafCount 1 v1 x26 0 o_issuedQ o_candQ po)) rfl ?_
    cases h
    exact OEnds.iret hm_2 rfl rfl
  · simp only [if_neg hc27] at h
    refine OEnds.ifF hm_2 rfl ((feq hc27).1) ?_
    refine OEnds.adv hm_2 1 (pc' := 8) (L' := [.val (.ref 0), .val (.int v1)]) (S' := [.int 0]) (H' := (bk0 o_issued o_cand o_tree o_ends o_dig o_ev o_h o_leafCount o_keyed o_seed o_root o_next o_issuedQ o_candQ po)) rfl ?_
    cases h
    exact OEnds.iret hm_2 rfl rfl
theorem ok_L_rotl {po : List ACell} {v0 : Int32} {v1 : Int32} {res : Int32} (h : f_L_rotl v0 v1 = some res) : OEnds own_P 18 0 [.val (.int v0), .val (.int v1)] [] po (some (.int res), po, 0, 0) := by
  unfold f_L_rotl at h
  refine OEnds.adv hm_18 9 (pc' := 10) (L' := [.val (.int v0), .val (.int v1)]) (S' := [.int ((v0 <<< (v1 &&& 31)) ||| (XT.ushr v0 ((32 : Int32) - v1)))]) (H' := po) rfl ?_
  cases h
  exact OEnds.iret hm_18 rfl rfl
theorem ok_L_H_13 {po : List ACell} : ∀ (n : Nat), ∀ {v0 : Int32} {v3 : Int32} {v4 : Int32} {v5 : Int32} {d1 d2 : Slot} {res : Int32}, f_L_H_13 n v0 v3 v4 v5 = some res → OEnds own_P 17 13 [.val (.int v0), d1, d2, .val (.int v3), .val (.int v4), .val (.int v5)] [] po (some (.int res), po, 0, 0) := by
  intro n
  induction n with
  | zero => intro v0 v3 v4 v5 d1 d2 res h; cases h
  | succ n ih =>
    intro v0 v3 v4 v5 d1 d2 res h
    unfold f_L_H_13 at h
    refine OEnds.adv hm_17 2 (pc' := 16) (L' := [.val (.int v0), .unset, .unset, .val (.int v3), .val (.int v4), .val (.int v5)]) (S' := [.int 4, .int v5]) (H' := po) rfl ?_
    by_cases hc30 : v5 < (4 : Int32)
    · simp only [if_pos hc30] at h
      refine OEnds.icmpF hm_17 rfl ((tlt hc30).2.1) ?_
      refine OEnds.adv hm_17 6 (pc' := 28) (L' := [.val (.int v0), .unset, .unset, .val (.int (v3 + v4)), .val (.int v4), .val (.int v5)]) (S' := [.int 7, .int v4]) (H' := po) rfl ?_
      obtain ⟨r27, hq31, h⟩ := bnd h
      refine OEnds.call0 hm_17 rfl rfl (by decide) rfl (as := [.int v4, .int 7]) (rest := []) rfl rfl (ok_L_rotl hq31) ?_
      refine OEnds.adv hm_17 5 (pc' := 38) (L' := [.val (.int v0), .unset, .unset, .val (.int (v3 + v4)), .val (.int (r27 ^^^ (v3 + v4))), .val (.int v5)]) (S' := [.int 13, .int (v3 + v4)]) (H' := po) rfl ?_
      obtain ⟨r28, hq32, h⟩ := bnd h
      refine OEnds.call0 hm_17 rfl rfl (by decide) rfl (as := [.int (v3 + v4), .int 13]) (rest := []) rfl rfl (ok_L_rotl hq32) ?_
      refine OEnds.adv hm_17 7 (pc' := 13) (L' := [.val (.int v0), .unset, .unset, .val (.int ((r28 + v0) + v5)), .val (.int (r27 ^^^ (v3 + v4))), .val (.int (v5 + (1 : Int32)))]) (S' := []) (H' := po) rfl ?_
      exact ih h
    · simp only [if_neg hc30] at h
      refine OEnds.icmpT hm_17 rfl (q := 53) rfl ((flt hc30).2.1) ?_
      refine OEnds.adv hm_17 3 (pc' := 57) (L' := [.val (.int v0), .unset, .unset, .val (.int v3), .val (.int v4), .val (.int v5)]) (S' := [.int (v3 ^^^ v4)]) (H' := po) rfl ?_
      cases h
      exact OEnds.iret hm_17 rfl rfl
theorem ok_L_H {po : List ACell} {v0 : Int32} {v1 : Int32} {v2 : Int32} {res : Int32} (h : f_L_H v0 v1 v2 = some res) : OEnds own_P 17 0 [.val (.int v0), .val (.int v1), .val (.int v2), .unset, .unset, .unset] [] po (some (.int res), po, 0, 0) := by
  unfold f_L_H at h
  refine OEnds.adv hm_17 10 (pc' := 13) (L' := [.val (.int v0), .val (.int v1), .val (.int v2), .val (.int (v1 ^^^ v0)), .val (.int (v2 + (-1640531527 : Int32))), .val (.int 0)]) (S' := []) (H' := po) rfl ?_
  exact ok_L_H_13 100000 h
theorem ok_L_sk {po : List ACell} {v0 : Int32} {v1 : Int32} {v2 : Int32} {res : Int32} (h : f_L_sk v0 v1 v2 = some res) : OEnds own_P 16 0 [.val (.int v0), .val (.int v1), .val (.int v2)] [] po (some (.int res), po, 0, 0) := by
  unfold f_L_sk at h
  refine OEnds.adv hm_16 9 (pc' := 11) (L' := [.val (.int v0), .val (.int v1), .val (.int v2)]) (S' := [.int 0, .int v0, .int ((v1 <<< ((16 : Int32) &&& 31)) ||| (v2 <<< ((8 : Int32) &&& 31)))]) (H' := po) rfl ?_
  obtain ⟨r29, hq33, h⟩ := bnd h
  refine OEnds.call0 hm_16 rfl rfl (by decide) rfl (as := [.int ((v1 <<< ((16 : Int32) &&& 31)) ||| (v2 <<< ((8 : Int32) &&& 31))), .int v0, .int 0]) (rest := []) rfl rfl (ok_L_H hq33) ?_
  show OEnds own_P 16 14 [.val (.int v0), .val (.int v1), .val (.int v2)] [.int r29] po _
  cases h
  exact OEnds.iret hm_16 rfl rfl
theorem ok_L_walk_12 {po : List ACell} {k3 : Int32 → Int32 → Int32 → Int32 → Int32 → Int32 → Option (Int32)} (hk3 : ∀ {v0 : Int32} {v1 : Int32} {v2 : Int32} {v3 : Int32} {v4 : Int32} {v5 : Int32} {d6 d7 : Slot} {res : Int32}, k3 v0 v1 v2 v3 v4 v5 = some res → OEnds own_P 19 3 [.val (.int v0), .val (.int v1), .val (.int v2), .val (.int v3), .val (.int v4), .val (.int v5), d6, d7] [] po (some (.int res), po, 0, 0)) : ∀ (n : Nat), ∀ {v0 : Int32} {v1 : Int32} {v2 : Int32} {v3 : Int32} {v4 : Int32} {v5 : Int32} {v6 : Int32} {d7 : Slot} {res : Int32}, f_L_walk_12 k3 n v0 v1 v2 v3 v4 v5 v6 = some res → OEnds own_P 19 12 [.val (.int v0), .val (.int v1), .val (.int v2), .val (.int v3), .val (.int v4), .val (.int v5), .val (.int v6), d7] [] po (some (.int res), po, 0, 0) := by
  intro n
  induction n with
  | zero => intro v0 v1 v2 v3 v4 v5 v6 d7 res h; cases h
  | succ n ih =>
    intro v0 v1 v2 v3 v4 v5 v6 d7 res h
    unfold f_L_walk_12 at h
    refine OEnds.adv hm_19 2 (pc' := 15) (L' := [.val (.int v0), .val (.int v1), .val (.int v2), .val (.int v3), .val (.int v4), .val (.int v5), .val (.int v6), .unset]) (S' := [.int 4, .int v6]) (H' := po) rfl ?_
    by_cases hc34 : v6 < (4 : Int32)
    · simp only [if_pos hc34] at h
      refine OEnds.icmpF hm_19 rfl ((tlt hc34).2.1) ?_
      refine OEnds.adv hm_19 8 (pc' := 31) (L' := [.val (.int v0), .val (.int v1), .val (.int v2), .val (.int v3), .val (.int v4), .val (.int v5), .val (.int v6), .val (.int (((4 : Int32) * v5) + v6))]) (S' := [.int v4, .int (((4 : Int32) * v5) + v6)]) (H' := po) rfl ?_
      by_cases hc35 : (((4 : Int32) * v5) + v6) < v4
      · simp only [if_pos hc35] at h
        refine OEnds.icmpF hm_19 rfl ((tlt hc35).2.1) ?_
        refine OEnds.adv hm_19 15 (pc' := 53) (L' := [.val (.int v0), .val (.int v1), .val (.int v2), .val (.int v3), .val (.int v4), .val (.int v5), .val (.int v6), .val (.int (((4 : Int32) * v5) + v6))]) (S' := [.int 0, .int v2, .int ((((268435456 : Int32) ||| (v0 <<< ((16 : Int32) &&& 31))) ||| (v1 <<< ((8 : Int32) &&& 31))) ||| (v3 + (((4 : Int32) * v5) + v6)))]) (H' := po) rfl ?_
        obtain ⟨r30, hq36, h⟩ := bnd h
        refine OEnds.call0 hm_19 rfl rfl (by decide) rfl (as := [.int ((((268435456 : Int32) ||| (v0 <<< ((16 : Int32) &&& 31))) ||| (v1 <<< ((8 : Int32) &&& 31))) ||| (v3 + (((4 : Int32) * v5) + v6))), .int v2, .int 0]) (rest := []) rfl rfl (ok_L_H hq36) ?_
        refine OEnds.adv hm_19 3 (pc' := 12) (L' := [.val (.int v0), .val (.int v1), .val (.int r30), .val (.int v3), .val (.int v4), .val (.int v5), .val (.int (v6 + (1 : Int32))), .val (.int (((4 : Int32) * v5) + v6))]) (S' := []) (H' := po) rfl ?_
        exact ih h
      · simp only [if_neg hc35] at h
        refine OEnds.icmpT hm_19 rfl (q := 57) rfl ((flt hc35).2.1) ?_
        refine OEnds.adv hm_19 2 (pc' := 12) (L' := [.val (.int v0), .val (.int v1), .val (.int v2), .val (.int v3), .val (.int v4), .val (.int v5), .val (.int (v6 + (1 : Int32))), .val (.int (((4 : Int32) * v5) + v6))]) (S' := []) (H' := po) rfl ?_
        exact ih h
    · simp only [if_neg hc34] at h
      refine OEnds.icmpT hm_19 rfl (q := 63) rfl ((flt hc34).2.1) ?_
      refine OEnds.adv hm_19 2 (pc' := 3) (L' := [.val (.int v0), .val (.int v1), .val (.int v2), .val (.int v3), .val (.int v4), .val (.int (v5 + (1 : Int32))), .val (.int v6), .unset]) (S' := []) (H' := po) rfl ?_
      exact hk3 h
theorem ok_L_walk_3 {po : List ACell} : ∀ (n : Nat), ∀ {v0 : Int32} {v1 : Int32} {v2 : Int32} {v3 : Int32} {v4 : Int32} {v5 : Int32} {d6 d7 : Slot} {res : Int32}, f_L_walk_3 n v0 v1 v2 v3 v4 v5 = some res → OEnds own_P 19 3 [.val (.int v0), .val (.int v1), .val (.int v2), .val (.int v3), .val (.int v4), .val (.int v5), d6, d7] [] po (some (.int res), po, 0, 0) := by
  intro n
  induction n with
  | zero => intro v0 v1 v2 v3 v4 v5 d6 d7 res h; cases h
  | succ n ih =>
    intro v0 v1 v2 v3 v4 v5 d6 d7 res h
    unfold f_L_walk_3 at h
    refine OEnds.adv hm_19 2 (pc' := 6) (L' := [.val (.int v0), .val (.int v1), .val (.int v2), .val (.int v3), .val (.int v4), .val (.int v5), .unset, .unset]) (S' := [.int 4, .int v5]) (H' := po) rfl ?_
    by_cases hc37 : v5 < (4 : Int32)
    · simp only [if_pos hc37] at h
      refine OEnds.icmpF hm_19 rfl ((tlt hc37).2.1) ?_
      refine OEnds.adv hm_19 2 (pc' := 12) (L' := [.val (.int v0), .val (.int v1), .val (.int v2), .val (.int v3), .val (.int v4), .val (.int v5), .val (.int 0), .unset]) (S' := []) (H' := po) rfl ?_
      exact ok_L_walk_12 ih 100000 h
    · simp only [if_neg hc37] at h
      refine OEnds.icmpT hm_19 rfl (q := 69) rfl ((flt hc37).2.1) ?_
      refine OEnds.adv hm_19 1 (pc' := 70) (L' := [.val (.int v0), .val (.int v1), .val (.int v2), .val (.int v3), .val (.int v4), .val (.int v5), .unset, .unset]) (S' := [.int v2]) (H' := po) rfl ?_
      cases h
      exact OEnds.iret hm_19 rfl rfl
theorem ok_L_walk {po : List ACell} {v0 : Int32} {v1 : Int32} {v2 : Int32} {v3 : Int32} {v4 : Int32} {res : Int32} (h : f_L_walk v0 v1 v2 v3 v4 = some res) : OEnds own_P 19 0 [.val (.int v0), .val (.int v1), .val (.int v2), .val (.int v3), .val (.int v4), .unset, .unset, .unset] [] po (some (.int res), po, 0, 0) := by
  unfold f_L_walk at h
  refine OEnds.adv hm_19 2 (pc' := 3) (L' := [.val (.int v0), .val (.int v1), .val (.int v2), .val (.int v3), .val (.int v4), .val (.int 0), .unset, .unset]) (S' := []) (H' := po) rfl ?_
  exact ok_L_walk_3 100000 h
theorem ok_L_end {po : List ACell} {v0 : Int32} {v1 : Int32} {v2 : Int32} {res : Int32} (h : f_L_end v0 v1 v2 = some res) : OEnds own_P 15 0 [.val (.int v0), .val (.int v1), .val (.int v2), .unset] [] po (some (.int res), po, 0, 0) := by
  unfold f_L_end at h
  refine OEnds.adv hm_15 3 (pc' := 3) (L' := [.val (.int v0), .val (.int v1), .val (.int v2), .unset]) (S' := [.int v2, .int v1, .int v0]) (H' := po) rfl ?_
  obtain ⟨r31, hq38, h⟩ := bnd h
  refine OEnds.call0 hm_15 rfl rfl (by decide) rfl (as := [.int v0, .int v1, .int v2]) (rest := []) rfl rfl (ok_L_sk hq38) ?_
  refine OEnds.adv hm_15 6 (pc' := 13) (L' := [.val (.int v0), .val (.int v1), .val (.int v2), .val (.int r31)]) (S' := [.int 15, .int 0, .int r31, .int v2, .int v1]) (H' := po) rfl ?_
  obtain ⟨r32, hq39, h⟩ := bnd h
  refine OEnds.call0 hm_15 rfl rfl (by decide) rfl (as := [.int v1, .int v2, .int r31, .int 0, .int 15]) (rest := []) rfl rfl (ok_L_walk hq39) ?_
  show OEnds own_P 15 16 [.val (.int v0), .val (.int v1), .val (.int v2), .val (.int r31)] [.int r32] po _
  cases h
  exact OEnds.iret hm_15 rfl rfl
theorem ok_L_leaf_45 {po : List ACell} : ∀ {v0 : Int32} {v1 : Int32} {v2 : Int32} {d3 d4 : Slot} {res : Int32}, f_L_leaf_45 v0 v1 v2 = some res → OEnds own_P 14 45 [.val (.int v0), .val (.int v1), .val (.int v2), d3, d4] [] po (some (.int res), po, 0, 0) := by
  intro v0 v1 v2 d3 d4 res h
  unfold f_L_leaf_45 at h
  refine OEnds.adv hm_14 3 (pc' := 49) (L' := [.val (.int v0), .val (.int v1), .val (.int v2), .unset, .unset]) (S' := [.int 9, .int v1, .int v0]) (H' := po) rfl ?_
  obtain ⟨r36, hq40, h⟩ := bnd h
  refine OEnds.call0 hm_14 rfl rfl (by decide) rfl (as := [.int v0, .int v1, .int 9]) (rest := []) rfl rfl (ok_L_end hq40) ?_
  refine OEnds.adv hm_14 10 (pc' := 65) (L' := [.val (.int v0), .val (.int v1), .val (.int v2), .val (.int r36), .unset]) (S' := [.int r36, .int v2, .int (((536870912 : Int32) ||| (v1 <<< ((16 : Int32) &&& 31))) ||| (9 : Int32))]) (H' := po) rfl ?_
  obtain ⟨r37, hq41, h⟩ := bnd h
  refine OEnds.call0 hm_14 rfl rfl (by decide) rfl (as := [.int (((536870912 : Int32) ||| (v1 <<< ((16 : Int32) &&& 31))) ||| (9 : Int32)), .int v2, .int r36]) (rest := []) rfl rfl (ok_L_H hq41) ?_
  show OEnds own_P 14 68 [.val (.int v0), .val (.int v1), .val (.int v2), .val (.int r36), .unset] [.int r37] po _
  cases h
  exact OEnds.iret hm_14 rfl rfl
theorem ok_L_leaf_9 {po : List ACell} {k45 : Int32 → Int32 → Int32 → Option (Int32)} (hk45 : ∀ {v0 : Int32} {v1 : Int32} {v2 : Int32} {d3 d4 : Slot} {res : Int32}, k45 v0 v1 v2 = some res → OEnds own_P 14 45 [.val (.int v0), .val (.int v1), .val (.int v2), d3, d4] [] po (some (.int res), po, 0, 0)) : ∀ (n : Nat), ∀ {v0 : Int32} {v1 : Int32} {v2 : Int32} {v3 : Int32} {d4 : Slot} {res : Int32}, f_L_leaf_9 k45 n v0 v1 v2 v3 = some res → OEnds own_P 14 9 [.val (.int v0), .val (.int v1), .val (.int v2), .val (.int v3), d4] [] po (some (.int res), po, 0, 0) := by
  intro n
  induction n with
  | zero => intro v0 v1 v2 v3 d4 res h; cases h
  | succ n ih =>
    intro v0 v1 v2 v3 d4 res h
    unfold f_L_leaf_9 at h
    refine OEnds.adv hm_14 2 (pc' := 12) (L' := [.val (.int v0), .val (.int v1), .val (.int v2), .val (.int v3), .unset]) (S' := [.int 8, .int v3]) (H' := po) rfl ?_
    by_cases hc42 : (8 : Int32) < v3
    · simp only [if_pos hc42] at h
      refine OEnds.icmpT hm_14 rfl (q := 45) rfl ((tlt hc42).2.2.1) ?_
      show OEnds own_P 14 45 [.val (.int v0), .val (.int v1), .val (.int v2), .val (.int v3), .unset] [] po _
      exact hk45 h
    · simp only [if_neg hc42] at h
      refine OEnds.icmpF hm_14 rfl ((flt hc42).2.2.1) ?_
      refine OEnds.adv hm_14 3 (pc' := 18) (L' := [.val (.int v0), .val (.int v1), .val (.int v2), .val (.int v3), .unset]) (S' := [.int v3, .int v1, .int v0]) (H' := po) rfl ?_
      obtain ⟨r34, hq43, h⟩ := bnd h
      refine OEnds.call0 hm_14 rfl rfl (by decide) rfl (as := [.int v0, .int v1, .int v3]) (rest := []) rfl rfl (ok_L_end hq43) ?_
      refine OEnds.adv hm_14 10 (pc' := 35) (L' := [.val (.int v0), .val (.int v1), .val (.int v2), .val (.int v3), .val (.int r34)]) (S' := [.int r34, .int v2, .int (((536870912 : Int32) ||| (v1 <<< ((16 : Int32) &&& 31))) ||| v3)]) (H' := po) rfl ?_
      obtain ⟨r35, hq44, h⟩ := bnd h
      refine OEnds.call0 hm_14 rfl rfl (by decide) rfl (as := [.int (((536870912 : Int32) ||| (v1 <<< ((16 : Int32) &&& 31))) ||| v3), .int v2, .int r34]) (rest := []) rfl rfl (ok_L_H hq44) ?_
      refine OEnds.adv hm_14 3 (pc' := 9) (L' := [.val (.int v0), .val (.int v1), .val (.int r35), .val (.int (v3 + (1 : Int32))), .val (.int r34)]) (S' := []) (H' := po) rfl ?_
      exact ih h
theorem ok_L_leaf {po : List ACell} {v0 : Int32} {v1 : Int32} {res : Int32} (h : f_L_leaf v0 v1 = some res) : OEnds own_P 14 0 [.val (.int v0), .val (.int v1), .unset, .unset, .unset] [] po (some (.int res), po, 0, 0) := by
  unfold f_L_leaf at h
  refine OEnds.adv hm_14 3 (pc' := 3) (L' := [.val (.int v0), .val (.int v1), .unset, .unset, .unset]) (S' := [.int 0, .int v1, .int v0]) (H' := po) rfl ?_
  obtain ⟨r33, hq45, h⟩ := bnd h
  refine OEnds.call0 hm_14 rfl rfl (by decide) rfl (as := [.int v0, .int v1, .int 0]) (rest := []) rfl rfl (ok_L_end hq45) ?_
  refine OEnds.adv hm_14 3 (pc' := 9) (L' := [.val (.int v0), .val (.int v1), .val (.int r33), .val (.int 1), .unset]) (S' := []) (H' := po) rfl ?_
  exact ok_L_leaf_9 ok_L_leaf_45 100000 h
theorem ok_getRoot {o_issued : List Int32} {o_cand : List Int32} {o_tree : List Int32} {o_ends : List Int32} {o_dig : List Int32} {o_ev : List Int32} {o_h : Int32} {o_leafCount : Int32} {o_keyed : Int32} {o_seed : Int32} {o_root : Int32} {o_next : Int32} {o_issuedQ : Int32} {o_candQ : Int32} {po : List ACell} {res : Int32} (h : f_getRoot o_keyed o_root = some res) : OEnds own_P 20 0 [.val (.ref 0)] [] (bk0 o_issued o_cand o_tree o_ends o_dig o_ev o_h o_leafCount o_keyed o_seed o_root o_next o_issuedQ o_candQ po) (some (.int res), (bk0 o_issued o_cand o_tree o_ends o_dig o_ev o_h o_leafCount o_keyed o_seed o_root o_next o_issuedQ o_candQ po), 0, 0) := by
  unfold f_getRoot at h
  refine OEnds.adv hm_20 2 (pc' := 4) (L' := [.val (.ref 0)]) (S' := [.int o_keyed]) (H' := (bk0 o_issued o_cand o_tree o_ends o_dig o_ev o_h o_leafCount o_keyed o_seed o_root o_next o_issuedQ o_candQ po)) rfl ?_
  by_cases hc46 : o_keyed = (0 : Int32)
  · simp only [if_pos hc46] at h
    refine OEnds.ifF hm_20 rfl ((teq hc46).2) ?_
    refine OEnds.adv hm_20 1 (pc' := 8) (L' := [.val (.ref 0)]) (S' := [.int 0]) (H' := (bk0 o_issued o_cand o_tree o_ends o_dig o_ev o_h o_leafCount o_keyed o_seed o_root o_next o_issuedQ o_candQ po)) rfl ?_
    cases h
    exact OEnds.iret hm_20 rfl rfl
  · simp only [if_neg hc46] at h
    refine OEnds.ifT hm_20 rfl (q := 9) rfl ((feq hc46).2) ?_
    refine OEnds.adv hm_20 2 (pc' := 13) (L' := [.val (.ref 0)]) (S' := [.int o_root]) (H' := (bk0 o_issued o_cand o_tree o_ends o_dig o_ev o_h o_leafCount o_keyed o_seed o_root o_next o_issuedQ o_candQ po)) rfl ?_
    cases h
    exact OEnds.iret hm_20 rfl rfl
theorem ok_fillDigits_45 {o_issued : List Int32} {o_cand : List Int32} {o_tree : List Int32} {o_ends : List Int32} {o_ev : List Int32} {o_h : Int32} {o_leafCount : Int32} {o_keyed : Int32} {o_seed : Int32} {o_root : Int32} {o_next : Int32} {o_issuedQ : Int32} {o_candQ : Int32} {po : List ACell} : ∀ {o_dig : List Int32} {v2 : Int32} {d1 d3 d4 : Slot} {w_o_dig : List Int32}, f_fillDigits_45 o_dig v2 = some w_o_dig → OEnds own_P 22 45 [.val (.ref 0), d1, .val (.int v2), d3, d4] [] (bk0 o_issued o_cand o_tree o_ends o_dig o_ev o_h o_leafCount o_keyed o_seed o_root o_next o_issuedQ o_candQ po) (none, (bk0 o_issued o_cand o_tree o_ends w_o_dig o_ev o_h o_leafCount o_keyed o_seed o_root o_next o_issuedQ o_candQ po), 0, 0) := by
  intro o_dig v2 d1 d3 d4 w_o_dig h
  unfold f_fillDigits_45 at h
  refine OEnds.adv hm_22 8 (pc' := 57) (L' := [.val (.ref 0), .unset, .val (.int v2), .unset, .unset]) (S' := [.int ((XT.ushr v2 (4 : Int32)) &&& (15 : Int32)), .int 8, .ref 5]) (H' := (bk0 o_issued o_cand o_tree o_ends o_dig o_ev o_h o_leafCount o_keyed o_seed o_root o_next o_issuedQ o_candQ po)) rfl ?_
  obtain ⟨A39, hA39, h⟩ := bnd h
  refine OEnds.plain hm_22 rfl rfl (x_iastore rfl (Nat.le_of_ble_eq_true rfl) hA39) ?_
  refine OEnds.adv hm_22 6 (pc' := 68) (L' := [.val (.ref 0), .unset, .val (.int v2), .unset, .unset]) (S' := [.int (v2 &&& (15 : Int32)), .int 9, .ref 5]) (H' := (bk0 o_issued o_cand o_tree o_ends A39 o_ev o_h o_leafCount o_keyed o_seed o_root o_next o_issuedQ o_candQ po)) rfl ?_
  obtain ⟨A40, hA40, h⟩ := bnd h
  refine OEnds.plain hm_22 rfl rfl (x_iastore rfl (Nat.le_of_ble_eq_true rfl) hA40) ?_
  show OEnds own_P 22 69 [.val (.ref 0), .unset, .val (.int v2), .unset, .unset] [] (bk0 o_issued o_cand o_tree o_ends A40 o_ev o_h o_leafCount o_keyed o_seed o_root o_next o_issuedQ o_candQ po) _
  cases h
  exact OEnds.vret hm_22 rfl rfl
theorem ok_fillDigits_4 {o_issued : List Int32} {o_cand : List Int32} {o_tree : List Int32} {o_ends : List Int32} {o_ev : List Int32} {o_h : Int32} {o_leafCount : Int32} {o_keyed : Int32} {o_seed : Int32} {o_root : Int32} {o_next : Int32} {o_issuedQ : Int32} {o_candQ : Int32} {po : List ACell} {k45 : List Int32 → Int32 → Option (List Int32)} (hk45 : ∀ {o_dig : List Int32} {v2 : Int32} {d1 d3 d4 : Slot} {w_o_dig : List Int32}, k45 o_dig v2 = some w_o_dig → OEnds own_P 22 45 [.val (.ref 0), d1, .val (.int v2), d3, d4] [] (bk0 o_issued o_cand o_tree o_ends o_dig o_ev o_h o_leafCount o_keyed o_seed o_root o_next o_issuedQ o_candQ po) (none, (bk0 o_issued o_cand o_tree o_ends w_o_dig o_ev o_h o_leafCount o_keyed o_seed o_root o_next o_issuedQ o_candQ po), 0, 0)) : ∀ (n : Nat), ∀ {o_dig : List Int32} {v1 : Int32} {v2 : Int32} {v3 : Int32} {d4 : Slot} {w_o_dig : List Int32}, f_fillDigits_4 k45 n o_dig v1 v2 v3 = some w_o_dig → OEnds own_P 22 4 [.val (.ref 0), .val (.int v1), .val (.int v2), .val (.int v3), d4] [] (bk0 o_issued o_cand o_tree o_ends o_dig o_ev o_h o_leafCount o_keyed o_seed o_root o_next o_issuedQ o_candQ po) (none, (bk0 o_issued o_cand o_tree o_ends w_o_dig o_ev o_h o_leafCount o_keyed o_seed o_root o_next o_issuedQ o_candQ po), 0, 0) := by
  intro n
  induction n with
  | zero => intro o_dig v1 v2 v3 d4 w_o_dig h; cases h
  | succ n ih =>
    intro o_dig v1 v2 v3 d4 w_o_dig h
    unfold f_fillDigits_4 at h
    refine OEnds.adv hm_22 2 (pc' := 7) (L' := [.val (.ref 0), .val (.int v1), .val (.int v2), .val (.int v3), .unset]) (S' := [.int 8, .int v3]) (H' := (bk0 o_issued o_cand o_tree o_ends o_dig o_ev o_h o_leafCount o_keyed o_seed o_root o_next o_issuedQ o_candQ po)) rfl ?_
    by_cases hc47 : v3 < (8 : Int32)
    · simp only [if_pos hc47] at h
      refine OEnds.icmpF hm_22 rfl ((tlt hc47).2.1) ?_
      refine OEnds.adv hm_22 14 (pc' := 30) (L' := [.val (.ref 0), .val (.int v1), .val (.int v2), .val (.int v3), .val (.int ((XT.ushr v1 ((28 : Int32) - ((4 : Int32) * v3))) &&& (15 : Int32)))]) (S' := [.int ((XT.ushr v1 ((28 : Int32) - ((4 : Int32) * v3))) &&& (15 : Int32)), .int v3, .ref 5]) (H' := (bk0 o_issued o_cand o_tree o_ends o_dig o_ev o_h o_leafCount o_keyed o_seed o_root o_next o_issuedQ o_candQ po)) rfl ?_
      obtain ⟨A38, hA38, h⟩ := bnd h
      refine OEnds.plain hm_22 rfl rfl (x_iastore rfl (Nat.le_of_ble_eq_true rfl) hA38) ?_
      refine OEnds.adv hm_22 8 (pc' := 4) (L' := [.val (.ref 0), .val (.int v1), .val (.int (v2 + ((15 : Int32) - ((XT.ushr v1 ((28 : Int32) - ((4 : Int32) * v3))) &&& (15 : Int32))))), .val (.int (v3 + (1 : Int32))), .val (.int ((XT.ushr v1 ((28 : Int32) - ((4 : Int32) * v3))) &&& (15 : Int32)))]) (S' := []) (H' := (bk0 o_issued o_cand o_tree o_ends A38 o_ev o_h o_leafCount o_keyed o_seed o_root o_next o_issuedQ o_candQ po)) rfl ?_
      exact ih h
    · simp only [if_neg hc47] at h
      refine OEnds.icmpT hm_22 rfl (q := 45) rfl ((flt hc47).2.1) ?_
      show OEnds own_P 22 45 [.val (.ref 0), .val (.int v1), .val (.int v2), .val (.int v3), .unset] [] (bk0 o_issued o_cand o_tree o_ends o_dig o_ev o_h o_leafCount o_keyed o_seed o_root o_next o_issuedQ o_candQ po) _
      exact hk45 h
theorem ok_fillDigits {o_issued : List Int32} {o_cand : List Int32} {o_tree : List Int32} {o_ends : List Int32} {o_ev : List Int32} {o_h : Int32} {o_leafCount : Int32} {o_keyed : Int32} {o_seed : Int32} {o_root : Int32} {o_next : Int32} {o_issuedQ : Int32} {o_candQ : Int32} {po : List ACell} {o_dig : List Int32} {v1 : Int32} {w_o_dig : List Int32} (h : f_fillDigits o_dig v1 = some w_o_dig) : OEnds own_P 22 0 [.val (.ref 0), .val (.int v1), .unset, .unset, .unset] [] (bk0 o_issued o_cand o_tree o_ends o_dig o_ev o_h o_leafCount o_keyed o_seed o_root o_next o_issuedQ o_candQ po) (none, (bk0 o_issued o_cand o_tree o_ends w_o_dig o_ev o_h o_leafCount o_keyed o_seed o_root o_next o_issuedQ o_candQ po), 0, 0) := by
  unfold f_fillDigits at h
  refine OEnds.adv hm_22 4 (pc' := 4) (L' := [.val (.ref 0), .val (.int v1), .val (.int 0), .val (.int 0), .unset]) (S' := []) (H' := (bk0 o_issued o_cand o_tree o_ends o_dig o_ev o_h o_leafCount o_keyed o_seed o_root o_next o_issuedQ o_candQ po)) rfl ?_
  exact ok_fillDigits_4 ok_fillDigits_45 100000 h
theorem ok_fillPath_40 {o_cand : List Int32} {o_tree : List Int32} {o_ends : List Int32} {o_dig : List Int32} {o_ev : List Int32} {o_h : Int32} {o_leafCount : Int32} {o_keyed : Int32} {o_seed : Int32} {o_root : Int32} {o_next : Int32} {o_issuedQ : Int32} {o_candQ : Int32} {po : List ACell} {kb : List Int32 → Int32 → Int32 → Option (List Int32)} (hkb : ∀ {o_issued : List Int32} {v1 : Int32} {v2 : Int32} {d3 d4 : Slot} {w_o_issued : List Int32}, kb o_issued v1 v2 = some w_o_issued → OEnds own_P 23 2 [.val (.ref 0), .val (.int v1), .val (.int v2), d3, d4] [] (bk0 o_issued o_cand o_tree o_ends o_dig o_ev o_h o_leafCount o_keyed o_seed o_root o_next o_issuedQ o_candQ po) (none, (bk0 w_o_issued o_cand o_tree o_ends o_dig o_ev o_h o_leafCount o_keyed o_seed o_root o_next o_issuedQ o_candQ po), 0, 0)) : ∀ {o_issued : List Int32} {v1 : Int32} {v2 : Int32} {v3 : Int32} {d4 : Slot} {w_o_issued : List Int32}, f_fillPath_40 kb o_tree o_h o_issued v1 v2 v3 = some w_o_issued → OEnds own_P 23 40 [.val (.ref 0), .val (.int v1), .val (.int v2), .val (.int v3), d4] [] (bk0 o_issued o_cand o_tree o_ends o_dig o_ev o_h o_leafCount o_keyed o_seed o_root o_next o_issuedQ o_candQ po) (none, (bk0 w_o_issued o_cand o_tree o_ends o_dig o_ev o_h o_leafCount o_keyed o_seed o_root o_next o_issuedQ o_candQ po), 0, 0) := by
  intro o_issued v1 v2 v3 d4 w_o_issued h
  unfold f_fillPath_40 at h
  refine OEnds.adv hm_23 6 (pc' := 49) (L' := [.val (.ref 0), .val (.int v1), .val (.int v2), .val (.int v3), .unset]) (S' := [.int v3, .int ((10 : Int32) + v2), .ref 1]) (H' := (bk0 o_issued o_cand o_tree o_ends o_dig o_ev o_h o_leafCount o_keyed o_seed o_root o_next o_issuedQ o_candQ po)) rfl ?_
  obtain ⟨A42, hA42, h⟩ := bnd h
  refine OEnds.plain hm_23 rfl rfl (x_iastore rfl (Nat.le_of_ble_eq_true rfl) hA42) ?_
  refine OEnds.adv hm_23 2 (pc' := 2) (L' := [.val (.ref 0), .val (.int v1), .val (.int (v2 + (1 : Int32))), .val (.int v3), .unset]) (S' := []) (H' := (bk0 A42 o_cand o_tree o_ends o_dig o_ev o_h o_leafCount o_keyed o_seed o_root o_next o_issuedQ o_candQ po)) rfl ?_
  exact hkb h
theorem ok_fillPath_2 {o_cand : List Int32} {o_tree : List Int32} {o_ends : List Int32} {o_dig : List Int32} {o_ev : List Int32} {o_h : Int32} {o_leafCount : Int32} {o_keyed : Int32} {o_seed : Int32} {o_root : Int32} {o_next : Int32} {o_issuedQ : Int32} {o_candQ : Int32} {po : List ACell} : ∀ (n : Nat), ∀ {o_issued : List Int32} {v1 : Int32} {v2 : Int32} {d3 d4 : Slot} {w_o_issued : List Int32}, f_fillPath_2 o_tree o_h n o_issued v1 v2 = some w_o_issued → OEnds own_P 23 2 [.val (.ref 0), .val (.int v1), .val (.int v2), d3, d4] [] (bk0 o_issued o_cand o_tree o_ends o_dig o_ev o_h o_leafCount o_keyed o_seed o_root o_next o_issuedQ o_candQ po) (none, (bk0 w_o_issued o_cand o_tree o_ends o_dig o_ev o_h o_leafCount o_keyed o_seed o_root o_next o_issuedQ o_candQ po), 0, 0) := by
  intro n
  induction n with
  | zero => intro o_issued v1 v2 d3 d4 w_o_issued h; cases h
  | succ n ih =>
    intro o_issued v1 v2 d3 d4 w_o_issued h
    unfold f_fillPath_2 at h
    refine OEnds.adv hm_23 2 (pc' := 4) (L' := [.val (.ref 0), .val (.int v1), .val (.int v2), .unset, .unset]) (S' := [.int 4, .int v2]) (H' := (bk0 o_issued o_cand o_tree o_ends o_dig o_ev o_h o_leafCount o_keyed o_seed o_root o_next o_issuedQ o_candQ po)) rfl ?_
    by_cases hc48 : v2 < (4 : Int32)
    · simp only [if_pos hc48] at h
      refine OEnds.icmpF hm_23 rfl ((tlt hc48).2.1) ?_
      refine OEnds.adv hm_23 5 (pc' := 14) (L' := [.val (.ref 0), .val (.int v1), .val (.int v2), .val (.int 0), .unset]) (S' := [.int o_h, .int v2]) (H' := (bk0 o_issued o_cand o_tree o_ends o_dig o_ev o_h o_leafCount o_keyed o_seed o_root o_next o_issuedQ o_candQ po)) rfl ?_
      by_cases hc49 : v2 < o_h
      · simp only [if_pos hc49] at h
        refine OEnds.icmpF hm_23 rfl ((tlt hc49).2.1) ?_
        refine OEnds.adv hm_23 15 (pc' := 38) (L' := [.val (.ref 0), .val (.int v1), .val (.int v2), .val (.int 0), .val (.int (((XT.ushr v1 v2) ^^^ (1 : Int32)) &&& (15 : Int32)))]) (S' := [.int ((v2 * (16 : Int32)) + (((XT.ushr v1 v2) ^^^ (1 : Int32)) &&& (15 : Int32))), .ref 3]) (H' := (bk0 o_issued o_cand o_tree o_ends o_dig o_ev o_h o_leafCount o_keyed o_seed o_root o_next o_issuedQ o_candQ po)) rfl ?_
        obtain ⟨x41, hx41, h⟩ := bnd h
        refine OEnds.plain hm_23 rfl rfl (x_iaload rfl hx41) ?_
        refine OEnds.adv hm_23 1 (pc' := 40) (L' := [.val (.ref 0), .val (.int v1), .val (.int v2), .val (.int x41), .val (.int (((XT.ushr v1 v2) ^^^ (1 : Int32)) &&& (15 : Int32)))]) (S' := []) (H' := (bk0 o_issued o_cand o_tree o_ends o_dig o_ev o_h o_leafCount o_keyed o_seed o_root o_next o_issuedQ o_candQ po)) rfl ?_
        exact ok_fillPath_40 ih h
      · simp only [if_neg hc49] at h
        refine OEnds.icmpT hm_23 rfl (q := 40) rfl ((flt hc49).2.1) ?_
        show OEnds own_P 23 40 [.val (.ref 0), .val (.int v1), .val (.int v2), .val (.int 0), .unset] [] (bk0 o_issued o_cand o_tree o_ends o_dig o_ev o_h o_leafCount o_keyed o_seed o_root o_next o_issuedQ o_candQ po) _
        exact ok_fillPath_40 ih h
    · simp only [if_neg hc48] at h
      refine OEnds.icmpT hm_23 rfl (q := 56) rfl ((flt hc48).2.1) ?_
      show OEnds own_P 23 56 [.val (.ref 0), .val (.int v1), .val (.int v2), .unset, .unset] [] (bk0 o_issued o_cand o_tree o_ends o_dig o_ev o_h o_leafCount o_keyed o_seed o_root o_next o_issuedQ o_candQ po) _
      cases h
      exact OEnds.vret hm_23 rfl rfl
theorem ok_fillPath {o_cand : List Int32} {o_tree : List Int32} {o_ends : List Int32} {o_dig : List Int32} {o_ev : List Int32} {o_h : Int32} {o_leafCount : Int32} {o_keyed : Int32} {o_seed : Int32} {o_root : Int32} {o_next : Int32} {o_issuedQ : Int32} {o_candQ : Int32} {po : List ACell} {o_issued : List Int32} {v1 : Int32} {w_o_issued : List Int32} (h : f_fillPath o_tree o_h o_issued v1 = some w_o_issued) : OEnds own_P 23 0 [.val (.ref 0), .val (.int v1), .unset, .unset, .unset] [] (bk0 o_issued o_cand o_tree o_ends o_dig o_ev o_h o_leafCount o_keyed o_seed o_root o_next o_issuedQ o_candQ po) (none, (bk0 w_o_issued o_cand o_tree o_ends o_dig o_ev o_h o_leafCount o_keyed o_seed o_root o_next o_issuedQ o_candQ po), 0, 0) := by
  unfold f_fillPath at h
  refine OEnds.adv hm_23 2 (pc' := 2) (L' := [.val (.ref 0), .val (.int v1), .val (.int 0), .unset, .unset]) (S' := []) (H' := (bk0 o_issued o_cand o_tree o_ends o_dig o_ev o_h o_leafCount o_keyed o_seed o_root o_next o_issuedQ o_candQ po)) rfl ?_
  exact ok_fillPath_2 100000 h
theorem ok_sign_76 {o_cand : List Int32} {o_tree : List Int32} {o_ends : List Int32} {o_ev : List Int32} {o_h : Int32} {o_leafCount : Int32} {o_keyed : Int32} {o_seed : Int32} {o_root : Int32} {o_candQ : Int32} {po : List ACell} : ∀ {o_issued : List Int32} {o_dig : List Int32} {o_next : Int32} {o_issuedQ : Int32} {v2 : Int32} {d1 d3 d4 : Slot} {res : Int32} {w_o_issued : List Int32} {w_o_dig : List Int32} {w_o_next : Int32} {w_o_issuedQ : Int32}, f_sign_76 o_tree o_h o_leafCount o_keyed o_seed o_issued o_dig o_next o_issuedQ v2 = some (res, w_o_issued, w_o_dig, w_o_next, w_o_issuedQ) → OEnds own_P 21 76 [.val (.ref 0), d1, .val (.int v2), d3, d4] [] (bk0 o_issued o_cand o_tree o_ends o_dig o_ev o_h o_leafCount o_keyed o_seed o_root o_next o_issuedQ o_candQ po) (some (.int res), (bk0 w_o_issued o_cand o_tree o_ends w_o_dig o_ev o_h o_leafCount o_keyed o_seed o_root w_o_next w_o_issuedQ o_candQ po), 0, 0) := by
  intro o_issued o_dig o_next o_issuedQ v2 d1 d3 d4 res w_o_issued w_o_dig w_o_next w_o_issuedQ h
  unfold f_sign_76 at h
  refine OEnds.adv hm_21 2 (pc' := 78) (L' := [.val (.ref 0), .unset, .val (.int v2), .unset, .unset]) (S' := [.int v2, .ref 0]) (H' := (bk0 o_issued o_cand o_tree o_ends o_dig o_ev o_h o_leafCount o_keyed o_seed o_root o_next o_issuedQ o_candQ po)) rfl ?_
  obtain ⟨s48, hq50, h⟩ := bnd h
  refine OEnds.call0 hm_21 rfl rfl (by decide) rfl (as := [.ref 0, .int v2]) (rest := []) rfl rfl (ok_fillPath hq50) ?_
  refine OEnds.adv hm_21 9 (pc' := 94) (L' := [.val (.ref 0), .unset, .val (.int v2), .unset, .unset]) (S' := [.int v2]) (H' := (bk0 s48 o_cand o_tree o_ends o_dig o_ev o_h o_leafCount o_keyed o_seed o_root (v2 + (1 : Int32)) v2 o_candQ po)) rfl ?_
  cases h
  exact OEnds.iret hm_21 rfl rfl
theorem ok_sign_35 {o_cand : List Int32} {o_tree : List Int32} {o_ends : List Int32} {o_ev : List Int32} {o_h : Int32} {o_leafCount : Int32} {o_keyed : Int32} {o_seed : Int32} {o_root : Int32} {o_candQ : Int32} {po : List ACell} {k76 : List Int32 → List Int32 → Int32 → Int32 → Int32 → Option (Int32 × List Int32 × List Int32 × Int32 × Int32)} (hk76 : ∀ {o_issued : List Int32} {o_dig : List Int32} {o_next : Int32} {o_issuedQ : Int32} {v2 : Int32} {d1 d3 d4 : Slot} {res : Int32} {w_o_issued : List Int32} {w_o_dig : List Int32} {w_o_next : Int32} {w_o_issuedQ : Int32}, k76 o_issued o_dig o_next o_issuedQ v2 = some (res, w_o_issued, w_o_dig, w_o_next, w_o_issuedQ) → OEnds own_P 21 76 [.val (.ref 0), d1, .val (.int v2), d3, d4] [] (bk0 o_issued o_cand o_tree o_ends o_dig o_ev o_h o_leafCount o_keyed o_seed o_root o_next o_issuedQ o_candQ po) (some (.int res), (bk0 w_o_issued o_cand o_tree o_ends w_o_dig o_ev o_h o_leafCount o_keyed o_seed o_root w_o_next w_o_issuedQ o_candQ po), 0, 0)) : ∀ (n : Nat), ∀ {o_issued : List Int32} {o_dig : List Int32} {o_next : Int32} {o_issuedQ : Int32} {v2 : Int32} {v3 : Int32} {d1 d4 : Slot} {res : Int32} {w_o_issued : List Int32} {w_o_dig : List Int32} {w_o_next : Int32} {w_o_issuedQ : Int32}, f_sign_35 k76 o_tree o_h o_leafCount o_keyed o_seed n o_issued o_dig o_next o_issuedQ v2 v3 = some (res, w_o_issued, w_o_dig, w_o_next, w_o_issuedQ) → OEnds own_P 21 35 [.val (.ref 0), d1, .val (.int v2), .val (.int v3), d4] [] (bk0 o_issued o_cand o_tree o_ends o_dig o_ev o_h o_leafCount o_keyed o_seed o_root o_next o_issuedQ o_candQ po) (some (.int res), (bk0 w_o_issued o_cand o_tree o_ends w_o_dig o_ev o_h o_leafCount o_keyed o_seed o_root w_o_next w_o_issuedQ o_candQ po), 0, 0) := by
  intro n
  induction n with
  | zero => intro o_issued o_dig o_next o_issuedQ v2 v3 d1 d4 res w_o_issued w_o_dig w_o_next w_o_issuedQ h; cases h
  | succ n ih =>
    intro o_issued o_dig o_next o_issuedQ v2 v3 d1 d4 res w_o_issued w_o_dig w_o_next w_o_issuedQ h
    unfold f_sign_35 at h
    refine OEnds.adv hm_21 2 (pc' := 38) (L' := [.val (.ref 0), .unset, .val (.int v2), .val (.int v3), .unset]) (S' := [.int 10, .int v3]) (H' := (bk0 o_issued o_cand o_tree o_ends o_dig o_ev o_h o_leafCount o_keyed o_seed o_root o_next o_issuedQ o_candQ po)) rfl ?_
    by_cases hc51 : v3 < (10 : Int32)
    · simp only [if_pos hc51] at h
      refine OEnds.icmpF hm_21 rfl ((tlt hc51).2.1) ?_
      refine OEnds.adv hm_21 3 (pc' := 44) (L' := [.val (.ref 0), .unset, .val (.int v2), .val (.int v3), .unset]) (S' := [.int v3, .int v2, .ref 0]) (H' := (bk0 o_issued o_cand o_tree o_ends o_dig o_ev o_h o_leafCount o_keyed o_seed o_root o_next o_issuedQ o_candQ po)) rfl ?_
      obtain ⟨r44, hq52, h⟩ := bnd h
      refine OEnds.call0 hm_21 rfl rfl (by decide) rfl (as := [.ref 0, .int v2, .int v3]) (rest := []) rfl rfl (ok_secretKey hq52) ?_
      refine OEnds.adv hm_21 12 (pc' := 65) (L' := [.val (.ref 0), .unset, .val (.int v2), .val (.int v3), .val (.int r44)]) (S' := [.int v3, .ref 5, .int 0, .int r44, .int v3, .int v2, .ref 0, .int v3, .ref 1]) (H' := (bk0 o_issued o_cand o_tree o_ends o_dig o_ev o_h o_leafCount o_keyed o_seed o_root o_next o_issuedQ o_candQ po)) rfl ?_
      obtain ⟨x45, hx45, h⟩ := bnd h
      refine OEnds.plain hm_21 rfl rfl (x_iaload rfl hx45) ?_
      show OEnds own_P 21 66 [.val (.ref 0), .unset, .val (.int v2), .val (.int v3), .val (.int r44)] [.int x45, .int 0, .int r44, .int v3, .int v2, .ref 0, .int v3, .ref 1] (bk0 o_issued o_cand o_tree o_ends o_dig o_ev o_h o_leafCount o_keyed o_seed o_root o_next o_issuedQ o_candQ po) _
      obtain ⟨r46, hq53, h⟩ := bnd h
      refine OEnds.call0 hm_21 rfl rfl (by decide) rfl (as := [.ref 0, .int v2, .int v3, .int r44, .int 0, .int x45]) (rest := [.int v3, .ref 1]) rfl rfl (ok_walk hq53) ?_
      show OEnds own_P 21 69 [.val (.ref 0), .unset, .val (.int v2), .val (.int v3), .val (.int r44)] [.int r46, .int v3, .ref 1] (bk0 o_issued o_cand o_tree o_ends o_dig o_ev o_h o_leafCount o_keyed o_seed o_root o_next o_issuedQ o_candQ po) _
      obtain ⟨A47, hA47, h⟩ := bnd h
      refine OEnds.plain hm_21 rfl rfl (x_iastore rfl (Nat.le_of_ble_eq_true rfl) hA47) ?_
      refine OEnds.adv hm_21 2 (pc' := 35) (L' := [.val (.ref 0), .unset, .val (.int v2), .val (.int (v3 + (1 : Int32))), .val (.int r44)]) (S' := []) (H' := (bk0 A47 o_cand o_tree o_ends o_dig o_ev o_h o_leafCount o_keyed o_seed o_root o_next o_issuedQ o_candQ po)) rfl ?_
      exact ih h
    · simp only [if_neg hc51] at h
      refine OEnds.icmpT hm_21 rfl (q := 76) rfl ((flt hc51).2.1) ?_
      show OEnds own_P 21 76 [.val (.ref 0), .unset, .val (.int v2), .val (.int v3), .unset] [] (bk0 o_issued o_cand o_tree o_ends o_dig o_ev o_h o_leafCount o_keyed o_seed o_root o_next o_issuedQ o_candQ po) _
      exact hk76 h
theorem ok_sign {o_cand : List Int32} {o_tree : List Int32} {o_ends : List Int32} {o_ev : List Int32} {o_h : Int32} {o_leafCount : Int32} {o_keyed : Int32} {o_seed : Int32} {o_root : Int32} {o_candQ : Int32} {po : List ACell} {o_issued : List Int32} {o_dig : List Int32} {o_next : Int32} {o_issuedQ : Int32} {v1 : Int32} {res : Int32} {w_o_issued : List Int32} {w_o_dig : List Int32} {w_o_next : Int32} {w_o_issuedQ : Int32} (h : f_sign o_tree o_h o_leafCount o_keyed o_seed o_issued o_dig o_next o_issuedQ v1 = some (res, w_o_issued, w_o_dig, w_o_next, w_o_issuedQ)) : OEnds own_P 21 0 [.val (.ref 0), .val (.int v1), .unset, .unset, .unset] [] (bk0 o_issued o_cand o_tree o_ends o_dig o_ev o_h o_leafCount o_keyed o_seed o_root o_next o_issuedQ o_candQ po) (some (.int res), (bk0 w_o_issued o_cand o_tree o_ends w_o_dig o_ev o_h o_leafCount o_keyed o_seed o_root w_o_next w_o_issuedQ o_candQ po), 0, 0) := by
  unfold f_sign at h
  refine OEnds.adv hm_21 2 (pc' := 4) (L' := [.val (.ref 0), .val (.int v1), .unset, .unset, .unset]) (S' := [.int o_keyed]) (H' := (bk0 o_issued o_cand o_tree o_ends o_dig o_ev o_h o_leafCount o_keyed o_seed o_root o_next o_issuedQ o_candQ po)) rfl ?_
  by_cases hc54 : o_keyed = (0 : Int32)
  · simp only [if_pos hc54] at h
    refine OEnds.ifF hm_21 rfl ((teq hc54).2) ?_
    refine OEnds.adv hm_21 1 (pc' := 8) (L' := [.val (.ref 0), .val (.int v1), .unset, .unset, .unset]) (S' := [.int (-1)]) (H' := (bk0 o_issued o_cand o_tree o_ends o_dig o_ev o_h o_leafCount o_keyed o_seed o_root o_next o_issuedQ o_candQ po)) rfl ?_
    cases h
    exact OEnds.iret hm_21 rfl rfl
  · simp only [if_neg hc54] at h
    refine OEnds.ifT hm_21 rfl (q := 9) rfl ((feq hc54).2) ?_
    refine OEnds.adv hm_21 4 (pc' := 17) (L' := [.val (.ref 0), .val (.int v1), .unset, .unset, .unset]) (S' := [.int o_leafCount, .int o_next]) (H' := (bk0 o_issued o_cand o_tree o_ends o_dig o_ev o_h o_leafCount o_keyed o_seed o_root o_next o_issuedQ o_candQ po)) rfl ?_
    by_cases hc55 : o_next < o_leafCount
    · simp only [if_pos hc55] at h
      refine OEnds.icmpT hm_21 rfl (q := 23) rfl ((tlt hc55).1) ?_
      refine OEnds.adv hm_21 5 (pc' := 30) (L' := [.val (.ref 0), .val (.int v1), .val (.int o_next), .unset, .unset]) (S' := [.int v1, .ref 0]) (H' := (bk0 o_issued o_cand o_tree o_ends o_dig o_ev o_h o_leafCount o_keyed o_seed o_root o_next o_issuedQ o_candQ po)) rfl ?_
      obtain ⟨s43, hq56, h⟩ := bnd h
      refine OEnds.call0 hm_21 rfl rfl (by decide) rfl (as := [.ref 0, .int v1]) (rest := []) rfl rfl (ok_fillDigits hq56) ?_
      refine OEnds.adv hm_21 2 (pc' := 35) (L' := [.val (.ref 0), .val (.int v1), .val (.int o_next), .val (.int 0), .unset]) (S' := []) (H' := (bk0 o_issued o_cand o_tree o_ends s43 o_ev o_h o_leafCount o_keyed o_seed o_root o_next o_issuedQ o_candQ po)) rfl ?_
      exact ok_sign_35 ok_sign_76 100000 h
    · simp only [if_neg hc55] at h
      refine OEnds.icmpF hm_21 rfl ((flt hc55).1) ?_
      refine OEnds.adv hm_21 1 (pc' := 22) (L' := [.val (.ref 0), .val (.int v1), .unset, .unset, .unset]) (S' := [.int (-2)]) (H' := (bk0 o_issued o_cand o_tree o_ends o_dig o_ev o_h o_leafCount o_keyed o_seed o_root o_next o_issuedQ o_candQ po)) rfl ?_
      cases h
      exact OEnds.iret hm_21 rfl rfl
theorem ok_issuedLeaf {o_issued : List Int32} {o_cand : List Int32} {o_tree : List Int32} {o_ends : List Int32} {o_dig : List Int32} {o_ev : List Int32} {o_h : Int32} {o_leafCount : Int32} {o_keyed : Int32} {o_seed : Int32} {o_root : Int32} {o_next : Int32} {o_issuedQ : Int32} {o_candQ : Int32} {po : List ACell} {res : Int32} (h : f_issuedLeaf o_issuedQ = some res) : OEnds own_P 24 0 [.val (.ref 0)] [] (bk0 o_issued o_cand o_tree o_ends o_dig o_ev o_h o_leafCount o_keyed o_seed o_root o_next o_issuedQ o_candQ po) (some (.int res), (bk0 o_issued o_cand o_tree o_ends o_dig o_ev o_h o_leafCount o_keyed o_seed o_root o_next o_issuedQ o_candQ po), 0, 0) := by
  unfold f_issuedLeaf at h
  refine OEnds.adv hm_24 2 (pc' := 4) (L' := [.val (.ref 0)]) (S' := [.int o_issuedQ]) (H' := (bk0 o_issued o_cand o_tree o_ends o_dig o_ev o_h o_leafCount o_keyed o_seed o_root o_next o_issuedQ o_candQ po)) rfl ?_
  cases h
  exact OEnds.iret hm_24 rfl rfl
theorem ok_L_dig_51 {po : List ACell} : ∀ {v1 : Int32} {v2 : Int32} {d0 d3 : Slot} {res : Int32}, f_L_dig_51 v1 v2 = some res → OEnds own_P 26 51 [d0, .val (.int v1), .val (.int v2), d3] [] po (some (.int res), po, 0, 0) := by
  intro v1 v2 d0 d3 res h
  unfold f_L_dig_51 at h
  refine OEnds.adv hm_26 2 (pc' := 54) (L' := [.unset, .val (.int v1), .val (.int v2), .unset]) (S' := [.int 8, .int v1]) (H' := po) rfl ?_
  by_cases hc57 : v1 = (8 : Int32)
  · simp only [if_pos hc57] at h
    refine OEnds.icmpF hm_26 rfl ((teq hc57).2) ?_
    refine OEnds.adv hm_26 6 (pc' := 70) (L' := [.unset, .val (.int v1), .val (.int v2), .unset]) (S' := [.int ((XT.ushr v2 (4 : Int32)) &&& (15 : Int32))]) (H' := po) rfl ?_
    cases h
    exact OEnds.iret hm_26 rfl rfl
  · simp only [if_neg hc57] at h
    refine OEnds.icmpT hm_26 rfl (q := 66) rfl ((feq hc57).2) ?_
    refine OEnds.adv hm_26 3 (pc' := 70) (L' := [.unset, .val (.int v1), .val (.int v2), .unset]) (S' := [.int (v2 &&& (15 : Int32))]) (H' := po) rfl ?_
    cases h
    exact OEnds.iret hm_26 rfl rfl
theorem ok_L_dig_22 {po : List ACell} {k51 : Int32 → Int32 → Option (Int32)} (hk51 : ∀ {v1 : Int32} {v2 : Int32} {d0 d3 : Slot} {res : Int32}, k51 v1 v2 = some res → OEnds own_P 26 51 [d0, .val (.int v1), .val (.int v2), d3] [] po (some (.int res), po, 0, 0)) : ∀ (n : Nat), ∀ {v0 : Int32} {v1 : Int32} {v2 : Int32} {v3 : Int32} {res : Int32}, f_L_dig_22 k51 n v0 v1 v2 v3 = some res → OEnds own_P 26 22 [.val (.int v0), .val (.int v1), .val (.int v2), .val (.int v3)] [] po (some (.int res), po, 0, 0) := by
  intro n
  induction n with
  | zero => intro v0 v1 v2 v3 res h; cases h
  | succ n ih =>
    intro v0 v1 v2 v3 res h
    unfold f_L_dig_22 at h
    refine OEnds.adv hm_26 2 (pc' := 25) (L' := [.val (.int v0), .val (.int v1), .val (.int v2), .val (.int v3)]) (S' := [.int 8, .int v3]) (H' := po) rfl ?_
    by_cases hc58 : v3 < (8 : Int32)
    · simp only [if_pos hc58] at h
      refine OEnds.icmpF hm_26 rfl ((tlt hc58).2.1) ?_
      refine OEnds.adv hm_26 16 (pc' := 22) (L' := [.val (.int v0), .val (.int v1), .val (.int (v2 + ((15 : Int32) - ((XT.ushr v0 ((28 : Int32) - ((4 : Int32) * v3))) &&& (15 : Int32))))), .val (.int (v3 + (1 : Int32)))]) (S' := []) (H' := po) rfl ?_
      exact ih h
    · simp only [if_neg hc58] at h
      refine OEnds.icmpT hm_26 rfl (q := 51) rfl ((flt hc58).2.1) ?_
      show OEnds own_P 26 51 [.val (.int v0), .val (.int v1), .val (.int v2), .val (.int v3)] [] po _
      exact hk51 h
theorem ok_L_dig {po : List ACell} {v0 : Int32} {v1 : Int32} {res : Int32} (h : f_L_dig v0 v1 = some res) : OEnds own_P 26 0 [.val (.int v0), .val (.int v1), .unset, .unset] [] po (some (.int res), po, 0, 0) := by
  unfold f_L_dig at h
  refine OEnds.adv hm_26 2 (pc' := 3) (L' := [.val (.int v0), .val (.int v1), .unset, .unset]) (S' := [.int 8, .int v1]) (H' := po) rfl ?_
  by_cases hc59 : v1 < (8 : Int32)
  · simp only [if_pos hc59] at h
    refine OEnds.icmpF hm_26 rfl ((tlt hc59).2.1) ?_
    refine OEnds.adv hm_26 9 (pc' := 17) (L' := [.val (.int v0), .val (.int v1), .unset, .unset]) (S' := [.int ((XT.ushr v0 ((28 : Int32) - ((4 : Int32) * v1))) &&& (15 : Int32))]) (H' := po) rfl ?_
    cases h
    exact OEnds.iret hm_26 rfl rfl
  · simp only [if_neg hc59] at h
    refine OEnds.icmpT hm_26 rfl (q := 18) rfl ((flt hc59).2.1) ?_
    refine OEnds.adv hm_26 4 (pc' := 22) (L' := [.val (.int v0), .val (.int v1), .val (.int 0), .val (.int 0)]) (S' := []) (H' := po) rfl ?_
    exact ok_L_dig_22 ok_L_dig_51 100000 h
theorem ok_issuedValue {o_issued : List Int32} {o_cand : List Int32} {o_tree : List Int32} {o_ends : List Int32} {o_dig : List Int32} {o_ev : List Int32} {o_h : Int32} {o_leafCount : Int32} {o_keyed : Int32} {o_seed : Int32} {o_root : Int32} {o_next : Int32} {o_issuedQ : Int32} {o_candQ : Int32} {po : List ACell} {v1 : Int32} {res : Int32} (h : f_issuedValue o_issued v1 = some res) : OEnds own_P 27 0 [.val (.ref 0), .val (.int v1)] [] (bk0 o_issued o_cand o_tree o_ends o_dig o_ev o_h o_leafCount o_keyed o_seed o_root o_next o_issuedQ o_candQ po) (some (.int res), (bk0 o_issued o_cand o_tree o_ends o_dig o_ev o_h o_leafCount o_keyed o_seed o_root o_next o_issuedQ o_candQ po), 0, 0) := by
  unfold f_issuedValue at h
  refine OEnds.adv hm_27 1 (pc' := 1) (L' := [.val (.ref 0), .val (.int v1)]) (S' := [.int v1]) (H' := (bk0 o_issued o_cand o_tree o_ends o_dig o_ev o_h o_leafCount o_keyed o_seed o_root o_next o_issuedQ o_candQ po)) rfl ?_
  by_cases hc60 : v1 < (0 : Int32)
  · simp only [if_pos hc60] at h
    refine OEnds.ifT hm_27 rfl (q := 10) rfl ((tlt hc60).1) ?_
    refine OEnds.adv hm_27 1 (pc' := 11) (L' := [.val (.ref 0), .val (.int v1)]) (S' := [.int 0]) (H' := (bk0 o_issued o_cand o_tree o_ends o_dig o_ev o_h o_leafCount o_keyed o_seed o_root o_next o_issuedQ o_candQ po)) rfl ?_
    cases h
    exact OEnds.iret hm_27 rfl rfl
  · simp only [if_neg hc60] at h
    refine OEnds.ifF hm_27 rfl ((flt hc60).1) ?_
    refine OEnds.adv hm_27 2 (pc' := 7) (L' := [.val (.ref 0), .val (.int v1)]) (S' := [.int 14, .int v1]) (H' := (bk0 o_issued o_cand o_tree o_ends o_dig o_ev o_h o_leafCount o_keyed o_seed o_root o_next o_issuedQ o_candQ po)) rfl ?_
    by_cases hc61 : v1 < (14 : Int32)
    · simp only [if_pos hc61] at h
      refine OEnds.icmpT hm_27 rfl (q := 12) rfl ((tlt hc61).1) ?_
      refine OEnds.adv hm_27 3 (pc' := 17) (L' := [.val (.ref 0), .val (.int v1)]) (S' := [.int v1, .ref 1]) (H' := (bk0 o_issued o_cand o_tree o_ends o_dig o_ev o_h o_leafCount o_keyed o_seed o_root o_next o_issuedQ o_candQ po)) rfl ?_
      obtain ⟨x49, hx49, h⟩ := bnd h
      refine OEnds.plain hm_27 rfl rfl (x_iaload rfl hx49) ?_
      show OEnds own_P 27 18 [.val (.ref 0), .val (.int v1)] [.int x49] (bk0 o_issued o_cand o_tree o_ends o_dig o_ev o_h o_leafCount o_keyed o_seed o_root o_next o_issuedQ o_candQ po) _
      cases h
      exact OEnds.iret hm_27 rfl rfl
    · simp only [if_neg hc61] at h
      refine OEnds.icmpF hm_27 rfl ((flt hc61).1) ?_
      refine OEnds.adv hm_27 1 (pc' := 11) (L' := [.val (.ref 0), .val (.int v1)]) (S' := [.int 0]) (H' := (bk0 o_issued o_cand o_tree o_ends o_dig o_ev o_h o_leafCount o_keyed o_seed o_root o_next o_issuedQ o_candQ po)) rfl ?_
      cases h
      exact OEnds.iret hm_27 rfl rfl
theorem ok_L_slotOk {p0_issued : List Int32} {p0_cand : List Int32} {p0_tree : List Int32} {p0_ends : List Int32} {p0_dig : List Int32} {p0_ev : List Int32} {p0_h : Int32} {p0_leafCount : Int32} {p0_keyed : Int32} {p0_seed : Int32} {p0_root : Int32} {p0_next : Int32} {p0_issuedQ : Int32} {p0_candQ : Int32} {po : List ACell} {v1 : Int32} {v2 : Int32} {v3 : Int32} {res : Int32} (h : f_L_slotOk p0_issued v1 v2 v3 = some res) : OEnds own_P 25 0 [.val (.ref 0), .val (.int v1), .val (.int v2), .val (.int v3), .unset, .unset, .unset] [] (bk0 p0_issued p0_cand p0_tree p0_ends p0_dig p0_ev p0_h p0_leafCount p0_keyed p0_seed p0_root p0_next p0_issuedQ p0_candQ po) (some (.int res), (bk0 p0_issued p0_cand p0_tree p0_ends p0_dig p0_ev p0_h p0_leafCount p0_keyed p0_seed p0_root p0_next p0_issuedQ p0_candQ po), 0, 0) := by
  unfold f_L_slotOk at h
  refine OEnds.adv hm_25 3 (pc' := 3) (L' := [.val (.ref 0), .val (.int v1), .val (.int v2), .val (.int v3), .unset, .unset, .unset]) (S' := [.int v3, .int 0, .int v1]) (H' := (bk0 p0_issued p0_cand p0_tree p0_ends p0_dig p0_ev p0_h p0_leafCount p0_keyed p0_seed p0_root p0_next p0_issuedQ p0_candQ po)) rfl ?_
  obtain ⟨r50, hq62, h⟩ := bnd h
  refine OEnds.call0 hm_25 rfl rfl (by decide) rfl (as := [.int v1, .int 0, .int v3]) (rest := []) rfl rfl (ok_L_sk hq62) ?_
  refine OEnds.adv hm_25 3 (pc' := 10) (L' := [.val (.ref 0), .val (.int v1), .val (.int v2), .val (.int v3), .val (.int r50), .unset, .unset]) (S' := [.int v3, .int v2]) (H' := (bk0 p0_issued p0_cand p0_tree p0_ends p0_dig p0_ev p0_h p0_leafCount p0_keyed p0_seed p0_root p0_next p0_issuedQ p0_candQ po)) rfl ?_
  obtain ⟨r51, hq63, h⟩ := bnd h
  refine OEnds.call0 hm_25 rfl rfl (by decide) rfl (as := [.int v2, .int v3]) (rest := []) rfl rfl (ok_L_dig hq63) ?_
  refine OEnds.adv hm_25 6 (pc' := 22) (L' := [.val (.ref 0), .val (.int v1), .val (.int v2), .val (.int v3), .val (.int r50), .val (.int r51), .unset]) (S' := [.int r51, .int 0, .int r50, .int v3, .int 0]) (H' := (bk0 p0_issued p0_cand p0_tree p0_ends p0_dig p0_ev p0_h p0_leafCount p0_keyed p0_seed p0_root p0_next p0_issuedQ p0_candQ po)) rfl ?_
  obtain ⟨r52, hq64, h⟩ := bnd h
  refine OEnds.call0 hm_25 rfl rfl (by decide) rfl (as := [.int 0, .int v3, .int r50, .int 0, .int r51]) (rest := []) rfl rfl (ok_L_walk hq64) ?_
  refine OEnds.adv hm_25 3 (pc' := 29) (L' := [.val (.ref 0), .val (.int v1), .val (.int v2), .val (.int v3), .val (.int r50), .val (.int r51), .val (.int r52)]) (S' := [.int v3, .ref 0]) (H' := (bk0 p0_issued p0_cand p0_tree p0_ends p0_dig p0_ev p0_h p0_leafCount p0_keyed p0_seed p0_root p0_next p0_issuedQ p0_candQ po)) rfl ?_
  obtain ⟨r53, hq65, h⟩ := bnd h
  refine OEnds.call0 hm_25 rfl rfl (by decide) rfl (as := [.ref 0, .int v3]) (rest := []) rfl rfl (ok_issuedValue hq65) ?_
  refine OEnds.adv hm_25 1 (pc' := 34) (L' := [.val (.ref 0), .val (.int v1), .val (.int v2), .val (.int v3), .val (.int r50), .val (.int r51), .val (.int r52)]) (S' := [.int r52, .int r53]) (H' := (bk0 p0_issued p0_cand p0_tree p0_ends p0_dig p0_ev p0_h p0_leafCount p0_keyed p0_seed p0_root p0_next p0_issuedQ p0_candQ po)) rfl ?_
  by_cases hc66 : r53 = r52
  · simp only [if_pos hc66] at h
    refine OEnds.icmpF hm_25 rfl ((teq hc66).2) ?_
    refine OEnds.adv hm_25 2 (pc' := 42) (L' := [.val (.ref 0), .val (.int v1), .val (.int v2), .val (.int v3), .val (.int r50), .val (.int r51), .val (.int r52)]) (S' := [.int 1]) (H' := (bk0 p0_issued p0_cand p0_tree p0_ends p0_dig p0_ev p0_h p0_leafCount p0_keyed p0_seed p0_root p0_next p0_issuedQ p0_candQ po)) rfl ?_
    cases h
    exact OEnds.iret hm_25 rfl rfl
  · simp only [if_neg hc66] at h
    refine OEnds.icmpT hm_25 rfl (q := 41) rfl ((feq hc66).2) ?_
    refine OEnds.adv hm_25 1 (pc' := 42) (L' := [.val (.ref 0), .val (.int v1), .val (.int v2), .val (.int v3), .val (.int r50), .val (.int r51), .val (.int r52)]) (S' := [.int 0]) (H' := (bk0 p0_issued p0_cand p0_tree p0_ends p0_dig p0_ev p0_h p0_leafCount p0_keyed p0_seed p0_root p0_next p0_issuedQ p0_candQ po)) rfl ?_
    cases h
    exact OEnds.iret hm_25 rfl rfl
theorem ok_L_law_131 : ∀ (n : Nat), ∀ {n0_issued : List Int32} {v5 : Int32} {n0_h : Int32} {n0_leafCount : Int32} {n0_keyed : Int32} {n0_seed : Int32} {n0_root : Int32} {n0_next : Int32} {n0_issuedQ : Int32} {n0_candQ : Int32} {n0_cand : List Int32} {n0_tree : List Int32} {n0_ends : List Int32} {n0_dig : List Int32} {n0_ev : List Int32} {d0 d1 d3 d4 d6 : Slot} {res : Int32}, f_L_law_131 n n0_issued v5 = some res → OEndsQ own_P 0 131 [d0, d1, .val (.ref 0), d3, d4, .val (.int v5), d6] [] (bk0 n0_issued n0_cand n0_tree n0_ends n0_dig n0_ev n0_h n0_leafCount n0_keyed n0_seed n0_root n0_next n0_issuedQ n0_candQ []) (LawQ res 0 0) := by
  intro n
  induction n with
  | zero => intro n0_issued v5 n0_h n0_leafCount n0_keyed n0_seed n0_root n0_next n0_issuedQ n0_candQ n0_cand n0_tree n0_ends n0_dig n0_ev d0 d1 d3 d4 d6 res h; cases h
  | succ n ih =>
    intro n0_issued v5 n0_h n0_leafCount n0_keyed n0_seed n0_root n0_next n0_issuedQ n0_candQ n0_cand n0_tree n0_ends n0_dig n0_ev d0 d1 d3 d4 d6 res h
    unfold f_L_law_131 at h
    refine OEndsQ.adv hm_0 2 (pc' := 134) (L' := [.unset, .unset, .val (.ref 0), .unset, .unset, .val (.int v5), .unset]) (S' := [.int 3, .int v5]) (H' := (bk0 n0_issued n0_cand n0_tree n0_ends n0_dig n0_ev n0_h n0_leafCount n0_keyed n0_seed n0_root n0_next n0_issuedQ n0_candQ [])) rfl ?_
    by_cases hc67 : v5 < (3 : Int32)
    · simp only [if_pos hc67] at h
      refine OEndsQ.icmpF hm_0 rfl ((tlt hc67).2.1) ?_
      refine OEndsQ.adv hm_0 6 (pc' := 147) (L' := [.unset, .unset, .val (.ref 0), .unset, .unset, .val (.int v5), .val (.int ((11 : Int32) + v5))]) (S' := [.int ((11 : Int32) + v5), .ref 0]) (H' := (bk0 n0_issued n0_cand n0_tree n0_ends n0_dig n0_ev n0_h n0_leafCount n0_keyed n0_seed n0_root n0_next n0_issuedQ n0_candQ [])) rfl ?_
      obtain ⟨r89, hq68, h⟩ := bnd h
      refine OEndsQ.call0 hm_0 rfl rfl (by decide) rfl (as := [.ref 0, .int ((11 : Int32) + v5)]) (rest := []) rfl rfl (ok_issuedValue hq68) ?_
      show OEndsQ own_P 0 150 [.unset, .unset, .val (.ref 0), .unset, .unset, .val (.int v5), .val (.int ((11 : Int32) + v5))] [.int r89] (bk0 n0_issued n0_cand n0_tree n0_ends n0_dig n0_ev n0_h n0_leafCount n0_keyed n0_seed n0_root n0_next n0_issuedQ n0_candQ []) _
      by_cases hc69 : r89 = (0 : Int32)
      · simp only [if_pos hc69] at h
        refine OEndsQ.ifT hm_0 rfl (q := 155) rfl ((teq hc69).1) ?_
        refine OEndsQ.adv hm_0 2 (pc' := 131) (L' := [.unset, .unset, .val (.ref 0), .unset, .unset, .val (.int (v5 + (1 : Int32))), .val (.int ((11 : Int32) + v5))]) (S' := []) (H' := (bk0 n0_issued n0_cand n0_tree n0_ends n0_dig n0_ev n0_h n0_leafCount n0_keyed n0_seed n0_root n0_next n0_issuedQ n0_candQ [])) rfl ?_
        exact ih h
      · simp only [if_neg hc69] at h
        refine OEndsQ.ifF hm_0 rfl ((feq hc69).1) ?_
        refine OEndsQ.adv hm_0 1 (pc' := 154) (L' := [.unset, .unset, .val (.ref 0), .unset, .unset, .val (.int v5), .val (.int ((11 : Int32) + v5))]) (S' := [.int 0]) (H' := (bk0 n0_issued n0_cand n0_tree n0_ends n0_dig n0_ev n0_h n0_leafCount n0_keyed n0_seed n0_root n0_next n0_issuedQ n0_candQ [])) rfl ?_
        cases h
        exact OEndsQ.iret hm_0 rfl rfl
    · simp only [if_neg hc67] at h
      refine OEndsQ.icmpT hm_0 rfl (q := 161) rfl ((flt hc67).2.1) ?_
      refine OEndsQ.adv hm_0 1 (pc' := 162) (L' := [.unset, .unset, .val (.ref 0), .unset, .unset, .val (.int v5), .unset]) (S' := [.int 1]) (H' := (bk0 n0_issued n0_cand n0_tree n0_ends n0_dig n0_ev n0_h n0_leafCount n0_keyed n0_seed n0_root n0_next n0_issuedQ n0_candQ [])) rfl ?_
      cases h
      exact OEndsQ.iret hm_0 rfl rfl
theorem ok_L_law_115 : ∀ {n0_issued : List Int32} {v4 : Int32} {n0_h : Int32} {n0_leafCount : Int32} {n0_keyed : Int32} {n0_seed : Int32} {n0_root : Int32} {n0_next : Int32} {n0_issuedQ : Int32} {n0_candQ : Int32} {n0_cand : List Int32} {n0_tree : List Int32} {n0_ends : List Int32} {n0_dig : List Int32} {n0_ev : List Int32} {d0 d1 d3 d5 d6 : Slot} {res : Int32}, f_L_law_115 n0_issued v4 = some res → OEndsQ own_P 0 115 [d0, d1, .val (.ref 0), d3, .val (.int v4), d5, d6] [] (bk0 n0_issued n0_cand n0_tree n0_ends n0_dig n0_ev n0_h n0_leafCount n0_keyed n0_seed n0_root n0_next n0_issuedQ n0_candQ []) (LawQ res 0 0) := by
  intro n0_issued v4 n0_h n0_leafCount n0_keyed n0_seed n0_root n0_next n0_issuedQ n0_candQ n0_cand n0_tree n0_ends n0_dig n0_ev d0 d1 d3 d5 d6 res h
  unfold f_L_law_115 at h
  refine OEndsQ.adv hm_0 2 (pc' := 118) (L' := [.unset, .unset, .val (.ref 0), .unset, .val (.int v4), .unset, .unset]) (S' := [.int 10, .ref 0]) (H' := (bk0 n0_issued n0_cand n0_tree n0_ends n0_dig n0_ev n0_h n0_leafCount n0_keyed n0_seed n0_root n0_next n0_issuedQ n0_candQ [])) rfl ?_
  obtain ⟨r88, hq70, h⟩ := bnd h
  refine OEndsQ.call0 hm_0 rfl rfl (by decide) rfl (as := [.ref 0, .int 10]) (rest := []) rfl rfl (ok_issuedValue hq70) ?_
  refine OEndsQ.adv hm_0 1 (pc' := 123) (L' := [.unset, .unset, .val (.ref 0), .unset, .val (.int v4), .unset, .unset]) (S' := [.int v4, .int r88]) (H' := (bk0 n0_issued n0_cand n0_tree n0_ends n0_dig n0_ev n0_h n0_leafCount n0_keyed n0_seed n0_root n0_next n0_issuedQ n0_candQ [])) rfl ?_
  by_cases hc71 : r88 = v4
  · simp only [if_pos hc71] at h
    refine OEndsQ.icmpT hm_0 rfl (q := 128) rfl ((teq hc71).1) ?_
    refine OEndsQ.adv hm_0 2 (pc' := 131) (L' := [.unset, .unset, .val (.ref 0), .unset, .val (.int v4), .val (.int 0), .unset]) (S' := []) (H' := (bk0 n0_issued n0_cand n0_tree n0_ends n0_dig n0_ev n0_h n0_leafCount n0_keyed n0_seed n0_root n0_next n0_issuedQ n0_candQ [])) rfl ?_
    exact ok_L_law_131 100000 h
  · simp only [if_neg hc71] at h
    refine OEndsQ.icmpF hm_0 rfl ((feq hc71).1) ?_
    refine OEndsQ.adv hm_0 1 (pc' := 127) (L' := [.unset, .unset, .val (.ref 0), .unset, .val (.int v4), .unset, .unset]) (S' := [.int 0]) (H' := (bk0 n0_issued n0_cand n0_tree n0_ends n0_dig n0_ev n0_h n0_leafCount n0_keyed n0_seed n0_root n0_next n0_issuedQ n0_candQ [])) rfl ?_
    cases h
    exact OEndsQ.iret hm_0 rfl rfl
theorem ok_L_law_71 {k115 : List Int32 → Int32 → Option (Int32)} (hk115 : ∀ {n0_issued : List Int32} {v4 : Int32} {n0_h : Int32} {n0_leafCount : Int32} {n0_keyed : Int32} {n0_seed : Int32} {n0_root : Int32} {n0_next : Int32} {n0_issuedQ : Int32} {n0_candQ : Int32} {n0_cand : List Int32} {n0_tree : List Int32} {n0_ends : List Int32} {n0_dig : List Int32} {n0_ev : List Int32} {d0 d1 d3 d5 d6 : Slot} {res : Int32}, k115 n0_issued v4 = some res → OEndsQ own_P 0 115 [d0, d1, .val (.ref 0), d3, .val (.int v4), d5, d6] [] (bk0 n0_issued n0_cand n0_tree n0_ends n0_dig n0_ev n0_h n0_leafCount n0_keyed n0_seed n0_root n0_next n0_issuedQ n0_candQ []) (LawQ res 0 0)) : ∀ (n : Nat), ∀ {n0_issued : List Int32} {v0 : Int32} {v1 : Int32} {v4 : Int32} {v5 : Int32} {n0_h : Int32} {n0_leafCount : Int32} {n0_keyed : Int32} {n0_seed : Int32} {n0_root : Int32} {n0_next : Int32} {n0_issuedQ : Int32} {n0_candQ : Int32} {n0_cand : List Int32} {n0_tree : List Int32} {n0_ends : List Int32} {n0_dig : List Int32} {n0_ev : List Int32} {d3 d6 : Slot} {res : Int32}, f_L_law_71 k115 n n0_issued v0 v1 v4 v5 = some res → OEndsQ own_P 0 71 [.val (.int v0), .val (.int v1), .val (.ref 0), d3, .val (.int v4), .val (.int v5), d6] [] (bk0 n0_issued n0_cand n0_tree n0_ends n0_dig n0_ev n0_h n0_leafCount n0_keyed n0_seed n0_root n0_next n0_issuedQ n0_candQ []) (LawQ res 0 0) := by
  intro n
  induction n with
  | zero => intro n0_issued v0 v1 v4 v5 n0_h n0_leafCount n0_keyed n0_seed n0_root n0_next n0_issuedQ n0_candQ n0_cand n0_tree n0_ends n0_dig n0_ev d3 d6 res h; cases h
  | succ n ih =>
    intro n0_issued v0 v1 v4 v5 n0_h n0_leafCount n0_keyed n0_seed n0_root n0_next n0_issuedQ n0_candQ n0_cand n0_tree n0_ends n0_dig n0_ev d3 d6 res h
    unfold f_L_law_71 at h
    refine OEndsQ.adv hm_0 2 (pc' := 74) (L' := [.val (.int v0), .val (.int v1), .val (.ref 0), .unset, .val (.int v4), .val (.int v5), .unset]) (S' := [.int 5, .int v5]) (H' := (bk0 n0_issued n0_cand n0_tree n0_ends n0_dig n0_ev n0_h n0_leafCount n0_keyed n0_seed n0_root n0_next n0_issuedQ n0_candQ [])) rfl ?_
    by_cases hc72 : v5 < (5 : Int32)
    · simp only [if_pos hc72] at h
      refine OEndsQ.icmpF hm_0 rfl ((tlt hc72).2.1) ?_
      refine OEndsQ.adv hm_0 4 (pc' := 82) (L' := [.val (.int v0), .val (.int v1), .val (.ref 0), .unset, .val (.int v4), .val (.int v5), .unset]) (S' := [.int v5, .int v1, .int v0, .ref 0]) (H' := (bk0 n0_issued n0_cand n0_tree n0_ends n0_dig n0_ev n0_h n0_leafCount n0_keyed n0_seed n0_root n0_next n0_issuedQ n0_candQ [])) rfl ?_
      obtain ⟨r86, hq73, h⟩ := bnd h
      refine OEndsQ.call0 hm_0 rfl rfl (by decide) rfl (as := [.ref 0, .int v0, .int v1, .int v5]) (rest := []) rfl rfl (ok_L_slotOk hq73) ?_
      show OEndsQ own_P 0 85 [.val (.int v0), .val (.int v1), .val (.ref 0), .unset, .val (.int v4), .val (.int v5), .unset] [.int r86] (bk0 n0_issued n0_cand n0_tree n0_ends n0_dig n0_ev n0_h n0_leafCount n0_keyed n0_seed n0_root n0_next n0_issuedQ n0_candQ []) _
      by_cases hc74 : r86 = (0 : Int32)
      · simp only [if_pos hc74] at h
        refine OEndsQ.ifF hm_0 rfl ((teq hc74).2) ?_
        refine OEndsQ.adv hm_0 1 (pc' := 89) (L' := [.val (.int v0), .val (.int v1), .val (.ref 0), .unset, .val (.int v4), .val (.int v5), .unset]) (S' := [.int 0]) (H' := (bk0 n0_issued n0_cand n0_tree n0_ends n0_dig n0_ev n0_h n0_leafCount n0_keyed n0_seed n0_root n0_next n0_issuedQ n0_candQ [])) rfl ?_
        cases h
        exact OEndsQ.iret hm_0 rfl rfl
      · simp only [if_neg hc74] at h
        refine OEndsQ.ifT hm_0 rfl (q := 90) rfl ((feq hc74).2) ?_
        refine OEndsQ.adv hm_0 8 (pc' := 101) (L' := [.val (.int v0), .val (.int v1), .val (.ref 0), .unset, .val (.int v4), .val (.int v5), .val (.int (v5 + (5 : Int32)))]) (S' := [.int (v5 + (5 : Int32)), .int v1, .int v0, .ref 0]) (H' := (bk0 n0_issued n0_cand n0_tree n0_ends n0_dig n0_ev n0_h n0_leafCount n0_keyed n0_seed n0_root n0_next n0_issuedQ n0_candQ [])) rfl ?_
        obtain ⟨r87, hq75, h⟩ := bnd h
        refine OEndsQ.call0 hm_0 rfl rfl (by decide) rfl (as := [.ref 0, .int v0, .int v1, .int (v5 + (5 : Int32))]) (rest := []) rfl rfl (ok_L_slotOk hq75) ?_
        show OEndsQ own_P 0 104 [.val (.int v0), .val (.int v1), .val (.ref 0), .unset, .val (.int v4), .val (.int v5), .val (.int (v5 + (5 : Int32)))] [.int r87] (bk0 n0_issued n0_cand n0_tree n0_ends n0_dig n0_ev n0_h n0_leafCount n0_keyed n0_seed n0_root n0_next n0_issuedQ n0_candQ []) _
        by_cases hc76 : r87 = (0 : Int32)
        · simp only [if_pos hc76] at h
          refine OEndsQ.ifF hm_0 rfl ((teq hc76).2) ?_
          refine OEndsQ.adv hm_0 1 (pc' := 108) (L' := [.val (.int v0), .val (.int v1), .val (.ref 0), .unset, .val (.int v4), .val (.int v5), .val (.int (v5 + (5 : Int32)))]) (S' := [.int 0]) (H' := (bk0 n0_issued n0_cand n0_tree n0_ends n0_dig n0_ev n0_h n0_leafCount n0_keyed n0_seed n0_root n0_next n0_issuedQ n0_candQ [])) rfl ?_
          cases h
          exact OEndsQ.iret hm_0 rfl rfl
        · simp only [if_neg hc76] at h
          refine OEndsQ.ifT hm_0 rfl (q := 109) rfl ((feq hc76).2) ?_
          refine OEndsQ.adv hm_0 2 (pc' := 71) (L' := [.val (.int v0), .val (.int v1), .val (.ref 0), .unset, .val (.int v4), .val (.int (v5 + (1 : Int32))), .val (.int (v5 + (5 : Int32)))]) (S' := []) (H' := (bk0 n0_issued n0_cand n0_tree n0_ends n0_dig n0_ev n0_h n0_leafCount n0_keyed n0_seed n0_root n0_next n0_issuedQ n0_candQ [])) rfl ?_
          exact ih h
    · simp only [if_neg hc72] at h
      refine OEndsQ.icmpT hm_0 rfl (q := 115) rfl ((flt hc72).2.1) ?_
      show OEndsQ own_P 0 115 [.val (.int v0), .val (.int v1), .val (.ref 0), .unset, .val (.int v4), .val (.int v5), .unset] [] (bk0 n0_issued n0_cand n0_tree n0_ends n0_dig n0_ev n0_h n0_leafCount n0_keyed n0_seed n0_root n0_next n0_issuedQ n0_candQ []) _
      exact hk115 h
theorem ok_L_law {v0 : Int32} {v1 : Int32} {res : Int32} (h : f_L_law v0 v1 = some res) : OEndsQ own_P 0 0 [.val (.int v0), .val (.int v1), .unset, .unset, .unset, .unset, .unset] [] [] (LawQ res 7 302) := by
  unfold f_L_law at h
  refine OEndsQ.made hm_0 rfl rfl (ks := 14) (c0 := 6) (s0 := 288) rfl (Nat.le_of_ble_eq_true rfl) (Nat.le_of_ble_eq_true rfl) ?_
  refine OEndsQ.adv hm_0 2 (pc' := 5) (L' := [.val (.int v0), .val (.int v1), .unset, .unset, .unset, .unset, .unset]) (S' := [.int 1, .ref 0, .ref 0]) (H' := ((.inl (0, [.null, .null, .null, .null, .null, .null, .int 0, .int 0, .int 0, .int 0, .int 0, .int 0, .int 0, .int 0]) : ACell) :: [])) rfl ?_
  obtain ⟨⟨s54, s55, s56, s57, s58, s59, s60, s61, s62, s63, s64, s65, s66, s67⟩, hq77, h⟩ := bnd h
  refine OEndsQ.callN hm_0 rfl rfl (by decide) rfl (as := [.ref 0, .int 1]) (rest := [.ref 0]) rfl rfl (c0 := 0) (s0 := 0) (ok_init hq77) (Nat.le_of_ble_eq_true rfl) (Nat.le_of_ble_eq_true rfl) ?_
  refine OEndsQ.adv hm_0 3 (pc' := 11) (L' := [.val (.int v0), .val (.int v1), .val (.ref 0), .unset, .unset, .unset, .unset]) (S' := [.int v0, .ref 0]) (H' := (bk0 s54 s55 s56 s57 s58 s59 s60 s61 s62 s63 s64 s65 s66 s67 [])) rfl ?_
  obtain ⟨⟨r68, s69, s70, s71, s72, s73, s74, s75⟩, hq78, h⟩ := bnd h
  refine OEndsQ.call0 hm_0 rfl rfl (by decide) rfl (as := [.ref 0, .int v0]) (rest := []) rfl rfl (ok_keygen hq78) ?_
  show OEndsQ own_P 0 14 [.val (.int v0), .val (.int v1), .val (.ref 0), .unset, .unset, .unset, .unset] [.int r68] (bk0 s54 s55 s69 s70 s58 s71 s60 s61 s72 s73 s74 s75 s66 s67 []) _
  by_cases hc79 : r68 = (0 : Int32)
  · simp only [if_pos hc79] at h
    refine OEndsQ.ifF hm_0 rfl ((teq hc79).2) ?_
    refine OEndsQ.adv hm_0 1 (pc' := 18) (L' := [.val (.int v0), .val (.int v1), .val (.ref 0), .unset, .unset, .unset, .unset]) (S' := [.int 0]) (H' := (bk0 s54 s55 s69 s70 s58 s71 s60 s61 s72 s73 s74 s75 s66 s67 [])) rfl ?_
    cases h
    exact OEndsQ.iret hm_0 rfl rfl
  · simp only [if_neg hc79] at h
    refine OEndsQ.ifT hm_0 rfl (q := 19) rfl ((feq hc79).2) ?_
    refine OEndsQ.adv hm_0 2 (pc' := 21) (L' := [.val (.int v0), .val (.int v1), .val (.ref 0), .unset, .unset, .unset, .unset]) (S' := [.int 0, .int v0]) (H' := (bk0 s54 s55 s69 s70 s58 s71 s60 s61 s72 s73 s74 s75 s66 s67 [])) rfl ?_
    obtain ⟨r76, hq80, h⟩ := bnd h
    refine OEndsQ.call0 hm_0 rfl rfl (by decide) rfl (as := [.int v0, .int 0]) (rest := []) rfl rfl (ok_L_leaf hq80) ?_
    refine OEndsQ.adv hm_0 3 (pc' := 27) (L' := [.val (.int v0), .val (.int v1), .val (.ref 0), .val (.int r76), .unset, .unset, .unset]) (S' := [.int 1, .int v0]) (H' := (bk0 s54 s55 s69 s70 s58 s71 s60 s61 s72 s73 s74 s75 s66 s67 [])) rfl ?_
    obtain ⟨r77, hq81, h⟩ := bnd h
    refine OEndsQ.call0 hm_0 rfl rfl (by decide) rfl (as := [.int v0, .int 1]) (rest := []) rfl rfl (ok_L_leaf hq81) ?_
    refine OEndsQ.adv hm_0 2 (pc' := 33) (L' := [.val (.int v0), .val (.int v1), .val (.ref 0), .val (.int r76), .val (.int r77), .unset, .unset]) (S' := [.ref 0]) (H' := (bk0 s54 s55 s69 s70 s58 s71 s60 s61 s72 s73 s74 s75 s66 s67 [])) rfl ?_
    obtain ⟨r78, hq82, h⟩ := bnd h
    refine OEndsQ.call0 hm_0 rfl rfl (by decide) rfl (as := [.ref 0]) (rest := []) rfl rfl (ok_getRoot hq82) ?_
    refine OEndsQ.adv hm_0 3 (pc' := 41) (L' := [.val (.int v0), .val (.int v1), .val (.ref 0), .val (.int r76), .val (.int r77), .unset, .unset]) (S' := [.int r77, .int r76, .int 805371904, .int r78]) (H' := (bk0 s54 s55 s69 s70 s58 s71 s60 s61 s72 s73 s74 s75 s66 s67 [])) rfl ?_
    obtain ⟨r79, hq83, h⟩ := bnd h
    refine OEndsQ.call0 hm_0 rfl rfl (by decide) rfl (as := [.int 805371904, .int r76, .int r77]) (rest := [.int r78]) rfl rfl (ok_L_H hq83) ?_
    show OEndsQ own_P 0 44 [.val (.int v0), .val (.int v1), .val (.ref 0), .val (.int r76), .val (.int r77), .unset, .unset] [.int r79, .int r78] (bk0 s54 s55 s69 s70 s58 s71 s60 s61 s72 s73 s74 s75 s66 s67 []) _
    by_cases hc84 : r78 = r79
    · simp only [if_pos hc84] at h
      refine OEndsQ.icmpT hm_0 rfl (q := 49) rfl ((teq hc84).1) ?_
      refine OEndsQ.adv hm_0 2 (pc' := 51) (L' := [.val (.int v0), .val (.int v1), .val (.ref 0), .val (.int r76), .val (.int r77), .unset, .unset]) (S' := [.int v1, .ref 0]) (H' := (bk0 s54 s55 s69 s70 s58 s71 s60 s61 s72 s73 s74 s75 s66 s67 [])) rfl ?_
      obtain ⟨⟨r80, s81, s82, s83, s84⟩, hq85, h⟩ := bnd h
      refine OEndsQ.call0 hm_0 rfl rfl (by decide) rfl (as := [.ref 0, .int v1]) (rest := []) rfl rfl (ok_sign hq85) ?_
      show OEndsQ own_P 0 54 [.val (.int v0), .val (.int v1), .val (.ref 0), .val (.int r76), .val (.int r77), .unset, .unset] [.int r80] (bk0 s81 s55 s69 s70 s82 s71 s60 s61 s72 s73 s74 s83 s84 s67 []) _
      by_cases hc86 : r80 = (0 : Int32)
      · simp only [if_pos hc86] at h
        refine OEndsQ.ifT hm_0 rfl (q := 59) rfl ((teq hc86).1) ?_
        refine OEndsQ.adv hm_0 1 (pc' := 60) (L' := [.val (.int v0), .val (.int v1), .val (.ref 0), .val (.int r76), .val (.int r77), .unset, .unset]) (S' := [.ref 0]) (H' := (bk0 s81 s55 s69 s70 s82 s71 s60 s61 s72 s73 s74 s83 s84 s67 [])) rfl ?_
        obtain ⟨r85, hq87, h⟩ := bnd h
        refine OEndsQ.call0 hm_0 rfl rfl (by decide) rfl (as := [.ref 0]) (rest := []) rfl rfl (ok_issuedLeaf hq87) ?_
        show OEndsQ own_P 0 63 [.val (.int v0), .val (.int v1), .val (.ref 0), .val (.int r76), .val (.int r77), .unset, .unset] [.int r85] (bk0 s81 s55 s69 s70 s82 s71 s60 s61 s72 s73 s74 s83 s84 s67 []) _
        by_cases hc88 : r85 = (0 : Int32)
        · simp only [if_pos hc88] at h
          refine OEndsQ.ifT hm_0 rfl (q := 68) rfl ((teq hc88).1) ?_
          refine OEndsQ.adv hm_0 2 (pc' := 71) (L' := [.val (.int v0), .val (.int v1), .val (.ref 0), .val (.int r76), .val (.int r77), .val (.int 0), .unset]) (S' := []) (H' := (bk0 s81 s55 s69 s70 s82 s71 s60 s61 s72 s73 s74 s83 s84 s67 [])) rfl ?_
          exact ok_L_law_71 ok_L_law_115 100000 h
        · simp only [if_neg hc88] at h
          refine OEndsQ.ifF hm_0 rfl ((feq hc88).1) ?_
          refine OEndsQ.adv hm_0 1 (pc' := 67) (L' := [.val (.int v0), .val (.int v1), .val (.ref 0), .val (.int r76), .val (.int r77), .unset, .unset]) (S' := [.int 0]) (H' := (bk0 s81 s55 s69 s70 s82 s71 s60 s61 s72 s73 s74 s83 s84 s67 [])) rfl ?_
          cases h
          exact OEndsQ.iret hm_0 rfl rfl
      · simp only [if_neg hc86] at h
        refine OEndsQ.ifF hm_0 rfl ((feq hc86).1) ?_
        refine OEndsQ.adv hm_0 1 (pc' := 58) (L' := [.val (.int v0), .val (.int v1), .val (.ref 0), .val (.int r76), .val (.int r77), .unset, .unset]) (S' := [.int 0]) (H' := (bk0 s81 s55 s69 s70 s82 s71 s60 s61 s72 s73 s74 s83 s84 s67 [])) rfl ?_
        cases h
        exact OEndsQ.iret hm_0 rfl rfl
    · simp only [if_neg hc84] at h
      refine OEndsQ.icmpF hm_0 rfl ((feq hc84).1) ?_
      refine OEndsQ.adv hm_0 1 (pc' := 48) (L' := [.val (.int v0), .val (.int v1), .val (.ref 0), .val (.int r76), .val (.int r77), .unset, .unset]) (S' := [.int 0]) (H' := (bk0 s54 s55 s69 s70 s58 s71 s60 s61 s72 s73 s74 s75 s66 s67 [])) rfl ?_
      cases h
      exact OEndsQ.iret hm_0 rfl rfl
/-! The signer: what its methods compute -/
/-- the hash's value, made so that Lean does not open it by itself -/
def own_hw (n : Nat) (t a b : Int32) : Int32 := if n = 0 then (f_hash t a b).getD 0 else own_hw (n - 1) t a b
termination_by (n, 0)
decreasing_by exact Prod.Lex.left _ _ (by omega)
def own_h (t a b : Int32) : Int32 := own_hw 0 t a b
theorem own_hash (t a b : Int32) : f_hash t a b = some (own_h t a b) := by
  have h : ∃ r, f_hash t a b = some r := by
    simp [f_hash, f_hash_14, f_rotl]
  obtain ⟨r, e⟩ := h
  have e2 : own_h t a b = r := by
    unfold own_h
    rw [own_hw, if_pos rfl, e]
    rfl
  rw [e, e2]
def own_st (l c u : Int32) : Int32 := (((268435456 : Int32) ||| (l <<< ((16 : Int32) &&& 31))) ||| (c <<< ((8 : Int32) &&& 31))) ||| u
/-- k steps of a chain -/
def own_wk (l c : Int32) : Nat → Int32 → Int32 → Int32
  | 0, _, x => x
  | k + 1, u, x => own_wk l c k (u + 1) (own_h (own_st l c u) x 0)
theorem own_wk0 (l c u x : Int32) : own_wk l c 0 u x = x := by rw [own_wk]
theorem own_wkS (l c : Int32) (k : Nat) (u x : Int32) : own_wk l c (k + 1) u x = own_wk l c k (u + 1) (own_h (own_st l c u) x 0) := by rw [own_wk]
theorem own_suc1 (u : Int32) (a : Nat) : u + 1 + Int32.ofNat a = u + Int32.ofNat (a + 1) := by
  have e : Int32.ofNat 1 = 1 := by decide
  rw [Int32.ofNat_add, Int32.add_assoc, Int32.add_comm 1, e]
theorem own_wk_add (l c : Int32) (a b : Nat) : ∀ (u x : Int32), own_wk l c (a + b) u x = own_wk l c b (u + Int32.ofNat a) (own_wk l c a u x) := by
  induction a with
  | zero =>
    intro u x
    have e : Int32.ofNat 0 = 0 := by decide
    rw [Nat.zero_add, own_wk0, e, Int32.add_zero]
  | succ a ih =>
    intro u x
    have e : a + 1 + b = (a + b) + 1 := by omega
    rw [e, own_wkS, own_wkS, ih, own_suc1]
theorem own_walk6 (l c u k : Int32) (hk : k.toInt ≤ 16) : ∀ (m n : Nat) (x i : Int32), 0 ≤ i.toInt → i.toInt + m = k.toInt → m < n → f_walk_6 n l c u k x i = some (own_wk l c m (u + i) x) := by
  intro m
  induction m with
  | zero =>
    intro n x i h0 h1 h2
    obtain ⟨n, rfl⟩ : ∃ n', n = n' + 1 := ⟨n - 1, by omega⟩
    unfold f_walk_6
    rw [if_neg (by ((try simp only [ilt, ile, ieq, iadd_e, isub_e, imul_e, Int32.reduceToInt] at *) <;> omega)), own_wk0]
  | succ m ih =>
    intro n x i h0 h1 h2
    obtain ⟨n, rfl⟩ : ∃ n', n = n' + 1 := ⟨n - 1, by omega⟩
    unfold f_walk_6
    rw [if_pos (by ((try simp only [ilt, ile, ieq, iadd_e, isub_e, imul_e, Int32.reduceToInt] at *) <;> omega)), if_pos (by ((try simp only [ilt, ile, ieq, iadd_e, isub_e, imul_e, Int32.reduceToInt] at *) <;> omega))]
    simp only [f_stepTweak, Option.bind_some, own_hash]
    rw [ih n _ (i + 1) (by ((try simp only [ilt, ile, ieq, iadd_e, isub_e, imul_e, Int32.reduceToInt] at *) <;> omega)) (by ((try simp only [ilt, ile, ieq, iadd_e, isub_e, imul_e, Int32.reduceToInt] at *) <;> omega)) (by omega), ← Int32.add_assoc, own_wkS]
    unfold own_st
    with_reducible rfl
theorem own_walk (l c x u k : Int32) (h0 : 0 ≤ k.toInt) (hk : k.toInt ≤ 16) : f_walk l c x u k = some (own_wk l c k.toInt.toNat u x) := by
  unfold f_walk
  rw [own_walk6 l c u k hk k.toInt.toNat 100000 x 0 (by decide) (by ((try simp only [ilt, ile, ieq, iadd_e, isub_e, imul_e, Int32.reduceToInt] at *) <;> omega)) (by omega), Int32.add_zero]
def own_sk (s l c : Int32) : Int32 := own_h ((l <<< ((16 : Int32) &&& 31)) ||| (c <<< ((8 : Int32) &&& 31))) s 0
theorem own_secret (s l c : Int32) : f_secretKey s l c = some (own_sk s l c) := by
  simp [f_secretKey, f_secretTweak, own_hash, own_sk]
def own_fold (l : Int32) (ev : List Int32) : Int32 := (f_foldEnds ev l).getD 0
theorem own_fe9 (ev : List Int32) (he : ev.length = 10) : ∀ (n : Nat) (l a i : Int32), 0 ≤ i.toInt → i.toInt ≤ 10 → 10 - i.toInt < n → ∃ r, f_foldEnds_9 ev n l a i = some r := by
  intro n
  induction n with
  | zero => intro l a i h0 h1 h2; exfalso; omega
  | succ n ih =>
    intro l a i h0 h1 h2
    unfold f_foldEnds_9
    by_cases g : i < 10
    · rw [if_pos g]
      simp only [f_foldTweak, Option.bind_some, own_hash, rdg h0 (show i.toInt < ev.length by ((try simp only [ilt, ile, ieq, iadd_e, isub_e, imul_e, Int32.reduceToInt] at *) <;> omega))]
      exact ih _ _ _ (by ((try simp only [ilt, ile, ieq, iadd_e, isub_e, imul_e, Int32.reduceToInt] at *) <;> omega)) (by ((try simp only [ilt, ile, ieq, iadd_e, isub_e, imul_e, Int32.reduceToInt] at *) <;> omega)) (by ((try simp only [ilt, ile, ieq, iadd_e, isub_e, imul_e, Int32.reduceToInt] at *) <;> omega))
    · rw [if_neg g]; exact ⟨_, rfl⟩
theorem own_foldEnds (ev : List Int32) (l : Int32) (he : ev.length = 10) : f_foldEnds ev l = some (own_fold l ev) := by
  have h : ∃ r, f_foldEnds ev l = some r := by
    unfold f_foldEnds
    rw [rdg (by decide) (by rw [he]; decide), Option.bind_some]
    exact own_fe9 ev he 100000 l _ 1 (by decide) (by decide) (by decide)
  obtain ⟨r, e⟩ := h
  simp [own_fold, e]
def own_end (s l c : Int32) : Int32 := own_wk l c 15 0 (own_sk s l c)
def own_evs (f : Int32 → Int32) : List Int32 := [f 0, f 1, f 2, f 3, f 4, f 5, f 6, f 7, f 8, f 9]
def own_leaf (s l : Int32) : Int32 := own_fold l (own_evs (own_end s l))
theorem own_ten {i : Int32} (h0 : 0 ≤ i.toInt) (h1 : i.toInt < 10) : i = 0 ∨ i = 1 ∨ i = 2 ∨ i = 3 ∨ i = 4 ∨ i = 5 ∨ i = 6 ∨ i = 7 ∨ i = 8 ∨ i = 9 := by
  simp only [ieq, Int32.reduceToInt]
  omega
theorem own_evs_g (f : Int32 → Int32) {i : Int32} (h0 : 0 ≤ i.toInt) (h1 : i.toInt < 10) : gI (own_evs f) i = f i := by
  rcases own_ten h0 h1 with rfl | rfl | rfl | rfl | rfl | rfl | rfl | rfl | rfl | rfl <;> first | rfl | simp [gI, rdA, own_evs]
theorem own_evs_eq {ev : List Int32} {f : Int32 → Int32} (he : ev.length = 10) (h : ∀ i : Int32, 0 ≤ i.toInt → i.toInt < 10 → gI ev i = f i) : ev = own_evs f := by
  refine gext (by omega) (by rw [he]; rfl) (fun i h0 h1 => ?_)
  rw [h i h0 (by omega), own_evs_g f h0 (by omega)]
theorem own_bl18 {Q : List Int32 × List Int32 × List Int32 → Prop} (k70 : List Int32 → List Int32 → List Int32 → Int32 → Option (List Int32 × List Int32 × List Int32)) (lc s l : Int32) (hl0 : 0 ≤ l.toInt) (hl1 : l.toInt < 16) (tree ends0 : List Int32)
    (hk : ∀ ends ev : List Int32, ends.length = 160 → ev = own_evs (own_end s l) → (∀ i c : Int32, 0 ≤ i.toInt → i.toInt < l.toInt → 0 ≤ c.toInt → c.toInt < 10 → gI ends (i * 10 + c) = gI ends0 (i * 10 + c)) → (∀ c : Int32, 0 ≤ c.toInt → c.toInt < 10 → gI ends (l * 10 + c) = own_end s l c) → Tot (k70 tree ends ev l) Q) :
    ∀ (n : Nat) (ends ev : List Int32) (j : Int32), ends.length = 160 → ev.length = 10 → 0 ≤ j.toInt → j.toInt ≤ 10 → 10 - j.toInt < n →
    (∀ i c : Int32, 0 ≤ i.toInt → i.toInt < l.toInt → 0 ≤ c.toInt → c.toInt < 10 → gI ends (i * 10 + c) = gI ends0 (i * 10 + c)) → (∀ c : Int32, 0 ≤ c.toInt → c.toInt < j.toInt → gI ends (l * 10 + c) = own_end s l c) → (∀ c : Int32, 0 ≤ c.toInt → c.toInt < j.toInt → gI ev c = own_end s l c) →
    Tot (f_buildLeaves_18 k70 lc s n tree ends ev l j) Q := by
  intro n
  induction n with
  | zero => intro ends ev j h1 h2 h3 h4 h5; exfalso; omega
  | succ n ih =>
    intro ends ev j h1 h2 h3 h4 h5 h6 h7 h8
    unfold f_buildLeaves_18
    refine Tot.ite (fun g => ?_) (fun g => ?_)
    · have g' : j.toInt < 10 := by clear h6 h7 h8 ih hk; ((try simp only [ilt, ile, ieq, iadd_e, isub_e, imul_e, Int32.reduceToInt] at *) <;> omega)
      rw [own_secret, Option.bind_some, own_walk l j _ 0 15 (by decide) (by decide), Option.bind_some]
      have ej : (l * 10 + j).toInt = l.toInt * 10 + j.toInt := by clear h6 h7 h8 ih hk; ((try simp only [ilt, ile, ieq, iadd_e, isub_e, imul_e, Int32.reduceToInt] at *) <;> omega)
      refine Tot.wr (by omega) (by omega) (fun e1 q1 q2 => Tot.wr (by omega) (by omega) (fun e2 q3 q4 => ?_))
      have ej1 : (j + 1).toInt = j.toInt + 1 := by clear h6 h7 h8 ih hk q1 q3; ((try simp only [ilt, ile, ieq, iadd_e, isub_e, imul_e, Int32.reduceToInt] at *) <;> omega)
      refine ih e1 e2 (j + 1) (by omega) (by omega) (by omega) (by omega) (by omega) ?_ ?_ ?_
      · intro i c a b d e
        have ei : (i * 10 + c).toInt = i.toInt * 10 + c.toInt := by clear h6 h7 h8 ih hk q1 q3; ((try simp only [ilt, ile, ieq, iadd_e, isub_e, imul_e, Int32.reduceToInt] at *) <;> omega)
        rw [q1, gset (by omega) (by omega) (by omega), if_neg (by rw [ieq]; omega)]
        exact h6 i c a b d e
      · intro c a b
        have ei : (l * 10 + c).toInt = l.toInt * 10 + c.toInt := by clear h6 h7 h8 ih hk q1 q3; ((try simp only [ilt, ile, ieq, iadd_e, isub_e, imul_e, Int32.reduceToInt] at *) <;> omega)
        rw [q1, gset (by omega) (by omega) (by omega)]
        by_cases hc : c = j
        · subst hc; rw [if_pos rfl]; (first | done | rfl | simp)
        · rw [ieq] at hc
          rw [if_neg (by rw [ieq]; omega)]
          exact h7 c a (by omega)
      · intro c a b
        rw [q3, gset (by omega) (by omega) (by omega)]
        by_cases hc : c = j
        · subst hc; rw [if_pos rfl]; (first | done | rfl | simp)
        · rw [ieq] at hc
          rw [if_neg (by rw [ieq]; omega)]
          exact h8 c a (by omega)
    · have g' : j.toInt = 10 := by clear h6 h7 h8 ih hk; ((try simp only [ilt, ile, ieq, iadd_e, isub_e, imul_e, Int32.reduceToInt] at *) <;> omega)
      exact hk ends ev h1 (own_evs_eq h2 (fun i a b => h8 i a (by omega))) h6 (fun c a b => h7 c a (by omega))
theorem own_bl2 (lc s : Int32) (hlc : lc.toInt ≤ 16) : ∀ (n : Nat) (tree ends ev : List Int32) (l : Int32), tree.length = 80 → ends.length = 160 → ev.length = 10 → 0 ≤ l.toInt → l.toInt ≤ lc.toInt → 16 - l.toInt < n →
    (∀ i : Int32, 0 ≤ i.toInt → i.toInt < l.toInt → gI tree i = own_leaf s i) → (∀ i c : Int32, 0 ≤ i.toInt → i.toInt < l.toInt → 0 ≤ c.toInt → c.toInt < 10 → gI ends (i * 10 + c) = own_end s i c) →
    Tot (f_buildLeaves_2 lc s n tree ends ev l) (fun r => r.1.length = 80 ∧ r.2.1.length = 160 ∧ r.2.2.length = 10 ∧ (∀ i : Int32, 0 ≤ i.toInt → i.toInt < lc.toInt → gI r.1 i = own_leaf s i) ∧ (∀ i c : Int32, 0 ≤ i.toInt → i.toInt < lc.toInt → 0 ≤ c.toInt → c.toInt < 10 → gI r.2.1 (i * 10 + c) = own_end s i c)) := by
  intro n
  induction n with
  | zero => intro tree ends ev l h1 h2 h3 h4 h5 h6; exfalso; omega
  | succ n ih =>
    intro tree ends ev l h1 h2 h3 h4 h5 h6 h7 h8
    unfold f_buildLeaves_2
    refine Tot.ite (fun g => Tot.ite (fun g2 => ?_) (fun g2 => ?_)) (fun g => ?_)
    · have g' : l.toInt < lc.toInt := ilt.mp g
      refine own_bl18 _ lc s l h4 (by omega) tree ends (fun ends' ev' q1 q2 q3 q4 => ?_) 100000 ends ev 0 h2 h3 (by decide) (by decide) (by decide) (fun i c _ _ _ _ => rfl) (fun c a b => by exfalso; have e0 : (0 : Int32).toInt = 0 := rfl; omega) (fun c a b => by exfalso; have e0 : (0 : Int32).toInt = 0 := rfl; omega)
      unfold f_buildLeaves_70
      rw [q2, own_foldEnds _ l rfl, Option.bind_some]
      refine Tot.wr h4 (by omega) (fun t' q5 q6 => ?_)
      have el : (l + 1).toInt = l.toInt + 1 := by clear h7 h8 ih q3 q4 q5; ((try simp only [ilt, ile, ieq, iadd_e, isub_e, imul_e, Int32.reduceToInt] at *) <;> omega)
      refine ih t' ends' _ (l + 1) (by omega) q1 rfl (by omega) (by omega) (by omega) ?_ ?_
      · intro i a b
        rw [q5, gset (by omega) (by omega) (by omega)]
        by_cases hc : i = l
        · subst hc; rw [if_pos rfl]; (first | done | rfl | simp)
        · rw [ieq] at hc
          rw [if_neg (by rw [ieq]; omega)]
          exact h7 i a (by omega)
      · intro i c a b d e
        by_cases hc : i = l
        · subst hc; exact q4 c d e
        · rw [ieq] at hc
          rw [q3 i c a (by omega) d e]
          exact h8 i c a (by omega) d e
    · exfalso; clear h7 h8 ih; ((try simp only [ilt, ile, ieq, iadd_e, isub_e, imul_e, Int32.reduceToInt] at *) <;> omega)
    · have g' : ¬ l.toInt < lc.toInt := fun q => g (ilt.mpr q)
      exact Tot.mk ⟨h1, h2, h3, fun i a b => h7 i a (by omega), fun i c a b d e => h8 i c a (by omega) d e⟩
def own_nt (v i : Int32) : Int32 := ((805306368 : Int32) ||| (v <<< ((16 : Int32) &&& 31))) ||| i
def own_lev (T : List Int32) (v i : Int32) : Prop := gI T (v * 16 + i) = own_h (own_nt v i) (gI T ((v - 1) * 16 + 2 * i)) (gI T ((v - 1) * 16 + 2 * i + 1))
theorem own_bu24 {Q : List Int32 → Prop} (k2 : List Int32 → Int32 → Option (List Int32)) (h lc v w : Int32) (T0 : List Int32) (hv1 : 1 ≤ v.toInt) (hv4 : v.toInt ≤ 4) (hw : w.toInt ≤ 8)
    (hk : ∀ T : List Int32, T.length = 80 → (∀ i : Int32, 0 ≤ i.toInt → i.toInt < 16 * v.toInt → gI T i = gI T0 i) → (∀ i : Int32, 0 ≤ i.toInt → i.toInt < w.toInt → own_lev T v i) → Tot (k2 T (v + 1)) Q) :
    ∀ (n : Nat) (T : List Int32) (j : Int32), T.length = 80 → 0 ≤ j.toInt → j.toInt ≤ 8 → 8 - j.toInt < n → (∀ i : Int32, 0 ≤ i.toInt → i.toInt < 16 * v.toInt → gI T i = gI T0 i) → (∀ i : Int32, 0 ≤ i.toInt → i.toInt < j.toInt → own_lev T v i) → Tot (f_buildUpperLevels_24 k2 h lc n T v w j) Q := by
  intro n
  induction n with
  | zero => intro T j h1 h2 h3 h4; exfalso; omega
  | succ n ih =>
    intro T j h1 h2 h3 h4 h5 h6
    unfold f_buildUpperLevels_24
    refine Tot.ite (fun g => Tot.ite (fun g2 => ?_) (fun g2 => ?_)) (fun g => ?_)
    · have g' : j.toInt < w.toInt := ilt.mp g
      have ea : ∀ i : Int32, 0 ≤ i.toInt → i.toInt < 8 → ((v - 1) * 16 + 2 * i).toInt = (v.toInt - 1) * 16 + 2 * i.toInt := fun i a b => by clear h5 h6 ih hk; ((try simp only [ilt, ile, ieq, iadd_e, isub_e, imul_e, Int32.reduceToInt] at *) <;> omega)
      have eb : ∀ i : Int32, 0 ≤ i.toInt → i.toInt < 8 → ((v - 1) * 16 + 2 * i + 1).toInt = (v.toInt - 1) * 16 + 2 * i.toInt + 1 := fun i a b => by clear h5 h6 ih hk ea; ((try simp only [ilt, ile, ieq, iadd_e, isub_e, imul_e, Int32.reduceToInt] at *) <;> omega)
      have ec : ∀ i : Int32, 0 ≤ i.toInt → i.toInt < 8 → (v * 16 + i).toInt = v.toInt * 16 + i.toInt := fun i a b => by clear h5 h6 ih hk ea eb; ((try simp only [ilt, ile, ieq, iadd_e, isub_e, imul_e, Int32.reduceToInt] at *) <;> omega)
      have ea' := ea j h2 (by omega)
      have eb' := eb j h2 (by omega)
      have ec' := ec j h2 (by omega)
      unfold f_nodeTweak
      rw [Option.bind_some]
      refine Tot.rdI (by omega) (by omega) (Tot.rdI (by omega) (by omega) ?_)
      rw [own_hash, Option.bind_some]
      refine Tot.wr (by omega) (by omega) (fun T' q1 q2 => ?_)
      have hs : ∀ q : Int32, 0 ≤ q.toInt → q.toInt ≠ (v * 16 + j).toInt → gI T' q = gI T q := by
        intro q a b
        rw [q1, gset (by omega) (by omega) a, if_neg (by rw [ieq]; omega)]
      have hj : gI T' (v * 16 + j) = own_h (own_nt v j) (gI T ((v - 1) * 16 + 2 * j)) (gI T ((v - 1) * 16 + 2 * j + 1)) := by
        rw [q1, gset (by omega) (by omega) (by omega), if_pos rfl]
        (first | done | rfl | simp)
      have ej : (j + 1).toInt = j.toInt + 1 := by clear h5 h6 ih hk ea eb ec q1 hs hj; ((try simp only [ilt, ile, ieq, iadd_e, isub_e, imul_e, Int32.reduceToInt] at *) <;> omega)
      refine ih T' (j + 1) (by omega) (by omega) (by omega) (by omega) ?_ ?_
      · intro i a b
        rw [hs i a (by omega)]
        exact h5 i a b
      · intro i a b
        have e1 := ea i a (by omega)
        have e2 := eb i a (by omega)
        have e3 := ec i a (by omega)
        unfold own_lev
        rw [hs ((v - 1) * 16 + 2 * i) (by omega) (by omega), hs ((v - 1) * 16 + 2 * i + 1) (by omega) (by omega)]
        by_cases hc : i = j
        · subst hc; exact hj
        · rw [ieq] at hc
          rw [hs (v * 16 + i) (by omega) (by omega)]
          exact h6 i a (by omega)
    · exfalso; clear h5 h6 ih hk; ((try simp only [ilt, ile, ieq, iadd_e, isub_e, imul_e, Int32.reduceToInt] at *) <;> omega)
    · have g' : ¬ j.toInt < w.toInt := fun q => g (ilt.mpr q)
      exact hk T h1 h5 (fun i a b => h6 i a (by omega))
theorem own_bu2 (h lc : Int32) (hw : ∀ v : Int32, 1 ≤ v.toInt → v.toInt ≤ 4 → (lc >>> (v &&& 31)).toInt ≤ 8) : ∀ (n : Nat) (T : List Int32) (v : Int32), T.length = 80 → 1 ≤ v.toInt → v.toInt ≤ 5 → 5 - v.toInt < n →
    (∀ u i : Int32, 1 ≤ u.toInt → u.toInt < v.toInt → 0 ≤ i.toInt → i.toInt < (lc >>> (u &&& 31)).toInt → own_lev T u i) →
    Tot (f_buildUpperLevels_2 h lc n T v) (fun T' => T'.length = 80 ∧ (∀ i : Int32, 0 ≤ i.toInt → i.toInt < 16 → gI T' i = gI T i) ∧ ∀ u i : Int32, 1 ≤ u.toInt → u.toInt ≤ h.toInt → u.toInt ≤ 4 → 0 ≤ i.toInt → i.toInt < (lc >>> (u &&& 31)).toInt → own_lev T' u i) := by
  intro n
  induction n with
  | zero => intro T v h1 h2 h3 h4; exfalso; omega
  | succ n ih =>
    intro T v h1 h2 h3 h4 h5
    unfold f_buildUpperLevels_2
    refine Tot.ite (fun g => ?_) (fun g => Tot.ite (fun g2 => ?_) (fun g2 => ?_))
    · have g' := ilt.mp g
      exact Tot.mk ⟨h1, fun i _ _ => rfl, fun u i a b c d e => h5 u i a (by omega) d e⟩
    · have g' : (4 : Int) < v.toInt := ilt.mp g2
      exact Tot.mk ⟨h1, fun i _ _ => rfl, fun u i a b c d e => h5 u i a (by omega) d e⟩
    · have g' : ¬ (4 : Int) < v.toInt := fun q => g2 (ilt.mpr q)
      refine own_bu24 _ h lc v (lc >>> (v &&& 31)) T h2 (by omega) (hw v h2 (by omega)) (fun T' q1 q2 q3 => ?_) 100000 T 0 h1 (by decide) (by decide) (by decide) (fun i _ _ => rfl) (fun i a b => by exfalso; have e0 : (0 : Int32).toInt = 0 := rfl; omega)
      have ev : (v + 1).toInt = v.toInt + 1 := by clear h5 ih q2 q3 hw; ((try simp only [ilt, ile, ieq, iadd_e, isub_e, imul_e, Int32.reduceToInt] at *) <;> omega)
      refine (ih T' (v + 1) q1 (by omega) (by omega) (by omega) ?_).mono ?_
      · intro u i a b c d
        by_cases hc : u = v
        · subst hc; exact q3 i c d
        · rw [ieq] at hc
          have hb := hw u a (by omega)
          have e1 : ((u - 1) * 16 + 2 * i).toInt = (u.toInt - 1) * 16 + 2 * i.toInt := by clear h5 ih q2 q3 hw; ((try simp only [ilt, ile, ieq, iadd_e, isub_e, imul_e, Int32.reduceToInt] at *) <;> omega)
          have e2 : ((u - 1) * 16 + 2 * i + 1).toInt = (u.toInt - 1) * 16 + 2 * i.toInt + 1 := by clear h5 ih q2 q3 hw e1; ((try simp only [ilt, ile, ieq, iadd_e, isub_e, imul_e, Int32.reduceToInt] at *) <;> omega)
          have e3 : (u * 16 + i).toInt = u.toInt * 16 + i.toInt := by clear h5 ih q2 q3 hw e1 e2; ((try simp only [ilt, ile, ieq, iadd_e, isub_e, imul_e, Int32.reduceToInt] at *) <;> omega)
          unfold own_lev
          rw [q2 _ (by omega) (by omega), q2 ((u - 1) * 16 + 2 * i) (by omega) (by omega), q2 ((u - 1) * 16 + 2 * i + 1) (by omega) (by omega)]
          exact h5 u i a (by omega) c d
      · rintro T2 ⟨a, b, c⟩
        exact ⟨a, fun i d e => by rw [b i d e, q2 i d (by omega)], c⟩
def own_hl (h lc : Int32) : Prop := (h = 1 ∧ lc = 2) ∨ (h = 2 ∧ lc = 4) ∨ (h = 3 ∧ lc = 8) ∨ (h = 4 ∧ lc = 16)
theorem own_hl_w {h lc : Int32} (hh : own_hl h lc) (v : Int32) (h1 : 1 ≤ v.toInt) (h4 : v.toInt ≤ 4) : (lc >>> (v &&& 31)).toInt ≤ 8 := by
  have hv : v = 1 ∨ v = 2 ∨ v = 3 ∨ v = 4 := by
    simp only [ieq, Int32.reduceToInt]
    omega
  rcases hh with ⟨-, rfl⟩ | ⟨-, rfl⟩ | ⟨-, rfl⟩ | ⟨-, rfl⟩ <;> rcases hv with rfl | rfl | rfl | rfl <;> decide
theorem own_hl_b {h lc : Int32} (hh : own_hl h lc) : 1 ≤ h.toInt ∧ h.toInt ≤ 4 ∧ 2 ≤ lc.toInt ∧ lc.toInt ≤ 16 := by
  rcases hh with ⟨rfl, rfl⟩ | ⟨rfl, rfl⟩ | ⟨rfl, rfl⟩ | ⟨rfl, rfl⟩ <;> decide
def own_tree (s h lc : Int32) (T : List Int32) : Prop := T.length = 80 ∧ (∀ i : Int32, 0 ≤ i.toInt → i.toInt < lc.toInt → gI T i = own_leaf s i) ∧ (∀ u i : Int32, 1 ≤ u.toInt → u.toInt ≤ h.toInt → 0 ≤ i.toInt → i.toInt < (lc >>> (u &&& 31)).toInt → own_lev T u i)
def own_ends (s lc : Int32) (E : List Int32) : Prop := E.length = 160 ∧ ∀ i c : Int32, 0 ≤ i.toInt → i.toInt < lc.toInt → 0 ≤ c.toInt → c.toInt < 10 → gI E (i * 10 + c) = own_end s i c
theorem own_keygen {h lc : Int32} (hh : own_hl h lc) {T ends ev : List Int32} (hT : T.length = 80) (he : ends.length = 160) (hv : ev.length = 10) (seed root next s : Int32) :
    ∃ T' ends' ev' : List Int32, f_keygen h lc T ends ev 0 seed root next s = some (1, T', ends', ev', 1, s, gI T' (h * 16), 0) ∧ own_tree s h lc T' ∧ own_ends s lc ends' ∧ ev'.length = 10 := by
  have hb := own_hl_b hh
  obtain ⟨⟨t, e, v⟩, p1, a1, a2, a3, a4, a5⟩ := own_bl2 lc s (by omega) 100000 T ends ev 0 hT he hv (by decide) (by have e0 : (0 : Int32).toInt = 0 := rfl; omega) (by decide) (fun i a b => by exfalso; have e0 : (0 : Int32).toInt = 0 := rfl; omega) (fun i c a b => by exfalso; have e0 : (0 : Int32).toInt = 0 := rfl; omega)
  obtain ⟨t2, p2, b1, b2, b3⟩ := own_bu2 h lc (own_hl_w hh) 100000 t 1 a1 (by decide) (by decide) (by decide) (fun u i a b => by exfalso; have e0 : (1 : Int32).toInt = 1 := rfl; omega)
  have eh : (h * 16).toInt = h.toInt * 16 := by clear b2 b3 a4 a5 p1 p2; ((try simp only [ilt, ile, ieq, iadd_e, isub_e, imul_e, Int32.reduceToInt] at *) <;> omega)
  refine ⟨t2, e, v, ?_, ⟨b1, fun i a b => ?_, fun u i a b c d => b3 u i a b (by omega) c d⟩, ⟨a2, a5⟩, a3⟩
  · unfold f_keygen f_buildLeaves f_buildUpperLevels
    rw [if_pos rfl, p1, Option.bind_some]
    show (Option.bind (f_buildUpperLevels_2 h lc 100000 t 1) _) = _
    rw [p2, Option.bind_some, rdg (by omega) (by omega), Option.bind_some]
  · rw [b2 i a (by omega)]
    exact a4 i a b
def own_dg (m : Int32) : List Int32 := (f_fillDigits (List.replicate 10 0) m).getD []
theorem own_fd (dig : List Int32) (m : Int32) (h : dig.length = 10) : f_fillDigits dig m = some (own_dg m) := by
  rw [own_evs_eq (f := gI dig) h (fun _ _ _ => rfl)]
  generalize gI dig = f
  simp [own_dg, own_evs, f_fillDigits, f_fillDigits_4, f_fillDigits_45, wrA, List.replicate]
theorem own_dg_eq (m : Int32) : ∃ S : Int32, own_dg m = [XT.ushr m 28 &&& 15, XT.ushr m 24 &&& 15, XT.ushr m 20 &&& 15, XT.ushr m 16 &&& 15, XT.ushr m 12 &&& 15, XT.ushr m 8 &&& 15, XT.ushr m 4 &&& 15, XT.ushr m 0 &&& 15, XT.ushr S 4 &&& 15, S &&& 15] := by
  refine ⟨0 + (15 - (XT.ushr m 28 &&& 15)) + (15 - (XT.ushr m 24 &&& 15)) + (15 - (XT.ushr m 20 &&& 15)) + (15 - (XT.ushr m 16 &&& 15)) + (15 - (XT.ushr m 12 &&& 15)) + (15 - (XT.ushr m 8 &&& 15)) + (15 - (XT.ushr m 4 &&& 15)) + (15 - (XT.ushr m 0 &&& 15)), ?_⟩
  simp [own_dg, f_fillDigits, f_fillDigits_4, f_fillDigits_45, wrA, List.replicate]
theorem own_dg_len (m : Int32) : (own_dg m).length = 10 := by
  obtain ⟨S, e⟩ := own_dg_eq m
  rw [e]; rfl
theorem own_dg_rng (m : Int32) {c : Int32} (h0 : 0 ≤ c.toInt) (h1 : c.toInt < 10) : 0 ≤ (gI (own_dg m) c).toInt ∧ (gI (own_dg m) c).toInt ≤ 15 := by
  obtain ⟨S, e⟩ := own_dg_eq m
  have k : ∃ x : Int32, gI (own_dg m) c = x &&& 15 := by
    rw [e]
    rcases own_ten h0 h1 with rfl | rfl | rfl | rfl | rfl | rfl | rfl | rfl | rfl | rfl <;> exact ⟨_, rfl⟩
  obtain ⟨x, k⟩ := k
  rw [k]
  exact iand_rng x 15 (by decide)
theorem own_path2 (T : List Int32) (h q : Int32) (hT : T.length = 80) : ∀ (n : Nat) (iss : List Int32) (j : Int32), iss.length = 14 → 0 ≤ j.toInt → j.toInt ≤ 4 → 4 - j.toInt < n →
    Tot (f_fillPath_2 T h n iss q j) (fun r => r.length = 14 ∧ (∀ c : Int32, 0 ≤ c.toInt → c.toInt < 10 + j.toInt → gI r c = gI iss c) ∧ (∀ v : Int32, j.toInt ≤ v.toInt → v.toInt < 4 → gI r (10 + v) = if v < h then gI T (v * 16 + ((XT.ushr q v ^^^ 1) &&& 15)) else 0)) := by
  intro n
  induction n with
  | zero => intro iss j h1 h2 h3 h4; exfalso; omega
  | succ n ih =>
    intro iss j h1 h2 h3 h4
    have ej : (j + 1).toInt = j.toInt + 1 := by clear ih; ((try simp only [ilt, ile, ieq, iadd_e, isub_e, imul_e, Int32.reduceToInt] at *) <;> omega)
    have e10 : (10 + j).toInt = 10 + j.toInt := by clear ih; ((try simp only [ilt, ile, ieq, iadd_e, isub_e, imul_e, Int32.reduceToInt] at *) <;> omega)
    have key : ∀ x : Int32, j.toInt < 4 → x = (if j < h then gI T (j * 16 + ((XT.ushr q j ^^^ 1) &&& 15)) else 0) → Tot (f_fillPath_40 (f_fillPath_2 T h n) T h iss q j x) (fun r => r.length = 14 ∧ (∀ c : Int32, 0 ≤ c.toInt → c.toInt < 10 + j.toInt → gI r c = gI iss c) ∧ (∀ v : Int32, j.toInt ≤ v.toInt → v.toInt < 4 → gI r (10 + v) = if v < h then gI T (v * 16 + ((XT.ushr q v ^^^ 1) &&& 15)) else 0)) := by
      intro x g4 hx
      unfold f_fillPath_40
      refine Tot.wr (by omega) (by omega) (fun I' q1 q2 => ?_)
      refine (ih I' (j + 1) (by omega) (by omega) (by omega) (by omega)).mono ?_
      rintro r ⟨a, b, c⟩
      refine ⟨a, fun i d e => ?_, fun v d e => ?_⟩
      · rw [b i d (by omega), q1, gset (by omega) (by omega) d, if_neg (by rw [ieq]; omega)]
      · by_cases hv : v = j
        · subst hv
          rw [b (10 + v) (by omega) (by omega), q1, gset (by omega) (by omega) (by omega), if_pos rfl]
          exact hx
        · rw [ieq] at hv
          exact c v (by omega) e
    unfold f_fillPath_2
    refine Tot.ite (fun g => Tot.ite (fun g2 => ?_) (fun g2 => ?_)) (fun g => ?_)
    · have g' : j.toInt < 4 := ilt.mp g
      have hm := iand_rng (XT.ushr q j ^^^ 1) 15 (by decide)
      have e15 : (15 : Int32).toInt = 15 := rfl
      rw [e15] at hm
      have ei : (j * 16 + ((XT.ushr q j ^^^ 1) &&& 15)).toInt = j.toInt * 16 + ((XT.ushr q j ^^^ 1) &&& 15).toInt := by
        generalize ((XT.ushr q j ^^^ 1) &&& 15) = z at hm ⊢
        clear ih key; ((try simp only [ilt, ile, ieq, iadd_e, isub_e, imul_e, Int32.reduceToInt] at *) <;> omega)
      refine Tot.rdI (by omega) (by omega) (key _ g' ?_)
      rw [if_pos g2]
    · exact key _ (ilt.mp g) (by rw [if_neg g2])
    · have g' : ¬ j.toInt < 4 := fun k => g (ilt.mpr k)
      exact Tot.mk ⟨h1, fun _ _ _ => rfl, fun v a b => by exfalso; omega⟩
theorem own_sign35 {Q : Int32 × List Int32 × List Int32 × Int32 × Int32 → Prop} (k76 : List Int32 → List Int32 → Int32 → Int32 → Int32 → Option (Int32 × List Int32 × List Int32 × Int32 × Int32)) (T : List Int32) (h lc kd s : Int32) (dig : List Int32) (hd : dig.length = 10) (hr : ∀ c : Int32, 0 ≤ c.toInt → c.toInt < 10 → 0 ≤ (gI dig c).toInt ∧ (gI dig c).toInt ≤ 15) (nx iq q : Int32)
    (hk : ∀ iss : List Int32, iss.length = 14 → (∀ c : Int32, 0 ≤ c.toInt → c.toInt < 10 → gI iss c = own_wk q c (gI dig c).toInt.toNat 0 (own_sk s q c)) → Tot (k76 iss dig nx iq q) Q) :
    ∀ (n : Nat) (iss : List Int32) (j : Int32), iss.length = 14 → 0 ≤ j.toInt → j.toInt ≤ 10 → 10 - j.toInt < n → (∀ c : Int32, 0 ≤ c.toInt → c.toInt < j.toInt → gI iss c = own_wk q c (gI dig c).toInt.toNat 0 (own_sk s q c)) → Tot (f_sign_35 k76 T h lc kd s n iss dig nx iq q j) Q := by
  intro n
  induction n with
  | zero => intro iss j h1 h2 h3 h4; exfalso; omega
  | succ n ih =>
    intro iss j h1 h2 h3 h4 h5
    unfold f_sign_35
    refine Tot.ite (fun g => ?_) (fun g => ?_)
    · have g' : j.toInt < 10 := ilt.mp g
      have hj := hr j h2 g'
      have ej : (j + 1).toInt = j.toInt + 1 := by clear ih hr hk h5; ((try simp only [ilt, ile, ieq, iadd_e, isub_e, imul_e, Int32.reduceToInt] at *) <;> omega)
      rw [own_secret, Option.bind_some]
      refine Tot.rdI h2 (by omega) ?_
      rw [own_walk _ _ _ _ _ hj.1 (by omega), Option.bind_some]
      refine Tot.wr h2 (by omega) (fun I' q1 q2 => ?_)
      refine ih I' (j + 1) (by omega) (by omega) (by omega) (by omega) (fun c a b => ?_)
      rw [q1, gset (by omega) (by omega) (by omega)]
      by_cases hc : c = j
      · subst hc; rw [if_pos rfl]
      · rw [ieq] at hc
        rw [if_neg (by rw [ieq]; omega)]
        exact h5 c a (by omega)
    · have g' : ¬ j.toInt < 10 := fun k => g (ilt.mpr k)
      exact hk iss h1 (fun c a b => h5 c a (by omega))
/-- what a leaf's signature holds -/
def own_sig (T : List Int32) (h s q m : Int32) (I : List Int32) : Prop := I.length = 14 ∧ (∀ c : Int32, 0 ≤ c.toInt → c.toInt < 10 → gI I c = own_wk q c (gI (own_dg m) c).toInt.toNat 0 (own_sk s q c)) ∧ (∀ v : Int32, 0 ≤ v.toInt → v.toInt < 4 → gI I (10 + v) = if v < h then gI T (v * 16 + ((XT.ushr q v ^^^ 1) &&& 15)) else 0)
theorem own_sign {T iss dig : List Int32} {h lc s nx iq : Int32} (hT : T.length = 80) (hi : iss.length = 14) (hd : dig.length = 10) (hn : nx < lc) (m : Int32) :
    ∃ I, f_sign T h lc 1 s iss dig nx iq m = some (nx, I, own_dg m, nx + 1, nx) ∧ own_sig T h s nx m I := by
  have k : Tot (f_sign T h lc 1 s iss dig nx iq m) (fun r => ∃ I, r = (nx, I, own_dg m, nx + 1, nx) ∧ own_sig T h s nx m I) := by
    unfold f_sign
    rw [if_neg (by decide), if_pos hn, own_fd dig m hd, Option.bind_some]
    refine own_sign35 _ T h lc 1 s (own_dg m) (own_dg_len m) (fun c a b => own_dg_rng m a b) nx iq nx (fun I1 q1 q2 => ?_) 100000 iss 0 hi (by decide) (by decide) (by decide) (fun c a b => by exfalso; have e0 : (0 : Int32).toInt = 0 := rfl; omega)
    unfold f_sign_76 f_fillPath
    refine Tot.bind (own_path2 T h nx hT 100000 I1 0 q1 (by decide) (by decide) (by decide)) ?_
    rintro I2 ⟨a, b, c⟩
    have e0 : (0 : Int32).toInt = 0 := rfl
    exact Tot.mk ⟨I2, rfl, a, fun i d e => by rw [b i d (by omega), q2 i d e], fun v d e => c v (by omega) e⟩
  obtain ⟨r, e, I, e2, p⟩ := k
  exact ⟨I, by rw [e, e2], p⟩
theorem own_sign0 (T : List Int32) (h lc s : Int32) (iss dig : List Int32) (nx iq m : Int32) : f_sign T h lc 0 s iss dig nx iq m = some (-1, iss, dig, nx, iq) := by
  unfold f_sign; rw [if_pos rfl]
theorem own_signX {T iss dig : List Int32} {h lc s nx iq : Int32} (hn : ¬ nx < lc) (m : Int32) : f_sign T h lc 1 s iss dig nx iq m = some (-2, iss, dig, nx, iq) := by
  unfold f_sign; rw [if_neg (by decide), if_neg hn]
theorem own_clamp (v0 : Int32) : (if (4 : Int32) < (if v0 < (1 : Int32) then (1 : Int32) else v0) then (4 : Int32) else (if v0 < (1 : Int32) then (1 : Int32) else v0)) = (if v0 < (1 : Int32) then (1 : Int32) else (if (4 : Int32) < v0 then (4 : Int32) else v0)) := by
  by_cases h : v0 < 1 <;> simp [h]
theorem own_clamp_hl (v0 : Int32) : own_hl (if v0 < (1 : Int32) then (1 : Int32) else (if (4 : Int32) < v0 then (4 : Int32) else v0)) ((1 : Int32) <<< ((if v0 < (1 : Int32) then (1 : Int32) else (if (4 : Int32) < v0 then (4 : Int32) else v0)) &&& 31)) := by
  have key : (if v0 < (1 : Int32) then (1 : Int32) else (if (4 : Int32) < v0 then (4 : Int32) else v0)) = 1 ∨ (if v0 < (1 : Int32) then (1 : Int32) else (if (4 : Int32) < v0 then (4 : Int32) else v0)) = 2 ∨ (if v0 < (1 : Int32) then (1 : Int32) else (if (4 : Int32) < v0 then (4 : Int32) else v0)) = 3 ∨ (if v0 < (1 : Int32) then (1 : Int32) else (if (4 : Int32) < v0 then (4 : Int32) else v0)) = 4 := by
    split
    · simp
    · rename_i g
      split
      · simp
      · rename_i g2
        have e1 : (1 : Int32).toInt = 1 := rfl
        have e4 : (4 : Int32).toInt = 4 := rfl
        rw [ilt] at g g2
        simp only [ieq, Int32.reduceToInt]
        omega
  rcases key with e | e | e | e <;> rw [e]
  · exact Or.inl ⟨rfl, by decide⟩
  · exact Or.inr (Or.inl ⟨rfl, by decide⟩)
  · exact Or.inr (Or.inr (Or.inl ⟨rfl, by decide⟩))
  · exact Or.inr (Or.inr (Or.inr ⟨rfl, by decide⟩))
theorem own_iv {I : List Int32} (hI : I.length = 14) {i : Int32} (h0 : 0 ≤ i.toInt) (h1 : i.toInt < 14) : f_issuedValue I i = some (gI I i) := by
  unfold f_issuedValue
  rw [if_neg (by rw [ilt]; have e0 : (0 : Int32).toInt = 0 := rfl; omega), if_pos (ilt.mpr h1), rdg h0 (by omega), Option.bind_some]
theorem own_LH13 : ∀ (n : Nat) (a b c d : Int32), f_L_H_13 n a b c d = f_hash_14 n a b c d := by
  intro n
  induction n with
  | zero => intro a b c d; rfl
  | succ n ih => intro a b c d; simp only [f_L_H_13, f_hash_14, f_L_rotl, f_rotl, Option.bind_some, ih]
theorem own_LH (t a b : Int32) : f_L_H t a b = some (own_h t a b) := by
  rw [← own_hash]
  unfold f_L_H f_hash
  exact own_LH13 _ _ _ _ _
theorem own_Lsk (s l c : Int32) : f_L_sk s l c = some (own_sk s l c) := by
  simp [f_L_sk, own_LH, own_sk]
theorem own_wk_succ (l c : Int32) (m : Nat) (u x : Int32) : own_wk l c (m + 1) u x = own_h (own_st l c (u + Int32.ofNat m)) (own_wk l c m u x) 0 := by
  rw [own_wk_add]
  rfl
theorem own_Lwalk12 (k3 : Int32 → Int32 → Int32 → Int32 → Int32 → Int32 → Option Int32) (l c u x k a : Int32) (ha : 0 ≤ a.toInt) (ha4 : a.toInt < 4) (hk0 : 0 ≤ k.toInt) (hk : k.toInt ≤ 16) (R : Option Int32)
    (hR : k3 l c (own_wk l c (min (4 * a.toInt.toNat + 4) k.toInt.toNat) u x) u k (a + 1) = R) :
    ∀ (n : Nat) (y b : Int32), 0 ≤ b.toInt → b.toInt ≤ 4 → 4 - b.toInt < n → y = own_wk l c (min (4 * a.toInt.toNat + b.toInt.toNat) k.toInt.toNat) u x → f_L_walk_12 k3 n l c y u k a b = R := by
  intro n
  induction n with
  | zero => intro y b h0 h1 h2; exfalso; omega
  | succ n ih =>
    intro y b h0 h1 h2 hy
    have ei : (4 * a + b).toInt = 4 * a.toInt + b.toInt := by clear ih hR hy; ((try simp only [ilt, ile, ieq, iadd_e, isub_e, imul_e, Int32.reduceToInt] at *) <;> omega)
    have eb : (b + 1).toInt = b.toInt + 1 := by clear ih hR hy; ((try simp only [ilt, ile, ieq, iadd_e, isub_e, imul_e, Int32.reduceToInt] at *) <;> omega)
    unfold f_L_walk_12
    by_cases g : b < 4
    · have g' : b.toInt < 4 := ilt.mp g
      rw [if_pos g]
      by_cases g2 : 4 * a + b < k
      · have g3 := g2
        rw [ilt] at g3
        rw [if_pos g2, own_LH, Option.bind_some]
        refine ih _ (b + 1) (by omega) (by omega) (by omega) ?_
        have m1 : min (4 * a.toInt.toNat + b.toInt.toNat) k.toInt.toNat = 4 * a.toInt.toNat + b.toInt.toNat := by omega
        have m2 : min (4 * a.toInt.toNat + (b + 1).toInt.toNat) k.toInt.toNat = 4 * a.toInt.toNat + b.toInt.toNat + 1 := by omega
        have eo : Int32.ofNat (4 * a.toInt.toNat + b.toInt.toNat) = 4 * a + b := by
          rw [ieq, ei, Int32.toInt_ofNat_of_lt (by omega)]
          omega
        rw [m2, own_wk_succ, eo, hy, m1]
        (first | done | rfl | simp)
      · have g3 := g2
        rw [ilt] at g3
        rw [if_neg g2]
        refine ih _ (b + 1) (by omega) (by omega) (by omega) ?_
        have m1 : min (4 * a.toInt.toNat + b.toInt.toNat) k.toInt.toNat = min (4 * a.toInt.toNat + (b + 1).toInt.toNat) k.toInt.toNat := by omega
        rw [hy, m1]
    · have g' : ¬ b.toInt < 4 := fun q => g (ilt.mpr q)
      have m1 : min (4 * a.toInt.toNat + b.toInt.toNat) k.toInt.toNat = min (4 * a.toInt.toNat + 4) k.toInt.toNat := by omega
      rw [if_neg g, hy, m1]
      exact hR
theorem own_Lwalk3 (l c u x k : Int32) (hk0 : 0 ≤ k.toInt) (hk : k.toInt ≤ 16) : ∀ (n : Nat) (y a : Int32), 0 ≤ a.toInt → a.toInt ≤ 4 → 4 - a.toInt < n → y = own_wk l c (min (4 * a.toInt.toNat) k.toInt.toNat) u x → f_L_walk_3 n l c y u k a = some (own_wk l c k.toInt.toNat u x) := by
  intro n
  induction n with
  | zero => intro y a h0 h1 h2; exfalso; omega
  | succ n ih =>
    intro y a h0 h1 h2 hy
    have ea : (a + 1).toInt = a.toInt + 1 := by clear ih hy; ((try simp only [ilt, ile, ieq, iadd_e, isub_e, imul_e, Int32.reduceToInt] at *) <;> omega)
    unfold f_L_walk_3
    by_cases g : a < 4
    · have g' : a.toInt < 4 := ilt.mp g
      rw [if_pos g]
      have e0 : (0 : Int32).toInt = 0 := rfl
      refine own_Lwalk12 (f_L_walk_3 n) l c u x k a h0 g' hk0 hk _ ?_ 100000 y 0 (by decide) (by decide) (by decide) ?_
      · refine ih _ (a + 1) (by omega) (by omega) (by omega) ?_
        have m1 : min (4 * (a + 1).toInt.toNat) k.toInt.toNat = min (4 * a.toInt.toNat + 4) k.toInt.toNat := by omega
        rw [m1]
      · rw [hy, e0]; (first | done | rfl | simp)
    · have g' : ¬ a.toInt < 4 := fun q => g (ilt.mpr q)
      have m1 : min (4 * a.toInt.toNat) k.toInt.toNat = k.toInt.toNat := by omega
      rw [if_neg g, hy, m1]
theorem own_Lwalk (l c x u k : Int32) (hk0 : 0 ≤ k.toInt) (hk : k.toInt ≤ 16) : f_L_walk l c x u k = some (own_wk l c k.toInt.toNat u x) := by
  unfold f_L_walk
  refine own_Lwalk3 l c u x k hk0 hk 100000 x 0 (by decide) (by decide) (by decide) ?_
  have e0 : (0 : Int32).toInt = 0 := rfl
  have m1 : min (4 * (0 : Int32).toInt.toNat) k.toInt.toNat = 0 := by rw [e0]; omega
  rw [m1]
  (first | done | rfl | simp)
theorem own_Lend (s l c : Int32) : f_L_end s l c = some (own_end s l c) := by
  unfold f_L_end
  rw [own_Lsk, Option.bind_some, own_Lwalk _ _ _ _ _ (by decide) (by decide), Option.bind_some]
  (first | done | rfl | simp)
theorem own_Lleaf (s l : Int32) : f_L_leaf s l = some (own_leaf s l) := by
  have e : f_foldEnds (own_evs (own_end s l)) l = f_L_leaf s l := by
    simp [f_foldEnds, f_foldEnds_9, own_evs, rdA, f_foldTweak, own_hash, f_L_leaf, f_L_leaf_9, f_L_leaf_45, own_Lend, own_LH]
  rw [← e]
  exact own_foldEnds _ l rfl
theorem own_Ldig (m : Int32) {c : Int32} (h0 : 0 ≤ c.toInt) (h1 : c.toInt < 10) : f_L_dig m c = some (gI (own_dg m) c) := by
  rcases own_ten h0 h1 with rfl | rfl | rfl | rfl | rfl | rfl | rfl | rfl | rfl | rfl <;> simp [f_L_dig, f_L_dig_22, f_L_dig_51, own_dg, f_fillDigits, f_fillDigits_4, f_fillDigits_45, gI, rdA, wrA, List.replicate]
theorem own_slot {T I : List Int32} {h s m : Int32} (hs : own_sig T h s 0 m I) {c : Int32} (h0 : 0 ≤ c.toInt) (h1 : c.toInt < 10) : f_L_slotOk I s m c = some 1 := by
  have hr := own_dg_rng m h0 h1
  unfold f_L_slotOk
  rw [own_Lsk, Option.bind_some, own_Ldig m h0 h1, Option.bind_some, own_Lwalk _ _ _ _ _ hr.1 (by omega), Option.bind_some, own_iv hs.1 h0 (by omega), Option.bind_some, if_pos (hs.2.1 c h0 h1)]
theorem own_71l {T I : List Int32} {h s m L : Int32} (k115 : List Int32 → Int32 → Option Int32) (hs : own_sig T h s 0 m I) : ∀ (n : Nat) (c : Int32), 0 ≤ c.toInt → c.toInt ≤ 5 → 5 - c.toInt < n → f_L_law_71 k115 n I s m L c = k115 I L := by
  intro n
  induction n with
  | zero => intro c h0 h1 h2; exfalso; omega
  | succ n ih =>
    intro c h0 h1 h2
    unfold f_L_law_71
    by_cases g : c < 5
    · have g' : c.toInt < 5 := ilt.mp g
      have e1 : (c + 1).toInt = c.toInt + 1 := by clear ih hs; ((try simp only [ilt, ile, ieq, iadd_e, isub_e, imul_e, Int32.reduceToInt] at *) <;> omega)
      have e5 : (c + 5).toInt = c.toInt + 5 := by clear ih hs; ((try simp only [ilt, ile, ieq, iadd_e, isub_e, imul_e, Int32.reduceToInt] at *) <;> omega)
      rw [if_pos g, own_slot hs h0 (by omega), Option.bind_some, if_neg (by decide), own_slot hs (by omega) (by omega), Option.bind_some, if_neg (by decide)]
      exact ih (c + 1) (by omega) (by omega) (by omega)
    · rw [if_neg g]
theorem own_131 {I : List Int32} (hI : I.length = 14) (hz : ∀ v : Int32, 1 ≤ v.toInt → v.toInt < 4 → gI I (10 + v) = 0) : ∀ (n : Nat) (j : Int32), 0 ≤ j.toInt → j.toInt ≤ 3 → 3 - j.toInt < n → f_L_law_131 n I j = some 1 := by
  intro n
  induction n with
  | zero => intro j h0 h1 h2; exfalso; omega
  | succ n ih =>
    intro j h0 h1 h2
    unfold f_L_law_131
    by_cases g : j < 3
    · have g' : j.toInt < 3 := ilt.mp g
      have e1 : (j + 1).toInt = j.toInt + 1 := by clear ih hz; ((try simp only [ilt, ile, ieq, iadd_e, isub_e, imul_e, Int32.reduceToInt] at *) <;> omega)
      have e11 : (11 + j).toInt = 11 + j.toInt := by clear ih hz; ((try simp only [ilt, ile, ieq, iadd_e, isub_e, imul_e, Int32.reduceToInt] at *) <;> omega)
      have ee : 11 + j = 10 + (j + 1) := by clear ih hz; ((try simp only [ilt, ile, ieq, iadd_e, isub_e, imul_e, Int32.reduceToInt] at *) <;> omega)
      have z := hz (j + 1) (by omega) (by omega)
      rw [← ee] at z
      rw [if_pos g, own_iv hI (by omega) (by omega), Option.bind_some, if_pos z]
      exact ih (j + 1) (by omega) (by omega) (by omega)
    · rw [if_neg g]
theorem own_71 {T I : List Int32} {s m : Int32} (hT : own_tree s 1 2 T) (hs : own_sig T 1 s 0 m I) : f_L_law_71 f_L_law_115 100000 I s m (own_leaf s 1) 0 = some 1 := by
  rw [own_71l f_L_law_115 hs 100000 0 (by decide) (by decide) (by decide)]
  have p0 := hs.2.2 0 (by decide) (by decide)
  rw [show (10 + 0 : Int32) = 10 from by decide, if_pos (by decide), show ((0 : Int32) * 16 + ((XT.ushr 0 0 ^^^ 1) &&& 15)) = 1 from by decide, hT.2.1 1 (by decide) (by decide)] at p0
  unfold f_L_law_115
  rw [own_iv hs.1 (by decide) (by decide), Option.bind_some, if_pos p0]
  refine own_131 hs.1 (fun v a b => ?_) 100000 0 (by decide) (by decide) (by decide)
  rw [hs.2.2 v (by omega) b, if_neg (by rw [ilt]; have e : (1 : Int32).toInt = 1 := rfl; omega)]
theorem own_true (v0 v1 : Int32) : f_L_law v0 v1 = some 1 := by
  have e0 : f_init 1 = some (List.replicate 14 0, List.replicate 14 0, List.replicate 80 0, List.replicate 160 0, List.replicate 10 0, List.replicate 10 0, 1, 2, 0, 0, 0, 0, -1, 0) := rfl
  have l1 : (List.replicate 14 (0 : Int32)).length = 14 := by simp
  have l2 : (List.replicate 80 (0 : Int32)).length = 80 := by simp
  have l3 : (List.replicate 160 (0 : Int32)).length = 160 := by simp
  have l4 : (List.replicate 10 (0 : Int32)).length = 10 := by simp
  generalize List.replicate 14 (0 : Int32) = iss at e0 l1
  generalize List.replicate 80 (0 : Int32) = T at e0 l2
  generalize List.replicate 160 (0 : Int32) = E at e0 l3
  generalize List.replicate 10 (0 : Int32) = D at e0 l4
  obtain ⟨T', E', D', e1, ht, he, hv⟩ := own_keygen (h := 1) (lc := 2) (Or.inl ⟨rfl, rfl⟩) l2 l3 l4 0 0 0 v0
  obtain ⟨I, e2, hs⟩ := own_sign (h := 1) (lc := 2) (s := v0) (nx := 0) (iq := -1) ht.1 l1 l4 (by decide) v1
  have h71 := own_71 ht hs
  have hroot : gI T' 16 = own_h 805371904 (own_leaf v0 0) (own_leaf v0 1) := by
    have k := ht.2.2 1 0 (by decide) (by decide) (by decide) (by decide)
    unfold own_lev at k
    rw [show (1 * 16 + 0 : Int32) = 16 from by decide, show ((1 - 1) * 16 + 2 * 0 : Int32) = 0 from by decide, show (0 + 1 : Int32) = 1 from by decide, show own_nt 1 0 = 805371904 from by decide, ht.2.1 0 (by decide) (by decide), ht.2.1 1 (by decide) (by decide)] at k
    exact k
  unfold f_L_law
  rw [e0, Option.bind_some]
  show Option.bind (f_keygen 1 2 T E D 0 0 0 0 v0) _ = _
  rw [e1, Option.bind_some]
  show (if (1 : Int32) = 0 then _ else Option.bind (f_L_leaf v0 0) _) = _
  rw [if_neg (by decide), own_Lleaf, Option.bind_some, own_Lleaf, Option.bind_some]
  unfold f_getRoot
  rw [if_neg (by decide), Option.bind_some, own_LH, Option.bind_some, show (1 * 16 : Int32) = 16 from by decide, if_pos hroot]
  show Option.bind (f_sign T' 1 2 1 v0 iss D 0 (-1) v1) _ = _
  rw [e2, Option.bind_some]
  show (if (0 : Int32) = 0 then Option.bind (f_issuedLeaf 0) _ else _) = _
  unfold f_issuedLeaf
  rw [if_pos rfl, Option.bind_some, if_pos rfl]
  exact h71
set_option maxRecDepth 65536 in
theorem comes_1 {Post : Tables → Env → Array Value → State → Outcome → State → Prop} (hpost : ∀ tb e args s v u, (limb_1_1.after args s (.returned v) u = true ∧ limb_1_2.after args s (.returned v) u = true ∧ True) → FrameEnd s (.returned v) u (Jvm.fieldLocs frame_1_writes args s ++ Jvm.arrayLocs frame_1_arrays args s ++ Jvm.staticLocs frame_1_statics s) 24 704 → Post tb e args s (.returned v) u) :
    ArmFor flags0 classFile x code maxLocals ret World_1 tables_1 room_1 Calls_1 rest_1 Pre_1 Post := by
  intro l hfl _ _ p e ha hc hk s m args below hf hA hF happ hP
  obtain ⟨hcalls, hrest, hpre⟩ := hP
  obtain ⟨-, -, -, hnamed, -, -, -, hat⟩ := (Spec.applies_iff hf).mp happ
  obtain ⟨hg, hn⟩ := and_e (Cond.before_iff.mp (show (Jvm.Cond.and given_1 narrow_1).before args s = true from hpre))
  obtain ⟨h1, h2⟩ := and_e hg
  have hw := fun d (hd : d ∈ tables_1) => atoms_spec (ws := Jvm.Cond.code x code maxLocals ret :: tables_1) hat d (List.mem_cons_of_mem _ hd)
  obtain ⟨w0, w1, rfl⟩ : ∃ w0 w1 : Value, args = #[w0, w1] := by
    have hs : args.size = 2 := by simpa [Cond.value, given_1] using h1
    obtain ⟨L⟩ := args
    match L, hs with
    | [w0, w1], _ => exact ⟨w0, w1, rfl⟩
  obtain ⟨g0, t0⟩ := and_e h2
  obtain ⟨i0, e0⟩ := is_v g0
  obtain rfl : w0 = (.int i0) := Option.some.inj e0
  obtain ⟨i1, e1⟩ := is_v t0
  obtain rfl : w1 = (.int i1) := Option.some.inj e1
  have E : OEndsQ own_P 0 0 (entL [.int i0, .int i1] d_0.maxL) [] [] (LawQ 1 7 302) := ok_L_law (own_true i0 i1)
  have hS : SR [] [.int i0, .int i1] [.int i0, .int i1] := ⟨_, _, rfl, rfl, ⟨_, _, rfl, rfl, rfl⟩⟩
  have hH : HR own_P s s.heap.size s.heap [] [] := ⟨Nat.le_refl _, rfl, fun i j a h => by simp at h, fun k a h => by simp at h, fun k a c h => by simp at h⟩
  have M := law_met (l := l) own_chk (fun w hw' => hw w (own_in w hw')) hm_0 E hS (Nat.le_of_ble_eq_true rfl) hH tables_1 room_1 (Nat.le_of_ble_eq_true rfl) (Nat.le_of_ble_eq_true rfl) (Nat.le_of_ble_eq_true rfl) (Nat.le_of_ble_eq_true rfl)
  obtain ⟨n, o, h1, h2, h3, L, rfl, N, hq⟩ := M p e ha hc hk s m _ below hf ((Spec.applies_iff_loose hf).mp happ).1 ⟨rfl, State.Warmed39.refl s, rfl⟩ trivial
  refine ⟨n, _, h1, h2, h3, hpost _ _ _ _ _ _ ⟨Cond.after_iff.mpr rfl, Cond.after_iff.mpr (eq_i res_at (Term.int_eval (1)) rfl), trivial⟩ ⟨hq.1, hq.2.1, (hq.2.2.sift fun y hy => Or.inr (N y hy)).mono (by decide) (by decide)⟩⟩
theorem main_1_1 : Claimed_1_1 := comes_1 fun _ _ _ _ _ _ h hF => ⟨h.1, hF⟩
theorem main_1_2 : Claimed_1_2 := comes_1 fun _ _ _ _ _ _ h hF => ⟨h.2.1, hF⟩
end Jvm.Pilot.@@N@@
namespace Jvm.Pilot.@@N@@
open Jvm Jvm.ClassFile Sem Op Lib Jvm.Free Jvm.Stand Jvm.Pilot.@@N@@.Jvm.D
/-! MADE BY PROGRAM (witnessworld.py) out of the Statement's table words and the real class files: 9 classes; the members and pool entries that the words name. The judged class is class 1, her method 9. -/
namespace start1
open Jvm.ClassFile
def u (s : String) : CpInfo := .utf8 (stringToUtf16 s)
/-- a pool by its gaps: so many unusable entries, then the entry; so many at the end -/
def gap : Nat → List CpInfo → List CpInfo
  | 0, r => r
  | n + 1, r => .unusable :: gap n r
def poolList (es : List (Nat × CpInfo)) (last : Nat) : List CpInfo := es.foldr (fun e r => gap e.1 (e.2 :: r)) (gap last [])
def pool (es : List (Nat × CpInfo)) (last : Nat) : Array CpInfo := ⟨poolList es last⟩
def fileOf (pool : Array CpInfo) (this : Nat) (attrs : Array Attribute := #[]) (ms : Array MethodInfo := #[]) (fl : Nat := 33) (sup : Nat := 0) (ifs : Array Nat := #[]) (fds : Array FieldInfo := #[]) : ClassFile where
  minorVersion := 0
  majorVersion := 65
  constantPool := pool
  accessFlags := fl
  thisClass := this
  superClass := sup
  interfaces := ifs
  fields := fds
  methods := ms
  attributes := attrs
def plain (name : String) (sup : Option ClassId) : Class where
  name := name
  kind := .ordinary
  loader := none
  accessFlags := 33
  super := sup
  interfaces := #[]
  cf := none
  fields := #[]
  methods := #[]
  instanceTypes := #[]
  staticTypes := #[]
  resolved := #[]
  callSites := []
  init := .initialized
  statics := none
  mirror := none

def pool0 : Array CpInfo := pool [(5, u "<init>"), (0, u "()V"), (1, .class_ 10), (1, u "java/lang/Object")] 113

def k0c0 : Code := { maxStack := 0, maxLocals := 1, code := object_method_1_code, exceptionTable := #[], attributes := #[] }
def k0m0 : Method := { name := "<init>", desc := "()V", sig := { parameters := [], returnType := none }, accessFlags := 1, code := some k0c0 }
/-- java/lang/Object -/
def k0 : Class := { plain "java/lang/Object" none with
  accessFlags := 33
  interfaces := #[]
  cf := some (fileOf pool0 8 #[] #[{ accessFlags := 1, nameIndex := 5, descriptorIndex := 6, attributes := #[] }] 33 0 #[] #[])
  fields := #[]
  methods := #[k0m0]
  instanceTypes := #[]
  staticTypes := #[]
  resolved := Array.replicate 124 none
  statics := none }

def pool1 : Array CpInfo := pool [(2, .class_ 4), (1, u "java/lang/Object"), (0, u "<init>"), (0, u "()V"), (0, .integer 2654435769), (0, .methodref 9 10), (0, .class_ 11), (0, .nameAndType 12 13), (0, u "ChainTreeSignerL3"), (0, u "rotl"), (0, u "(II)I"), (0, .integer 268435456), (0, .methodref 9 16), (0, .nameAndType 17 18), (0, u "H"), (0, u "(III)I"), (0, .methodref 9 20), (0, .nameAndType 21 18), (0, u "sk"), (0, .methodref 9 23), (0, .nameAndType 24 25), (0, u "walk"), (0, u "(IIIII)I"), (0, .methodref 9 27), (0, .nameAndType 28 18), (0, u "end"), (0, .integer 536870912), (0, .methodref 9 31), (0, .nameAndType 32 13), (0, u "dig"), (0, .methodref 34 35), (0, .class_ 36), (0, .nameAndType 37 38), (0, u "ChainTreeSigner"), (0, u "issuedValue"), (0, u "(I)I"), (0, .methodref 34 40), (0, .nameAndType 5 41), (0, u "(I)V"), (0, .methodref 34 43), (0, .nameAndType 44 45), (0, u "keygen"), (0, u "(I)Z"), (0, .methodref 9 47), (0, .nameAndType 48 13), (0, u "leaf"), (0, .methodref 34 50), (0, .nameAndType 51 52), (0, u "getRoot"), (0, u "()I"), (0, .integer 805371904), (0, .methodref 34 55), (0, .nameAndType 56 38), (0, u "sign"), (0, .methodref 34 58), (0, .nameAndType 59 52), (0, u "issuedLeaf"), (0, .methodref 9 61), (0, .nameAndType 62 63), (0, u "slotOk"), (0, u "(LChainTreeSigner;III)Z"), (3, u "law"), (0, u "(II)Z")] 2

def k1m0 : Method := { name := "<init>", desc := "()V", sig := { parameters := [], returnType := none }, accessFlags := 1, code := none }
def k1c1 : Code := { maxStack := 4, maxLocals := 2, code := method_2_code, exceptionTable := #[], attributes := #[] }
def k1m1 : Method := { name := "rotl", desc := "(II)I", sig := { parameters := [.int, .int], returnType := some .int }, accessFlags := 10, code := some k1c1 }
def k1c2 : Code := { maxStack := 2, maxLocals := 6, code := method_3_code, exceptionTable := #[], attributes := #[] }
def k1m2 : Method := { name := "H", desc := "(III)I", sig := { parameters := [.int, .int, .int], returnType := some .int }, accessFlags := 10, code := some k1c2 }
def k1c3 : Code := { maxStack := 3, maxLocals := 8, code := method_4_code, exceptionTable := #[], attributes := #[] }
def k1m3 : Method := { name := "walk", desc := "(IIIII)I", sig := { parameters := [.int, .int, .int, .int, .int], returnType := some .int }, accessFlags := 10, code := some k1c3 }
def k1c4 : Code := { maxStack := 3, maxLocals := 3, code := method_5_code, exceptionTable := #[], attributes := #[] }
def k1m4 : Method := { name := "sk", desc := "(III)I", sig := { parameters := [.int, .int, .int], returnType := some .int }, accessFlags := 10, code := some k1c4 }
def k1c5 : Code := { maxStack := 5, maxLocals := 4, code := method_6_code, exceptionTable := #[], attributes := #[] }
def k1m5 : Method := { name := "end", desc := "(III)I", sig := { parameters := [.int, .int, .int], returnType := some .int }, accessFlags := 10, code := some k1c5 }
def k1c6 : Code := { maxStack := 3, maxLocals := 5, code := method_7_code, exceptionTable := #[], attributes := #[] }
def k1m6 : Method := { name := "leaf", desc := "(II)I", sig := { parameters := [.int, .int], returnType := some .int }, accessFlags := 10, code := some k1c6 }
def k1c7 : Code := { maxStack := 6, maxLocals := 4, code := method_8_code, exceptionTable := #[], attributes := #[] }
def k1m7 : Method := { name := "dig", desc := "(II)I", sig := { parameters := [.int, .int], returnType := some .int }, accessFlags := 10, code := some k1c7 }
def k1c8 : Code := { maxStack := 5, maxLocals := 7, code := method_9_code, exceptionTable := #[], attributes := #[] }
def k1m8 : Method := { name := "slotOk", desc := "(LChainTreeSigner;III)Z", sig := { parameters := [(.object "ChainTreeSigner"), .int, .int, .int], returnType := some .boolean }, accessFlags := 10, code := some k1c8 }
def k1c9 : Code := { maxStack := 4, maxLocals := 7, code := code, exceptionTable := #[], attributes := #[] }
def k1m9 : Method := { name := "law", desc := "(II)Z", sig := { parameters := [.int, .int], returnType := some .boolean }, accessFlags := 9, code := some k1c9 }
/-- ChainTreeSignerL3 -/
def k1 : Class := { plain "ChainTreeSignerL3" (some 0) with
  accessFlags := 49
  interfaces := #[]
  cf := some (fileOf pool1 9 #[] #[{ accessFlags := 1, nameIndex := 5, descriptorIndex := 6, attributes := #[] }, { accessFlags := 10, nameIndex := 12, descriptorIndex := 13, attributes := #[] }, { accessFlags := 10, nameIndex := 17, descriptorIndex := 18, attributes := #[] }, { accessFlags := 10, nameIndex := 24, descriptorIndex := 25, attributes := #[] }, { accessFlags := 10, nameIndex := 21, descriptorIndex := 18, attributes := #[] }, { accessFlags := 10, nameIndex := 28, descriptorIndex := 18, attributes := #[] }, { accessFlags := 10, nameIndex := 48, descriptorIndex := 13, attributes := #[] }, { accessFlags := 10, nameIndex := 32, descriptorIndex := 13, attributes := #[] }, { accessFlags := 10, nameIndex := 62, descriptorIndex := 63, attributes := #[] }, { accessFlags := 9, nameIndex := 67, descriptorIndex := 68, attributes := #[] }] 49 2 #[] #[])
  fields := #[]
  methods := #[k1m0, k1m1, k1m2, k1m3, k1m4, k1m5, k1m6, k1m7, k1m8, k1m9]
  instanceTypes := #[]
  staticTypes := #[]
  resolved := Array.replicate 71 none
  statics := none }

def pool2 : Array CpInfo := pool [(1, .methodref 2 3), (0, .class_ 4), (0, .nameAndType 5 6), (0, u "java/lang/Object"), (0, u "<init>"), (0, u "()V"), (0, .fieldref 8 9), (0, .class_ 10), (0, .nameAndType 11 12), (0, u "ChainTreeSigner"), (0, u "issued"), (0, u "[I"), (0, .fieldref 8 14), (0, .nameAndType 15 12), (0, u "cand"), (0, .fieldref 8 17), (0, .nameAndType 18 12), (0, u "tree"), (0, .fieldref 8 20), (0, .nameAndType 21 12), (0, u "ends"), (0, .fieldref 8 23), (0, .nameAndType 24 12), (0, u "dig"), (0, .fieldref 8 26), (0, .nameAndType 27 12), (0, u "ev"), (0, .fieldref 8 29), (0, .nameAndType 30 31), (0, u "h"), (0, u "I"), (0, .fieldref 8 33), (0, .nameAndType 34 31), (0, u "leafCount"), (0, .fieldref 8 36), (0, .nameAndType 37 38), (0, u "keyed"), (0, u "Z"), (0, .fieldref 8 40), (0, .nameAndType 41 31), (0, u "seed"), (0, .fieldref 8 43), (0, .nameAndType 44 31), (0, u "root"), (0, .fieldref 8 46), (0, .nameAndType 47 31), (0, u "next"), (0, .fieldref 8 49), (0, .nameAndType 50 31), (0, u "issuedQ"), (0, .fieldref 8 52), (0, .nameAndType 53 31), (0, u "candQ"), (0, .integer 2654435769), (0, .methodref 8 56), (0, .nameAndType 57 58), (0, u "rotl"), (0, u "(II)I"), (0, .methodref 8 60), (0, .nameAndType 61 62), (0, u "fillDigits"), (0, u "(I)V"), (0, .methodref 8 64), (0, .nameAndType 65 6), (0, u "buildLeaves"), (0, .methodref 8 67), (0, .nameAndType 68 6), (0, u "buildUpperLevels"), (0, .methodref 8 70), (0, .nameAndType 71 58), (0, u "secretKey"), (0, .methodref 8 73), (0, .nameAndType 74 75), (0, u "walk"), (0, u "(IIIII)I"), (0, .methodref 8 77), (0, .nameAndType 78 62), (0, u "fillPath"), (0, .methodref 8 80), (0, .nameAndType 81 82), (0, u "foldEnds"), (0, u "(I)I"), (3, .integer 268435456), (0, .integer 536870912), (0, .integer 805306368), (0, .methodref 8 90), (0, .nameAndType 91 58), (0, u "secretTweak"), (0, .methodref 8 93), (0, .nameAndType 94 95), (0, u "hash"), (0, u "(III)I"), (0, .methodref 8 97), (0, .nameAndType 98 95), (0, u "stepTweak"), (0, .methodref 8 100), (0, .nameAndType 101 58), (0, u "foldTweak"), (0, .methodref 8 103), (0, .nameAndType 104 58), (0, u "nodeTweak"), (0, u "NOT_KEYED"), (2, u "EXHAUSTED"), (1, u "CHAINS"), (1, u "SLOTS"), (1, u "MIN_HEIGHT"), (1, u "MAX_HEIGHT"), (5, u "keygen"), (0, u "(I)Z"), (0, u "getRoot"), (0, u "()I"), (1, u "sign"), (0, u "issuedLeaf"), (0, u "issuedValue")] 13

def k2c0 : Code := { maxStack := 3, maxLocals := 3, code := prog_1_method_1_code, exceptionTable := #[], attributes := #[] }
def k2m0 : Method := { name := "<init>", desc := "(I)V", sig := { parameters := [.int], returnType := none }, accessFlags := 1, code := some k2c0 }
def k2c1 : Code := { maxStack := 3, maxLocals := 7, code := prog_1_method_2_code, exceptionTable := #[], attributes := #[] }
def k2m1 : Method := { name := "hash", desc := "(III)I", sig := { parameters := [.int, .int, .int], returnType := some .int }, accessFlags := 1, code := some k2c1 }
def k2c2 : Code := { maxStack := 4, maxLocals := 2, code := prog_1_method_4_code, exceptionTable := #[], attributes := #[] }
def k2m2 : Method := { name := "keygen", desc := "(I)Z", sig := { parameters := [.int], returnType := some .boolean }, accessFlags := 1, code := some k2c2 }
def k2c3 : Code := { maxStack := 1, maxLocals := 1, code := prog_1_method_5_code, exceptionTable := #[], attributes := #[] }
def k2m3 : Method := { name := "getRoot", desc := "()I", sig := { parameters := [], returnType := some .int }, accessFlags := 1, code := some k2c3 }
def k2c4 : Code := { maxStack := 9, maxLocals := 5, code := prog_1_method_7_code, exceptionTable := #[], attributes := #[] }
def k2m4 : Method := { name := "sign", desc := "(I)I", sig := { parameters := [.int], returnType := some .int }, accessFlags := 1, code := some k2c4 }
def k2c5 : Code := { maxStack := 1, maxLocals := 1, code := prog_1_method_8_code, exceptionTable := #[], attributes := #[] }
def k2m5 : Method := { name := "issuedLeaf", desc := "()I", sig := { parameters := [], returnType := some .int }, accessFlags := 1, code := some k2c5 }
def k2c6 : Code := { maxStack := 2, maxLocals := 2, code := prog_1_method_9_code, exceptionTable := #[], attributes := #[] }
def k2m6 : Method := { name := "issuedValue", desc := "(I)I", sig := { parameters := [.int], returnType := some .int }, accessFlags := 1, code := some k2c6 }
def k2c7 : Code := { maxStack := 4, maxLocals := 3, code := prog_1_method_19_code, exceptionTable := #[], attributes := #[] }
def k2m7 : Method := { name := "rotl", desc := "(II)I", sig := { parameters := [.int, .int], returnType := some .int }, accessFlags := 2, code := some k2c7 }
def k2c8 : Code := { maxStack := 3, maxLocals := 3, code := prog_1_method_20_code, exceptionTable := #[], attributes := #[] }
def k2m8 : Method := { name := "secretTweak", desc := "(II)I", sig := { parameters := [.int, .int], returnType := some .int }, accessFlags := 2, code := some k2c8 }
def k2c9 : Code := { maxStack := 3, maxLocals := 4, code := prog_1_method_21_code, exceptionTable := #[], attributes := #[] }
def k2m9 : Method := { name := "stepTweak", desc := "(III)I", sig := { parameters := [.int, .int, .int], returnType := some .int }, accessFlags := 2, code := some k2c9 }
def k2c10 : Code := { maxStack := 3, maxLocals := 3, code := prog_1_method_22_code, exceptionTable := #[], attributes := #[] }
def k2m10 : Method := { name := "foldTweak", desc := "(II)I", sig := { parameters := [.int, .int], returnType := some .int }, accessFlags := 2, code := some k2c10 }
def k2c11 : Code := { maxStack := 3, maxLocals := 3, code := prog_1_method_23_code, exceptionTable := #[], attributes := #[] }
def k2m11 : Method := { name := "nodeTweak", desc := "(II)I", sig := { parameters := [.int, .int], returnType := some .int }, accessFlags := 2, code := some k2c11 }
def k2c12 : Code := { maxStack := 4, maxLocals := 4, code := prog_1_method_24_code, exceptionTable := #[], attributes := #[] }
def k2m12 : Method := { name := "secretKey", desc := "(II)I", sig := { parameters := [.int, .int], returnType := some .int }, accessFlags := 2, code := some k2c12 }
def k2c13 : Code := { maxStack := 5, maxLocals := 9, code := prog_1_method_25_code, exceptionTable := #[], attributes := #[] }
def k2m13 : Method := { name := "walk", desc := "(IIIII)I", sig := { parameters := [.int, .int, .int, .int, .int], returnType := some .int }, accessFlags := 2, code := some k2c13 }
def k2c14 : Code := { maxStack := 5, maxLocals := 5, code := prog_1_method_26_code, exceptionTable := #[], attributes := #[] }
def k2m14 : Method := { name := "foldEnds", desc := "(I)I", sig := { parameters := [.int], returnType := some .int }, accessFlags := 2, code := some k2c14 }
def k2c15 : Code := { maxStack := 4, maxLocals := 5, code := prog_1_method_27_code, exceptionTable := #[], attributes := #[] }
def k2m15 : Method := { name := "fillDigits", desc := "(I)V", sig := { parameters := [.int], returnType := none }, accessFlags := 2, code := some k2c15 }
def k2c16 : Code := { maxStack := 6, maxLocals := 5, code := prog_1_method_28_code, exceptionTable := #[], attributes := #[] }
def k2m16 : Method := { name := "buildLeaves", desc := "()V", sig := { parameters := [], returnType := none }, accessFlags := 2, code := some k2c16 }
def k2c17 : Code := { maxStack := 6, maxLocals := 7, code := prog_1_method_29_code, exceptionTable := #[], attributes := #[] }
def k2m17 : Method := { name := "buildUpperLevels", desc := "()V", sig := { parameters := [], returnType := none }, accessFlags := 2, code := some k2c17 }
def k2c18 : Code := { maxStack := 3, maxLocals := 5, code := prog_1_method_30_code, exceptionTable := #[], attributes := #[] }
def k2m18 : Method := { name := "fillPath", desc := "(I)V", sig := { parameters := [.int], returnType := none }, accessFlags := 2, code := some k2c18 }
/-- ChainTreeSigner -/
def k2 : Class := { plain "ChainTreeSigner" (some 0) with
  accessFlags := 49
  interfaces := #[]
  cf := some (fileOf pool2 8 #[] #[{ accessFlags := 1, nameIndex := 5, descriptorIndex := 62, attributes := #[] }, { accessFlags := 1, nameIndex := 94, descriptorIndex := 95, attributes := #[] }, { accessFlags := 1, nameIndex := 122, descriptorIndex := 123, attributes := #[] }, { accessFlags := 1, nameIndex := 124, descriptorIndex := 125, attributes := #[] }, { accessFlags := 1, nameIndex := 127, descriptorIndex := 82, attributes := #[] }, { accessFlags := 1, nameIndex := 128, descriptorIndex := 125, attributes := #[] }, { accessFlags := 1, nameIndex := 129, descriptorIndex := 82, attributes := #[] }, { accessFlags := 2, nameIndex := 57, descriptorIndex := 58, attributes := #[] }, { accessFlags := 2, nameIndex := 91, descriptorIndex := 58, attributes := #[] }, { accessFlags := 2, nameIndex := 98, descriptorIndex := 95, attributes := #[] }, { accessFlags := 2, nameIndex := 101, descriptorIndex := 58, attributes := #[] }, { accessFlags := 2, nameIndex := 104, descriptorIndex := 58, attributes := #[] }, { accessFlags := 2, nameIndex := 71, descriptorIndex := 58, attributes := #[] }, { accessFlags := 2, nameIndex := 74, descriptorIndex := 75, attributes := #[] }, { accessFlags := 2, nameIndex := 81, descriptorIndex := 82, attributes := #[] }, { accessFlags := 2, nameIndex := 61, descriptorIndex := 62, attributes := #[] }, { accessFlags := 2, nameIndex := 65, descriptorIndex := 6, attributes := #[] }, { accessFlags := 2, nameIndex := 68, descriptorIndex := 6, attributes := #[] }, { accessFlags := 2, nameIndex := 78, descriptorIndex := 62, attributes := #[] }] 49 2 #[] #[{ accessFlags := 25, nameIndex := 105, descriptorIndex := 31, attributes := #[] }, { accessFlags := 25, nameIndex := 108, descriptorIndex := 31, attributes := #[] }, { accessFlags := 25, nameIndex := 110, descriptorIndex := 31, attributes := #[] }, { accessFlags := 25, nameIndex := 112, descriptorIndex := 31, attributes := #[] }, { accessFlags := 25, nameIndex := 114, descriptorIndex := 31, attributes := #[] }, { accessFlags := 25, nameIndex := 116, descriptorIndex := 31, attributes := #[] }, { accessFlags := 2, nameIndex := 30, descriptorIndex := 31, attributes := #[] }, { accessFlags := 2, nameIndex := 34, descriptorIndex := 31, attributes := #[] }, { accessFlags := 2, nameIndex := 37, descriptorIndex := 38, attributes := #[] }, { accessFlags := 2, nameIndex := 41, descriptorIndex := 31, attributes := #[] }, { accessFlags := 2, nameIndex := 44, descriptorIndex := 31, attributes := #[] }, { accessFlags := 2, nameIndex := 47, descriptorIndex := 31, attributes := #[] }, { accessFlags := 2, nameIndex := 50, descriptorIndex := 31, attributes := #[] }, { accessFlags := 2, nameIndex := 53, descriptorIndex := 31, attributes := #[] }, { accessFlags := 18, nameIndex := 11, descriptorIndex := 12, attributes := #[] }, { accessFlags := 18, nameIndex := 15, descriptorIndex := 12, attributes := #[] }, { accessFlags := 18, nameIndex := 18, descriptorIndex := 12, attributes := #[] }, { accessFlags := 18, nameIndex := 21, descriptorIndex := 12, attributes := #[] }, { accessFlags := 18, nameIndex := 24, descriptorIndex := 12, attributes := #[] }, { accessFlags := 18, nameIndex := 27, descriptorIndex := 12, attributes := #[] }])
  fields := #[{ name := "NOT_KEYED", type := .int, accessFlags := 25, slot := 0, constantValue := 0 }, { name := "EXHAUSTED", type := .int, accessFlags := 25, slot := 1, constantValue := 0 }, { name := "CHAINS", type := .int, accessFlags := 25, slot := 2, constantValue := 0 }, { name := "SLOTS", type := .int, accessFlags := 25, slot := 3, constantValue := 0 }, { name := "MIN_HEIGHT", type := .int, accessFlags := 25, slot := 4, constantValue := 0 }, { name := "MAX_HEIGHT", type := .int, accessFlags := 25, slot := 5, constantValue := 0 }, { name := "h", type := .int, accessFlags := 2, slot := 0, constantValue := 0 }, { name := "leafCount", type := .int, accessFlags := 2, slot := 1, constantValue := 0 }, { name := "keyed", type := .boolean, accessFlags := 2, slot := 2, constantValue := 0 }, { name := "seed", type := .int, accessFlags := 2, slot := 3, constantValue := 0 }, { name := "root", type := .int, accessFlags := 2, slot := 4, constantValue := 0 }, { name := "next", type := .int, accessFlags := 2, slot := 5, constantValue := 0 }, { name := "issuedQ", type := .int, accessFlags := 2, slot := 6, constantValue := 0 }, { name := "candQ", type := .int, accessFlags := 2, slot := 7, constantValue := 0 }, { name := "issued", type := (.array .int), accessFlags := 18, slot := 8, constantValue := 0 }, { name := "cand", type := (.array .int), accessFlags := 18, slot := 9, constantValue := 0 }, { name := "tree", type := (.array .int), accessFlags := 18, slot := 10, constantValue := 0 }, { name := "ends", type := (.array .int), accessFlags := 18, slot := 11, constantValue := 0 }, { name := "dig", type := (.array .int), accessFlags := 18, slot := 12, constantValue := 0 }, { name := "ev", type := (.array .int), accessFlags := 18, slot := 13, constantValue := 0 }]
  methods := #[k2m0, k2m1, k2m2, k2m3, k2m4, k2m5, k2m6, k2m7, k2m8, k2m9, k2m10, k2m11, k2m12, k2m13, k2m14, k2m15, k2m16, k2m17, k2m18]
  instanceTypes := #[.int, .int, .boolean, .int, .int, .int, .int, .int, (.array .int), (.array .int), (.array .int), (.array .int), (.array .int), (.array .int)]
  staticTypes := #[.int, .int, .int, .int, .int, .int]
  resolved := Array.replicate 143 none
  statics := none }

def pool3 : Array CpInfo := pool [(1, u "java/lang/Cloneable"), (0, .class_ 1), (0, u "java/lang/Object"), (0, .class_ 3)] 3

/-- java/lang/Cloneable -/
def k3 : Class := { plain "java/lang/Cloneable" (some 0) with
  accessFlags := 1537
  interfaces := #[]
  cf := some (fileOf pool3 2 #[] #[] 1537 4 #[] #[])
  fields := #[]
  methods := #[]
  instanceTypes := #[]
  staticTypes := #[]
  resolved := Array.replicate 8 none
  statics := none }

def pool4 : Array CpInfo := pool [(1, u "java/io/Serializable"), (0, .class_ 1), (0, u "java/lang/Object"), (0, .class_ 3)] 3

/-- java/io/Serializable -/
def k4 : Class := { plain "java/io/Serializable" (some 0) with
  accessFlags := 1537
  interfaces := #[]
  cf := some (fileOf pool4 2 #[] #[] 1537 4 #[] #[])
  fields := #[]
  methods := #[]
  instanceTypes := #[]
  staticTypes := #[]
  resolved := Array.replicate 8 none
  statics := none }

/-- the primitive byte -/
def k5 : Class := { plain "byte" none with kind := .primitive 'B', accessFlags := 0x411 }
/-- [B -/
def k6 : Class := { plain "[B" (some 0) with kind := .array 5 .byte, interfaces := #[3, 4], accessFlags := 1041 }

/-- the primitive int -/
def k7 : Class := { plain "int" none with kind := .primitive 'I', accessFlags := 0x411 }
/-- [I -/
def k8 : Class := { plain "[I" (some 0) with kind := .array 7 .int, interfaces := #[3, 4], accessFlags := 1041 }

def heap : Heap := #[]
def classes : Array Class := #[k0, k1, k2, k3, k4, k5, k6, k7, k8]
def interned : List (Array UInt16 × Addr) := []
def slotsUsed : Nat := 0
def theMethod : MethodId := ⟨1, 9⟩
def args0 : Array Value := #[.int 1, .int 2]
def aboutOver (below : List Frame) : State where
  vm := { classes := classes, interned := interned.toArray }
  heap := heap
  slotsUsed := slotsUsed
  threads := #[{ frames := .invoking theMethod args0 :: below }]
def below0 : List Frame := [.native { method := ⟨0, 0⟩, args := #[] }]
def about1 : State := aboutOver below0
def p0 : Program := .bare "" "" ""
def e0 : Env := launch0.env 0 0 0
theorem w_frames : about1.frames = Frame.invoking theMethod args0 :: below0 := rfl
set_option maxRecDepth 65536 in
theorem w_args : argsFit about1.vm theMethod args0 = true := by decide +kernel
set_option maxRecDepth 65536 in
theorem w_heap : heapFits about1 = true := by decide +kernel
set_option maxRecDepth 65536 in
theorem w_runnable : about1.curStatus? = some .runnable := by decide +kernel
set_option maxRecDepth 65536 in
theorem w_alone : about1.alone = true := by decide +kernel
set_option maxRecDepth 65536 in
theorem w_named : about1.methodNamed? x = some theMethod := by decide +kernel
set_option maxRecDepth 65536 in
theorem w_hears : about1.hears theMethod below0 = true := by decide +kernel
set_option maxRecDepth 65536 in
theorem w_ripe : about1.ripe theMethod args0 below0 = true := by decide +kernel
theorem w_running : about1.status = .running := rfl
set_option maxRecDepth 65536 in
theorem w_room : about1.hasRoom e0.platform room_1 = true :=
  launch0.hasRoom_least _ room_1 (by decide +kernel) (by decide +kernel) (by decide +kernel) (by decide +kernel) (by decide +kernel) (by decide +kernel)
theorem allAtoms_all (ts : List Jvm.Cond) (a : Array Jvm.Value) (st : Jvm.State) : (allAtoms ts).before a st = ts.all (fun c => c.before a st) := by
  induction ts with
  | nil => rfl
  | cons c t ih =>
    show (Jvm.Cond.and c (allAtoms t)).before a st = _
    rw [Jvm.Cond.before_and, ih, List.all_cons]
def words1 : List Jvm.Cond := Jvm.Cond.code x code maxLocals ret :: tables_1
/-- a 'code' word, met by the world's own term for the bytes: nothing is compared byte by byte -/
theorem code_word {y : MethodName} {bytes : ByteArray} {mx : Nat} {rt : Option FieldType} {a : Array Value} {s : State} {m : MethodId} {meth : Method} {c : Code} (h1 : s.methodNamed? y = some m) (h2 : s.vm.method? m = some meth) (h3 : meth.code = some c) (h4 : c.code = bytes)
    (h5 : (c.maxLocals == mx && c.exceptionTable.isEmpty && decide (c.maxStack ≤ mostOperands) && decide (meth.sig.returnType = rt) && !meth.locks && decide (parseMethodDescriptor y.desc = some meth.sig)) = true) : (Jvm.Cond.code y bytes mx rt).before a s = true := by
  simp only [Bool.and_eq_true, beq_iff_eq, Bool.not_eq_true', decide_eq_true_eq] at h5
  obtain ⟨⟨⟨⟨⟨g1, g2⟩, g3⟩, g4⟩, g5⟩, g6⟩ := h5
  simp [Cond.before, Cond.holds, Cond.value, h1, h2, h3, h4, g1, g2, g3, g4, g5, g6]
def isCode : Jvm.Cond → Bool
  | .code _ _ _ _ => true
  | _ => false
theorem all_split {L : List Jvm.Cond} {P : Jvm.Cond → Bool} (h1 : L.all (fun c => isCode c || P c) = true) (h2 : ∀ c ∈ L.filter isCode, P c = true) : L.all P = true := by
  refine List.all_eq_true.mpr fun c hc => ?_
  have h := List.all_eq_true.mp h1 c hc
  rcases Bool.eq_false_or_eq_true (isCode c) with hi | hi
  · exact h2 c (List.mem_filter.mpr ⟨hc, hi⟩)
  · simpa [hi] using h
set_option maxRecDepth 65536 in
theorem w_c0 : (Jvm.Cond.code x code maxLocals ret).before args0 about1 = true := code_word (m := ⟨1, 9⟩) (meth := k1m9) (c := k1c9) (by decide +kernel) rfl rfl rfl (by decide +kernel)
set_option maxRecDepth 65536 in
theorem w_c1 : (Jvm.Cond.code ({ cls := "ChainTreeSigner", name := "<init>", desc := "(I)V" } : Jvm.MethodName) prog_1_method_1_code (3 : Nat) (Option.none : Option Jvm.ClassFile.FieldType)).before args0 about1 = true := code_word (m := ⟨2, 0⟩) (meth := k2m0) (c := k2c0) (by decide +kernel) rfl rfl rfl (by decide +kernel)
set_option maxRecDepth 65536 in
theorem w_c2 : (Jvm.Cond.code ({ cls := "java/lang/Object", name := "<init>", desc := "()V" } : Jvm.MethodName) object_method_1_code (1 : Nat) (Option.none : Option Jvm.ClassFile.FieldType)).before args0 about1 = true := code_word (m := ⟨0, 0⟩) (meth := k0m0) (c := k0c0) (by decide +kernel) rfl rfl rfl (by decide +kernel)
set_option maxRecDepth 65536 in
theorem w_c3 : (Jvm.Cond.code ({ cls := "ChainTreeSigner", name := "keygen", desc := "(I)Z" } : Jvm.MethodName) prog_1_method_4_code (2 : Nat) (Option.some Jvm.ClassFile.FieldType.boolean)).before args0 about1 = true := code_word (m := ⟨2, 2⟩) (meth := k2m2) (c := k2c2) (by decide +kernel) rfl rfl rfl (by decide +kernel)
set_option maxRecDepth 65536 in
theorem w_c4 : (Jvm.Cond.code ({ cls := "ChainTreeSigner", name := "buildLeaves", desc := "()V" } : Jvm.MethodName) prog_1_method_28_code (5 : Nat) (Option.none : Option Jvm.ClassFile.FieldType)).before args0 about1 = true := code_word (m := ⟨2, 16⟩) (meth := k2m16) (c := k2c16) (by decide +kernel) rfl rfl rfl (by decide +kernel)
set_option maxRecDepth 65536 in
theorem w_c5 : (Jvm.Cond.code ({ cls := "ChainTreeSigner", name := "secretKey", desc := "(II)I" } : Jvm.MethodName) prog_1_method_24_code (4 : Nat) (Option.some Jvm.ClassFile.FieldType.int)).before args0 about1 = true := code_word (m := ⟨2, 12⟩) (meth := k2m12) (c := k2c12) (by decide +kernel) rfl rfl rfl (by decide +kernel)
set_option maxRecDepth 65536 in
theorem w_c6 : (Jvm.Cond.code ({ cls := "ChainTreeSigner", name := "secretTweak", desc := "(II)I" } : Jvm.MethodName) prog_1_method_20_code (3 : Nat) (Option.some Jvm.ClassFile.FieldType.int)).before args0 about1 = true := code_word (m := ⟨2, 8⟩) (meth := k2m8) (c := k2c8) (by decide +kernel) rfl rfl rfl (by decide +kernel)
set_option maxRecDepth 65536 in
theorem w_c7 : (Jvm.Cond.code ({ cls := "ChainTreeSigner", name := "hash", desc := "(III)I" } : Jvm.MethodName) prog_1_method_2_code (7 : Nat) (Option.some Jvm.ClassFile.FieldType.int)).before args0 about1 = true := code_word (m := ⟨2, 1⟩) (meth := k2m1) (c := k2c1) (by decide +kernel) rfl rfl rfl (by decide +kernel)
set_option maxRecDepth 65536 in
theorem w_c8 : (Jvm.Cond.code ({ cls := "ChainTreeSigner", name := "rotl", desc := "(II)I" } : Jvm.MethodName) prog_1_method_19_code (3 : Nat) (Option.some Jvm.ClassFile.FieldType.int)).before args0 about1 = true := code_word (m := ⟨2, 7⟩) (meth := k2m7) (c := k2c7) (by decide +kernel) rfl rfl rfl (by decide +kernel)
set_option maxRecDepth 65536 in
theorem w_c9 : (Jvm.Cond.code ({ cls := "ChainTreeSigner", name := "walk", desc := "(IIIII)I" } : Jvm.MethodName) prog_1_method_25_code (9 : Nat) (Option.some Jvm.ClassFile.FieldType.int)).before args0 about1 = true := code_word (m := ⟨2, 13⟩) (meth := k2m13) (c := k2c13) (by decide +kernel) rfl rfl rfl (by decide +kernel)
set_option maxRecDepth 65536 in
theorem w_c10 : (Jvm.Cond.code ({ cls := "ChainTreeSigner", name := "stepTweak", desc := "(III)I" } : Jvm.MethodName) prog_1_method_21_code (4 : Nat) (Option.some Jvm.ClassFile.FieldType.int)).before args0 about1 = true := code_word (m := ⟨2, 9⟩) (meth := k2m9) (c := k2c9) (by decide +kernel) rfl rfl rfl (by decide +kernel)
set_option maxRecDepth 65536 in
theorem w_c11 : (Jvm.Cond.code ({ cls := "ChainTreeSigner", name := "foldEnds", desc := "(I)I" } : Jvm.MethodName) prog_1_method_26_code (5 : Nat) (Option.some Jvm.ClassFile.FieldType.int)).before args0 about1 = true := code_word (m := ⟨2, 14⟩) (meth := k2m14) (c := k2c14) (by decide +kernel) rfl rfl rfl (by decide +kernel)
set_option maxRecDepth 65536 in
theorem w_c12 : (Jvm.Cond.code ({ cls := "ChainTreeSigner", name := "foldTweak", desc := "(II)I" } : Jvm.MethodName) prog_1_method_22_code (3 : Nat) (Option.some Jvm.ClassFile.FieldType.int)).before args0 about1 = true := code_word (m := ⟨2, 10⟩) (meth := k2m10) (c := k2c10) (by decide +kernel) rfl rfl rfl (by decide +kernel)
set_option maxRecDepth 65536 in
theorem w_c13 : (Jvm.Cond.code ({ cls := "ChainTreeSigner", name := "buildUpperLevels", desc := "()V" } : Jvm.MethodName) prog_1_method_29_code (7 : Nat) (Option.none : Option Jvm.ClassFile.FieldType)).before args0 about1 = true := code_word (m := ⟨2, 17⟩) (meth := k2m17) (c := k2c17) (by decide +kernel) rfl rfl rfl (by decide +kernel)
set_option maxRecDepth 65536 in
theorem w_c14 : (Jvm.Cond.code ({ cls := "ChainTreeSigner", name := "nodeTweak", desc := "(II)I" } : Jvm.MethodName) prog_1_method_23_code (3 : Nat) (Option.some Jvm.ClassFile.FieldType.int)).before args0 about1 = true := code_word (m := ⟨2, 11⟩) (meth := k2m11) (c := k2c11) (by decide +kernel) rfl rfl rfl (by decide +kernel)
set_option maxRecDepth 65536 in
theorem w_c15 : (Jvm.Cond.code ({ cls := "ChainTreeSignerL3", name := "leaf", desc := "(II)I" } : Jvm.MethodName) method_7_code (5 : Nat) (Option.some Jvm.ClassFile.FieldType.int)).before args0 about1 = true := code_word (m := ⟨1, 6⟩) (meth := k1m6) (c := k1c6) (by decide +kernel) rfl rfl rfl (by decide +kernel)
set_option maxRecDepth 65536 in
theorem w_c16 : (Jvm.Cond.code ({ cls := "ChainTreeSignerL3", name := "end", desc := "(III)I" } : Jvm.MethodName) method_6_code (4 : Nat) (Option.some Jvm.ClassFile.FieldType.int)).before args0 about1 = true := code_word (m := ⟨1, 5⟩) (meth := k1m5) (c := k1c5) (by decide +kernel) rfl rfl rfl (by decide +kernel)
set_option maxRecDepth 65536 in
theorem w_c17 : (Jvm.Cond.code ({ cls := "ChainTreeSignerL3", name := "sk", desc := "(III)I" } : Jvm.MethodName) method_5_code (3 : Nat) (Option.some Jvm.ClassFile.FieldType.int)).before args0 about1 = true := code_word (m := ⟨1, 4⟩) (meth := k1m4) (c := k1c4) (by decide +kernel) rfl rfl rfl (by decide +kernel)
set_option maxRecDepth 65536 in
theorem w_c18 : (Jvm.Cond.code ({ cls := "ChainTreeSignerL3", name := "H", desc := "(III)I" } : Jvm.MethodName) method_3_code (6 : Nat) (Option.some Jvm.ClassFile.FieldType.int)).before args0 about1 = true := code_word (m := ⟨1, 2⟩) (meth := k1m2) (c := k1c2) (by decide +kernel) rfl rfl rfl (by decide +kernel)
set_option maxRecDepth 65536 in
theorem w_c19 : (Jvm.Cond.code ({ cls := "ChainTreeSignerL3", name := "rotl", desc := "(II)I" } : Jvm.MethodName) method_2_code (2 : Nat) (Option.some Jvm.ClassFile.FieldType.int)).before args0 about1 = true := code_word (m := ⟨1, 1⟩) (meth := k1m1) (c := k1c1) (by decide +kernel) rfl rfl rfl (by decide +kernel)
set_option maxRecDepth 65536 in
theorem w_c20 : (Jvm.Cond.code ({ cls := "ChainTreeSignerL3", name := "walk", desc := "(IIIII)I" } : Jvm.MethodName) method_4_code (8 : Nat) (Option.some Jvm.ClassFile.FieldType.int)).before args0 about1 = true := code_word (m := ⟨1, 3⟩) (meth := k1m3) (c := k1c3) (by decide +kernel) rfl rfl rfl (by decide +kernel)
set_option maxRecDepth 65536 in
theorem w_c21 : (Jvm.Cond.code ({ cls := "ChainTreeSigner", name := "getRoot", desc := "()I" } : Jvm.MethodName) prog_1_method_5_code (1 : Nat) (Option.some Jvm.ClassFile.FieldType.int)).before args0 about1 = true := code_word (m := ⟨2, 3⟩) (meth := k2m3) (c := k2c3) (by decide +kernel) rfl rfl rfl (by decide +kernel)
set_option maxRecDepth 65536 in
theorem w_c22 : (Jvm.Cond.code ({ cls := "ChainTreeSigner", name := "sign", desc := "(I)I" } : Jvm.MethodName) prog_1_method_7_code (5 : Nat) (Option.some Jvm.ClassFile.FieldType.int)).before args0 about1 = true := code_word (m := ⟨2, 4⟩) (meth := k2m4) (c := k2c4) (by decide +kernel) rfl rfl rfl (by decide +kernel)
set_option maxRecDepth 65536 in
theorem w_c23 : (Jvm.Cond.code ({ cls := "ChainTreeSigner", name := "fillDigits", desc := "(I)V" } : Jvm.MethodName) prog_1_method_27_code (5 : Nat) (Option.none : Option Jvm.ClassFile.FieldType)).before args0 about1 = true := code_word (m := ⟨2, 15⟩) (meth := k2m15) (c := k2c15) (by decide +kernel) rfl rfl rfl (by decide +kernel)
set_option maxRecDepth 65536 in
theorem w_c24 : (Jvm.Cond.code ({ cls := "ChainTreeSigner", name := "fillPath", desc := "(I)V" } : Jvm.MethodName) prog_1_method_30_code (5 : Nat) (Option.none : Option Jvm.ClassFile.FieldType)).before args0 about1 = true := code_word (m := ⟨2, 18⟩) (meth := k2m18) (c := k2c18) (by decide +kernel) rfl rfl rfl (by decide +kernel)
set_option maxRecDepth 65536 in
theorem w_c25 : (Jvm.Cond.code ({ cls := "ChainTreeSigner", name := "issuedLeaf", desc := "()I" } : Jvm.MethodName) prog_1_method_8_code (1 : Nat) (Option.some Jvm.ClassFile.FieldType.int)).before args0 about1 = true := code_word (m := ⟨2, 5⟩) (meth := k2m5) (c := k2c5) (by decide +kernel) rfl rfl rfl (by decide +kernel)
set_option maxRecDepth 65536 in
theorem w_c26 : (Jvm.Cond.code ({ cls := "ChainTreeSignerL3", name := "slotOk", desc := "(LChainTreeSigner;III)Z" } : Jvm.MethodName) method_9_code (7 : Nat) (Option.some Jvm.ClassFile.FieldType.boolean)).before args0 about1 = true := code_word (m := ⟨1, 8⟩) (meth := k1m8) (c := k1c8) (by decide +kernel) rfl rfl rfl (by decide +kernel)
set_option maxRecDepth 65536 in
theorem w_c27 : (Jvm.Cond.code ({ cls := "ChainTreeSignerL3", name := "dig", desc := "(II)I" } : Jvm.MethodName) method_8_code (4 : Nat) (Option.some Jvm.ClassFile.FieldType.int)).before args0 about1 = true := code_word (m := ⟨1, 7⟩) (meth := k1m7) (c := k1c7) (by decide +kernel) rfl rfl rfl (by decide +kernel)
set_option maxRecDepth 65536 in
theorem w_c28 : (Jvm.Cond.code ({ cls := "ChainTreeSigner", name := "issuedValue", desc := "(I)I" } : Jvm.MethodName) prog_1_method_9_code (2 : Nat) (Option.some Jvm.ClassFile.FieldType.int)).before args0 about1 = true := code_word (m := ⟨2, 6⟩) (meth := k2m6) (c := k2c6) (by decide +kernel) rfl rfl rfl (by decide +kernel)
def codes1 : List Jvm.Cond := [Jvm.Cond.code x code maxLocals ret, Jvm.Cond.code ({ cls := "ChainTreeSigner", name := "<init>", desc := "(I)V" } : Jvm.MethodName) prog_1_method_1_code (3 : Nat) (Option.none : Option Jvm.ClassFile.FieldType), Jvm.Cond.code ({ cls := "java/lang/Object", name := "<init>", desc := "()V" } : Jvm.MethodName) object_method_1_code (1 : Nat) (Option.none : Option Jvm.ClassFile.FieldType), Jvm.Cond.code ({ cls := "ChainTreeSigner", name := "keygen", desc := "(I)Z" } : Jvm.MethodName) prog_1_method_4_code (2 : Nat) (Option.some Jvm.ClassFile.FieldType.boolean), Jvm.Cond.code ({ cls := "ChainTreeSigner", name := "buildLeaves", desc := "()V" } : Jvm.MethodName) prog_1_method_28_code (5 : Nat) (Option.none : Option Jvm.ClassFile.FieldType), Jvm.Cond.code ({ cls := "ChainTreeSigner", name := "secretKey", desc := "(II)I" } : Jvm.MethodName) prog_1_method_24_code (4 : Nat) (Option.some Jvm.ClassFile.FieldType.int), Jvm.Cond.code ({ cls := "ChainTreeSigner", name := "secretTweak", desc := "(II)I" } : Jvm.MethodName) prog_1_method_20_code (3 : Nat) (Option.some Jvm.ClassFile.FieldType.int), Jvm.Cond.code ({ cls := "ChainTreeSigner", name := "hash", desc := "(III)I" } : Jvm.MethodName) prog_1_method_2_code (7 : Nat) (Option.some Jvm.ClassFile.FieldType.int), Jvm.Cond.code ({ cls := "ChainTreeSigner", name := "rotl", desc := "(II)I" } : Jvm.MethodName) prog_1_method_19_code (3 : Nat) (Option.some Jvm.ClassFile.FieldType.int), Jvm.Cond.code ({ cls := "ChainTreeSigner", name := "walk", desc := "(IIIII)I" } : Jvm.MethodName) prog_1_method_25_code (9 : Nat) (Option.some Jvm.ClassFile.FieldType.int), Jvm.Cond.code ({ cls := "ChainTreeSigner", name := "stepTweak", desc := "(III)I" } : Jvm.MethodName) prog_1_method_21_code (4 : Nat) (Option.some Jvm.ClassFile.FieldType.int), Jvm.Cond.code ({ cls := "ChainTreeSigner", name := "foldEnds", desc := "(I)I" } : Jvm.MethodName) prog_1_method_26_code (5 : Nat) (Option.some Jvm.ClassFile.FieldType.int), Jvm.Cond.code ({ cls := "ChainTreeSigner", name := "foldTweak", desc := "(II)I" } : Jvm.MethodName) prog_1_method_22_code (3 : Nat) (Option.some Jvm.ClassFile.FieldType.int), Jvm.Cond.code ({ cls := "ChainTreeSigner", name := "buildUpperLevels", desc := "()V" } : Jvm.MethodName) prog_1_method_29_code (7 : Nat) (Option.none : Option Jvm.ClassFile.FieldType), Jvm.Cond.code ({ cls := "ChainTreeSigner", name := "nodeTweak", desc := "(II)I" } : Jvm.MethodName) prog_1_method_23_code (3 : Nat) (Option.some Jvm.ClassFile.FieldType.int), Jvm.Cond.code ({ cls := "ChainTreeSignerL3", name := "leaf", desc := "(II)I" } : Jvm.MethodName) method_7_code (5 : Nat) (Option.some Jvm.ClassFile.FieldType.int), Jvm.Cond.code ({ cls := "ChainTreeSignerL3", name := "end", desc := "(III)I" } : Jvm.MethodName) method_6_code (4 : Nat) (Option.some Jvm.ClassFile.FieldType.int), Jvm.Cond.code ({ cls := "ChainTreeSignerL3", name := "sk", desc := "(III)I" } : Jvm.MethodName) method_5_code (3 : Nat) (Option.some Jvm.ClassFile.FieldType.int), Jvm.Cond.code ({ cls := "ChainTreeSignerL3", name := "H", desc := "(III)I" } : Jvm.MethodName) method_3_code (6 : Nat) (Option.some Jvm.ClassFile.FieldType.int), Jvm.Cond.code ({ cls := "ChainTreeSignerL3", name := "rotl", desc := "(II)I" } : Jvm.MethodName) method_2_code (2 : Nat) (Option.some Jvm.ClassFile.FieldType.int), Jvm.Cond.code ({ cls := "ChainTreeSignerL3", name := "walk", desc := "(IIIII)I" } : Jvm.MethodName) method_4_code (8 : Nat) (Option.some Jvm.ClassFile.FieldType.int), Jvm.Cond.code ({ cls := "ChainTreeSigner", name := "getRoot", desc := "()I" } : Jvm.MethodName) prog_1_method_5_code (1 : Nat) (Option.some Jvm.ClassFile.FieldType.int), Jvm.Cond.code ({ cls := "ChainTreeSigner", name := "sign", desc := "(I)I" } : Jvm.MethodName) prog_1_method_7_code (5 : Nat) (Option.some Jvm.ClassFile.FieldType.int), Jvm.Cond.code ({ cls := "ChainTreeSigner", name := "fillDigits", desc := "(I)V" } : Jvm.MethodName) prog_1_method_27_code (5 : Nat) (Option.none : Option Jvm.ClassFile.FieldType), Jvm.Cond.code ({ cls := "ChainTreeSigner", name := "fillPath", desc := "(I)V" } : Jvm.MethodName) prog_1_method_30_code (5 : Nat) (Option.none : Option Jvm.ClassFile.FieldType), Jvm.Cond.code ({ cls := "ChainTreeSigner", name := "issuedLeaf", desc := "()I" } : Jvm.MethodName) prog_1_method_8_code (1 : Nat) (Option.some Jvm.ClassFile.FieldType.int), Jvm.Cond.code ({ cls := "ChainTreeSignerL3", name := "slotOk", desc := "(LChainTreeSigner;III)Z" } : Jvm.MethodName) method_9_code (7 : Nat) (Option.some Jvm.ClassFile.FieldType.boolean), Jvm.Cond.code ({ cls := "ChainTreeSignerL3", name := "dig", desc := "(II)I" } : Jvm.MethodName) method_8_code (4 : Nat) (Option.some Jvm.ClassFile.FieldType.int), Jvm.Cond.code ({ cls := "ChainTreeSigner", name := "issuedValue", desc := "(I)I" } : Jvm.MethodName) prog_1_method_9_code (2 : Nat) (Option.some Jvm.ClassFile.FieldType.int)]
set_option maxRecDepth 65536 in
theorem codes_eq : words1.filter isCode = codes1 := rfl
theorem w_codes : ∀ c ∈ words1.filter isCode, c.before args0 about1 = true := by
  rw [codes_eq]
  intro c hc
  simp only [codes1, List.mem_cons, List.not_mem_nil, or_false] at hc
  rcases hc with rfl | rfl | rfl | rfl | rfl | rfl | rfl | rfl | rfl | rfl | rfl | rfl | rfl | rfl | rfl | rfl | rfl | rfl | rfl | rfl | rfl | rfl | rfl | rfl | rfl | rfl | rfl | rfl | rfl
  · exact w_c0
  · exact w_c1
  · exact w_c2
  · exact w_c3
  · exact w_c4
  · exact w_c5
  · exact w_c6
  · exact w_c7
  · exact w_c8
  · exact w_c9
  · exact w_c10
  · exact w_c11
  · exact w_c12
  · exact w_c13
  · exact w_c14
  · exact w_c15
  · exact w_c16
  · exact w_c17
  · exact w_c18
  · exact w_c19
  · exact w_c20
  · exact w_c21
  · exact w_c22
  · exact w_c23
  · exact w_c24
  · exact w_c25
  · exact w_c26
  · exact w_c27
  · exact w_c28
set_option maxRecDepth 65536 in
theorem w_t1 : (words1.take 24).all (fun c => isCode c || c.before args0 about1) = true := by decide +kernel
set_option maxRecDepth 65536 in
theorem w_t2 : ((words1.drop 24).take 24).all (fun c => isCode c || c.before args0 about1) = true := by decide +kernel
set_option maxRecDepth 65536 in
theorem w_t3 : (((words1.drop 24).drop 24).take 24).all (fun c => isCode c || c.before args0 about1) = true := by decide +kernel
set_option maxRecDepth 65536 in
theorem w_t4 : ((((words1.drop 24).drop 24).drop 24).take 24).all (fun c => isCode c || c.before args0 about1) = true := by decide +kernel
set_option maxRecDepth 65536 in
theorem w_t5 : (((((words1.drop 24).drop 24).drop 24).drop 24).take 24).all (fun c => isCode c || c.before args0 about1) = true := by decide +kernel
set_option maxRecDepth 65536 in
theorem w_t6 : ((((((words1.drop 24).drop 24).drop 24).drop 24).drop 24).take 24).all (fun c => isCode c || c.before args0 about1) = true := by decide +kernel
set_option maxRecDepth 65536 in
theorem w_t7 : ((((((words1.drop 24).drop 24).drop 24).drop 24).drop 24).drop 24).all (fun c => isCode c || c.before args0 about1) = true := by decide +kernel
theorem w_tables : (allAtoms (Jvm.Cond.code x code maxLocals ret :: tables_1)).before args0 about1 = true := by
  rw [allAtoms_all]
  show words1.all (fun c => c.before args0 about1) = true
  refine all_split ?_ w_codes
  rw [← List.take_append_drop 24 words1, List.all_append, w_t1, ← List.take_append_drop 24 (words1.drop 24), List.all_append, w_t2, ← List.take_append_drop 24 ((words1.drop 24).drop 24), List.all_append, w_t3, ← List.take_append_drop 24 (((words1.drop 24).drop 24).drop 24), List.all_append, w_t4, ← List.take_append_drop 24 ((((words1.drop 24).drop 24).drop 24).drop 24), List.all_append, w_t5, ← List.take_append_drop 24 (((((words1.drop 24).drop 24).drop 24).drop 24).drop 24), List.all_append, w_t6, w_t7]
  rfl
set_option maxRecDepth 65536 in
theorem w_case : (Jvm.Cond.and given_1 narrow_1).before args0 about1 = true := by decide +kernel
theorem w_applies : (headSpec (Jvm.Cond.code x code maxLocals ret :: tables_1) room_1).applies x e0.platform about1 = true :=
  (Spec.applies_iff w_frames).mpr ⟨w_running, w_runnable, w_alone, w_named, w_hears, w_ripe, w_room, w_tables⟩
theorem atStart : AtStart classFile x code maxLocals ret World_1 tables_1 room_1 Calls_1 rest_1 Pre_1 launch0 p0 e0 about1 theMethod args0 below0 :=
  ⟨lists_1, trivial, launch0.admits_env _ _ _, launch0.least_env, fairChoices_fair.cas, fairChoices_fair.clock, w_frames, w_args, w_heap, w_applies, trivial, trivial, w_case⟩
end start1
theorem witness_1 : WitnessClaimed_1 := ⟨start1.p0, start1.e0, start1.about1, start1.theMethod, start1.args0, start1.below0, start1.atStart⟩
end Jvm.Pilot.@@N@@
