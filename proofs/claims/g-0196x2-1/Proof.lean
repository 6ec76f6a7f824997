import JvmDerived
import JvmDerived.Pilot.@@N@@Statement
import JvmDerived.Pilot.@@N@@Code
set_option linter.unusedVariables false
set_option linter.unusedSimpArgs false
namespace Jvm.Own
open Jvm Jvm.ClassFile Sem Op Lib Jvm.Free Jvm.Stand Jvm.LawKit Jvm.RoadKit Bundle

/-! A plain machine: the few instructions that these classes use, over a heap of plain lists. -/
/-- an object (class number, fields in order) | an int array (false) or boolean array (true) | a long array -/
abbrev ACell := (Nat × List Value) ⊕ ((Bool × List Int32) ⊕ List Int64)
abbrev AHeap := List ACell
/-- instruction, length, variables forgotten ahead of it, link number, constant -/
abbrev It := Instr × Nat × List Bool × Nat × Int
/-- a field: name, descriptor, type, final -/
abbrev FD := String × String × FieldType × Bool
/-- a class: name, number of its slots, its fields -/
abbrev CD := String × Nat × List FD
/-- a method: name, bytes, variables, return type; kind (0 static, 1 constructor, 2 private, 3 virtual), parameters, class number, frames, words; code -/
abbrev MD := MethodName × ByteArray × Nat × Option FieldType × Nat × Nat × Nat × Nat × Nat × List (Nat × It)
/-- classes, methods, number of cells that are only read -/
abbrev PD := List CD × List MD × Nat
abbrev PD.cls (P : PD) : List CD := P.1
abbrev PD.mth (P : PD) : List MD := P.2.1
abbrev PD.nr (P : PD) : Nat := P.2.2
abbrev MD.name (d : MD) : MethodName := d.1
abbrev MD.bytes (d : MD) : ByteArray := d.2.1
abbrev MD.maxL (d : MD) : Nat := d.2.2.1
abbrev MD.ret (d : MD) : Option FieldType := d.2.2.2.1
abbrev MD.kind (d : MD) : Nat := d.2.2.2.2.1
abbrev MD.npar (d : MD) : Nat := d.2.2.2.2.2.1
abbrev MD.cid (d : MD) : Nat := d.2.2.2.2.2.2.1
abbrev MD.rf (d : MD) : Nat := d.2.2.2.2.2.2.2.1
abbrev MD.rw (d : MD) : Nat := d.2.2.2.2.2.2.2.2.1
abbrev MD.code (d : MD) : List (Nat × It) := d.2.2.2.2.2.2.2.2.2

def rdA {α : Type} (L : List α) (j : Int32) : Option α := if j < 0 then none else L[j.toNatClampNeg]?
def wrA {α : Type} (L : List α) (j : Int32) (x : α) : Option (List α) := if j < 0 then none else if j.toNatClampNeg < L.length then some (L.set j.toNatClampNeg x) else none
def getL (L : List Slot) (k : Nat) : Option Value := match L[k]? with | some (.val v) => some v | _ => none
def isC2 : Option Slot → Bool | some (.val v) => v.category == 2 | _ => false
def isSec : Option Slot → Bool | some .second => true | _ => false
def free1 : Option Slot → Bool | some .unset => true | some (.val v) => v.category == 1 | _ => false
def st1 (L : List Slot) (k : Nat) (v : Value) : Option (List Slot) :=
  if free1 L[k]? && (k == 0 || !isC2 L[k - 1]?) && !isSec L[k + 1]? then some (L.set k (.val v)) else none
def free2 : Option Slot → Option Slot → Bool | some .unset, some .unset => true | some (.val v), some .second => v.category == 2 | _, _ => false
def st2 (L : List Slot) (k : Nat) (v : Value) : Option (List Slot) :=
  if free2 L[k]? L[k + 1]? && (k == 0 || !isC2 L[k - 1]?) && !isSec L[k + 2]? then some ((L.set k (.val v)).set (k + 1) .second) else none
def forget : List Bool → List Slot → List Slot
  | [], L => L
  | _ :: _, [] => []
  | true :: r, _ :: L => .unset :: forget r L
  | false :: r, s :: L => s :: forget r L
def catSum : List Value → Nat
  | [] => 0
  | v :: r => v.category + catSum r
def entA : List Value → List Slot
  | [] => []
  | v :: r => if v.category = 2 then .val v :: .second :: entA r else .val v :: entA r
def entL (as : List Value) (n : Nat) : List Slot := entA as ++ List.replicate (n - (entA as).length) .unset
def putOk : FieldType → Value → Bool
  | .int, .int _ => true
  | .long, .long _ => true
  | .boolean, .int x => (x == 0) || (x == 1)
  | .array _, .ref _ => true
  | _, _ => false
def dflt : FieldType → Value
  | .long => .long 0
  | .array _ => .null
  | _ => .int 0
def dfOk : FieldType → Bool
  | .int => true
  | .boolean => true
  | .long => true
  | .array _ => true
  | _ => false
def tgt (pc : Nat) (o : Int) : Option Nat := if 0 ≤ (pc : Int) + o then some ((pc : Int) + o).toNat else none
def fetch : List (Nat × It) → Nat → Option It
  | [], _ => none
  | (q, i) :: r, pc => if q = pc then some i else fetch r pc
/-- one instruction that neither branches nor calls nor returns -/
def xI (P : PD) (ini : Bool) (cid : Nat) (i : Instr) (a : Nat) (b : Int) (L : List Slot) (S : List Value) (H : AHeap) : Option (List Slot × List Value × AHeap) :=
  match i with
  | .aload_n k => match getL L k.val with | some (.ref x) => some (L, .ref x :: S, H) | _ => none
  | .aload k => match getL L k with | some (.ref x) => some (L, .ref x :: S, H) | _ => none
  | .iload_n k => match getL L k.val with | some (.int x) => some (L, .int x :: S, H) | _ => none
  | .iload k => match getL L k with | some (.int x) => some (L, .int x :: S, H) | _ => none
  | .lload_n k => match getL L k.val with | some (.long x) => some (L, .long x :: S, H) | _ => none
  | .lload k => match getL L k with | some (.long x) => some (L, .long x :: S, H) | _ => none
  | .istore_n k => match S with | .int x :: S' => (st1 L k.val (.int x)).map fun L' => (L', S', H) | _ => none
  | .istore k => match S with | .int x :: S' => (st1 L k (.int x)).map fun L' => (L', S', H) | _ => none
  | .astore_n k => match S with | .ref x :: S' => (st1 L k.val (.ref x)).map fun L' => (L', S', H) | _ => none
  | .astore k => match S with | .ref x :: S' => (st1 L k (.ref x)).map fun L' => (L', S', H) | _ => none
  | .lstore_n k => match S with | .long x :: S' => (st2 L k.val (.long x)).map fun L' => (L', S', H) | _ => none
  | .lstore k => match S with | .long x :: S' => (st2 L k (.long x)).map fun L' => (L', S', H) | _ => none
  | .iinc k d => match getL L k with | some (.int x) => (st1 L k (.int (x + Int32.ofInt d))).map fun L' => (L', S, H) | _ => none
  | .iconst d => some (L, .int (Int32.ofInt d) :: S, H)
  | .bipush d => some (L, .int (Int8.ofInt d).toInt32 :: S, H)
  | .sipush d => some (L, .int (Int16.ofInt d).toInt32 :: S, H)
  | .lconst k => some (L, .long (Int64.ofNat k) :: S, H)
  | .ldc _ => some (L, .int (Int32.ofInt b) :: S, H)
  | .ldc2_w _ => some (L, .long (Int64.ofInt b) :: S, H)
  | .iadd => match S with | .int y :: .int x :: S' => some (L, .int (x + y) :: S', H) | _ => none
  | .isub => match S with | .int y :: .int x :: S' => some (L, .int (x - y) :: S', H) | _ => none
  | .imul => match S with | .int y :: .int x :: S' => some (L, .int (x * y) :: S', H) | _ => none
  | .iand => match S with | .int y :: .int x :: S' => some (L, .int (x &&& y) :: S', H) | _ => none
  | .ior => match S with | .int y :: .int x :: S' => some (L, .int (x ||| y) :: S', H) | _ => none
  | .ixor => match S with | .int y :: .int x :: S' => some (L, .int (x ^^^ y) :: S', H) | _ => none
  | .ishl => match S with | .int y :: .int x :: S' => some (L, .int (x <<< (y &&& 31)) :: S', H) | _ => none
  | .ishr => match S with | .int y :: .int x :: S' => some (L, .int (x >>> (y &&& 31)) :: S', H) | _ => none
  | .iushr => match S with | .int y :: .int x :: S' => some (L, .int (XT.ushr x y) :: S', H) | _ => none
  | .idiv => match S with | .int y :: .int x :: S' => if y = 0 then none else some (L, .int (x / y) :: S', H) | _ => none
  | .irem => match S with | .int y :: .int x :: S' => if y = 0 then none else some (L, .int (x % y) :: S', H) | _ => none
  | .ladd => match S with | .long y :: .long x :: S' => some (L, .long (x + y) :: S', H) | _ => none
  | .lsub => match S with | .long y :: .long x :: S' => some (L, .long (x - y) :: S', H) | _ => none
  | .lmul => match S with | .long y :: .long x :: S' => some (L, .long (x * y) :: S', H) | _ => none
  | .land => match S with | .long y :: .long x :: S' => some (L, .long (x &&& y) :: S', H) | _ => none
  | .lor => match S with | .long y :: .long x :: S' => some (L, .long (x ||| y) :: S', H) | _ => none
  | .lxor => match S with | .long y :: .long x :: S' => some (L, .long (x ^^^ y) :: S', H) | _ => none
  | .lshl => match S with | .int y :: .long x :: S' => some (L, .long (x <<< (y.toInt64 &&& 63)) :: S', H) | _ => none
  | .lshr => match S with | .int y :: .long x :: S' => some (L, .long (x >>> (y.toInt64 &&& 63)) :: S', H) | _ => none
  | .lushr => match S with | .int y :: .long x :: S' => some (L, .long (XT.ushrL x y) :: S', H) | _ => none
  | .ldiv => match S with | .long y :: .long x :: S' => if y = 0 then none else some (L, .long (x / y) :: S', H) | _ => none
  | .lrem => match S with | .long y :: .long x :: S' => if y = 0 then none else some (L, .long (x % y) :: S', H) | _ => none
  | .lcmp => match S with | .long y :: .long x :: S' => some (L, .int (XT.cmpL x y) :: S', H) | _ => none
  | .i2l => match S with | .int x :: S' => some (L, .long x.toInt64 :: S', H) | _ => none
  | .l2i => match S with | .long x :: S' => some (L, .int x.toInt32 :: S', H) | _ => none
  | .dup => match S with
    | .int x :: S' => some (L, .int x :: .int x :: S', H)
    | .ref x :: S' => some (L, .ref x :: .ref x :: S', H)
    | _ => none
  | .dup2 => match S with
    | .int x :: .ref y :: S' => some (L, .int x :: .ref y :: .int x :: .ref y :: S', H)
    | .long x :: S' => some (L, .long x :: .long x :: S', H)
    | _ => none
  | .pop => match S with | .int _ :: S' => some (L, S', H) | _ => none
  | .getfield _ => match S with
    | .ref o :: S' => match H[o]? with
      | some (.inl (c, fs)) => if c = cid then match fs[a]? with
        | some (.int x) => some (L, .int x :: S', H)
        | some (.long x) => some (L, .long x :: S', H)
        | some (.ref x) => some (L, .ref x :: S', H)
        | _ => none
        else none
      | _ => none
    | _ => none
  | .putfield _ => match S with
    | v :: .ref o :: S' => match H[o]? with
      | some (.inl (c, fs)) => if c = cid ∧ P.nr ≤ o then match (P.cls[c]?).bind fun cd => cd.2.2[a]? with
        | some (_, _, ty, fin) => if putOk ty v && (!fin || ini) then some (L, S', H.set o (.inl (c, fs.set a v))) else none
        | none => none
        else none
      | _ => none
    | _ => none
  | .iaload => match S with
    | .int j :: .ref o :: S' => match H[o]? with
      | some (.inr (.inl (false, A))) => (rdA A j).map fun x => (L, .int x :: S', H)
      | _ => none
    | _ => none
  | .baload => match S with
    | .int j :: .ref o :: S' => match H[o]? with
      | some (.inr (.inl (true, A))) => (rdA A j).map fun x => (L, .int x :: S', H)
      | _ => none
    | _ => none
  | .laload => match S with
    | .int j :: .ref o :: S' => match H[o]? with
      | some (.inr (.inr A)) => (rdA A j).map fun x => (L, .long x :: S', H)
      | _ => none
    | _ => none
  | .iastore => match S with
    | .int x :: .int j :: .ref o :: S' => match H[o]? with
      | some (.inr (.inl (false, A))) => if P.nr ≤ o then (wrA A j x).map fun A' => (L, S', H.set o (.inr (.inl (false, A')))) else none
      | _ => none
    | _ => none
  | .bastore => match S with
    | .int x :: .int j :: .ref o :: S' => match H[o]? with
      | some (.inr (.inl (true, A))) => if P.nr ≤ o then (wrA A j (x &&& 1)).map fun A' => (L, S', H.set o (.inr (.inl (true, A')))) else none
      | _ => none
    | _ => none
  | .lastore => match S with
    | .long x :: .int j :: .ref o :: S' => match H[o]? with
      | some (.inr (.inr A)) => if P.nr ≤ o then (wrA A j x).map fun A' => (L, S', H.set o (.inr (.inr A'))) else none
      | _ => none
    | _ => none
  | .arraylength => match S with
    | .ref o :: S' => match H[o]? with
      | some (.inr (.inl (_, A))) => some (L, .int A.length.toInt32 :: S', H)
      | _ => none
    | _ => none
  | _ => none
/-- one instruction that makes a cell: how many slots it takes stands last -/
def xN (P : PD) (i : Instr) (a : Nat) (S : List Value) (H : AHeap) : Option (List Value × AHeap × Nat) :=
  match i with
  | .new _ => match P.cls[a]? with
    | some cd => some (.ref H.length :: S, H ++ [.inl (a, cd.2.2.map fun f => dflt f.2.2.1)], cd.2.1)
    | none => none
  | .newarray t => match S with
    | .int n :: S' => if n < 0 ∨ 100000 < n.toNatClampNeg then none else match t with
      | .int => some (.ref H.length :: S', H ++ [.inr (.inl (false, List.replicate n.toNatClampNeg 0))], n.toNatClampNeg)
      | .boolean => some (.ref H.length :: S', H ++ [.inr (.inl (true, List.replicate n.toNatClampNeg 0))], n.toNatClampNeg)
      | .long => some (.ref H.length :: S', H ++ [.inr (.inr (List.replicate n.toNatClampNeg 0))], n.toNatClampNeg)
      | _ => none
    | _ => none
  | _ => none
/-- the words that a call from d to y asks -/
def fitsRoom (d y : MD) (rest : List Value) : Bool := decide (y.rf + 1 ≤ d.rf) && decide (catSum rest + (y.maxL + 11) + y.rw ≤ d.rw)
/-- the arguments of a call, first to last, and what lies under them -/
def argsOf (n : Nat) (S : List Value) : Option (List Value × List Value) := if n ≤ S.length then some ((S.take n).reverse, S.drop n) else none
def recvOk (P : PD) (H : AHeap) (y : MD) (as : List Value) : Bool :=
  if y.kind = 0 then true else match as with
    | .ref o :: _ => match H[o]? with
      | some (.inl (c, _)) => decide (c = y.cid)
      | _ => false
    | _ => false
def nargs (y : MD) : Nat := if y.kind = 0 then y.npar else y.npar + 1
def invKind (i : Instr) (k : Nat) : Bool := match i with
  | .invokestatic _ => k == 0
  | .invokespecial _ => k == 1
  | .invokevirtual _ => k == 2 || k == 3
  | _ => false
/-- what a method returns of an int on its stack -/
def retV (r : Option FieldType) (x : Int32) : Option Value := match r with
  | some .int => some (.int x)
  | some .boolean => some (.int (x &&& 1))
  | _ => none
def isInv : Instr → Bool
  | .invokestatic _ => true
  | .invokespecial _ => true
  | .invokevirtual _ => true
  | _ => false
def isNew : Instr → Bool
  | .new _ => true
  | .newarray _ => true
  | _ => false
/-- what a run answers: what it returns, the heap, how many cells and slots it has made -/
abbrev Res := Option Value × AHeap × Nat × Nat
def addR (r : Res) (kc ks : Nat) : Res := (r.1, r.2.1, r.2.2.1 + kc, r.2.2.2 + ks)
/-- n instructions at the most, from pc of method mi to its return -/
def exe (P : PD) : Nat → Nat → Nat → List Slot → List Value → AHeap → Option Res
  | 0, _, _, _, _, _ => none
  | n + 1, mi, pc, L0, S, H => match P.mth[mi]? with
    | none => none
    | some d => match fetch d.code pc with
      | none => none
      | some (i, len, er, a, b) =>
        let L := forget er L0
        match i with
        | .goto o => match tgt pc o with
          | some q => exe P n mi q L S H
          | none => none
        | .if_icmp cd o => match S with
          | .int y :: .int x :: S' => if if_icmp.holds cd x y = true then match tgt pc o with
              | some q => exe P n mi q L S' H
              | none => none
            else exe P n mi (pc + 3) L S' H
          | _ => none
        | .ifCond cd o => match S with
          | .int x :: S' => if ifCond.holds cd x = true then match tgt pc o with
              | some q => exe P n mi q L S' H
              | none => none
            else exe P n mi (pc + 3) L S' H
          | _ => none
        | .ifnonnull o => match S with
          | .ref _ :: S' => match tgt pc o with
            | some q => exe P n mi q L S' H
            | none => none
          | _ => none
        | .ireturn => match S with
          | [.int x] => match retV d.ret x with
            | some v => some (some v, H, 0, 0)
            | none => none
          | _ => none
        | .lreturn => match S with
          | [.long x] => if d.ret = some .long then some (some (.long x), H, 0, 0) else none
          | _ => none
        | .return_ => match S with
          | [] => if d.ret = none then some (none, H, 0, 0) else none
          | _ => none
        | i => if isInv i = true then
            if b = -1 then match i, S with
              | .invokespecial _, .ref _ :: S' => if 1 ≤ d.rf ∧ catSum S' + 12 ≤ d.rw then exe P n mi (pc + 3) L S' H else none
              | _, _ => none
            else match P.mth[a]? with
              | none => none
              | some y => match argsOf (nargs y) S with
                | none => none
                | some (as, rest) =>
                  if decide (0 < a) && invKind i y.kind && recvOk P H y as && fitsRoom d y rest && decide ((entA as).length ≤ y.maxL) then
                    match exe P n a 0 (entL as y.maxL) [] H with
                    | some (v, H1, kc, ks) => (exe P n mi (pc + 3) L (v.toList ++ rest) H1).map fun r => addR r kc ks
                    | none => none
                  else none
          else if isNew i = true then match xN P i a S H with
            | some (S', H', ks) => (exe P n mi (pc + len) L S' H').map fun r => addR r 1 ks
            | none => none
          else match xI P (d.name.name == "<init>") d.cid i a b L S H with
            | some (L', S', H') => exe P n mi (pc + len) L' S' H'
            | none => none
end Jvm.Own
namespace Jvm.Own
open Jvm Jvm.ClassFile Sem Op Lib Jvm.Free Jvm.Stand Jvm.LawKit Jvm.RoadKit Bundle

/-! The words that the machine's program rests on -/
def fWord (C : String) (f : FD) : Jvm.Cond := if f.2.2.2 then .laysFinal C C f.1 f.2.1 else .lays C C f.1 f.2.1
def cWords (cd : CD) : List Jvm.Cond := .instantiable cd.1 cd.2.1 :: .initialized cd.1 :: cd.2.2.map (fWord cd.1)
def mWords (y : MD) : List Jvm.Cond := .code y.name y.bytes y.maxL y.ret :: .initialized y.name.cls ::
  (if y.kind = 0 then [.static y.name] else if y.kind = 1 then [.instanceMethod y.name] else if y.kind = 2 then [.instanceMethod y.name, .privateMethod y.name]
   else [.declares y.name, .selects y.name.cls y.name y.name, .instanceMethod y.name])
def fieldOf (P : PD) (c a : Nat) : Option FD := (P.cls[c]?).bind fun cd => cd.2.2[a]?
def fLink (P : PD) (d : MD) (k a : Nat) : List Jvm.Cond := match fieldOf P d.cid a with | some f => [.fieldLink d.name.cls k d.name.cls f.1 f.2.1] | none => []
def mLink (P : PD) (d : MD) (k a : Nat) (b : Int) : List Jvm.Cond :=
  if b = -1 then [.methodLink d.name.cls k Lib.objectInit, .instanceMethod Lib.objectInit, .code Lib.objectInit ⟨#[0xb1]⟩ 1 none]
  else match P.mth[a]? with | some y => [.methodLink d.name.cls k y.name] | none => []
def iWords (P : PD) (d : MD) (x : Nat × It) : List Jvm.Cond := match x with
  | (_, .getfield k, _, _, a, _) => fLink P d k a
  | (_, .putfield k, _, _, a, _) => fLink P d k a
  | (_, .ldc k, _, _, _, b) => [.constant d.name.cls k (Int32.ofInt b)]
  | (_, .ldc2_w k, _, _, _, b) => [.constantLong d.name.cls k (Int64.ofInt b)]
  | (_, .new k, _, _, a, _) => match P.cls[a]? with | some cd => [.classLink d.name.cls k cd.1] | none => []
  | (_, .newarray t, _, _, _, _) => [.arrayClass (newarray.typeOf t)]
  | (_, .invokestatic k, _, _, a, b) => mLink P d k a b
  | (_, .invokespecial k, _, _, a, b) => mLink P d k a b
  | (_, .invokevirtual k, _, _, a, b) => mLink P d k a b
  | _ => []
def wordsOf (P : PD) : List Jvm.Cond := P.cls.flatMap cWords ++ (P.mth.drop 1).flatMap mWords ++ P.mth.flatMap fun d => d.code.flatMap (iWords P d)
/-! What can be looked up in the program itself -/
def nodup : List String → Bool
  | [] => true
  | x :: r => !r.contains x && nodup r
def fChk (f : FD) : Bool := decide (parseFieldDescriptor f.2.1 = some f.2.2.1) && dfOk f.2.2.1
def cChk (cd : CD) : Bool := nodup (cd.2.2.map fun f => f.1) && cd.2.2.all fChk
def sigChk (y : MD) : Bool := match parseMethodDescriptor y.name.desc with
  | some g => decide (g.parameters.length = y.npar)
  | none => false
def lenOk (i : Instr) (n : Nat) : Bool := match i with
  | .aload _ | .iload _ | .lload _ | .istore _ | .astore _ | .lstore _ | .bipush _ | .ldc _ | .newarray _ => n == 2
  | .iinc _ _ | .sipush _ | .ldc2_w _ | .getfield _ | .putfield _ | .new _ | .goto _ | .if_icmp _ _ | .ifCond _ _ | .ifnonnull _ | .invokestatic _ | .invokespecial _ | .invokevirtual _ => n == 3
  | _ => n == 1
def codeChk (y : MD) : Bool := y.code.all fun x => decide (decode y.bytes x.1 = .ok (x.2.1, x.2.2.1)) && lenOk x.2.1 x.2.2.1
def clsChk (P : PD) (y : MD) : Bool := match P.cls[y.cid]? with | some cd => cd.1 == y.name.cls | none => y.kind == 0
def mChk (P : PD) (y : MD) : Bool := plainName y.name.cls && sigChk y && codeChk y && clsChk P y && decide (y.name.cls ≠ "java/lang/invoke/MethodHandle") && decide (y.name.cls ≠ "java/lang/invoke/VarHandle") && (y.kind != 1 || (y.name.name == "<init>" && decide (y.ret = none)))
def chk (P : PD) : Bool := P.cls.all cChk && P.mth.all (mChk P)

/-! Plain and real values -/
def VR (ρ : List Addr) : Value → Value → Prop
  | .ref k, w => ∃ a, ρ[k]? = some a ∧ w = .ref a
  | v, w => w = v
def SR (ρ : List Addr) : List Value → List Value → Prop
  | [], ws => ws = []
  | v :: vs, ws => ∃ w ws', ws = w :: ws' ∧ VR ρ v w ∧ SR ρ vs ws'
def OV (ρ : List Addr) : Option Value → Option Value → Prop
  | none, w => w = none
  | some v, w => ∃ u, w = some u ∧ VR ρ v u
def WFc (A : Array Slot) : Prop := (∀ (i : Nat) w, A[i]? = some (.val w) → w.category = 2 → A[i + 1]? = some .second) ∧ ∀ (i : Nat), A[i]? = some .second → ∃ j w, i = j + 1 ∧ A[j]? = some (.val w) ∧ w.category = 2
def SlR (ρ : List Addr) : Slot → Option Slot → Prop
  | .unset, _ => True
  | .second, o => o = some .second
  | .val v, o => ∃ w, VR ρ v w ∧ o = some (.val w)
def LR (ρ : List Addr) (L : List Slot) (A : Array Slot) : Prop := A.size = L.length ∧ WFc A ∧ ∀ (i : Nat) s, L[i]? = some s → SlR ρ s A[i]?
theorem VR.mono {ρ t : List Addr} {v w : Value} (h : VR ρ v w) : VR (ρ ++ t) v w := by
  cases v <;> first | exact h | skip
  obtain ⟨a, h1, h2⟩ := h
  exact ⟨a, by rw [List.getElem?_append_left (List.getElem?_eq_some_iff.mp h1).1]; exact h1, h2⟩
theorem SR.mono {ρ t : List Addr} : ∀ {v w : List Value}, SR ρ v w → SR (ρ ++ t) v w
  | [], _, h => h
  | _ :: _, _, ⟨w, ws, h1, h2, h3⟩ => ⟨w, ws, h1, h2.mono, SR.mono h3⟩
theorem SlR.mono {ρ t : List Addr} {s : Slot} {o : Option Slot} (h : SlR ρ s o) : SlR (ρ ++ t) s o := by
  cases s with
  | unset => trivial
  | second => exact h
  | val v => obtain ⟨w, h1, h2⟩ := h; exact ⟨w, h1.mono, h2⟩
theorem LR.mono {ρ t : List Addr} {L : List Slot} {A : Array Slot} (h : LR ρ L A) : LR (ρ ++ t) L A := ⟨h.1, h.2.1, fun i s q => (h.2.2 i s q).mono⟩
theorem VR.cat {ρ : List Addr} {v w : Value} (h : VR ρ v w) : w.category = v.category := by
  cases v <;> first | (obtain ⟨a, -, rfl⟩ := h; rfl) | (cases h; rfl)
theorem SR.cat {ρ : List Addr} : ∀ {v w : List Value}, SR ρ v w → (w.map fun v => v.category).sum = catSum v
  | [], _, h => by cases h; rfl
  | _ :: _, _, ⟨w, ws, h1, h2, h3⟩ => by subst h1; simp [catSum, h2.cat, SR.cat h3]
theorem SR.len {ρ : List Addr} : ∀ {v w : List Value}, SR ρ v w → w.length = v.length
  | [], _, h => by cases h; rfl
  | _ :: _, _, ⟨w, ws, h1, h2, h3⟩ => by subst h1; simp [SR.len h3]
theorem SR.app {ρ : List Addr} : ∀ {v w v' w' : List Value}, SR ρ v w → SR ρ v' w' → SR ρ (v ++ v') (w ++ w')
  | [], _, _, _, h, h' => by cases h; exact h'
  | _ :: _, _, _, _, ⟨w, ws, h1, h2, h3⟩, h' => by subst h1; exact ⟨w, ws ++ _, rfl, h2, SR.app h3 h'⟩
theorem SR.rev {ρ : List Addr} : ∀ {v w : List Value}, SR ρ v w → SR ρ v.reverse w.reverse
  | [], _, h => by cases h; exact rfl
  | _ :: _, _, ⟨w, ws, h1, h2, h3⟩ => by subst h1; simp only [List.reverse_cons]; exact (SR.rev h3).app ⟨w, [], rfl, h2, rfl⟩
theorem SR.take {ρ : List Addr} : ∀ (n : Nat) {v w : List Value}, SR ρ v w → SR ρ (v.take n) (w.take n)
  | 0, _, _, _ => rfl
  | n + 1, [], _, h => by cases h; exact rfl
  | n + 1, _ :: _, _, ⟨w, ws, h1, h2, h3⟩ => by subst h1; exact ⟨w, _, rfl, h2, SR.take n h3⟩
theorem SR.drop {ρ : List Addr} : ∀ (n : Nat) {v w : List Value}, SR ρ v w → SR ρ (v.drop n) (w.drop n)
  | 0, _, _, h => h
  | n + 1, [], _, h => by cases h; exact rfl
  | n + 1, _ :: _, _, ⟨w, ws, h1, h2, h3⟩ => by subst h1; exact SR.drop n h3
theorem OV.list {ρ : List Addr} {v w : Option Value} (h : OV ρ v w) : SR ρ v.toList w.toList := by
  cases v with
  | none => cases h; exact rfl
  | some v => obtain ⟨u, rfl, h⟩ := h; exact ⟨u, [], rfl, h, rfl⟩
theorem LR.get {ρ : List Addr} {L : List Slot} {A : Array Slot} (h : LR ρ L A) {k : Nat} {v : Value} (g : getL L k = some v) : ∃ w, VR ρ v w ∧ A[k]? = some (.val w) := by
  unfold getL at g
  split at g
  · rename_i u q
    cases g
    exact h.2.2 k _ q
  · cases g
theorem forget_get : ∀ (er : List Bool) (L : List Slot) (i : Nat) (s : Slot), (forget er L)[i]? = some s → s = .unset ∨ L[i]? = some s
  | [], L, i, s, h => Or.inr h
  | _ :: _, [], i, s, h => by simp [forget] at h
  | true :: r, t :: L, 0, s, h => by simp [forget] at h; exact Or.inl h.symm
  | false :: r, t :: L, 0, s, h => by simp [forget] at h; exact Or.inr (by simp [h])
  | true :: r, t :: L, i + 1, s, h => by simp [forget] at h; simpa using forget_get r L i s h
  | false :: r, t :: L, i + 1, s, h => by simp [forget] at h; simpa using forget_get r L i s h
theorem forget_len : ∀ (er : List Bool) (L : List Slot), (forget er L).length = L.length
  | [], _ => rfl
  | _ :: _, [] => rfl
  | true :: r, _ :: L => by simp [forget, forget_len r L]
  | false :: r, _ :: L => by simp [forget, forget_len r L]
theorem LR.forget {ρ : List Addr} {A : Array Slot} (er : List Bool) {L : List Slot} (h : LR ρ L A) : LR ρ (forget er L) A :=
  ⟨by rw [forget_len]; exact h.1, h.2.1, fun i s q => by
    rcases forget_get er L i s q with rfl | z
    · trivial
    · exact h.2.2 i s z⟩
/-! Stores -/
theorem setAt_ok {A : Array Slot} {i : Nat} (h : i < A.size) (x : Slot) : setAt A i x = some (A.setIfInBounds i x) := by simp [setAt, h]
theorem get_set (A : Array Slot) (i j : Nat) (x : Slot) : (A.setIfInBounds i x)[j]? = if i = j then (if i < A.size then some x else none) else A[j]? := by
  rw [Array.getElem?_setIfInBounds]
theorem sl_unset {A : Array Slot} {k : Nat} {w : Value} (h : A[k]? = some .unset) : storeLocals A k w = storeSelf A k w := by
  unfold storeLocals; rw [h]; rfl
theorem sl_second {A : Array Slot} {k : Nat} {w : Value} (h : A[k]? = some .second) (hk : k - 1 < A.size) : storeLocals A k w = storeSelf (A.setIfInBounds (k - 1) .unset) k w := by
  unfold storeLocals; rw [h]
  show (setAt A (k - 1) .unset).bind _ = _
  rw [setAt_ok hk]; rfl
theorem sl_val2 {A : Array Slot} {k : Nat} {w u : Value} (h : A[k]? = some (.val u)) (hu : u.category = 2) (hk : k + 1 < A.size) : storeLocals A k w = storeSelf (A.setIfInBounds (k + 1) .unset) k w := by
  unfold storeLocals; rw [h]
  show (if u.category = 2 then (setAt A (k + 1) .unset).bind _ else _) = _
  rw [if_pos hu, setAt_ok hk]; rfl
theorem sl_val1 {A : Array Slot} {k : Nat} {w u : Value} (h : A[k]? = some (.val u)) (hu : ¬ u.category = 2) : storeLocals A k w = storeSelf A k w := by
  unfold storeLocals; rw [h]
  show (if u.category = 2 then (setAt A (k + 1) .unset).bind _ else _) = _
  rw [if_neg hu]
theorem ss_1 {A : Array Slot} {k : Nat} {w : Value} (hk : k < A.size) (hw : ¬ w.category = 2) : storeSelf A k w = some (A.setIfInBounds k (.val w)) := by
  unfold storeSelf; rw [setAt_ok hk]
  show (if w.category = 2 then _ else _) = _
  rw [if_neg hw]
theorem ss_2c {A : Array Slot} {k : Nat} {w u : Value} (hk : k < A.size) (hk1 : k + 1 < A.size) (hk2 : k + 2 < A.size) (hw : w.category = 2) (h : (A.setIfInBounds k (.val w))[k + 1]? = some (.val u)) (hu : u.category = 2) : storeSelf A k w = some (((A.setIfInBounds k (.val w)).setIfInBounds (k + 2) .unset).setIfInBounds (k + 1) .second) := by
  unfold storeSelf; rw [setAt_ok hk]
  show (if w.category = 2 then _ else _) = _
  rw [if_pos hw, h]
  show (if u.category = 2 then (setAt _ (k + 2) .unset).bind _ else _) = _
  rw [if_pos hu, setAt_ok (by simpa using hk2)]
  exact setAt_ok (by simpa using hk1) _
theorem ss_2 {A : Array Slot} {k : Nat} {w : Value} {o : Slot} (hk : k < A.size) (hk1 : k + 1 < A.size) (hw : w.category = 2) (h : (A.setIfInBounds k (.val w))[k + 1]? = some o) (ho : ¬ ∃ u, o = .val u ∧ u.category = 2) : storeSelf A k w = some ((A.setIfInBounds k (.val w)).setIfInBounds (k + 1) .second) := by
  unfold storeSelf; rw [setAt_ok hk]
  show (if w.category = 2 then _ else _) = _
  rw [if_pos hw, h]
  cases o with
  | unset => exact setAt_ok (by simpa using hk1) _
  | second => exact setAt_ok (by simpa using hk1) _
  | val u =>
    show (if u.category = 2 then _ else _) = _
    rw [if_neg fun z => ho ⟨u, rfl, z⟩]
    exact setAt_ok (by simpa using hk1) _
theorem store1_sim {ρ : List Addr} {L : List Slot} {A : Array Slot} (h : LR ρ L A) {k : Nat} {v w : Value} {L' : List Slot} (hs : st1 L k v = some L') (hv : VR ρ v w) (hc : w.category = 1) : ∃ A', storeLocals A k w = some A' ∧ LR ρ L' A' := by
  unfold st1 at hs
  split at hs
  · rename_i q
    cases hs
    simp only [Bool.and_eq_true] at q
    obtain ⟨⟨q1, q2⟩, q3⟩ := q
    obtain ⟨hA, ⟨w1, w2⟩, hl⟩ := h
    have hk : k < L.length := by
      rcases Nat.lt_or_ge k L.length with z | z
      · exact z
      · rw [List.getElem?_eq_none z] at q1; cases q1
    have hkA : k < A.size := hA ▸ hk
    obtain ⟨sl, hsl⟩ : ∃ sl, A[k]? = some sl := ⟨A[k], Array.getElem?_eq_getElem hkA⟩
    have hc2 : ¬ w.category = 2 := by rw [hc]; decide
    classical
    have key : ∃ A', storeLocals A k w = some A' ∧ A'.size = A.size ∧ (∀ j, A'[j]? = if j = k then some (.val w) else if (sl = .second ∧ j + 1 = k) ∨ ((∃ u, sl = .val u ∧ u.category = 2) ∧ j = k + 1) then some .unset else A[j]?) := by
      cases sl with
      | unset =>
        refine ⟨A.setIfInBounds k (.val w), by rw [sl_unset hsl]; exact ss_1 hkA hc2, by simp, fun j => ?_⟩
        rw [get_set]
        by_cases e : k = j
        · subst e; simp [hkA]
        · have e' : ¬ j = k := fun z => e z.symm
          simp [e, e']
      | second =>
        obtain ⟨j0, u, rfl, g1, g2⟩ := w2 k hsl
        refine ⟨(A.setIfInBounds j0 .unset).setIfInBounds (j0 + 1) (.val w), by rw [sl_second hsl (show j0 + 1 - 1 < A.size by omega)]; exact ss_1 (by simpa using hkA) hc2, by simp, fun j => ?_⟩
        rw [get_set, get_set]
        by_cases e : j0 + 1 = j
        · subst e; simp [hkA]
        · by_cases e2 : j0 = j
          · subst e2; simp; omega
          · have e' : ¬ j = j0 + 1 := fun z => e z.symm
            have e2' : ¬ j = j0 := fun z => e2 z.symm
            simp [e, e', e2, e2']
      | val u =>
        by_cases hu : u.category = 2
        · have g := w1 k u hsl hu
          have hk1 : k + 1 < A.size := (Array.getElem?_eq_some_iff.mp g).1
          refine ⟨(A.setIfInBounds (k + 1) .unset).setIfInBounds k (.val w), by rw [sl_val2 hsl hu hk1]; exact ss_1 (by simpa using hkA) hc2, by simp, fun j => ?_⟩
          rw [get_set, get_set]
          by_cases e : k = j
          · subst e; simp [hkA]
          · have e' : ¬ j = k := fun z => e z.symm
            by_cases e2 : k + 1 = j
            · subst e2; simp [hk1, hu]
            · have e2' : ¬ j = k + 1 := fun z => e2 z.symm
              simp [e, e', e2, e2']
        · refine ⟨A.setIfInBounds k (.val w), by rw [sl_val1 hsl hu]; exact ss_1 hkA hc2, by simp, fun j => ?_⟩
          rw [get_set]
          by_cases e : k = j
          · subst e; simp [hkA]
          · have e' : ¬ j = k := fun z => e z.symm
            simp [e, e', hu]
    obtain ⟨A', k1, k2, k3⟩ := key
    refine ⟨A', k1, by rw [k2, hA]; simp, ⟨fun i u g1 g2 => ?_, fun i g1 => ?_⟩, fun i s g => ?_⟩
    · rw [k3] at g1
      split at g1
      · cases g1; exact absurd g2 hc2
      · rename_i e1
        split at g1
        · cases g1
        · rename_i e2
          have g3 := w1 i u g1 g2
          rw [k3]
          split
          · rename_i e3
            have : sl = .second := by rw [← e3] at hsl; exact Option.some.inj (hsl.symm.trans g3)
            exact absurd (Or.inl ⟨this, e3⟩) e2
          · rename_i e3
            split
            · rename_i e4
              rcases e4 with ⟨z1, z2⟩ | ⟨⟨u', z1, z2⟩, z3⟩
              · exfalso
                have : k = i + 1 + 1 := z2.symm
                subst this
                rw [z1] at hsl
                obtain ⟨j0, u0, y1, y2, y3⟩ := w2 _ hsl
                have : j0 = i + 1 := by omega
                subst this
                rw [g3] at y2; cases y2
              · exact absurd (by omega) e1
            · exact g3
    · rw [k3] at g1
      split at g1
      · cases g1
      · rename_i e1
        split at g1
        · cases g1
        · rename_i e2
          obtain ⟨j, u, z1, z2, z3⟩ := w2 i g1
          refine ⟨j, u, z1, ?_, z3⟩
          rw [k3]
          split
          · rename_i e3
            subst e3
            have : sl = .val u := Option.some.inj (hsl.symm.trans z2)
            exact absurd (Or.inr ⟨⟨u, this, z3⟩, z1⟩) e2
          · split
            · rename_i e3 e4
              rcases e4 with ⟨y1, y2⟩ | ⟨⟨u', y1, y2⟩, y3⟩
              · exact absurd (z1.trans y2) e1
              · subst y3
                have g5 := w1 k u' (y1 ▸ hsl) y2
                rw [z2] at g5; cases g5
            · exact z2
    · rw [List.getElem?_set] at g
      split at g
      · rename_i e
        subst e
        cases g
        exact ⟨w, hv, by rw [k3]; simp⟩
      · rename_i e
        have e' : ¬ i = k := fun z => e z.symm
        have g2 := hl i s g
        rw [k3, if_neg e']
        split
        · rename_i e4
          cases s with
          | unset => trivial
          | second =>
            exfalso
            have g2' : A[i]? = some .second := g2
            rcases e4 with ⟨y1, y2⟩ | ⟨⟨u', y1, y2⟩, y3⟩
            · obtain ⟨j0, u0, x1, x2, x3⟩ := w2 k (y1 ▸ hsl)
              have : i = j0 := by omega
              subst this
              rw [x2] at g2'; cases g2'
            · subst y3
              rw [g] at q3
              simp [isSec] at q3
          | val v0 =>
            exfalso
            obtain ⟨w0, x1, x2⟩ := g2
            rcases e4 with ⟨y1, y2⟩ | ⟨⟨u', y1, y2⟩, y3⟩
            · obtain ⟨j0, u0, z1, z2, z3⟩ := w2 k (y1 ▸ hsl)
              have : i = j0 := by omega
              subst this
              have hw0 : w0 = u0 := by rw [x2] at z2; cases z2; rfl
              have hcat : v0.category = 2 := by rw [← x1.cat, hw0]; exact z3
              subst y2
              have : L[i + 1 - 1]? = some (.val v0) := g
              rw [this] at q2
              simp [isC2, hcat] at q2
            · subst y3
              have g5 := w1 k u' (y1 ▸ hsl) y2
              rw [x2] at g5; cases g5
        · exact g2
  · cases hs
end Jvm.Own
namespace Jvm.Own
open Jvm Jvm.ClassFile Sem Op Lib Jvm.Free Jvm.Stand Jvm.LawKit Jvm.RoadKit Bundle
theorem store2_sim {ρ : List Addr} {L : List Slot} {A : Array Slot} (h : LR ρ L A) {k : Nat} {v w : Value} {L' : List Slot} (hs : st2 L k v = some L') (hv : VR ρ v w) (hc : w.category = 2) : ∃ A', storeLocals A k w = some A' ∧ LR ρ L' A' := by
  unfold st2 at hs
  split at hs
  · rename_i q
    cases hs
    simp only [Bool.and_eq_true] at q
    obtain ⟨⟨q1, q2⟩, q3⟩ := q
    obtain ⟨hA, ⟨w1, w2⟩, hl⟩ := h
    have hk1 : k + 1 < L.length := by
      rcases Nat.lt_or_ge (k + 1) L.length with z | z
      · exact z
      · rw [List.getElem?_eq_none z] at q1
        cases h0 : L[k]? with
        | none => rw [h0] at q1; cases q1
        | some s0 => rw [h0] at q1; cases s0 <;> cases q1
    have hk : k < L.length := by omega
    have hkA : k < A.size := hA ▸ hk
    have hkA1 : k + 1 < A.size := hA ▸ hk1
    obtain ⟨sl, hsl⟩ : ∃ sl, A[k]? = some sl := ⟨A[k], Array.getElem?_eq_getElem hkA⟩
    obtain ⟨sm, hsm⟩ : ∃ sm, A[k + 1]? = some sm := ⟨A[k + 1], Array.getElem?_eq_getElem hkA1⟩
    have n1 : ¬ k = k + 1 := by omega
    have n2 : ¬ k + 2 = k + 1 := by omega
    have n3 : ¬ k + 2 = k := by omega
    classical
    have key : ∃ A', storeLocals A k w = some A' ∧ A'.size = A.size ∧ (∀ j, A'[j]? = if j = k then some (.val w) else if j = k + 1 then some .second else if (sl = .second ∧ j + 1 = k) ∨ ((∃ u, sm = .val u ∧ u.category = 2) ∧ j = k + 2) then some .unset else A[j]?) := by
      by_cases hm : ∃ u, sm = .val u ∧ u.category = 2
      · obtain ⟨u, rfl, hu⟩ := hm
        have g := w1 (k + 1) u hsm hu
        have hk2 : k + 2 < A.size := (Array.getElem?_eq_some_iff.mp g).1
        cases sl with
        | unset =>
          refine ⟨((A.setIfInBounds k (.val w)).setIfInBounds (k + 2) .unset).setIfInBounds (k + 1) .second, ?_, by simp, fun j => ?_⟩
          · rw [sl_unset hsl]; exact ss_2c hkA hkA1 hk2 hc (by rw [get_set, if_neg n1]; exact hsm) hu
          · rw [get_set, get_set, get_set]
            by_cases e0 : j = k
            · subst e0; simp [hkA]
            · by_cases e1 : j = k + 1
              · subst e1; simp [hkA1]
              · by_cases e2 : j = k + 2
                · subst e2; simp [hk2, hu]
                · have e0' : ¬ k = j := fun z => e0 z.symm
                  have e1' : ¬ k + 1 = j := fun z => e1 z.symm
                  have e2' : ¬ k + 2 = j := fun z => e2 z.symm
                  simp [e0, e1, e2, e0', e1', e2']
        | second =>
          obtain ⟨j0, u0, rfl, g1, g2⟩ := w2 k hsl
          have hj0 : j0 < A.size := by omega
          refine ⟨(((A.setIfInBounds j0 .unset).setIfInBounds (j0 + 1) (.val w)).setIfInBounds (j0 + 1 + 2) .unset).setIfInBounds (j0 + 1 + 1) .second, ?_, by simp, fun j => ?_⟩
          · have m1 : ¬ j0 + 1 = j0 + 1 + 1 := by omega
            have m2 : ¬ j0 = j0 + 1 + 1 := by omega
            rw [sl_second hsl (show j0 + 1 - 1 < A.size by omega)]
            exact ss_2c (by simpa using hkA) (by simpa using hkA1) (by simpa using hk2) hc (by rw [get_set, if_neg m1, get_set, if_neg (by omega)]; exact hsm) hu
          · rw [get_set, get_set, get_set, get_set]
            by_cases e0 : j = j0 + 1
            · subst e0; simp [hkA]
            · by_cases e1 : j = j0 + 1 + 1
              · subst e1; simp [hkA1]
              · by_cases e2 : j = j0 + 1 + 2
                · subst e2; simp [hk2, hu]
                · by_cases e3 : j = j0
                  · subst e3
                    rw [if_neg (by omega), if_neg (by omega), if_neg (by omega), if_pos rfl, if_pos hj0, if_neg (by omega), if_neg (by omega), if_pos (Or.inl ⟨rfl, rfl⟩)]
                  · have e0' : ¬ j0 + 1 = j := fun z => e0 z.symm
                    have e1' : ¬ j0 + 1 + 1 = j := fun z => e1 z.symm
                    have e2' : ¬ j0 + 1 + 2 = j := fun z => e2 z.symm
                    have e3' : ¬ j0 = j := fun z => e3 z.symm
                    simp [e0, e1, e2, e3, e0', e1', e2', e3']
        | val u1 =>
          have hu1 : ¬ u1.category = 2 := fun z => by have := w1 k u1 hsl z; rw [hsm] at this; cases this
          refine ⟨((A.setIfInBounds k (.val w)).setIfInBounds (k + 2) .unset).setIfInBounds (k + 1) .second, ?_, by simp, fun j => ?_⟩
          · rw [sl_val1 hsl hu1]; exact ss_2c hkA hkA1 hk2 hc (by rw [get_set, if_neg n1]; exact hsm) hu
          · rw [get_set, get_set, get_set]
            by_cases e0 : j = k
            · subst e0; simp [hkA]
            · by_cases e1 : j = k + 1
              · subst e1; simp [hkA1]
              · by_cases e2 : j = k + 2
                · subst e2; simp [hk2, hu]
                · have e0' : ¬ k = j := fun z => e0 z.symm
                  have e1' : ¬ k + 1 = j := fun z => e1 z.symm
                  have e2' : ¬ k + 2 = j := fun z => e2 z.symm
                  simp [e0, e1, e2, e0', e1', e2']
      · cases sl with
        | unset =>
          refine ⟨(A.setIfInBounds k (.val w)).setIfInBounds (k + 1) .second, ?_, by simp, fun j => ?_⟩
          · rw [sl_unset hsl]; exact ss_2 hkA hkA1 hc (by rw [get_set, if_neg n1]; exact hsm) hm
          · rw [get_set, get_set]
            by_cases e0 : j = k
            · subst e0; simp [hkA]
            · by_cases e1 : j = k + 1
              · subst e1; simp [hkA1]
              · have e0' : ¬ k = j := fun z => e0 z.symm
                have e1' : ¬ k + 1 = j := fun z => e1 z.symm
                simp [e0, e1, e0', e1', hm]
        | second =>
          obtain ⟨j0, u0, rfl, g1, g2⟩ := w2 k hsl
          have hj0 : j0 < A.size := by omega
          have m1 : ¬ j0 + 1 = j0 + 1 + 1 := by omega
          have m2 : ¬ j0 = j0 + 1 + 1 := by omega
          refine ⟨((A.setIfInBounds j0 .unset).setIfInBounds (j0 + 1) (.val w)).setIfInBounds (j0 + 1 + 1) .second, ?_, by simp, fun j => ?_⟩
          · rw [sl_second hsl (show j0 + 1 - 1 < A.size by omega)]
            exact ss_2 (by simpa using hkA) (by simpa using hkA1) hc (by rw [get_set, if_neg m1, get_set, if_neg (by omega)]; exact hsm) hm
          · rw [get_set, get_set, get_set]
            by_cases e0 : j = j0 + 1
            · subst e0; simp [hkA]
            · by_cases e1 : j = j0 + 1 + 1
              · subst e1; simp [hkA1]
              · by_cases e3 : j = j0
                · subst e3
                  rw [if_neg (by omega), if_neg (by omega), if_pos rfl, if_pos hj0, if_neg (by omega), if_neg (by omega), if_pos (Or.inl ⟨rfl, rfl⟩)]
                · have e0' : ¬ j0 + 1 = j := fun z => e0 z.symm
                  have e1' : ¬ j0 + 1 + 1 = j := fun z => e1 z.symm
                  have e3' : ¬ j0 = j := fun z => e3 z.symm
                  simp [e0, e1, e3, e0', e1', e3', hm]
        | val u1 =>
          by_cases hu1 : u1.category = 2
          · refine ⟨((A.setIfInBounds (k + 1) .unset).setIfInBounds k (.val w)).setIfInBounds (k + 1) .second, ?_, by simp, fun j => ?_⟩
            · rw [sl_val2 hsl hu1 hkA1]
              exact ss_2 (o := .unset) (by simpa using hkA) (by simpa using hkA1) hc (by rw [get_set, if_neg n1, get_set, if_pos rfl, if_pos hkA1]) (by rintro ⟨u, z, -⟩; cases z)
            · rw [get_set, get_set, get_set]
              by_cases e0 : j = k
              · subst e0; simp [hkA]
              · by_cases e1 : j = k + 1
                · subst e1; simp [hkA1]
                · have e0' : ¬ k = j := fun z => e0 z.symm
                  have e1' : ¬ k + 1 = j := fun z => e1 z.symm
                  simp [e0, e1, e0', e1', hm]
          · refine ⟨(A.setIfInBounds k (.val w)).setIfInBounds (k + 1) .second, ?_, by simp, fun j => ?_⟩
            · rw [sl_val1 hsl hu1]; exact ss_2 hkA hkA1 hc (by rw [get_set, if_neg n1]; exact hsm) hm
            · rw [get_set, get_set]
              by_cases e0 : j = k
              · subst e0; simp [hkA]
              · by_cases e1 : j = k + 1
                · subst e1; simp [hkA1]
                · have e0' : ¬ k = j := fun z => e0 z.symm
                  have e1' : ¬ k + 1 = j := fun z => e1 z.symm
                  simp [e0, e1, e0', e1', hm]
    obtain ⟨A', k1, k2, k3⟩ := key
    refine ⟨A', k1, by rw [k2, hA]; simp, ⟨fun i u g1 g2 => ?_, fun i g1 => ?_⟩, fun i s g => ?_⟩
    · by_cases e1 : i = k
      · subst e1; rw [k3]; simp
      · have g1' := g1
        rw [k3, if_neg e1] at g1'
        split at g1'
        · cases g1'
        · rename_i e2
          split at g1'
          · cases g1'
          · rename_i e4
            have g3 := w1 i u g1' g2
            rw [k3]
            have c1 : ¬ i + 1 = k := fun e3 => by
              have : sl = .second := by rw [← e3] at hsl; exact Option.some.inj (hsl.symm.trans g3)
              exact e4 (Or.inl ⟨this, e3⟩)
            have c2 : ¬ i + 1 = k + 1 := by omega
            have c3 : ¬ ((sl = .second ∧ i + 1 + 1 = k) ∨ ((∃ u, sm = .val u ∧ u.category = 2) ∧ i + 1 = k + 2)) := fun z => by
              rcases z with ⟨z1, z2⟩ | ⟨z1, z2⟩
              · subst z2
                rw [z1] at hsl
                obtain ⟨j0, u0, y1, y2, y3⟩ := w2 _ hsl
                have : j0 = i + 1 := by omega
                subst this
                rw [g3] at y2; cases y2
              · omega
            rw [if_neg c1, if_neg c2, if_neg c3]
            exact g3
    · rw [k3] at g1
      split at g1
      · cases g1
      · rename_i e1
        split at g1
        · rename_i e2
          exact ⟨k, w, e2, by rw [k3]; simp, hc⟩
        · rename_i e2
          split at g1
          · cases g1
          · rename_i e4
            obtain ⟨j, u, z1, z2, z3⟩ := w2 i g1
            refine ⟨j, u, z1, ?_, z3⟩
            rw [k3]
            have c1 : ¬ j = k := by omega
            have c2 : ¬ j = k + 1 := fun e => by
              subst e
              exact e4 (Or.inr ⟨⟨u, Option.some.inj (hsm.symm.trans z2), z3⟩, by omega⟩)
            have c3 : ¬ ((sl = .second ∧ j + 1 = k) ∨ ((∃ u, sm = .val u ∧ u.category = 2) ∧ j = k + 2)) := fun z => by
              rcases z with ⟨y1, y2⟩ | ⟨⟨u', y1, y2⟩, y3⟩
              · exact e1 (z1.trans y2)
              · subst y3
                have g5 := w1 (k + 1) u' (y1 ▸ hsm) y2
                rw [z2] at g5; cases g5
            rw [if_neg c1, if_neg c2, if_neg c3]
            exact z2
    · rw [List.getElem?_set] at g
      split at g
      · rename_i e
        subst e
        have : k + 1 < (L.set k (.val v)).length := by simp [hk1]
        rw [if_pos this] at g
        cases g
        show A'[k + 1]? = some .second
        rw [k3]; simp
      · rename_i e
        have e' : ¬ i = k + 1 := fun z => e z.symm
        rw [List.getElem?_set] at g
        split at g
        · rename_i e0
          subst e0
          cases g
          exact ⟨w, hv, by rw [k3]; simp⟩
        · rename_i e0
          have e0' : ¬ i = k := fun z => e0 z.symm
          have g2 := hl i s g
          rw [k3, if_neg e0', if_neg e']
          split
          · rename_i e4
            cases s with
            | unset => trivial
            | second =>
              exfalso
              have g2' : A[i]? = some .second := g2
              rcases e4 with ⟨y1, y2⟩ | ⟨⟨u', y1, y2⟩, y3⟩
              · obtain ⟨j0, u0, x1, x2, x3⟩ := w2 k (y1 ▸ hsl)
                have : i = j0 := by omega
                subst this
                rw [x2] at g2'; cases g2'
              · subst y3
                rw [g] at q3
                simp [isSec] at q3
            | val v0 =>
              exfalso
              obtain ⟨w0, x1, x2⟩ := g2
              rcases e4 with ⟨y1, y2⟩ | ⟨⟨u', y1, y2⟩, y3⟩
              · obtain ⟨j0, u0, z1, z2, z3⟩ := w2 k (y1 ▸ hsl)
                have : i = j0 := by omega
                subst this
                have hw0 : w0 = u0 := by rw [x2] at z2; cases z2; rfl
                have hcat : v0.category = 2 := by rw [← x1.cat, hw0]; exact z3
                subst y2
                have : L[i + 1 - 1]? = some (.val v0) := g
                rw [this] at q2
                simp [isC2, hcat] at q2
              · subst y3
                have g5 := w1 (k + 1) u' (y1 ▸ hsm) y2
                rw [x2] at g5; cases g5
          · exact g2
  · cases hs
/-! The frame with which a method is entered -/
theorem entA_app (ws : List Value) : ∀ acc : Array Slot, ws.foldl (fun acc v => if v.category = 2 then (acc.push (.val v)).push .second else acc.push (.val v)) acc = acc ++ (entA ws).toArray := by
  induction ws with
  | nil => intro acc; simp [entA]
  | cons v r ih =>
    intro acc
    rw [List.foldl_cons, ih]
    show _ = acc ++ (if v.category = 2 then .val v :: .second :: entA r else .val v :: entA r).toArray
    by_cases h : v.category = 2
    · rw [if_pos h, if_pos h]; simp
    · rw [if_neg h, if_neg h]; simp
theorem argsToLocals_eq (ws : List Value) (n : Nat) : argsToLocals ws.toArray n = (entL ws n).toArray := by
  unfold argsToLocals entL
  have h := entA_app ws #[]
  simp only [List.foldl_toArray', List.size_toArray] at *
  simp [h]
theorem entA_len {ρ : List Addr} : ∀ {v w : List Value}, SR ρ v w → (entA w).length = (entA v).length
  | [], _, h => by cases h; rfl
  | _ :: _, _, ⟨w, ws, h1, h2, h3⟩ => by
    subst h1
    unfold entA
    rw [h2.cat]
    split <;> simp [entA_len h3]
theorem entA_rel {ρ : List Addr} : ∀ {v w : List Value}, SR ρ v w → ∀ (m i : Nat) (s : Slot), (entA v ++ List.replicate m .unset)[i]? = some s → SlR ρ s (entA w ++ List.replicate m .unset)[i]?
  | [], _, h, m, i, s, q => by
    cases h
    simp only [entA, List.nil_append] at q ⊢
    rw [List.getElem?_replicate] at q
    split at q
    · cases q; trivial
    · cases q
  | v :: vs, _, ⟨w, ws, h1, h2, h3⟩, m, i, s, q => by
    subst h1
    unfold entA at q ⊢
    rw [h2.cat]
    split
    · rename_i c
      rw [if_pos c] at q
      match i, q with
      | 0, q => simp at q; subst q; exact ⟨w, h2, by simp⟩
      | 1, q => simp at q; subst q; simp [SlR]
      | i + 2, q => simp at q ⊢; exact entA_rel h3 m i s q
    · rename_i c
      rw [if_neg c] at q
      match i, q with
      | 0, q => simp at q; subst q; exact ⟨w, h2, by simp⟩
      | i + 1, q => simp at q ⊢; exact entA_rel h3 m i s q
theorem entA_wf : ∀ (ws : List Value) (m : Nat), (∀ (i : Nat) w, (entA ws ++ List.replicate m .unset)[i]? = some (.val w) → w.category = 2 → (entA ws ++ List.replicate m .unset)[i + 1]? = some .second) ∧
    ∀ (i : Nat), (entA ws ++ List.replicate m .unset)[i]? = some .second → ∃ j w, i = j + 1 ∧ (entA ws ++ List.replicate m .unset)[j]? = some (.val w) ∧ w.category = 2
  | [], m => by
    constructor
    · intro i w q
      simp only [entA, List.nil_append, List.getElem?_replicate] at q
      split at q <;> cases q
    · intro i q
      simp only [entA, List.nil_append, List.getElem?_replicate] at q
      split at q <;> cases q
  | v :: vs, m => by
    obtain ⟨h1, h2⟩ := entA_wf vs m
    unfold entA
    split
    · rename_i c
      constructor
      · intro i w q
        match i, q with
        | 0, q => intro _; simp
        | 1, q => simp at q
        | i + 2, q => simp at q ⊢; exact h1 i w q
      · intro i q
        match i, q with
        | 0, q => simp at q
        | 1, q => exact ⟨0, v, rfl, by simp, c⟩
        | i + 2, q =>
          simp at q
          obtain ⟨j, w, e, g1, g2⟩ := h2 i q
          exact ⟨j + 2, w, by omega, by simpa using g1, g2⟩
    · rename_i c
      constructor
      · intro i w q
        match i, q with
        | 0, q => intro z; simp at q; subst q; exact absurd z c
        | i + 1, q => simp at q ⊢; exact h1 i w q
      · intro i q
        match i, q with
        | 0, q => simp at q
        | i + 1, q =>
          simp at q
          obtain ⟨j, w, e, g1, g2⟩ := h2 i q
          exact ⟨j + 1, w, by omega, by simpa using g1, g2⟩
theorem LR.enter {ρ : List Addr} {v w : List Value} (h : SR ρ v w) {n : Nat} (hn : (entA v).length ≤ n) : LR ρ (entL v n) (argsToLocals w.toArray n) ∧ (argsToLocals w.toArray n).size = n := by
  rw [argsToLocals_eq]
  have hl := entA_len h
  refine ⟨⟨by simp [entL, hl], ?_, fun i s q => ?_⟩, by simp [entL, hl]; omega⟩
  · obtain ⟨h1, h2⟩ := entA_wf w (n - (entA w).length)
    exact ⟨fun i u q c => by simpa [entL] using h1 i u (by simpa [entL] using q) c, fun i q => by
      obtain ⟨j, u, e, g1, g2⟩ := h2 i (by simpa [entL] using q)
      exact ⟨j, u, e, by simpa [entL] using g1, g2⟩⟩
  · unfold entL at q ⊢
    rw [hl]
    simpa using entA_rel h _ i s q
end Jvm.Own
namespace Jvm.RoadKit
open Sem ClassFile Op Lib Jvm.Stand Jvm.Free Jvm.LawKit
section New
variable {p : Program} {l : Launch} {e : Env} {R : Room} {s : State} {m : MethodId} {args : Array Value} {below : List Frame} {meth : Method} {c : Code} {T : State} {locs : List Loc} {cells slots : Nat}
theorem retI (X : Stand p l e R s m args below meth c T locs cells slots) (hx : p.tables.exec = Jvm.exec) {pc : Nat} {Ls : Array Slot} {z : Int32} {rest : List Value} (hret : meth.sig.returnType = some .int) (hd : decode c.code pc = .ok (.ireturn, 1)) {fs : List Frame}
    (hl : ∀ (f : JFrame) (acts : List Action), f.method = m → f.locked = none → f.entered = [] → (doReturn e (T.setTop f) acts (some (.int z))).1 = T.setFrames fs) : Steps p.tables e below (T.setTop (mkF m pc Ls (.int z :: rest))) (T.setFrames fs) := by
  have hm' : T.vm.method? m = some meth := X.method'
  have hn : narrow .int (.int z) = .int z := rfl
  show Steps p.tables e below (T.setTop { method := m, pc := pc, locals := Ls, stack := _ :: rest, locked := none }) _
  jvm_step X.here [X.here.top, hx, hd, hm', hret, hn]
  first | (intro acts; rw [hl _ acts rfl rfl rfl]) | rw [hl _ _ rfl rfl rfl]
  exact Steps.refl _
end New
end Jvm.RoadKit
namespace Jvm.Own
open Jvm Jvm.ClassFile Sem Op Lib Jvm.Free Jvm.Stand Jvm.LawKit Jvm.RoadKit Bundle
/-! The plain heap and the real one -/
def tyA (b : Bool) : FieldType := if b then .boolean else .int
def CR (P : PD) (Z : State) (h : Heap) (ρ : List Addr) (a : Addr) : ACell → Prop
  | .inl (c, fs) => ∃ cd, P.cls[c]? = some cd ∧ Exa Z h a cd.1 ∧ fs.length = cd.2.2.length ∧ ∀ (i : Nat) v fd, fs[i]? = some v → cd.2.2[i]? = some fd → ∃ w, VR ρ v w ∧ Fld Z h a cd.1 fd.1 fd.2.1 w
  | .inr (.inl (b, L)) => ∃ cl, Arr Z h a cl (tyA b) ∧ cl.slots.size = L.length ∧ L.length < 2 ^ 31 ∧ ∀ (i : Nat) x, L[i]? = some x → cl.slots[i]? = some (.int x)
  | .inr (.inr L) => ∃ cl, Arr Z h a cl .long ∧ cl.slots.size = L.length ∧ L.length < 2 ^ 31 ∧ ∀ (i : Nat) x, L[i]? = some x → cl.slots[i]? = some (.long x)
def HR (P : PD) (Z : State) (n0 : Nat) (h : Heap) (ρ : List Addr) (H : AHeap) : Prop :=
  n0 ≤ h.size ∧ ρ.length = H.length ∧ (∀ (i j : Nat) a, ρ[i]? = some a → ρ[j]? = some a → i = j) ∧ (∀ (k : Nat) a, ρ[k]? = some a → P.nr ≤ k → n0 ≤ a) ∧ ∀ (k : Nat) a c, ρ[k]? = some a → H[k]? = some c → CR P Z h ρ a c
section Heaps
variable {P : PD} {Z : State} {n0 : Nat} {h h' : Heap} {ρ : List Addr} {H : AHeap} {a : Addr} {k : Nat} {a0 : Array Value}
theorem CR.lt {c : ACell} (q : CR P Z h ρ a c) : a < h.size := by
  match c, q with
  | .inl (_, _), q => obtain ⟨cd, -, E, -⟩ := q; exact E.lt
  | .inr (.inl (_, _)), q => obtain ⟨cl, A, -⟩ := q; exact A.lt
  | .inr (.inr _), q => obtain ⟨cl, A, -⟩ := q; exact A.lt
theorem HR.at (q : HR P Z n0 h ρ H) {c : ACell} (hc : H[k]? = some c) : ∃ a, ρ[k]? = some a ∧ CR P Z h ρ a c := by
  obtain ⟨-, q1, -, -, q4⟩ := q
  have hk : k < ρ.length := by rw [q1]; exact (List.getElem?_eq_some_iff.mp hc).1
  exact ⟨ρ[k], List.getElem?_eq_getElem hk, q4 k _ c (List.getElem?_eq_getElem hk) hc⟩
theorem HR.lt (q : HR P Z n0 h ρ H) (hk : ρ[k]? = some a) : a < h.size := by
  obtain ⟨-, q1, -, -, q4⟩ := q
  have hk' : k < H.length := by rw [← q1]; exact (List.getElem?_eq_some_iff.mp hk).1
  exact (q4 k a _ hk (List.getElem?_eq_getElem hk')).lt
theorem CR.grow {t : List Addr} {c : ACell} (E : Ext h h') (q : CR P Z h ρ a c) : CR P Z h' (ρ ++ t) a c := by
  match c, q with
  | .inl (_, _), ⟨cd, q1, q2, q3, q4⟩ => exact ⟨cd, q1, q2.ext E, q3, fun i v fd g1 g2 => by obtain ⟨w, z1, z2⟩ := q4 i v fd g1 g2; exact ⟨w, z1.mono, z2.ext E⟩⟩
  | .inr (.inl (_, _)), ⟨cl, q1, q2⟩ => exact ⟨cl, q1.ext E, q2⟩
  | .inr (.inr _), ⟨cl, q1, q2⟩ => exact ⟨cl, q1.ext E, q2⟩
theorem HR.push {c : ACell} (q : HR P Z n0 h ρ H) (E : Ext h h') (hc : CR P Z h' (ρ ++ [h.size]) h.size c) : HR P Z n0 h' (ρ ++ [h.size]) (H ++ [c]) := by
  have q0 := q
  obtain ⟨q1, q2, q3, q4, q5⟩ := q
  have old : ∀ (i : Nat) b, (ρ ++ [h.size])[i]? = some b → (ρ[i]? = some b ∧ b < h.size) ∨ (i = ρ.length ∧ b = h.size) := fun i b g => by
    rw [List.getElem?_append] at g
    split at g
    · exact Or.inl ⟨g, q0.lt g⟩
    · rename_i z
      right
      have : i - ρ.length = 0 := by
        rcases Nat.eq_zero_or_pos (i - ρ.length) with y | y
        · exact y
        · rw [List.getElem?_eq_none (by simp; omega)] at g; cases g
      rw [this] at g
      simp at g
      exact ⟨by omega, g.symm⟩
  refine ⟨Nat.le_trans q1 E.1, by simp [q2], fun i j b g1 g2 => ?_, fun i b g1 g2 => ?_, fun i b c' g1 g2 => ?_⟩
  · rcases old i b g1 with ⟨y1, y2⟩ | ⟨y1, y2⟩ <;> rcases old j b g2 with ⟨z1, z2⟩ | ⟨z1, z2⟩
    · exact q3 i j b y1 z1
    · exact absurd (z2 ▸ y2) (Nat.lt_irrefl _)
    · exact absurd (y2 ▸ z2) (Nat.lt_irrefl _)
    · rw [y1, z1]
  · rcases old i b g1 with ⟨y1, y2⟩ | ⟨y1, y2⟩
    · exact q4 i b y1 g2
    · rw [y2]; exact q1
  · rcases old i b g1 with ⟨y1, y2⟩ | ⟨y1, y2⟩
    · have hi : i < H.length := by rw [← q2]; exact (List.getElem?_eq_some_iff.mp y1).1
      rw [List.getElem?_append_left hi] at g2
      exact (q5 i b c' y1 g2).grow E
    · subst y1 y2
      rw [q2] at g2
      simp at g2
      subst g2
      exact hc
theorem CR.other {v : Value} {sl : Nat} {b : Addr} {c : ACell} (W : Wr h h' a sl v) (ne : b ≠ a) (q : CR P Z h ρ b c) : CR P Z h' ρ b c := by
  match c, q with
  | .inl (_, _), ⟨cd, q1, q2, q3, q4⟩ => exact ⟨cd, q1, q2.wr W, q3, fun i v fd g1 g2 => by obtain ⟨w, z1, z2⟩ := q4 i v fd g1 g2; exact ⟨w, z1, z2.other W (Or.inl ne)⟩⟩
  | .inr (.inl (_, _)), ⟨cl, q1, q2⟩ => exact ⟨cl, q1.other W ne, q2⟩
  | .inr (.inr _), ⟨cl, q1, q2⟩ => exact ⟨cl, q1.other W ne, q2⟩
theorem HR.set {v : Value} {sl : Nat} {c : ACell} (q : HR P Z n0 h ρ H) (hk : ρ[k]? = some a) (W : Wr h h' a sl v) (hc : CR P Z h' ρ a c) : HR P Z n0 h' ρ (H.set k c) := by
  obtain ⟨q1, q2, q3, q4, q5⟩ := q
  refine ⟨by rw [W.size]; exact q1, by simp [q2], q3, q4, fun i b c' g1 g2 => ?_⟩
  rw [List.getElem?_set] at g2
  split at g2
  · rename_i e
    subst e
    split at g2
    · cases g2
      rw [hk] at g1; cases g1
      exact hc
    · cases g2
  · rename_i e
    exact (q5 i b c' g1 g2).other W fun z => e (q3 k i a hk (z ▸ g1))
theorem nodup_ne : ∀ {l : List String}, nodup l = true → ∀ {i j : Nat} {x y : String}, l[i]? = some x → l[j]? = some y → i ≠ j → x ≠ y
  | [], _, i, j, x, y, h1, _, _ => by simp at h1
  | z :: r, hn, i, j, x, y, h1, h2, ne => by
    simp only [nodup, Bool.and_eq_true, Bool.not_eq_true', List.contains_eq_mem, decide_eq_false_iff_not] at hn
    match i, j, h1, h2, ne with
    | 0, 0, _, _, ne => exact absurd rfl ne
    | 0, j + 1, h1, h2, _ => simp at h1 h2; subst h1; exact fun e => hn.1 (e ▸ List.mem_of_getElem? h2)
    | i + 1, 0, h1, h2, _ => simp at h1 h2; subst h2; exact fun e => hn.1 (e ▸ List.mem_of_getElem? h1)
    | i + 1, j + 1, h1, h2, ne => simp at h1 h2; exact nodup_ne hn.2 h1 h2 (fun e => ne (by rw [e]))
theorem laid_of {C : String} {f : FD} (w : (fWord C f).before a0 Z = true) : Laid Z a0 C C f.1 f.2.1 := by
  unfold fWord at w
  split at w
  · exact Or.inr w
  · exact Or.inl w
theorem HR.putF {c j : Nat} {fs : List Value} {cd : CD} {fd : FD} {v w : Value} (q : HR P Z n0 h ρ H) (hk : ρ[k]? = some a) (hc : H[k]? = some (.inl (c, fs))) (hcd : P.cls[c]? = some cd) (hfd : cd.2.2[j]? = some fd)
    (hck : cChk cd = true) (hl : ∀ f ∈ cd.2.2, (fWord cd.1 f).before a0 Z = true) (W : Wr h h' a (RoadKit.slotOf Z cd.1 fd.1 fd.2.1) w) (hv : VR ρ v w) : HR P Z n0 h' ρ (H.set k (.inl (c, fs.set j v))) := by
  obtain ⟨a', ha, cr⟩ := q.at hc
  rw [hk] at ha; cases ha
  obtain ⟨cd', q1, q2, q3, q4⟩ := cr
  rw [hcd] at q1; cases q1
  refine q.set hk W ⟨cd, hcd, q2.wr W, by simp [q3], fun i v0 fd' g1 g2 => ?_⟩
  simp only [cChk, Bool.and_eq_true, List.all_eq_true] at hck
  obtain ⟨n1, n2⟩ := hck
  by_cases e : j = i
  · subst e
    rw [hfd] at g2; cases g2
    rw [List.getElem?_set] at g1
    split at g1
    · split at g1
      · cases g1
        rename_i z
        obtain ⟨w0, -, F⟩ := q4 j _ fd (List.getElem?_eq_getElem z) hfd
        exact ⟨w, hv, F.same W⟩
      · cases g1
    · rename_i z; exact absurd rfl z
  · rw [List.getElem?_set_ne e] at g1
    obtain ⟨w0, z1, F⟩ := q4 i v0 fd' g1 g2
    refine ⟨w0, z1, F.other W (Or.inr ?_)⟩
    have m1 := List.mem_of_getElem? hfd
    have m2 := List.mem_of_getElem? g2
    have f1 := n2 fd m1
    have f2 := n2 fd' m2
    simp only [fChk, Bool.and_eq_true, decide_eq_true_eq] at f1 f2
    refine slot_ne (laid_of (hl fd' m2)) (laid_of (hl fd m1)) ?_ f2.1 f1.1
    exact nodup_ne n1 (i := i) (j := j) (by simp [g2]) (by simp [hfd]) (fun z => e z.symm)
theorem HR.wrI {b : Bool} {L : List Int32} {i : Nat} {x : Int32} (q : HR P Z n0 h ρ H) (hk : ρ[k]? = some a) (hc : H[k]? = some (.inr (.inl (b, L)))) (W : Wr h h' a i (.int x)) : HR P Z n0 h' ρ (H.set k (.inr (.inl (b, L.set i x)))) := by
  obtain ⟨a', ha, cr⟩ := q.at hc
  rw [hk] at ha; cases ha
  obtain ⟨cl, A, q2, q3, q4⟩ := cr
  have lt : i < cl.slots.size := by
    obtain ⟨cl', z1, -, z3, -⟩ := W
    rw [A.1] at z1; cases z1
    exact z3
  refine q.set hk W ⟨_, A.same W, by simp [sz_set, q2], by simpa using q3, fun j y g => ?_⟩
  rw [List.getElem?_set] at g
  split at g
  · rename_i e
    subst e
    split at g
    · cases g; simp [Cell.setSlot, lt]
    · cases g
  · rename_i e
    have := q4 j y g
    simp [Cell.setSlot, Array.getElem?_setIfInBounds, e, this]
theorem HR.wrJ {L : List Int64} {i : Nat} {x : Int64} (q : HR P Z n0 h ρ H) (hk : ρ[k]? = some a) (hc : H[k]? = some (.inr (.inr L))) (W : Wr h h' a i (.long x)) : HR P Z n0 h' ρ (H.set k (.inr (.inr (L.set i x)))) := by
  obtain ⟨a', ha, cr⟩ := q.at hc
  rw [hk] at ha; cases ha
  obtain ⟨cl, A, q2, q3, q4⟩ := cr
  have lt : i < cl.slots.size := by
    obtain ⟨cl', z1, -, z3, -⟩ := W
    rw [A.1] at z1; cases z1
    exact z3
  refine q.set hk W ⟨_, A.same W, by simp [sz_set, q2], by simpa using q3, fun j y g => ?_⟩
  rw [List.getElem?_set] at g
  split at g
  · rename_i e
    subst e
    split at g
    · cases g; simp [Cell.setSlot, lt]
    · cases g
  · rename_i e
    have := q4 j y g
    simp [Cell.setSlot, Array.getElem?_setIfInBounds, e, this]
end Heaps
theorem SR.int {ρ : List Addr} {x : Int32} {S Sc : List Value} (h : SR ρ (.int x :: S) Sc) : ∃ Sc', Sc = .int x :: Sc' ∧ SR ρ S Sc' := by
  obtain ⟨w, ws, h1, h2, h3⟩ := h
  exact ⟨ws, by rw [h1, show w = .int x from h2], h3⟩
theorem SR.long {ρ : List Addr} {x : Int64} {S Sc : List Value} (h : SR ρ (.long x :: S) Sc) : ∃ Sc', Sc = .long x :: Sc' ∧ SR ρ S Sc' := by
  obtain ⟨w, ws, h1, h2, h3⟩ := h
  exact ⟨ws, by rw [h1, show w = .long x from h2], h3⟩
theorem SR.ref {ρ : List Addr} {x : Nat} {S Sc : List Value} (h : SR ρ (.ref x :: S) Sc) : ∃ a Sc', ρ[x]? = some a ∧ Sc = .ref a :: Sc' ∧ SR ρ S Sc' := by
  obtain ⟨w, ws, h1, ⟨a, h2, h4⟩, h3⟩ := h
  exact ⟨a, ws, h2, by rw [h1, h4], h3⟩
theorem rdA_spec {α : Type} {L : List α} {j : Int32} {x : α} (h : rdA L j = some x) : ¬ j < 0 ∧ L[j.toNatClampNeg]? = some x := by
  unfold rdA at h
  split at h
  · cases h
  · rename_i q; exact ⟨q, h⟩
theorem wrA_spec {α : Type} {L L' : List α} {j : Int32} {x : α} (h : wrA L j x = some L') : ¬ j < 0 ∧ j.toNatClampNeg < L.length ∧ L' = L.set j.toNatClampNeg x := by
  unfold wrA at h
  split at h
  · cases h
  · rename_i q
    split at h
    · rename_i z; cases h; exact ⟨q, z, rfl⟩
    · cases h
end Jvm.Own
namespace Jvm.Own
open Jvm Jvm.ClassFile Sem Op Lib Jvm.Free Jvm.Stand Jvm.LawKit Jvm.RoadKit Bundle
theorem st1_len {L L' : List Slot} {k : Nat} {v : Value} (h : st1 L k v = some L') : L'.length = L.length := by
  unfold st1 at h
  split at h
  · cases h; simp
  · cases h
theorem st2_len {L L' : List Slot} {k : Nat} {v : Value} (h : st2 L k v = some L') : L'.length = L.length := by
  unfold st2 at h
  split at h
  · cases h; simp
  · cases h
theorem lrem_mod (x y : Int64) : x - (x / y) * y = x % y := by
  apply Int64.toInt_inj.mp
  have h1 := Int64.le_toInt (x % y)
  have h2 := Int64.toInt_lt (x % y)
  rw [Int64.toInt_sub, Int64.toInt_mul, Int64.toInt_div, Int.bmod_mul_bmod, Int.sub_bmod_bmod, Int.mul_comm (x.toInt.tdiv y.toInt), ← Int.tmod_def, ← Int64.toInt_mod]
  exact Int.bmod_eq_of_le_mul_two (by omega) (by omega)
theorem putOk_sim {ρ : List Addr} {ty : FieldType} {v w : Value} (h : putOk ty v = true) (hv : VR ρ v w) : narrow ty w = w ∧ fits ty w = true := by
  cases ty <;> cases v <;> first | (simp [putOk] at h; done) | skip
  · cases hv; exact ⟨rfl, rfl⟩
  · cases hv; exact ⟨rfl, rfl⟩
  · rename_i x
    cases hv
    simp only [putOk, Bool.or_eq_true, beq_iff_eq] at h
    rcases h with rfl | rfl
    · exact ⟨rfl, rfl⟩
    · exact ⟨rfl, rfl⟩
  · obtain ⟨a, -, rfl⟩ := hv; exact ⟨rfl, rfl⟩
theorem dflt_sim {ρ : List Addr} {ty : FieldType} (h : dfOk ty = true) : VR ρ (dflt ty) (defaultValue ty) := by
  cases ty <;> first | (simp [dfOk] at h; done) | exact rfl
theorem fieldOf_spec {P : PD} {c a : Nat} {cd : CD} {f : FD} (h1 : P.cls[c]? = some cd) (h2 : cd.2.2[a]? = some f) : fieldOf P c a = some f := by simp [fieldOf, h1, h2]
theorem in_wordsOf {P : PD} {d : MD} {x : Nat × It} {w : Jvm.Cond} (hd : d ∈ P.mth) (hx : x ∈ d.code) (hw : w ∈ iWords P d x) : w ∈ wordsOf P :=
  List.mem_append_right _ (List.mem_flatMap.mpr ⟨d, hd, List.mem_flatMap.mpr ⟨x, hx, hw⟩⟩)
theorem in_wordsC {P : PD} {cd : CD} {w : Jvm.Cond} (hd : cd ∈ P.cls) (hw : w ∈ cWords cd) : w ∈ wordsOf P :=
  List.mem_append_left _ (List.mem_append_left _ (List.mem_flatMap.mpr ⟨cd, hd, hw⟩))
theorem in_wordsM {P : PD} {y : MD} {j : Nat} {w : Jvm.Cond} (hd : P.mth[j]? = some y) (hj : 0 < j) (hw : w ∈ mWords y) : w ∈ wordsOf P := by
  refine List.mem_append_left _ (List.mem_append_right _ (List.mem_flatMap.mpr ⟨y, ?_, hw⟩))
  have : (P.mth.drop 1)[j - 1]? = some y := by rw [List.getElem?_drop]; rw [show 1 + (j - 1) = j by omega]; exact hd
  exact List.mem_of_getElem? this
theorem fWord_in {cd : CD} {f : FD} (h : f ∈ cd.2.2) : fWord cd.1 f ∈ cWords cd := List.mem_cons_of_mem _ (List.mem_cons_of_mem _ (List.mem_map.mpr ⟨f, h, rfl⟩))
theorem cChk_of {P : PD} (hP : chk P = true) {cd : CD} (h : cd ∈ P.cls) : cChk cd = true := by
  simp only [chk, Bool.and_eq_true, List.all_eq_true] at hP
  exact hP.1 cd h
theorem mChk_of {P : PD} (hP : chk P = true) {d : MD} (h : d ∈ P.mth) : mChk P d = true := by
  simp only [chk, Bool.and_eq_true, List.all_eq_true] at hP
  exact hP.2 d h
theorem cid_of {P : PD} (hP : chk P = true) {d : MD} (h : d ∈ P.mth) {cd : CD} (hc : P.cls[d.cid]? = some cd) : cd.1 = d.name.cls := by
  have := mChk_of hP h
  simp only [mChk, Bool.and_eq_true] at this
  have h4 := this.1.1.1.2
  unfold clsChk at h4
  rw [hc] at h4
  simpa using h4
section Step
variable {P : PD} {Z : State} {n0 : Nat} {a0 : Array Value} {l : Launch} {p : Program} {e : Env} {R : Room} {s : State} {m : MethodId} {args : Array Value} {below : List Frame} {meth : Method} {c : Code} {T : State} {locs : List Loc} {cells slots : Nat} {d : MD}
def Nxt (P : PD) (Z : State) (n0 : Nat) (l : Launch) (p : Program) (e : Env) (R : Room) (s : State) (m : MethodId) (args : Array Value) (below : List Frame) (meth : Method) (c : Code) (T : State) (cells slots : Nat) (ρ : List Addr) (g : JFrame) (pc' : Nat) (L L' : List Slot) (S' : List Value) (H1 : AHeap) : Prop :=
  ∃ T' locs' A' Sc', Stand p l e R s m args below meth c T' locs' cells slots ∧ L'.length = L.length ∧ LR ρ L' A' ∧ SR ρ S' Sc' ∧ HR P Z n0 T'.heap ρ H1 ∧ Fr n0 locs' ∧
    ∀ target, Steps p.tables e below (T'.setTop (mkF m pc' A' Sc')) target → Steps p.tables e below (T.setTop g) target
theorem Nxt.pure {ρ : List Addr} {H : AHeap} {g : JFrame} {pc' : Nat} {L L' : List Slot} {S' Sc' : List Value} {A' : Array Slot} (X : Stand p l e R s m args below meth c T locs cells slots) (hl : L'.length = L.length) (hL : LR ρ L' A') (hS : SR ρ S' Sc') (hH : HR P Z n0 T.heap ρ H) (hF : Fr n0 locs)
    (k : ∀ target, Steps p.tables e below (T.setTop (mkF m pc' A' Sc')) target → Steps p.tables e below (T.setTop g) target) : Nxt P Z n0 l p e R s m args below meth c T cells slots ρ g pc' L L' S' H :=
  ⟨T, locs, A', Sc', X, hl, hL, hS, hH, hF, k⟩
theorem Nxt.mem {ρ : List Addr} {H1 : AHeap} {g : JFrame} {pc' : Nat} {L L' : List Slot} {S' Sc' : List Value} {A' : Array Slot} {T' : State} {locs' : List Loc} (X : Stand p l e R s m args below meth c T' locs' cells slots) (hl : L'.length = L.length) (hL : LR ρ L' A') (hS : SR ρ S' Sc') (hH : HR P Z n0 T'.heap ρ H1) (hF : Fr n0 locs')
    (k : ∀ target, Steps p.tables e below (T'.setTop (mkF m pc' A' Sc')) target → Steps p.tables e below (T.setTop g) target) : Nxt P Z n0 l p e R s m args below meth c T cells slots ρ g pc' L L' S' H1 :=
  ⟨T', locs', A', Sc', X, hl, hL, hS, hH, hF, k⟩
set_option maxHeartbeats 4000000 in
theorem stepX (X : Stand p l e R s m args below meth c T locs cells slots) (hx : p.tables.exec = Jvm.exec) (hZ : Z.Warmed39 s.vm) (hown : s.vm.findClass d.name.cls = some m.cls) (hnm : meth.name = d.name.name) (hP : chk P = true) (hW : ∀ w ∈ wordsOf P, w.before a0 Z = true) (hdm : d ∈ P.mth)
    {pc len a : Nat} {er : List Bool} {b : Int} {i : Instr} (hit : (pc, i, len, er, a, b) ∈ d.code) (hd : decode c.code pc = .ok (i, len)) (hlen : lenOk i len = true) {ρ : List Addr} {L L' : List Slot} {S S' Sc : List Value} {H H1 : AHeap} {A : Array Slot}
    (hL : LR ρ L A) (hS : SR ρ S Sc) (hH : HR P Z n0 T.heap ρ H) (hF : Fr n0 locs) (h : xI P (d.name.name == "<init>") d.cid i a b L S H = some (L', S', H1)) :
    Nxt P Z n0 l p e R s m args below meth c T cells slots ρ (mkF m pc A Sc) (pc + len) L L' S' H1 := by
  have hWi : ∀ w ∈ iWords P d (pc, i, len, er, a, b), w.before a0 Z = true := fun w q => hW w (in_wordsOf hdm hit q)
  cases i with
  | aload_n k =>
    obtain rfl : len = 1 := by simpa [lenOk] using hlen
    simp only [xI] at h
    split at h
    · rename_i x q
      cases h
      obtain ⟨w, hv, hg⟩ := hL.get q
      obtain ⟨ad, h1, rfl⟩ := hv
      exact Nxt.pure X rfl hL ⟨_, _, rfl, ⟨ad, h1, rfl⟩, hS⟩ hH hF (fun t z => XS.aloadN (g := mkF m pc A Sc) X.here hx rfl hd hg rfl z)
    · cases h
  | aload k =>
    obtain rfl : len = 2 := by simpa [lenOk] using hlen
    simp only [xI] at h
    split at h
    · rename_i x q
      cases h
      obtain ⟨w, hv, hg⟩ := hL.get q
      obtain ⟨ad, h1, rfl⟩ := hv
      exact Nxt.pure X rfl hL ⟨_, _, rfl, ⟨ad, h1, rfl⟩, hS⟩ hH hF (fun t z => XS.aload (g := mkF m pc A Sc) X.here hx rfl hd hg rfl z)
    · cases h
  | iload_n k =>
    obtain rfl : len = 1 := by simpa [lenOk] using hlen
    simp only [xI] at h
    split at h
    · rename_i x q
      cases h
      obtain ⟨w, hv, hg⟩ := hL.get q
      obtain rfl : w = .int _ := hv
      exact Nxt.pure X rfl hL ⟨_, _, rfl, rfl, hS⟩ hH hF (fun t z => XS.iloadN (g := mkF m pc A Sc) X.here hx rfl hd hg z)
    · cases h
  | iload k =>
    obtain rfl : len = 2 := by simpa [lenOk] using hlen
    simp only [xI] at h
    split at h
    · rename_i x q
      cases h
      obtain ⟨w, hv, hg⟩ := hL.get q
      obtain rfl : w = .int _ := hv
      exact Nxt.pure X rfl hL ⟨_, _, rfl, rfl, hS⟩ hH hF (fun t z => XS.iload (g := mkF m pc A Sc) X.here hx rfl hd hg z)
    · cases h
  | lload_n k =>
    obtain rfl : len = 1 := by simpa [lenOk] using hlen
    simp only [xI] at h
    split at h
    · rename_i x q
      cases h
      obtain ⟨w, hv, hg⟩ := hL.get q
      obtain rfl : w = .long _ := hv
      exact Nxt.pure X rfl hL ⟨_, _, rfl, rfl, hS⟩ hH hF (fun t z => XT.lloadN (g := mkF m pc A Sc) X.here hx rfl hd hg z)
    · cases h
  | lload k =>
    obtain rfl : len = 2 := by simpa [lenOk] using hlen
    simp only [xI] at h
    split at h
    · rename_i x q
      cases h
      obtain ⟨w, hv, hg⟩ := hL.get q
      obtain rfl : w = .long _ := hv
      exact Nxt.pure X rfl hL ⟨_, _, rfl, rfl, hS⟩ hH hF (fun t z => XT.lload (g := mkF m pc A Sc) X.here hx rfl hd hg z)
    · cases h
  | istore_n k =>
    obtain rfl : len = 1 := by simpa [lenOk] using hlen
    simp only [xI] at h
    split at h
    · rename_i x S0
      obtain ⟨L1, q, e1⟩ := Option.map_eq_some_iff.mp h
      cases e1
      obtain ⟨S2, rfl, h2⟩ := hS.int
      obtain ⟨A', z1, z2⟩ := store1_sim hL q (show VR ρ (.int x) (.int x) from rfl) rfl
      exact Nxt.pure X (st1_len q) z2 h2 hH hF (fun t z => XS.istoreN (g := mkF m pc A _) X.here hx rfl hd rfl z1 z)
    · cases h
  | istore k =>
    obtain rfl : len = 2 := by simpa [lenOk] using hlen
    simp only [xI] at h
    split at h
    · rename_i x S0
      obtain ⟨L1, q, e1⟩ := Option.map_eq_some_iff.mp h
      cases e1
      obtain ⟨S2, rfl, h2⟩ := hS.int
      obtain ⟨A', z1, z2⟩ := store1_sim hL q (show VR ρ (.int x) (.int x) from rfl) rfl
      exact Nxt.pure X (st1_len q) z2 h2 hH hF (fun t z => XS.istore (g := mkF m pc A _) X.here hx rfl hd rfl z1 z)
    · cases h
  | astore_n k =>
    obtain rfl : len = 1 := by simpa [lenOk] using hlen
    simp only [xI] at h
    split at h
    · rename_i x S0
      obtain ⟨L1, q, e1⟩ := Option.map_eq_some_iff.mp h
      cases e1
      obtain ⟨ad, S2, h1, rfl, h2⟩ := hS.ref
      obtain ⟨A', z1, z2⟩ := store1_sim hL q (show VR ρ (.ref x) (.ref ad) from ⟨ad, h1, rfl⟩) rfl
      exact Nxt.pure X (st1_len q) z2 h2 hH hF (fun t z => XS.astoreN (g := mkF m pc A _) X.here hx rfl hd rfl rfl z1 z)
    · cases h
  | astore k =>
    obtain rfl : len = 2 := by simpa [lenOk] using hlen
    simp only [xI] at h
    split at h
    · rename_i x S0
      obtain ⟨L1, q, e1⟩ := Option.map_eq_some_iff.mp h
      cases e1
      obtain ⟨ad, S2, h1, rfl, h2⟩ := hS.ref
      obtain ⟨A', z1, z2⟩ := store1_sim hL q (show VR ρ (.ref x) (.ref ad) from ⟨ad, h1, rfl⟩) rfl
      exact Nxt.pure X (st1_len q) z2 h2 hH hF (fun t z => XS.astore (g := mkF m pc A _) X.here hx rfl hd rfl rfl z1 z)
    · cases h
  | lstore_n k =>
    obtain rfl : len = 1 := by simpa [lenOk] using hlen
    simp only [xI] at h
    split at h
    · rename_i x S0
      obtain ⟨L1, q, e1⟩ := Option.map_eq_some_iff.mp h
      cases e1
      obtain ⟨S2, rfl, h2⟩ := hS.long
      obtain ⟨A', z1, z2⟩ := store2_sim hL q (show VR ρ (.long x) (.long x) from rfl) rfl
      exact Nxt.pure X (st2_len q) z2 h2 hH hF (fun t z => XT.lstoreN (g := mkF m pc A _) X.here hx rfl hd rfl z1 z)
    · cases h
  | lstore k =>
    obtain rfl : len = 2 := by simpa [lenOk] using hlen
    simp only [xI] at h
    split at h
    · rename_i x S0
      obtain ⟨L1, q, e1⟩ := Option.map_eq_some_iff.mp h
      cases e1
      obtain ⟨S2, rfl, h2⟩ := hS.long
      obtain ⟨A', z1, z2⟩ := store2_sim hL q (show VR ρ (.long x) (.long x) from rfl) rfl
      exact Nxt.pure X (st2_len q) z2 h2 hH hF (fun t z => XT.lstore (g := mkF m pc A _) X.here hx rfl hd rfl z1 z)
    · cases h
  | iinc k dd =>
    obtain rfl : len = 3 := by simpa [lenOk] using hlen
    simp only [xI] at h
    split at h
    · rename_i x q0
      obtain ⟨L1, q, e1⟩ := Option.map_eq_some_iff.mp h
      cases e1
      obtain ⟨w, hv, hg⟩ := hL.get q0
      obtain rfl : w = .int _ := hv
      obtain ⟨A', z1, z2⟩ := store1_sim hL q (show VR ρ (.int (x + Int32.ofInt dd)) (.int (x + Int32.ofInt dd)) from rfl) rfl
      exact Nxt.pure X (st1_len q) z2 hS hH hF (fun t z => XS.iinc (g := mkF m pc A Sc) X.here hx rfl hd hg z1 z)
    · cases h
  | iconst v =>
    obtain rfl : len = 1 := by simpa [lenOk] using hlen
    simp only [xI] at h
    cases h
    exact Nxt.pure X rfl hL ⟨_, _, rfl, rfl, hS⟩ hH hF (fun t z => XS.iconst (g := mkF m pc A Sc) X.here hx rfl hd z)
  | bipush v =>
    obtain rfl : len = 2 := by simpa [lenOk] using hlen
    simp only [xI] at h
    cases h
    exact Nxt.pure X rfl hL ⟨_, _, rfl, rfl, hS⟩ hH hF (fun t z => XS.bipush (g := mkF m pc A Sc) X.here hx rfl hd z)
  | sipush v =>
    obtain rfl : len = 3 := by simpa [lenOk] using hlen
    simp only [xI] at h
    cases h
    exact Nxt.pure X rfl hL ⟨_, _, rfl, rfl, hS⟩ hH hF (fun t z => XS.sipush (g := mkF m pc A Sc) X.here hx rfl hd z)
  | lconst v =>
    obtain rfl : len = 1 := by simpa [lenOk] using hlen
    simp only [xI] at h
    cases h
    exact Nxt.pure X rfl hL ⟨_, _, rfl, rfl, hS⟩ hH hF (fun t z => XT.lconst (g := mkF m pc A Sc) X.here hx rfl hd z)
  | ldc k =>
    obtain rfl : len = 2 := by simpa [lenOk] using hlen
    simp only [xI] at h
    cases h
    have w1 := hWi (.constant d.name.cls k (Int32.ofInt b)) (List.mem_singleton.mpr rfl)
    exact Nxt.pure X rfl hL ⟨_, _, rfl, rfl, hS⟩ hH hF (fun t z => X.ldcInt hx hown (mvT hZ w1) (g := mkF m pc A Sc) rfl hd t z)
  | ldc2_w k =>
    obtain rfl : len = 3 := by simpa [lenOk] using hlen
    simp only [xI] at h
    cases h
    have w1 := hWi (.constantLong d.name.cls k (Int64.ofInt b)) (List.mem_singleton.mpr rfl)
    exact Nxt.pure X rfl hL ⟨_, _, rfl, rfl, hS⟩ hH hF (fun t z => X.ldc2Long hx hown (mvT hZ w1) (g := mkF m pc A Sc) rfl hd t z)
  | iadd =>
    obtain rfl : len = 1 := by simpa [lenOk] using hlen
    simp only [xI] at h
    split at h
    · rename_i y x S0
      cases h
      obtain ⟨S1, rfl, h1⟩ := hS.int
      obtain ⟨S2, rfl, h2⟩ := h1.int
      exact Nxt.pure X rfl hL ⟨_, _, rfl, rfl, h2⟩ hH hF (fun t z => XS.iadd (g := mkF m pc A _) X.here hx rfl hd rfl z)
    · cases h
  | isub =>
    obtain rfl : len = 1 := by simpa [lenOk] using hlen
    simp only [xI] at h
    split at h
    · rename_i y x S0
      cases h
      obtain ⟨S1, rfl, h1⟩ := hS.int
      obtain ⟨S2, rfl, h2⟩ := h1.int
      exact Nxt.pure X rfl hL ⟨_, _, rfl, rfl, h2⟩ hH hF (fun t z => XS.isub (g := mkF m pc A _) X.here hx rfl hd rfl z)
    · cases h
  | imul =>
    obtain rfl : len = 1 := by simpa [lenOk] using hlen
    simp only [xI] at h
    split at h
    · rename_i y x S0
      cases h
      obtain ⟨S1, rfl, h1⟩ := hS.int
      obtain ⟨S2, rfl, h2⟩ := h1.int
      exact Nxt.pure X rfl hL ⟨_, _, rfl, rfl, h2⟩ hH hF (fun t z => XS.imul (g := mkF m pc A _) X.here hx rfl hd rfl z)
    · cases h
  | iand =>
    obtain rfl : len = 1 := by simpa [lenOk] using hlen
    simp only [xI] at h
    split at h
    · rename_i y x S0
      cases h
      obtain ⟨S1, rfl, h1⟩ := hS.int
      obtain ⟨S2, rfl, h2⟩ := h1.int
      exact Nxt.pure X rfl hL ⟨_, _, rfl, rfl, h2⟩ hH hF (fun t z => XS.iand (g := mkF m pc A _) X.here hx rfl hd rfl z)
    · cases h
  | ior =>
    obtain rfl : len = 1 := by simpa [lenOk] using hlen
    simp only [xI] at h
    split at h
    · rename_i y x S0
      cases h
      obtain ⟨S1, rfl, h1⟩ := hS.int
      obtain ⟨S2, rfl, h2⟩ := h1.int
      exact Nxt.pure X rfl hL ⟨_, _, rfl, rfl, h2⟩ hH hF (fun t z => XT.ior (g := mkF m pc A _) X.here hx rfl hd rfl z)
    · cases h
  | ixor =>
    obtain rfl : len = 1 := by simpa [lenOk] using hlen
    simp only [xI] at h
    split at h
    · rename_i y x S0
      cases h
      obtain ⟨S1, rfl, h1⟩ := hS.int
      obtain ⟨S2, rfl, h2⟩ := h1.int
      exact Nxt.pure X rfl hL ⟨_, _, rfl, rfl, h2⟩ hH hF (fun t z => XT.ixor (g := mkF m pc A _) X.here hx rfl hd rfl z)
    · cases h
  | ishl =>
    obtain rfl : len = 1 := by simpa [lenOk] using hlen
    simp only [xI] at h
    split at h
    · rename_i y x S0
      cases h
      obtain ⟨S1, rfl, h1⟩ := hS.int
      obtain ⟨S2, rfl, h2⟩ := h1.int
      exact Nxt.pure X rfl hL ⟨_, _, rfl, rfl, h2⟩ hH hF (fun t z => XT.ishl (g := mkF m pc A _) X.here hx rfl hd rfl z)
    · cases h
  | ishr =>
    obtain rfl : len = 1 := by simpa [lenOk] using hlen
    simp only [xI] at h
    split at h
    · rename_i y x S0
      cases h
      obtain ⟨S1, rfl, h1⟩ := hS.int
      obtain ⟨S2, rfl, h2⟩ := h1.int
      exact Nxt.pure X rfl hL ⟨_, _, rfl, rfl, h2⟩ hH hF (fun t z => XT.ishr (g := mkF m pc A _) X.here hx rfl hd rfl z)
    · cases h
  | iushr =>
    obtain rfl : len = 1 := by simpa [lenOk] using hlen
    simp only [xI] at h
    split at h
    · rename_i y x S0
      cases h
      obtain ⟨S1, rfl, h1⟩ := hS.int
      obtain ⟨S2, rfl, h2⟩ := h1.int
      exact Nxt.pure X rfl hL ⟨_, _, rfl, rfl, h2⟩ hH hF (fun t z => XT.iushr (g := mkF m pc A _) X.here hx rfl hd rfl z)
    · cases h
  | ladd =>
    obtain rfl : len = 1 := by simpa [lenOk] using hlen
    simp only [xI] at h
    split at h
    · rename_i y x S0
      cases h
      obtain ⟨S1, rfl, h1⟩ := hS.long
      obtain ⟨S2, rfl, h2⟩ := h1.long
      exact Nxt.pure X rfl hL ⟨_, _, rfl, rfl, h2⟩ hH hF (fun t z => XT.ladd (g := mkF m pc A _) X.here hx rfl hd rfl z)
    · cases h
  | lsub =>
    obtain rfl : len = 1 := by simpa [lenOk] using hlen
    simp only [xI] at h
    split at h
    · rename_i y x S0
      cases h
      obtain ⟨S1, rfl, h1⟩ := hS.long
      obtain ⟨S2, rfl, h2⟩ := h1.long
      exact Nxt.pure X rfl hL ⟨_, _, rfl, rfl, h2⟩ hH hF (fun t z => XT.lsub (g := mkF m pc A _) X.here hx rfl hd rfl z)
    · cases h
  | lmul =>
    obtain rfl : len = 1 := by simpa [lenOk] using hlen
    simp only [xI] at h
    split at h
    · rename_i y x S0
      cases h
      obtain ⟨S1, rfl, h1⟩ := hS.long
      obtain ⟨S2, rfl, h2⟩ := h1.long
      exact Nxt.pure X rfl hL ⟨_, _, rfl, rfl, h2⟩ hH hF (fun t z => XT.lmul (g := mkF m pc A _) X.here hx rfl hd rfl z)
    · cases h
  | land =>
    obtain rfl : len = 1 := by simpa [lenOk] using hlen
    simp only [xI] at h
    split at h
    · rename_i y x S0
      cases h
      obtain ⟨S1, rfl, h1⟩ := hS.long
      obtain ⟨S2, rfl, h2⟩ := h1.long
      exact Nxt.pure X rfl hL ⟨_, _, rfl, rfl, h2⟩ hH hF (fun t z => XT.land (g := mkF m pc A _) X.here hx rfl hd rfl z)
    · cases h
  | lor =>
    obtain rfl : len = 1 := by simpa [lenOk] using hlen
    simp only [xI] at h
    split at h
    · rename_i y x S0
      cases h
      obtain ⟨S1, rfl, h1⟩ := hS.long
      obtain ⟨S2, rfl, h2⟩ := h1.long
      exact Nxt.pure X rfl hL ⟨_, _, rfl, rfl, h2⟩ hH hF (fun t z => XT.lor (g := mkF m pc A _) X.here hx rfl hd rfl z)
    · cases h
  | lxor =>
    obtain rfl : len = 1 := by simpa [lenOk] using hlen
    simp only [xI] at h
    split at h
    · rename_i y x S0
      cases h
      obtain ⟨S1, rfl, h1⟩ := hS.long
      obtain ⟨S2, rfl, h2⟩ := h1.long
      exact Nxt.pure X rfl hL ⟨_, _, rfl, rfl, h2⟩ hH hF (fun t z => XT.lxor (g := mkF m pc A _) X.here hx rfl hd rfl z)
    · cases h
  | lcmp =>
    obtain rfl : len = 1 := by simpa [lenOk] using hlen
    simp only [xI] at h
    split at h
    · rename_i y x S0
      cases h
      obtain ⟨S1, rfl, h1⟩ := hS.long
      obtain ⟨S2, rfl, h2⟩ := h1.long
      exact Nxt.pure X rfl hL ⟨_, _, rfl, rfl, h2⟩ hH hF (fun t z => XT.lcmp (g := mkF m pc A _) X.here hx rfl hd rfl z)
    · cases h
  | lshl =>
    obtain rfl : len = 1 := by simpa [lenOk] using hlen
    simp only [xI] at h
    split at h
    · rename_i y x S0
      cases h
      obtain ⟨S1, rfl, h1⟩ := hS.int
      obtain ⟨S2, rfl, h2⟩ := h1.long
      exact Nxt.pure X rfl hL ⟨_, _, rfl, rfl, h2⟩ hH hF (fun t z => XT.lshl (g := mkF m pc A _) X.here hx rfl hd rfl z)
    · cases h
  | lshr =>
    obtain rfl : len = 1 := by simpa [lenOk] using hlen
    simp only [xI] at h
    split at h
    · rename_i y x S0
      cases h
      obtain ⟨S1, rfl, h1⟩ := hS.int
      obtain ⟨S2, rfl, h2⟩ := h1.long
      exact Nxt.pure X rfl hL ⟨_, _, rfl, rfl, h2⟩ hH hF (fun t z => XT.lshr (g := mkF m pc A _) X.here hx rfl hd rfl z)
    · cases h
  | lushr =>
    obtain rfl : len = 1 := by simpa [lenOk] using hlen
    simp only [xI] at h
    split at h
    · rename_i y x S0
      cases h
      obtain ⟨S1, rfl, h1⟩ := hS.int
      obtain ⟨S2, rfl, h2⟩ := h1.long
      exact Nxt.pure X rfl hL ⟨_, _, rfl, rfl, h2⟩ hH hF (fun t z => XT.lushr (g := mkF m pc A _) X.here hx rfl hd rfl z)
    · cases h
  | idiv =>
    obtain rfl : len = 1 := by simpa [lenOk] using hlen
    simp only [xI] at h
    split at h
    · rename_i y x S0
      split at h
      · cases h
      · rename_i hy
        cases h
        obtain ⟨S1, rfl, h1⟩ := hS.int
        obtain ⟨S2, rfl, h2⟩ := h1.int
        exact Nxt.pure X rfl hL ⟨_, _, rfl, rfl, h2⟩ hH hF (fun t z => XS.idiv (g := mkF m pc A _) X.here hx rfl hd rfl hy z)
    · cases h
  | irem =>
    obtain rfl : len = 1 := by simpa [lenOk] using hlen
    simp only [xI] at h
    split at h
    · rename_i y x S0
      split at h
      · cases h
      · rename_i hy
        cases h
        obtain ⟨S1, rfl, h1⟩ := hS.int
        obtain ⟨S2, rfl, h2⟩ := h1.int
        exact Nxt.pure X rfl hL ⟨_, _, rfl, rfl, h2⟩ hH hF (fun t z => iremM (g := mkF m pc A _) X hx rfl hd rfl hy z)
    · cases h
  | ldiv =>
    obtain rfl : len = 1 := by simpa [lenOk] using hlen
    simp only [xI] at h
    split at h
    · rename_i y x S0
      split at h
      · cases h
      · rename_i hy
        cases h
        obtain ⟨S1, rfl, h1⟩ := hS.long
        obtain ⟨S2, rfl, h2⟩ := h1.long
        exact Nxt.pure X rfl hL ⟨_, _, rfl, rfl, h2⟩ hH hF (fun t z => XT.ldiv (g := mkF m pc A _) X.here hx rfl hd rfl hy z)
    · cases h
  | lrem =>
    obtain rfl : len = 1 := by simpa [lenOk] using hlen
    simp only [xI] at h
    split at h
    · rename_i y x S0
      split at h
      · cases h
      · rename_i hy
        cases h
        obtain ⟨S1, rfl, h1⟩ := hS.long
        obtain ⟨S2, rfl, h2⟩ := h1.long
        exact Nxt.pure X rfl hL ⟨_, _, rfl, rfl, h2⟩ hH hF (fun t z => XT.lrem (g := mkF m pc A _) X.here hx rfl hd rfl hy (by rw [lrem_mod]; exact z))
    · cases h
  | i2l =>
    obtain rfl : len = 1 := by simpa [lenOk] using hlen
    simp only [xI] at h
    split at h
    · rename_i x S0
      cases h
      obtain ⟨S1, rfl, h1⟩ := hS.int
      exact Nxt.pure X rfl hL ⟨_, _, rfl, rfl, h1⟩ hH hF (fun t z => XT.i2l (g := mkF m pc A _) X.here hx rfl hd rfl z)
    · cases h
  | l2i =>
    obtain rfl : len = 1 := by simpa [lenOk] using hlen
    simp only [xI] at h
    split at h
    · rename_i x S0
      cases h
      obtain ⟨S1, rfl, h1⟩ := hS.long
      exact Nxt.pure X rfl hL ⟨_, _, rfl, rfl, h1⟩ hH hF (fun t z => XT.l2i (g := mkF m pc A _) X.here hx rfl hd rfl z)
    · cases h
  | dup =>
    obtain rfl : len = 1 := by simpa [lenOk] using hlen
    simp only [xI] at h
    split at h
    · rename_i x S0
      cases h
      obtain ⟨S1, rfl, h1⟩ := hS.int
      exact Nxt.pure X rfl hL ⟨_, _, rfl, rfl, _, _, rfl, rfl, h1⟩ hH hF (fun t z => XS.dup (g := mkF m pc A _) X.here hx rfl hd rfl rfl z)
    · rename_i x S0
      cases h
      obtain ⟨ad, S1, g1, rfl, h1⟩ := hS.ref
      exact Nxt.pure X rfl hL ⟨_, _, rfl, ⟨ad, g1, rfl⟩, _, _, rfl, ⟨ad, g1, rfl⟩, h1⟩ hH hF (fun t z => XS.dup (g := mkF m pc A _) X.here hx rfl hd rfl rfl z)
    · cases h
  | dup2 =>
    obtain rfl : len = 1 := by simpa [lenOk] using hlen
    simp only [xI] at h
    split at h
    · rename_i x y S0
      cases h
      obtain ⟨S1, rfl, h1⟩ := hS.int
      obtain ⟨ad, S2, g1, rfl, h2⟩ := h1.ref
      exact Nxt.pure X rfl hL ⟨_, _, rfl, rfl, _, _, rfl, ⟨ad, g1, rfl⟩, _, _, rfl, rfl, _, _, rfl, ⟨ad, g1, rfl⟩, h2⟩ hH hF (fun t z => XT.dup2 (g := mkF m pc A _) X.here hx rfl hd rfl rfl rfl z)
    · rename_i x S0
      cases h
      obtain ⟨S1, rfl, h1⟩ := hS.long
      exact Nxt.pure X rfl hL ⟨_, _, rfl, rfl, _, _, rfl, rfl, h1⟩ hH hF (fun t z => XT.dup2L (g := mkF m pc A _) X.here hx rfl hd rfl z)
    · cases h
  | pop =>
    obtain rfl : len = 1 := by simpa [lenOk] using hlen
    simp only [xI] at h
    split at h
    · rename_i x S0
      cases h
      obtain ⟨S1, rfl, h1⟩ := hS.int
      exact Nxt.pure X rfl hL h1 hH hF (fun t z => XT.pop (g := mkF m pc A _) X.here hx rfl hd rfl rfl z)
    · cases h
  | getfield k =>
    obtain rfl : len = 3 := by simpa [lenOk] using hlen
    simp only [xI] at h
    split at h
    · rename_i o S0
      obtain ⟨ad, S1, g1, rfl, h1⟩ := hS.ref
      split at h
      · rename_i c0 fs hc0
        split at h
        · rename_i ec
          subst ec
          obtain ⟨ad', g2, cd, q1, q2, q3, q4⟩ := hH.at hc0
          rw [g1] at g2; cases g2
          have hcd := cid_of hP hdm q1
          have core : ∀ v, fs[a]? = some v → ∃ w T2, VR ρ v w ∧ Stand p l e R s m args below meth c T2 locs cells slots ∧ T2.heap = T.heap ∧ ∀ target, Steps p.tables e below (T2.setTop (mkF m (pc + 3) A (w :: S1))) target → Steps p.tables e below (T.setTop (mkF m pc A (.ref ad :: S1))) target := fun v hv => by
            have ha : a < cd.2.2.length := by rw [← q3]; exact (List.getElem?_eq_some_iff.mp hv).1
            obtain ⟨w, hvw, F⟩ := q4 a v _ hv (List.getElem?_eq_getElem ha)
            have w1 := hWi (.fieldLink d.name.cls k d.name.cls cd.2.2[a].1 cd.2.2[a].2.1) (by
              show _ ∈ fLink P d k a
              unfold fLink
              rw [fieldOf_spec q1 (List.getElem?_eq_getElem ha)]
              exact List.mem_singleton.mpr rfl)
            rw [hcd] at F
            obtain ⟨T2, X2, e2, st2⟩ := getF X hx hZ hown (host := "") (Or.inl w1) Via.refl rfl F (g := mkF m pc A (.ref ad :: S1)) rfl rfl hd
            exact ⟨w, T2, hvw, X2, e2, st2⟩
          split at h
          · rename_i x hv
            cases h
            obtain ⟨w, T2, hvw, X2, e2, st2⟩ := core _ hv
            exact Nxt.mem X2 rfl hL ⟨_, _, rfl, hvw, h1⟩ (by rw [e2]; exact hH) hF st2
          · rename_i x hv
            cases h
            obtain ⟨w, T2, hvw, X2, e2, st2⟩ := core _ hv
            exact Nxt.mem X2 rfl hL ⟨_, _, rfl, hvw, h1⟩ (by rw [e2]; exact hH) hF st2
          · rename_i x hv
            cases h
            obtain ⟨w, T2, hvw, X2, e2, st2⟩ := core _ hv
            exact Nxt.mem X2 rfl hL ⟨_, _, rfl, hvw, h1⟩ (by rw [e2]; exact hH) hF st2
          · cases h
        · cases h
      · cases h
    · cases h
  | putfield k =>
    obtain rfl : len = 3 := by simpa [lenOk] using hlen
    simp only [xI] at h
    split at h
    · rename_i v o S0
      obtain ⟨w, Sx, rfl, hvw, hS1⟩ := hS
      obtain ⟨ad, S1, g1, rfl, h1⟩ := hS1.ref
      split at h
      · rename_i c0 fs hc0
        split at h
        · rename_i ec
          obtain ⟨ec, enr⟩ := ec
          subst ec
          split at h
          · rename_i nm ds ty fin hf
            split at h
            · rename_i hok
              cases h
              simp only [Bool.and_eq_true] at hok
              obtain ⟨hok, hfin⟩ := hok
              obtain ⟨ad', g2, cd, q1, q2, q3, q4⟩ := hH.at hc0
              rw [g1] at g2; cases g2
              have hcd := cid_of hP hdm q1
              rw [q1] at hf
              have hf' : cd.2.2[a]? = some (nm, ds, ty, fin) := hf
              have ha : a < fs.length := by rw [q3]; exact (List.getElem?_eq_some_iff.mp hf').1
              obtain ⟨w0, -, F⟩ := q4 a _ _ (List.getElem?_eq_getElem ha) hf'
              have w1 := hWi (.fieldLink d.name.cls k d.name.cls nm ds) (by
                show _ ∈ fLink P d k a
                unfold fLink
                rw [fieldOf_spec q1 hf']
                exact List.mem_singleton.mpr rfl)
              have hcm : cd ∈ P.cls := List.mem_of_getElem? q1
              have w2 := hW _ (in_wordsC hcm (fWord_in (List.mem_of_getElem? hf')))
              have w3 := hW (.instantiable cd.1 cd.2.1) (in_wordsC hcm (List.mem_cons_self ..))
              have hck := cChk_of hP hcm
              have hck' := hck
              simp only [cChk, Bool.and_eq_true, List.all_eq_true] at hck'
              have f1 := hck'.2 _ (List.mem_of_getElem? hf')
              simp only [fChk, Bool.and_eq_true, decide_eq_true_eq] at f1
              obtain ⟨p1, p2⟩ := putOk_sim hok hvw
              have Ly : (Jvm.Cond.lays cd.1 cd.1 nm ds).before a0 Z = true ∨ ((Jvm.Cond.laysFinal cd.1 cd.1 nm ds).before a0 Z = true ∧ d.name.cls = cd.1 ∧ meth.name = "<init>") := by
                unfold fWord at w2
                cases fin with
                | false => exact Or.inl w2
                | true => exact Or.inr ⟨w2, hcd.symm, by rw [hnm]; simpa using hfin⟩
              obtain ⟨T2, h2, X2, e2, W2, st2⟩ := putF X hx hZ hown (host := "") (R0 := d.name.cls) (O := cd.1) (Or.inl w1) (by rw [hcd]; exact Via.refl) rfl F q2 Ly w3 f1.1 p1 p2 (g := mkF m pc A (w :: .ref ad :: S1)) rfl rfl hd
              have hH2 := hH.putF (a0 := a0) g1 hc0 q1 hf' hck (fun f hfm => hW _ (in_wordsC hcm (fWord_in hfm))) W2 hvw
              exact Nxt.mem X2 rfl hL h1 (by rw [e2]; exact hH2) (Fr.snoc X2 hF (hH.2.2.2.1 _ _ g1 enr)) st2
            · cases h
          · cases h
        · cases h
      · cases h
    · cases h
  | iaload =>
    obtain rfl : len = 1 := by simpa [lenOk] using hlen
    simp only [xI] at h
    split at h
    · rename_i j o S0
      obtain ⟨S1, rfl, h1⟩ := hS.int
      obtain ⟨ad, S2, g1, rfl, h2⟩ := h1.ref
      split at h
      · rename_i B hc0
        obtain ⟨x, q, e1⟩ := Option.map_eq_some_iff.mp h
        cases e1
        obtain ⟨hj, hat⟩ := rdA_spec q
        obtain ⟨ad', g2, cl, Ar, z1, z2, z3⟩ := hH.at hc0
        rw [g1] at g2; cases g2
        have hin : ¬ (j < 0 ∨ cl.slots.size ≤ j.toNatClampNeg) := by
          have := (List.getElem?_eq_some_iff.mp hat).1
          rintro (y | y)
          · exact hj y
          · omega
        exact Nxt.pure X rfl hL ⟨_, _, rfl, rfl, h2⟩ hH hF (fun t z => X.iaload hx (j := j) (v := .int x) Ar.1 (State.isArrayOf_alike hZ.alike Ar.2.1) Ar.2.2 hin (z3 _ _ hat) (g := mkF m pc A _) rfl rfl hd t z)
      · cases h
    · cases h
  | baload =>
    obtain rfl : len = 1 := by simpa [lenOk] using hlen
    simp only [xI] at h
    split at h
    · rename_i j o S0
      obtain ⟨S1, rfl, h1⟩ := hS.int
      obtain ⟨ad, S2, g1, rfl, h2⟩ := h1.ref
      split at h
      · rename_i B hc0
        obtain ⟨x, q, e1⟩ := Option.map_eq_some_iff.mp h
        cases e1
        obtain ⟨hj, hat⟩ := rdA_spec q
        obtain ⟨ad', g2, cl, Ar, z1, z2, z3⟩ := hH.at hc0
        rw [g1] at g2; cases g2
        have hin : ¬ (j < 0 ∨ cl.slots.size ≤ j.toNatClampNeg) := by
          have := (List.getElem?_eq_some_iff.mp hat).1
          rintro (y | y)
          · exact hj y
          · omega
        exact Nxt.pure X rfl hL ⟨_, _, rfl, rfl, h2⟩ hH hF (fun t z => X.baloadBooleans hx (j := j) (v := .int x) Ar.1 (State.isArrayOf_alike hZ.alike Ar.2.1) Ar.2.2 hin (z3 _ _ hat) (g := mkF m pc A _) rfl rfl hd t z)
      · cases h
    · cases h
  | laload =>
    obtain rfl : len = 1 := by simpa [lenOk] using hlen
    simp only [xI] at h
    split at h
    · rename_i j o S0
      obtain ⟨S1, rfl, h1⟩ := hS.int
      obtain ⟨ad, S2, g1, rfl, h2⟩ := h1.ref
      split at h
      · rename_i B hc0
        obtain ⟨x, q, e1⟩ := Option.map_eq_some_iff.mp h
        cases e1
        obtain ⟨hj, hat⟩ := rdA_spec q
        obtain ⟨ad', g2, cl, Ar, z1, z2, z3⟩ := hH.at hc0
        rw [g1] at g2; cases g2
        have hin : ¬ (j < 0 ∨ cl.slots.size ≤ j.toNatClampNeg) := by
          have := (List.getElem?_eq_some_iff.mp hat).1
          rintro (y | y)
          · exact hj y
          · omega
        exact Nxt.pure X rfl hL ⟨_, _, rfl, rfl, h2⟩ hH hF (fun t z => X.laload hx (j := j) (v := .long x) Ar.1 (State.isArrayOf_alike hZ.alike Ar.2.1) Ar.2.2 hin (z3 _ _ hat) (g := mkF m pc A _) rfl rfl hd t z)
      · cases h
    · cases h
  | iastore =>
    obtain rfl : len = 1 := by simpa [lenOk] using hlen
    simp only [xI] at h
    split at h
    · rename_i x j o S0
      obtain ⟨S1, rfl, h1⟩ := hS.int
      obtain ⟨S2, rfl, h2⟩ := h1.int
      obtain ⟨ad, S3, g1, rfl, h3⟩ := h2.ref
      split at h
      · rename_i B hc0
        split at h
        · rename_i enr
          obtain ⟨B', q, e1⟩ := Option.map_eq_some_iff.mp h
          cases e1
          obtain ⟨hj, hlt, rfl⟩ := wrA_spec q
          obtain ⟨ad', g2, cl, Ar, z1, z2, z3⟩ := hH.at hc0
          rw [g1] at g2; cases g2
          have hin : ¬ (j < 0 ∨ cl.slots.size ≤ j.toNatClampNeg) := by
            rintro (y | y)
            · exact hj y
            · omega
          obtain ⟨T2, h2', X2, e2, W2, st2⟩ := stI X hx hZ rfl Ar (j := j) (x := x) hin (g := mkF m pc A _) rfl rfl hd
          exact Nxt.mem X2 rfl hL h3 (by rw [e2]; exact hH.wrI g1 hc0 W2) (Fr.snoc X2 hF (hH.2.2.2.1 _ _ g1 enr)) st2
        · cases h
      · cases h
    · cases h
  | bastore =>
    obtain rfl : len = 1 := by simpa [lenOk] using hlen
    simp only [xI] at h
    split at h
    · rename_i x j o S0
      obtain ⟨S1, rfl, h1⟩ := hS.int
      obtain ⟨S2, rfl, h2⟩ := h1.int
      obtain ⟨ad, S3, g1, rfl, h3⟩ := h2.ref
      split at h
      · rename_i B hc0
        split at h
        · rename_i enr
          obtain ⟨B', q, e1⟩ := Option.map_eq_some_iff.mp h
          cases e1
          obtain ⟨hj, hlt, rfl⟩ := wrA_spec q
          obtain ⟨ad', g2, cl, Ar, z1, z2, z3⟩ := hH.at hc0
          rw [g1] at g2; cases g2
          have hin : ¬ (j < 0 ∨ cl.slots.size ≤ j.toNatClampNeg) := by
            rintro (y | y)
            · exact hj y
            · omega
          obtain ⟨T2, h2', X2, e2, W2, st2⟩ := stZ X hx hZ rfl Ar (j := j) (x := x) hin (g := mkF m pc A _) rfl rfl hd
          exact Nxt.mem X2 rfl hL h3 (by rw [e2]; exact hH.wrI g1 hc0 W2) (Fr.snoc X2 hF (hH.2.2.2.1 _ _ g1 enr)) st2
        · cases h
      · cases h
    · cases h
  | lastore =>
    obtain rfl : len = 1 := by simpa [lenOk] using hlen
    simp only [xI] at h
    split at h
    · rename_i x j o S0
      obtain ⟨S1, rfl, h1⟩ := hS.long
      obtain ⟨S2, rfl, h2⟩ := h1.int
      obtain ⟨ad, S3, g1, rfl, h3⟩ := h2.ref
      split at h
      · rename_i B hc0
        split at h
        · rename_i enr
          obtain ⟨B', q, e1⟩ := Option.map_eq_some_iff.mp h
          cases e1
          obtain ⟨hj, hlt, rfl⟩ := wrA_spec q
          obtain ⟨ad', g2, cl, Ar, z1, z2, z3⟩ := hH.at hc0
          rw [g1] at g2; cases g2
          have hin : ¬ (j < 0 ∨ cl.slots.size ≤ j.toNatClampNeg) := by
            rintro (y | y)
            · exact hj y
            · omega
          obtain ⟨T2, h2', X2, e2, W2, st2⟩ := stJ X hx hZ rfl Ar (j := j) (x := x) hin (g := mkF m pc A _) rfl rfl hd
          exact Nxt.mem X2 rfl hL h3 (by rw [e2]; exact hH.wrJ g1 hc0 W2) (Fr.snoc X2 hF (hH.2.2.2.1 _ _ g1 enr)) st2
        · cases h
      · cases h
    · cases h
  | arraylength =>
    obtain rfl : len = 1 := by simpa [lenOk] using hlen
    simp only [xI] at h
    split at h
    · rename_i o S0
      obtain ⟨ad, S1, g1, rfl, h1⟩ := hS.ref
      split at h
      · rename_i bb B hc0
        cases h
        obtain ⟨ad', g2, cl, Ar, z1, z2, z3⟩ := hH.at hc0
        rw [g1] at g2; cases g2
        exact Nxt.pure X rfl hL ⟨_, _, rfl, rfl, h1⟩ hH hF (fun t z => X.arraylength hx (cell := cl) Ar.1 (State.isArrayOf_alike hZ.alike Ar.2.1) (g := mkF m pc A _) rfl rfl hd t (by rw [z1]; exact z))
      · cases h
    · cases h
  | _ => simp [xI] at h
set_option maxHeartbeats 4000000 in
theorem stepN (X : Stand p l e R s m args below meth c T locs cells slots) (hx : p.tables.exec = Jvm.exec) (hZ : Z.Warmed39 s.vm) (hown : s.vm.findClass d.name.cls = some m.cls) (hP : chk P = true) (hW : ∀ w ∈ wordsOf P, w.before a0 Z = true) (hdm : d ∈ P.mth)
    {pc len a ks : Nat} {er : List Bool} {b : Int} {i : Instr} (hit : (pc, i, len, er, a, b) ∈ d.code) (hd : decode c.code pc = .ok (i, len)) (hlen : lenOk i len = true) {ρ : List Addr} {S S' Sc : List Value} {H H1 : AHeap} {A : Array Slot}
    (hS : SR ρ S Sc) (hH : HR P Z n0 T.heap ρ H) (h : xN P i a S H = some (S', H1, ks)) (hc : cells + 1 ≤ R.cells) (hl : slots + ks ≤ R.slots) :
    ∃ T' ad Sc', Stand p l e R s m args below meth c T' locs (cells + 1) (slots + ks) ∧ SR (ρ ++ [ad]) S' Sc' ∧ HR P Z n0 T'.heap (ρ ++ [ad]) H1 ∧
      ∀ target, Steps p.tables e below (T'.setTop (mkF m (pc + len) A Sc')) target → Steps p.tables e below (T.setTop (mkF m pc A Sc)) target := by
  have hWi : ∀ w ∈ iWords P d (pc, i, len, er, a, b), w.before a0 Z = true := fun w q => hW w (in_wordsOf hdm hit q)
  cases i with
  | new k =>
    obtain rfl : len = 3 := by simpa [lenOk] using hlen
    simp only [xN] at h
    split at h
    · rename_i cd q1
      cases h
      have hcm : cd ∈ P.cls := List.mem_of_getElem? q1
      have w1 := hWi (.classLink d.name.cls k cd.1) (by simp only [iWords, q1]; exact List.mem_singleton.mpr rfl)
      have w2 := hW (.instantiable cd.1 cd.2.1) (in_wordsC hcm (List.mem_cons_self ..))
      have w3 := hW (.initialized cd.1) (in_wordsC hcm (List.mem_cons_of_mem _ (List.mem_cons_self ..)))
      obtain ⟨T2, h2, X2, e2, E2, A2, D2, -, st2⟩ := newO X hx hZ hown w1 w2 w3 rfl (g := mkF m pc A Sc) rfl hd hc hl
      have hck := cChk_of hP hcm
      simp only [cChk, Bool.and_eq_true, List.all_eq_true] at hck
      have hcr : CR P Z h2 (ρ ++ [T.heap.size]) T.heap.size (.inl (a, cd.2.2.map fun f => dflt f.2.2.1)) := by
        refine ⟨cd, q1, A2, by simp, fun j v fd y1 y2 => ?_⟩
        rw [List.getElem?_map, y2] at y1
        cases y1
        have f1 := hck.2 _ (List.mem_of_getElem? y2)
        simp only [fChk, Bool.and_eq_true, decide_eq_true_eq] at f1
        exact ⟨_, dflt_sim f1.2, D2 (laid_of (hW _ (in_wordsC hcm (fWord_in (List.mem_of_getElem? y2))))) f1.1⟩
      refine ⟨T2, T.heap.size, _, X2, ⟨_, _, rfl, ⟨T.heap.size, ?_, rfl⟩, hS.mono⟩, (by rw [e2]; exact hH.push E2 hcr), st2⟩
      rw [← hH.2.1]; simp
    · cases h
  | newarray t =>
    obtain rfl : len = 2 := by simpa [lenOk] using hlen
    simp only [xN] at h
    split at h
    · rename_i n S0
      obtain ⟨S1, rfl, h1⟩ := hS.int
      split at h
      · cases h
      · rename_i hn
        have hn1 : ¬ n < 0 := fun z => hn (Or.inl z)
        have hn2 : n.toNatClampNeg ≤ 100000 := Nat.le_of_not_lt fun z => hn (Or.inr z)
        have w1 := hWi (.arrayClass (newarray.typeOf t)) (List.mem_singleton.mpr rfl)
        have top : (ρ ++ [T.heap.size])[H.length]? = some T.heap.size := by rw [← hH.2.1]; simp
        split at h
        · cases h
          obtain ⟨T2, h2, cA, X2, e2, E2, A2, st2⟩ := newP X hx hZ w1 rfl (g := mkF m pc A _) rfl hd rfl hn1 (cap := n.toNatClampNeg) (Nat.le_refl _) (by omega) hc hl
          have hcr : CR P Z h2 (ρ ++ [T.heap.size]) T.heap.size ((.inr (.inl (false, List.replicate n.toNatClampNeg 0)) : ACell)) := by
            refine ⟨_, A2, by simp [sz_new], by simp; omega, fun j x y => ?_⟩
            rw [List.getElem?_replicate] at y
            split at y
            · rename_i lt
              cases y
              simp [newA, lt, newarray.typeOf, defaultValue]
            · cases y
          exact ⟨T2, T.heap.size, _, X2, ⟨_, _, rfl, ⟨T.heap.size, top, rfl⟩, h1.mono⟩, (by rw [e2]; exact hH.push E2 hcr), st2⟩
        · cases h
          obtain ⟨T2, h2, cA, X2, e2, E2, A2, st2⟩ := newP X hx hZ w1 rfl (g := mkF m pc A _) rfl hd rfl hn1 (cap := n.toNatClampNeg) (Nat.le_refl _) (by omega) hc hl
          have hcr : CR P Z h2 (ρ ++ [T.heap.size]) T.heap.size ((.inr (.inl (true, List.replicate n.toNatClampNeg 0)) : ACell)) := by
            refine ⟨_, A2, by simp [sz_new], by simp; omega, fun j x y => ?_⟩
            rw [List.getElem?_replicate] at y
            split at y
            · rename_i lt
              cases y
              simp [newA, lt, newarray.typeOf, defaultValue]
            · cases y
          exact ⟨T2, T.heap.size, _, X2, ⟨_, _, rfl, ⟨T.heap.size, top, rfl⟩, h1.mono⟩, (by rw [e2]; exact hH.push E2 hcr), st2⟩
        · cases h
          obtain ⟨T2, h2, cA, X2, e2, E2, A2, st2⟩ := newP X hx hZ w1 rfl (g := mkF m pc A _) rfl hd rfl hn1 (cap := n.toNatClampNeg) (Nat.le_refl _) (by omega) hc hl
          have hcr : CR P Z h2 (ρ ++ [T.heap.size]) T.heap.size ((.inr (.inr (List.replicate n.toNatClampNeg 0)) : ACell)) := by
            refine ⟨_, A2, by simp [sz_new], by simp; omega, fun j x y => ?_⟩
            rw [List.getElem?_replicate] at y
            split at y
            · rename_i lt
              cases y
              simp [newA, lt, newarray.typeOf, defaultValue]
            · cases y
          exact ⟨T2, T.heap.size, _, X2, ⟨_, _, rfl, ⟨T.heap.size, top, rfl⟩, h1.mono⟩, (by rw [e2]; exact hH.push E2 hcr), st2⟩
        · cases h
    · cases h
  | _ => simp [xN] at h
end Step
end Jvm.Own
namespace Jvm.Own
open Jvm Jvm.ClassFile Sem Op Lib Jvm.Free Jvm.Stand Jvm.LawKit Jvm.RoadKit Bundle
theorem fetch_mem : ∀ {l : List (Nat × It)} {pc : Nat} {i : It}, fetch l pc = some i → (pc, i) ∈ l
  | [], _, _, h => by simp [fetch] at h
  | (q, j) :: r, pc, i, h => by
    unfold fetch at h
    split at h
    · rename_i e; cases h; subst e; exact List.mem_cons_self ..
    · exact List.mem_cons_of_mem _ (fetch_mem h)
theorem tgt_spec {pc q : Nat} {o : Int} (h : tgt pc o = some q) : 0 ≤ (pc : Int) + o ∧ ((pc : Int) + o).toNat = q := by
  unfold tgt at h
  split at h
  · rename_i z; cases h; exact ⟨z, rfl⟩
  · cases h
/-- the end of a method's run -/
def Done (P : PD) (Z : State) (n0 : Nat) (p : Program) (e : Env) (below : List Frame) (s : State) (ρ : List Addr) (v : Option Value) (H' : AHeap) (kc ks : Nat) (t0 : State) : Prop :=
  ∃ s₂ v' L' t, Steps p.tables e below t0 s₂ ∧ s₂.status = .running ∧ Ended s₂ below (.returned v') ∧ OV (ρ ++ t) v v' ∧ HR P Z n0 s₂.heap (ρ ++ t) H' ∧ Fr n0 L' ∧ FrameEnd s (.returned v') s₂ L' kc ks
def Cx (P : PD) (Z : State) (p : Program) (R : Room) (s : State) (m : MethodId) (meth : Method) (c : Code) (d : MD) : Prop :=
  p.tables.exec = Jvm.exec ∧ Z.Warmed39 s.vm ∧ c.code = d.bytes ∧ c.maxLocals = d.maxL ∧ s.vm.findClass d.name.cls = some m.cls ∧ meth.name = d.name.name ∧ meth.sig.returnType = d.ret ∧ meth.locks = false ∧ d.rf ≤ R.frames ∧ d.rw ≤ R.locals
/-- what the machine says of a run that has come to pc is what the model does -/
def Says (P : PD) (Z : State) (n0 : Nat) (l : Launch) (n : Nat) : Prop :=
  ∀ (mi pc : Nat) (L : List Slot) (S : List Value) (H : AHeap) (v : Option Value) (H' : AHeap) (kc ks : Nat), exe P n mi pc L S H = some (v, H', kc, ks) → ∀ d, P.mth[mi]? = some d →
    ∀ (p : Program) (e : Env) (R : Room) (s : State) (m : MethodId) (args : Array Value) (below : List Frame) (meth : Method) (c : Code) (T : State) (locs : List Loc) (cells slots : Nat),
      Stand p l e R s m args below meth c T locs cells slots → Cx P Z p R s m meth c d → cells + kc ≤ R.cells → slots + ks ≤ R.slots →
      ∀ (ρ : List Addr) (A : Array Slot) (Sc : List Value), LR ρ L A → L.length = d.maxL → SR ρ S Sc → HR P Z n0 T.heap ρ H → Fr n0 locs →
        Done P Z n0 p e below s ρ v H' (cells + kc) (slots + ks) (T.setTop (mkF m pc A Sc))
def QQ (P : PD) (Z : State) (n0 : Nat) (ρ : List Addr) (v : Option Value) (H1 : AHeap) (v' : Option Value) (h' : Heap) (L : List Loc) : Prop := Fr n0 L ∧ ∃ t, OV (ρ ++ t) v v' ∧ HR P Z n0 h' (ρ ++ t) H1
theorem met_of {P : PD} {Z : State} {n0 : Nat} {l : Launch} {n : Nat} (ih : Says P Z n0 l n) {j : Nat} {y : MD} (hy : P.mth[j]? = some y) (hpn : plainName y.name.cls = true) {as ws : List Value} {H H1 : AHeap} {v : Option Value} {kc ks : Nat} (he : exe P n j 0 (entL as y.maxL) [] H = some (v, H1, kc, ks)) {ρ : List Addr} (hS : SR ρ as ws) (hlen : (entA as).length ≤ y.maxL) {h : Heap} (hH : HR P Z n0 h ρ H) (w0 : List Jvm.Cond) (rm : Room) (r1 : y.rf ≤ rm.frames) (r2 : y.rw ≤ rm.locals) (r3 : kc ≤ rm.cells) (r4 : ks ≤ rm.slots) :
    MetFree l y.name (head1 (Jvm.Cond.code y.name y.bytes y.maxL y.ret :: w0) rm) (fun a U => a = ws.toArray ∧ Z.Warmed39 U.vm ∧ U.heap = h) (fun _ _ _ _ _ => True)
      (fun _ U o U' => ∃ v' L, o = .returned v' ∧ QQ P Z n0 ρ v H1 v' U'.heap L ∧ FrameEnd U o U' L kc ks) := by
  refine MetFree.of_bodySF (plainFor_of_name hpn) hisR ?_
  intro p e s m args below meth c s₁ Bd hml0 hP hK
  obtain ⟨rfl, hZ, hh⟩ := hP
  have X0 : Stand p l e rm s m ws.toArray below meth c s₁ [] 0 0 := Stand.of_body Bd
  have e0 : s₁.heap = h := by rw [← hh, Bd.state]; rfl
  obtain ⟨hL, hsz⟩ := LR.enter hS hlen
  have hLl : (entL as y.maxL).length = y.maxL := by rw [← hL.1]; exact hsz
  obtain ⟨s₂, v', L', t, h1, h2, h3, h4, h5, h6, h7⟩ := ih j 0 _ [] H v H1 kc ks he y hy p e _ s m ws.toArray below meth c s₁ [] 0 0 X0
    ⟨Bd.exec, hZ, Bd.bytes, hml0, findClass_of_methodNamed Bd.named, (name_of_methodNamed Bd.named Bd.method).1, Bd.returns, BodyLoose.notSynchronized Bd, r1, r2⟩
    (by rw [Nat.zero_add]; exact r3) (by rw [Nat.zero_add]; exact r4) ρ _ [] hL hLl rfl (by rw [e0]; exact hH) (Fr.nil n0)
  refine ⟨s₂, _, h1, h2, h3, v', L', rfl, ⟨h6, t, h4, h5⟩, ?_⟩
  rw [Nat.zero_add, Nat.zero_add] at h7
  exact h7
section Sound
variable {P : PD} {Z : State} {n0 : Nat} {a0 : Array Value} {l : Launch}
theorem Done.step {p : Program} {e : Env} {below : List Frame} {s : State} {ρ t : List Addr} {v : Option Value} {H' : AHeap} {kc ks : Nat} {t0 t1 : State} (h : Done P Z n0 p e below s (ρ ++ t) v H' kc ks t1) (k : ∀ target, Steps p.tables e below t1 target → Steps p.tables e below t0 target) : Done P Z n0 p e below s ρ v H' kc ks t0 := by
  obtain ⟨s₂, v', L', t', h1, h2, h3, h4, h5, h6, h7⟩ := h
  exact ⟨s₂, v', L', t ++ t', k _ h1, h2, h3, by rw [← List.append_assoc]; exact h4, by rw [← List.append_assoc]; exact h5, h6, h7⟩
theorem argsOf_spec {n : Nat} {S as rest : List Value} (h : argsOf n S = some (as, rest)) : n ≤ S.length ∧ as = (S.take n).reverse ∧ rest = S.drop n := by
  unfold argsOf at h
  split at h
  · rename_i z; cases h; exact ⟨z, rfl, rfl⟩
  · cases h
theorem res_ext {α : Type} {o : Option Res} {v : Option Value} {H' : AHeap} {kc ks c1 s1 : Nat} (h : (o.map fun r => addR r c1 s1) = some (v, H', kc, ks)) : ∃ kc' ks', o = some (v, H', kc', ks') ∧ kc = kc' + c1 ∧ ks = ks' + s1 := by
  obtain ⟨⟨v0, H0, c0, s0⟩, h1, h2⟩ := Option.map_eq_some_iff.mp h
  simp only [addR] at h2
  cases h2
  exact ⟨c0, s0, h1, rfl, rfl⟩
set_option maxHeartbeats 4000000 in
theorem sound (hP : chk P = true) (hW : ∀ w ∈ wordsOf P, w.before a0 Z = true) : ∀ n, Says P Z n0 l n
  | 0 => fun mi pc L S H v H' kc ks h => by simp [exe] at h
  | n + 1 => by
    have ih := sound hP hW n
    intro mi pc L S H v H' kc ks h d hmi
    unfold exe at h
    rw [hmi] at h
    simp only at h
    have hdm : d ∈ P.mth := List.mem_of_getElem? hmi
    split at h
    · cases h
    rename_i it i len er a b hft
    have hit := fetch_mem hft
    have hmc := mChk_of hP hdm
    simp only [mChk, Bool.and_eq_true] at hmc
    obtain ⟨⟨⟨⟨⟨⟨mc1, mc2⟩, mc3⟩, mc4⟩, mc5⟩, mc6⟩, mc7⟩ := hmc
    unfold codeChk at mc3
    rw [List.all_eq_true] at mc3
    have hci := mc3 _ hit
    simp only [Bool.and_eq_true, decide_eq_true_eq] at hci
    obtain ⟨hdec, hlenOk⟩ := hci
    -- a jump, or a fall through
    have jump : ∀ (q : Nat) (S1 : List Value) (h1 : exe P n mi q (forget er L) S1 H = some (v, H', kc, ks)),
        (∀ (p : Program) (e : Env) (R : Room) (s : State) (m : MethodId) (args : Array Value) (below : List Frame) (meth : Method) (c : Code) (T : State) (locs : List Loc) (cells slots : Nat),
          Stand p l e R s m args below meth c T locs cells slots → Cx P Z p R s m meth c d → ∀ (ρ : List Addr) (A : Array Slot) (Sc : List Value), LR ρ L A → SR ρ S Sc → ∃ Sc1, SR ρ S1 Sc1 ∧ ∀ target, Steps p.tables e below (T.setTop (mkF m q A Sc1)) target → Steps p.tables e below (T.setTop (mkF m pc A Sc)) target) →
        ∀ (p : Program) (e : Env) (R : Room) (s : State) (m : MethodId) (args : Array Value) (below : List Frame) (meth : Method) (c : Code) (T : State) (locs : List Loc) (cells slots : Nat),
          Stand p l e R s m args below meth c T locs cells slots → Cx P Z p R s m meth c d → cells + kc ≤ R.cells → slots + ks ≤ R.slots →
          ∀ (ρ : List Addr) (A : Array Slot) (Sc : List Value), LR ρ L A → L.length = d.maxL → SR ρ S Sc → HR P Z n0 T.heap ρ H → Fr n0 locs →
            Done P Z n0 p e below s ρ v H' (cells + kc) (slots + ks) (T.setTop (mkF m pc A Sc)) := by
      intro q S1 h1 st p e R s m args below meth c T locs cells slots X cx k1 k2 ρ A Sc hL hLl hS hH hF
      obtain ⟨Sc1, hS1, st1⟩ := st p e R s m args below meth c T locs cells slots X cx ρ A Sc hL hS
      have := ih mi q _ S1 H v H' kc ks h1 d hmi p e R s m args below meth c T locs cells slots X cx k1 k2 ρ A Sc1 (hL.forget er) (by rw [forget_len]; exact hLl) hS1 hH hF
      exact Done.step (t := []) (by rw [List.append_nil]; exact this) st1
    have dec : ∀ {c : Code}, c.code = d.bytes → decode c.code pc = .ok (i, len) := fun hc => by rw [hc]; exact hdec
    split at h
    · -- goto
      rename_i o
      split at h
      · rename_i q hq
        obtain ⟨t1, t2⟩ := tgt_spec hq
        have m3 := jump q S h
        obtain rfl : len = 3 := by simpa [lenOk] using hlenOk
        exact m3 fun p e R s m args below meth c T locs cells slots X cx ρ A Sc hL hS => ⟨Sc, hS, fun t z => XS.goto (g := mkF m pc A Sc) X.here cx.1 rfl (pc0 := pc) (pc' := q) rfl (dec cx.2.2.1) t1 t2 z⟩
      · cases h
    · -- if_icmp
      rename_i cd o
      split at h
      · rename_i y x S1
        obtain rfl : len = 3 := by simpa [lenOk] using hlenOk
        split at h
        · rename_i hc
          split at h
          · rename_i q hq
            obtain ⟨t1, t2⟩ := tgt_spec hq
            have m3 := jump q S1 h
            exact m3 fun p e R s m args below meth c T locs cells slots X cx ρ A Sc hL hS => by
              obtain ⟨Sa, rfl, ha⟩ := hS.int
              obtain ⟨Sb, rfl, hb⟩ := ha.int
              exact ⟨Sb, hb, fun t z => XS.icmpYes (g := mkF m pc A _) X.here cx.1 rfl (pc0 := pc) (pc' := q) rfl (dec cx.2.2.1) rfl hc t1 t2 z⟩
          · cases h
        · rename_i hc
          have m3 := jump (pc + 3) S1 h
          exact m3 fun p e R s m args below meth c T locs cells slots X cx ρ A Sc hL hS => by
            obtain ⟨Sa, rfl, ha⟩ := hS.int
            obtain ⟨Sb, rfl, hb⟩ := ha.int
            exact ⟨Sb, hb, fun t z => XS.icmpNo (g := mkF m pc A _) X.here cx.1 rfl (dec cx.2.2.1) rfl (by simpa using hc) z⟩
      · cases h
    · -- ifCond
      rename_i cd o
      split at h
      · rename_i x S1
        obtain rfl : len = 3 := by simpa [lenOk] using hlenOk
        split at h
        · rename_i hc
          split at h
          · rename_i q hq
            obtain ⟨t1, t2⟩ := tgt_spec hq
            have m3 := jump q S1 h
            exact m3 fun p e R s m args below meth c T locs cells slots X cx ρ A Sc hL hS => by
              obtain ⟨Sa, rfl, ha⟩ := hS.int
              exact ⟨Sa, ha, fun t z => XS.ifYes (g := mkF m pc A _) X.here cx.1 rfl (pc0 := pc) (pc' := q) rfl (dec cx.2.2.1) rfl hc t1 t2 z⟩
          · cases h
        · rename_i hc
          have m3 := jump (pc + 3) S1 h
          exact m3 fun p e R s m args below meth c T locs cells slots X cx ρ A Sc hL hS => by
            obtain ⟨Sa, rfl, ha⟩ := hS.int
            exact ⟨Sa, ha, fun t z => XS.ifNo (g := mkF m pc A _) X.here cx.1 rfl (dec cx.2.2.1) rfl (by simpa using hc) z⟩
      · cases h
    · -- ifnonnull
      rename_i o
      split at h
      · rename_i x S1
        split at h
        · rename_i q hq
          obtain ⟨t1, t2⟩ := tgt_spec hq
          have m3 := jump q S1 h
          obtain rfl : len = 3 := by simpa [lenOk] using hlenOk
          exact m3 fun p e R s m args below meth c T locs cells slots X cx ρ A Sc hL hS => by
            obtain ⟨ad, Sa, -, rfl, ha⟩ := hS.ref
            exact ⟨Sa, ha, fun t z => XT.ifnonnullYes (g := mkF m pc A _) X.here cx.1 rfl (pc0 := pc) (pc' := q) rfl (dec cx.2.2.1) rfl t1 t2 z⟩
        · cases h
      · cases h
    · -- ireturn
      split at h
      · rename_i x
        split at h
        · rename_i v0 hv0
          cases h
          obtain rfl : len = 1 := by simpa [lenOk] using hlenOk
          intro p e R s m args below meth c T locs cells slots X cx k1 k2 ρ A Sc hL hLl hS hH hF
          obtain ⟨hx, hZ, hby, hml, hown, hnm, hret, hlk, -, -⟩ := cx
          obtain ⟨Sa, rfl, ha⟩ := hS.int
          unfold retV at hv0
          split at hv0
          · rename_i hr0
            cases hv0
            obtain ⟨fs, hr, hrun, hended, hWm, hsame⟩ := X.leave (v := some (.int x)) (fun q => by rw [hret, hr0] at q; cases q) hlk
            exact ⟨_, _, locs, [], retI X hx (by rw [hret, hr0]) (dec hby) hr, hrun, hended, ⟨_, rfl, rfl⟩, by rw [List.append_nil]; exact hH, hF, ⟨_, rfl⟩, hWm, hsame⟩
          · rename_i hr0
            cases hv0
            obtain ⟨fs, hr, hrun, hended, hWm, hsame⟩ := X.leave (v := some (.int (x &&& 1))) (fun q => by rw [hret, hr0] at q; cases q) hlk
            exact ⟨_, _, locs, [], retN X hx (t := .boolean) (by rw [hret, hr0]) (by simp) (dec hby) hr, hrun, hended, ⟨_, rfl, rfl⟩, by rw [List.append_nil]; exact hH, hF, ⟨_, rfl⟩, hWm, hsame⟩
          · cases hv0
        · cases h
      · cases h
    · -- lreturn
      split at h
      · rename_i x
        split at h
        · rename_i hr0
          cases h
          obtain rfl : len = 1 := by simpa [lenOk] using hlenOk
          intro p e R s m args below meth c T locs cells slots X cx k1 k2 ρ A Sc hL hLl hS hH hF
          obtain ⟨hx, hZ, hby, hml, hown, hnm, hret, hlk, -, -⟩ := cx
          obtain ⟨Sa, rfl, ha⟩ := hS.long
          obtain rfl : Sa = [] := ha
          obtain ⟨fs, hr, hrun, hended, hWm, hsame⟩ := X.leave (v := some (.long x)) (fun q => by rw [hret, hr0] at q; cases q) hlk
          exact ⟨_, _, locs, [], X.lreturnOut hx (by rw [hret, hr0]) (dec hby) hr, hrun, hended, ⟨_, rfl, rfl⟩, by rw [List.append_nil]; exact hH, hF, ⟨_, rfl⟩, hWm, hsame⟩
        · cases h
      · cases h
    · -- return
      split at h
      · split at h
        · rename_i hr0
          cases h
          obtain rfl : len = 1 := by simpa [lenOk] using hlenOk
          intro p e R s m args below meth c T locs cells slots X cx k1 k2 ρ A Sc hL hLl hS hH hF
          obtain ⟨hx, hZ, hby, hml, hown, hnm, hret, hlk, -, -⟩ := cx
          obtain rfl : Sc = [] := hS
          obtain ⟨fs, hr, hrun, hended, hWm, hsame⟩ := X.leave (v := none) (fun _ => rfl) hlk
          exact ⟨_, _, locs, [], X.returnOut hx (by rw [hret, hr0]) (dec hby) hr, hrun, hended, rfl, by rw [List.append_nil]; exact hH, hF, ⟨_, rfl⟩, hWm, hsame⟩
        · cases h
      · cases h
    · -- a call, or a plain step
      split at h
      · rename_i hinv
        split at h
        · -- Object.<init>
          rename_i hb1
          subst hb1
          have hk : ∃ k x S1, i = .invokespecial k ∧ S = .ref x :: S1 ∧ (if 1 ≤ d.rf ∧ catSum S1 + 12 ≤ d.rw then exe P n mi (pc + 3) (forget er L) S1 H else none) = some (v, H', kc, ks) := by
            split at h
            · exact ⟨_, _, _, rfl, rfl, h⟩
            · cases h
          clear h
          obtain ⟨k, x, S1, rfl, rfl, h⟩ := hk
          · split at h
            · rename_i hroom
              have m3 := ih mi (pc + 3) _ S1 H v H' kc ks h d hmi
              obtain rfl : len = 3 := by simpa [lenOk] using hlenOk
              have hWi : ∀ w ∈ iWords P d (pc, .invokespecial k, 3, er, a, -1), w.before a0 Z = true := fun w q => hW w (in_wordsOf hdm hit q)
              have hWi' : ∀ w ∈ [Jvm.Cond.methodLink d.name.cls k Lib.objectInit, .instanceMethod Lib.objectInit, .code Lib.objectInit ⟨#[0xb1]⟩ 1 none], w.before a0 Z = true := hWi
              intro p e R s m args below meth c T locs cells slots X cx k1 k2 ρ A Sc hL hLl hS hH hF
              have cx0 := cx
              obtain ⟨hx, hZ, hby, hml, hown, hnm, hret, hlk, hrf, hrw⟩ := cx
              obtain ⟨ad, Sa, -, rfl, ha⟩ := hS.ref
              obtain ⟨T2, X2, e2, st2⟩ := initO X hx hZ hown (hWi' _ (by simp)) (hWi' _ (by simp)) (hWi' _ (by simp)) rfl (g := mkF m pc A (.ref ad :: Sa)) rfl (by rw [hml]; exact hL.1.trans hLl) rfl (dec hby) (by omega) (W := catSum S1) (by show 2 * 0 + _ ≤ _; rw [ha.cat]; omega) (by omega)
              have := m3 p e R s m args below meth c T2 locs cells slots X2 cx0 k1 k2 ρ A Sa (hL.forget er) (by rw [forget_len]; exact hLl) ha (by rw [e2]; exact hH) hF
              exact Done.step (t := []) (by rw [List.append_nil]; exact this) st2
            · cases h
        · rename_i hb1
          split at h
          · cases h
          rename_i y hy
          split at h
          · cases h
          rename_i as rest hao
          split at h
          · rename_i hcond
            simp only [Bool.and_eq_true, decide_eq_true_eq] at hcond
            obtain ⟨⟨⟨⟨hj, hik⟩, hrecv⟩, hroom⟩, hent⟩ := hcond
            split at h
            · rename_i v1 H1 c1 s1 hcal
              obtain ⟨c0, s0, hcon, rfl, rfl⟩ := res_ext (α := Unit) h
              have m3 := ih mi (pc + 3) _ _ H1 v H' c0 s0 hcon d hmi
              intro p e R s m args below meth c T locs cells slots X cx k1 k2 ρ A Sc hL hLl hS hH hF
              have cx0 := cx
              obtain ⟨hx, hZ, hby, hml, hown, hnm, hret, hlk, hrf, hrw⟩ := cx
              have hym : y ∈ P.mth := List.mem_of_getElem? hy
              have hyc := mChk_of hP hym
              simp only [mChk, Bool.and_eq_true, decide_eq_true_eq] at hyc
              obtain ⟨⟨⟨⟨⟨⟨yc1, yc2⟩, yc3⟩, yc4⟩, yc5⟩, yc6⟩, yc7⟩ := hyc
              simp only [fitsRoom, Bool.and_eq_true, decide_eq_true_eq] at hroom
              obtain ⟨hn, has, hrest⟩ := argsOf_spec hao
              have hnc : nargs y ≤ Sc.length := by rw [hS.len]; exact hn
              have hSa : SR ρ as (Sc.take (nargs y)).reverse := by rw [has]; exact (hS.take _).rev
              have hSr : SR ρ rest (Sc.drop (nargs y)) := by rw [hrest]; exact hS.drop _
              have hsplit : Sc = (Sc.take (nargs y)).reverse.reverse ++ Sc.drop (nargs y) := by rw [List.reverse_reverse, List.take_append_drop]
              obtain ⟨ws, hws⟩ : ∃ ws, ws = (Sc.take (nargs y)).reverse := ⟨_, rfl⟩
              obtain ⟨rc, hrc⟩ : ∃ rc, rc = Sc.drop (nargs y) := ⟨_, rfl⟩
              have hwl : ws.length = nargs y := by rw [hws]; simp; omega
              rw [← hws] at hSa hsplit
              rw [← hrc] at hSr hsplit
              have wcode := hW (.code y.name y.bytes y.maxL y.ret) (in_wordsM hy hj (List.mem_cons_self ..))
              have winit := hW (.initialized y.name.cls) (in_wordsM hy hj (List.mem_cons_of_mem _ (List.mem_cons_self ..)))
              have wmore : ∀ w ∈ (if y.kind = 0 then [Jvm.Cond.static y.name] else if y.kind = 1 then [.instanceMethod y.name] else if y.kind = 2 then [.instanceMethod y.name, .privateMethod y.name] else [.declares y.name, .selects y.name.cls y.name y.name, .instanceMethod y.name]), w.before a0 Z = true := fun w q => hW w (in_wordsM hy hj (List.mem_cons_of_mem _ (List.mem_cons_of_mem _ q)))
              have hMH : y.name.cls ≠ "java/lang/invoke/MethodHandle" ∧ y.name.cls ≠ "java/lang/invoke/VarHandle" := ⟨yc5, yc6⟩
              have back := backOf (W := catSum rest) (len := 3) (R := R) (p := p) (e := e) (below := below) (s := s) (args := args) (met_of ih hy yc1 hcal hSa hent hH [] ({ frames := y.rf, cells := c1, slots := s1, locals := y.rw } : Room) (Nat.le_refl _) (Nat.le_refl _) (Nat.le_refl _) (Nat.le_refl _)) hZ wcode winit (by show y.rf + 1 ≤ _; omega) (by show _ + y.rw ≤ _; omega)
              have hWW : 2 * (mkF m pc A Sc).monitorRoom + (rc.map fun v => v.category).sum ≤ catSum rest := by show 2 * 0 + _ ≤ _; rw [hSr.cat]; omega
              have hpar : ∀ sig, parseMethodDescriptor y.name.desc = some sig → sig.parameters.length = y.npar := fun sig q => by
                unfold sigChk at yc2
                rw [q] at yc2
                simpa using yc2
              have fin : ∀ (v1' : Option Value) (T2 : State) (Lc : List Loc), Stand p l e R s m args below meth c T2 (locs ++ Lc) (cells + c1) (slots + s1) → QQ P Z n0 ρ v1 H1 v1' T2.heap Lc →
                  (∀ target, Steps p.tables e below (T2.setTop (mkF m (pc + 3) A (v1'.toList ++ rc))) target → Steps p.tables e below (T.setTop (mkF m pc A Sc)) target) →
                  Done P Z n0 p e below s ρ v H' (cells + (c0 + c1)) (slots + (s0 + s1)) (T.setTop (mkF m pc A Sc)) := by
                intro v1' T2 Lc X2 hq st2
                obtain ⟨hF2, t, hov, hH2⟩ := hq
                have := m3 p e R s m args below meth c T2 (locs ++ Lc) _ _ X2 cx0 (by omega) (by omega) (ρ ++ t) A (v1'.toList ++ rc) (hL.forget er).mono (by rw [forget_len]; exact hLl) (hov.list.app hSr.mono) hH2 (hF.app hF2)
                have q1 : cells + c1 + c0 = cells + (c0 + c1) := by omega
                have q2 : slots + s1 + s0 = slots + (s0 + s1) := by omega
                rw [q1, q2] at this
                exact this.step st2
              have hcR : cells + c1 ≤ R.cells := by omega
              have hsR : slots + s1 ≤ R.slots := by omega
              cases i with
              | invokestatic k =>
                obtain rfl : len = 3 := by simpa [lenOk] using hlenOk
                have hk0 : y.kind = 0 := by simpa [invKind] using hik
                have wl := hW (.methodLink d.name.cls k y.name) (in_wordsOf hdm hit (by show _ ∈ mLink P d k a b; unfold mLink; rw [if_neg hb1, hy]; exact List.mem_singleton.mpr rfl))
                have wst := wmore (.static y.name) (by rw [if_pos hk0]; exact List.mem_singleton.mpr rfl)
                have hna : nargs y = y.npar := by simp [nargs, hk0]
                obtain ⟨v1', _, ⟨T2, L2, k2', n2⟩, -, X2, ⟨Lc, hQ, l2, y2, z2⟩, st2⟩ := Jvm.LawKit.callS X hx (y := y.name) hown (mvT hZ wl) (mvT hZ wst) (mvT hZ winit) (mvT hZ wcode) hMH back (g := mkF m pc A Sc) rfl (by rw [hml]; exact hL.1.trans hLl) (argsL := ws) (rest := rc) (fun sig q => by rw [hpar sig q, hwl, hna]) hsplit hWW (dec hby) (fun _ _ => ⟨rfl, rfl, hcR, hsR⟩)
                dsimp only [Pt.U, Pt.locs, Pt.cells, Pt.slots] at X2 l2 y2 z2 st2 hQ
                subst l2 y2 z2
                exact fin v1' T2 Lc X2 hQ st2
              | invokespecial k =>
                obtain rfl : len = 3 := by simpa [lenOk] using hlenOk
                have hk1 : y.kind = 1 := by simpa [invKind] using hik
                have wl := hW (.methodLink d.name.cls k y.name) (in_wordsOf hdm hit (by show _ ∈ mLink P d k a b; unfold mLink; rw [if_neg hb1, hy]; exact List.mem_singleton.mpr rfl))
                have wst := wmore (.instanceMethod y.name) (by rw [if_neg (by omega), if_pos hk1]; exact List.mem_singleton.mpr rfl)
                have hna : nargs y = y.npar + 1 := by simp [nargs, hk1]
                simp [hk1] at yc7
                have wcode' : (Jvm.Cond.code y.name y.bytes y.maxL none).before a0 Z = true := by rw [← yc7.2]; exact wcode
                unfold recvOk at hrecv
                rw [if_neg (by omega)] at hrecv
                split at hrecv
                · rename_i o as'
                  obtain ⟨ad, ws', g1, rfl, ha'⟩ := hSa.ref
                  have hst : Sc = ws'.reverse ++ .ref ad :: rc := by rw [hsplit]; simp
                  obtain ⟨v1', _, ⟨T2, L2, k2', n2⟩, -, X2, ⟨Lc, hQ, l2, y2, z2⟩, st2⟩ := X.specialBack hx (y := y.name) yc7.1 hown (mvT hZ wl) (mvT hZ wst) (mvT hZ wcode') hMH back (g := mkF m pc A Sc) rfl (by rw [hml]; exact hL.1.trans hLl) (Steps.refl _) (a := ad) (argsL := ws') (rest := rc) (fun sig q => by rw [hpar sig q]; simp [hna] at hwl; omega) hst hWW (dec hby) (fun _ _ => ⟨rfl, rfl, hcR, hsR⟩)
                  dsimp only [Pt.U, Pt.locs, Pt.cells, Pt.slots] at X2 l2 y2 z2 st2 hQ
                  subst l2 y2 z2
                  exact fin v1' T2 Lc X2 hQ fun t z => st2.trans z
                · cases hrecv
              | invokevirtual k =>
                obtain rfl : len = 3 := by simpa [lenOk] using hlenOk
                have wl := hW (.methodLink d.name.cls k y.name) (in_wordsOf hdm hit (by show _ ∈ mLink P d k a b; unfold mLink; rw [if_neg hb1, hy]; exact List.mem_singleton.mpr rfl))
                have hk23 : y.kind = 2 ∨ y.kind = 3 := by simpa [invKind] using hik
                have hk0 : ¬ y.kind = 0 := by omega
                have hk1 : ¬ y.kind = 1 := by omega
                have hna : nargs y = y.npar + 1 := by simp [nargs, hk0]
                unfold recvOk at hrecv
                rw [if_neg hk0] at hrecv
                split at hrecv
                · rename_i o as'
                  obtain ⟨ad, ws', g1, rfl, ha'⟩ := hSa.ref
                  have hst : Sc = ws'.reverse ++ .ref ad :: rc := by rw [hsplit]; simp
                  split at hrecv
                  · rename_i c0 fs hc0
                    obtain rfl : c0 = y.cid := by simpa using hrecv
                    obtain ⟨ad', g2, cd, q1, q2, q3, q4⟩ := hH.at hc0
                    rw [g1] at g2; cases g2
                    have hcd := cid_of hP hym q1
                    have hcm : cd ∈ P.cls := List.mem_of_getElem? q1
                    rw [hcd] at q2
                    by_cases hk2 : y.kind = 2
                    · have w1 := wmore (.instanceMethod y.name) (by rw [if_neg hk0, if_neg hk1, if_pos hk2]; simp)
                      have w2 := wmore (.privateMethod y.name) (by rw [if_neg hk0, if_neg hk1, if_pos hk2]; simp)
                      have w3 := hW (.instantiable cd.1 cd.2.1) (in_wordsC hcm (List.mem_cons_self ..))
                      rw [hcd] at w3
                      obtain ⟨cI, kI, i1, i2, i3, i4, -⟩ := Cond.instantiable_spec (mvT hZ w3 (args := args) : (Jvm.Cond.instantiable y.name.cls cd.2.1).before args s = true)
                      have hsel := selects_self_of_private (args := args) i1 i2 (by simp at i4; exact i4.1) (Cond.privateMethod_at (mvP hZ w2 (args := #[]))) (mvT hZ w1) hMH
                      obtain ⟨cq, hq1, hq2⟩ := q2.cell
                      obtain ⟨v1', _, ⟨T2, L2, k2', n2⟩, -, X2, ⟨Lc, hQ, l2, y2, z2⟩, st2⟩ := X.privateBack hx (y := y.name) hown (mvT hZ wl) (mvT hZ w1) hsel (Cond.privateMethod_at (mvP hZ w2 (args := #[]))) (mvT hZ wcode) hMH back (g := mkF m pc A Sc) rfl (by rw [hml]; exact hL.1.trans hLl) (Steps.refl _) (a := ad) hq1 hq2 (argsL := ws') (rest := rc) (fun sig q => by rw [hpar sig q]; simp [hna] at hwl; omega) hst hWW (dec hby) (fun _ _ => ⟨rfl, rfl, hcR, hsR⟩)
                      dsimp only [Pt.U, Pt.locs, Pt.cells, Pt.slots] at X2 l2 y2 z2 st2 hQ
                      subst l2 y2 z2
                      exact fin v1' T2 Lc X2 hQ fun t z => st2.trans z
                    · have w1 := wmore (.declares y.name) (by rw [if_neg hk0, if_neg hk1, if_neg hk2]; simp)
                      have w2 := wmore (.selects y.name.cls y.name y.name) (by rw [if_neg hk0, if_neg hk1, if_neg hk2]; simp)
                      have w3 := wmore (.instanceMethod y.name) (by rw [if_neg hk0, if_neg hk1, if_neg hk2]; simp)
                      obtain ⟨cq, kq, qa, qb, qc⟩ := isOf hZ rfl q2
                      obtain ⟨v1', _, ⟨T2, L2, k2', n2⟩, -, X2, ⟨Lc, hQ, l2, y2, z2⟩, st2⟩ := X.virtualBack hx (y := y.name) (z := y.name) hown (mvT hZ wl) (mvT hZ w1) (notFace_of_selects (args := #[]) (mvT hZ w2)) (mvT hZ w2) (mvT hZ w3) hMH back qa qc (g := mkF m pc A Sc) rfl (by rw [hml]; exact hL.1.trans hLl) (Steps.refl _) (argsL := ws') (rest := rc) (fun sig q => by rw [hpar sig q]; simp [hna] at hwl; omega) hst hWW (dec hby) (fun _ _ => ⟨rfl, rfl, hcR, hsR⟩)
                      dsimp only [Pt.U, Pt.locs, Pt.cells, Pt.slots] at X2 l2 y2 z2 st2 hQ
                      subst l2 y2 z2
                      exact fin v1' T2 Lc X2 hQ fun t z => st2.trans z
                  · cases hrecv
                · cases hrecv
              | _ => simp [isInv] at hinv
            · cases h
          · cases h
      · split at h
        · split at h
          · rename_i S1 H1 k1' hxN
            obtain ⟨c0, s0, hcon, rfl, rfl⟩ := res_ext (α := Unit) h
            have m3 := ih mi (pc + len) _ S1 H1 v H' c0 s0 hcon d hmi
            intro p e R s m args below meth c T locs cells slots X cx k1 k2 ρ A Sc hL hLl hS hH hF
            have cx0 := cx
            obtain ⟨hx, hZ, hby, hml, hown, hnm, hret, hlk, hrf, hrw⟩ := cx
            obtain ⟨T2, ad, Sc2, X2, hS2, hH2, st2⟩ := stepN (A := A) X hx hZ hown hP hW hdm hit (dec hby) hlenOk hS hH hxN (by omega) (by omega)
            have := m3 p e R s m args below meth c T2 locs _ _ X2 cx0 (by omega) (by omega) (ρ ++ [ad]) A Sc2 (hL.forget er).mono (by rw [forget_len]; exact hLl) hS2 hH2 hF
            have q1 : cells + 1 + c0 = cells + (c0 + 1) := by omega
            have q2 : slots + k1' + s0 = slots + (s0 + k1') := by omega
            rw [q1, q2] at this
            exact this.step st2
          · cases h
        · split at h
          · rename_i L1 S1 H1 hxI
            have m3 := ih mi (pc + len) L1 S1 H1 v H' kc ks h d hmi
            intro p e R s m args below meth c T locs cells slots X cx k1 k2 ρ A Sc hL hLl hS hH hF
            have cx0 := cx
            obtain ⟨hx, hZ, hby, hml, hown, hnm, hret, hlk, hrf, hrw⟩ := cx
            obtain ⟨T2, locs2, A2, Sc2, X2, x3, hL2, hS2, hH2, hF2, st2⟩ := stepX X hx hZ hown hnm hP hW hdm hit (dec hby) hlenOk (hL.forget er) hS hH hF hxI
            have := m3 p e R s m args below meth c T2 locs2 cells slots X2 cx0 k1 k2 ρ A2 Sc2 hL2 (by rw [x3, forget_len]; exact hLl) hS2 hH2 hF2
            exact Done.step (t := []) (by rw [List.append_nil]; exact this) st2
          · cases h
end Sound
end Jvm.Own
namespace Jvm.Own
open Jvm Jvm.ClassFile Sem Op Lib Jvm.Free Jvm.Stand Jvm.LawKit Jvm.RoadKit Bundle
/-! Runs of the plain machine, rule by rule -/
def OEnds (P : PD) (mi pc : Nat) (L : List Slot) (S : List Value) (H : AHeap) (r : Res) : Prop := ∃ n0, ∀ n, n0 ≤ n → exe P n mi pc L S H = some r
def plainI : Instr → Bool
  | .goto _ => false
  | .if_icmp _ _ => false
  | .ifCond _ _ => false
  | .ifnonnull _ => false
  | .ireturn => false
  | .lreturn => false
  | .return_ => false
  | .invokestatic _ => false
  | .invokespecial _ => false
  | .invokevirtual _ => false
  | .new _ => false
  | .newarray _ => false
  | _ => true
section Rules
variable {P : PD} {mi pc len a q : Nat} {er : List Bool} {b : Int} {i : Instr} {d y : MD} {L L' : List Slot} {S S' as rest : List Value} {H H' H1 : AHeap} {r : Res} {kc ks : Nat} {v : Option Value}
theorem OEnds.up (h : ∀ n, exe P n mi q L' S' H' = some r → exe P (n + 1) mi pc L S H = some r) (E : OEnds P mi q L' S' H' r) : OEnds P mi pc L S H r := by
  obtain ⟨n0, E⟩ := E
  refine ⟨n0 + 1, fun n hn => ?_⟩
  obtain ⟨k, rfl⟩ : ∃ k, n = k + 1 := ⟨n - 1, by omega⟩
  exact h k (E k (by omega))
theorem OEnds.plain (hm : P.mth[mi]? = some d) (hf : fetch d.code pc = some (i, len, er, a, b)) (hp : plainI i = true) (hx : xI P (d.name.name == "<init>") d.cid i a b (forget er L) S H = some (L', S', H')) (E : OEnds P mi (pc + len) L' S' H' r) : OEnds P mi pc L S H r := by
  refine E.up fun n h => ?_
  unfold exe
  rw [hm]
  simp only
  rw [hf]
  simp only
  split
  all_goals first | (simp [plainI] at hp; done) | skip
  have h1 : ¬ isInv i = true := by
    cases i <;> first | (simp [plainI] at hp; done) | simp [isInv]
  have h2 : ¬ isNew i = true := by
    cases i <;> first | (simp [plainI] at hp; done) | simp [isNew]
  rw [if_neg h1, if_neg h2, hx]
  exact h
theorem OEnds.goto {o : Int} (hm : P.mth[mi]? = some d) (hf : fetch d.code pc = some (.goto o, len, er, a, b)) (ht : tgt pc o = some q) (E : OEnds P mi q (forget er L) S H r) : OEnds P mi pc L S H r := by
  refine E.up fun n h => ?_
  unfold exe
  rw [hm]
  simp only
  rw [hf]
  simp only
  rw [ht]
  exact h
theorem OEnds.icmpT {o : Int} {cd : ClassFile.Cond} {x z : Int32} (hm : P.mth[mi]? = some d) (hf : fetch d.code pc = some (.if_icmp cd o, len, er, a, b)) (ht : tgt pc o = some q) (hc : if_icmp.holds cd x z = true) (E : OEnds P mi q (forget er L) S H r) : OEnds P mi pc L (.int z :: .int x :: S) H r := by
  refine E.up fun n h => ?_
  unfold exe
  rw [hm]
  simp only
  rw [hf]
  simp only
  rw [if_pos hc, ht]
  exact h
theorem OEnds.icmpF {o : Int} {cd : ClassFile.Cond} {x z : Int32} (hm : P.mth[mi]? = some d) (hf : fetch d.code pc = some (.if_icmp cd o, len, er, a, b)) (hc : if_icmp.holds cd x z = false) (E : OEnds P mi (pc + 3) (forget er L) S H r) : OEnds P mi pc L (.int z :: .int x :: S) H r := by
  refine E.up fun n h => ?_
  unfold exe
  rw [hm]
  simp only
  rw [hf]
  simp only
  rw [if_neg (by rw [hc]; exact Bool.false_ne_true)]
  exact h
theorem OEnds.ifT {o : Int} {cd : ClassFile.Cond} {x : Int32} (hm : P.mth[mi]? = some d) (hf : fetch d.code pc = some (.ifCond cd o, len, er, a, b)) (ht : tgt pc o = some q) (hc : if_icmp.holds cd x 0 = true) (E : OEnds P mi q (forget er L) S H r) : OEnds P mi pc L (.int x :: S) H r := by
  refine E.up fun n h => ?_
  unfold exe
  rw [hm]
  simp only
  rw [hf]
  simp only
  rw [if_pos ((if0 cd x).trans hc), ht]
  exact h
theorem OEnds.ifF {o : Int} {cd : ClassFile.Cond} {x : Int32} (hm : P.mth[mi]? = some d) (hf : fetch d.code pc = some (.ifCond cd o, len, er, a, b)) (hc : if_icmp.holds cd x 0 = false) (E : OEnds P mi (pc + 3) (forget er L) S H r) : OEnds P mi pc L (.int x :: S) H r := by
  refine E.up fun n h => ?_
  unfold exe
  rw [hm]
  simp only
  rw [hf]
  simp only
  rw [if_neg (by rw [if0 cd x, hc]; exact Bool.false_ne_true)]
  exact h
theorem OEnds.nonnull {o : Int} {x : Nat} (hm : P.mth[mi]? = some d) (hf : fetch d.code pc = some (.ifnonnull o, len, er, a, b)) (ht : tgt pc o = some q) (E : OEnds P mi q (forget er L) S H r) : OEnds P mi pc L (.ref x :: S) H r := by
  refine E.up fun n h => ?_
  unfold exe
  rw [hm]
  simp only
  rw [hf]
  simp only
  rw [ht]
  exact h
theorem OEnds.iret {x : Int32} {u : Value} (hm : P.mth[mi]? = some d) (hf : fetch d.code pc = some (.ireturn, len, er, a, b)) (hv : retV d.ret x = some u) : OEnds P mi pc L [.int x] H (some u, H, 0, 0) := by
  refine ⟨1, fun n hn => ?_⟩
  obtain ⟨k, rfl⟩ : ∃ k, n = k + 1 := ⟨n - 1, by omega⟩
  unfold exe
  rw [hm]
  simp only
  rw [hf]
  simp only
  rw [hv]
theorem OEnds.lret {x : Int64} (hm : P.mth[mi]? = some d) (hf : fetch d.code pc = some (.lreturn, len, er, a, b)) (hv : d.ret = some .long) : OEnds P mi pc L [.long x] H (some (.long x), H, 0, 0) := by
  refine ⟨1, fun n hn => ?_⟩
  obtain ⟨k, rfl⟩ : ∃ k, n = k + 1 := ⟨n - 1, by omega⟩
  unfold exe
  rw [hm]
  simp only
  rw [hf]
  simp only
  rw [if_pos hv]
theorem OEnds.vret (hm : P.mth[mi]? = some d) (hf : fetch d.code pc = some (.return_, len, er, a, b)) (hv : d.ret = none) : OEnds P mi pc L [] H (none, H, 0, 0) := by
  refine ⟨1, fun n hn => ?_⟩
  obtain ⟨k, rfl⟩ : ∃ k, n = k + 1 := ⟨n - 1, by omega⟩
  unfold exe
  rw [hm]
  simp only
  rw [hf]
  simp only
  rw [if_pos hv]
theorem OEnds.oinit {k x : Nat} (hm : P.mth[mi]? = some d) (hf : fetch d.code pc = some (.invokespecial k, len, er, a, -1)) (hr : 1 ≤ d.rf ∧ catSum S + 12 ≤ d.rw) (E : OEnds P mi (pc + 3) (forget er L) S H r) : OEnds P mi pc L (.ref x :: S) H r := by
  refine E.up fun n h => ?_
  unfold exe
  rw [hm]
  simp only
  rw [hf]
  simp only [isInv, if_true]
  rw [if_pos hr]
  exact h
theorem OEnds.call (hm : P.mth[mi]? = some d) (hf : fetch d.code pc = some (i, len, er, a, b)) (hi : isInv i = true) (hb : ¬ b = -1) (hy : P.mth[a]? = some y) (hao : argsOf (nargs y) S = some (as, rest))
    (hc : (decide (0 < a) && invKind i y.kind && recvOk P H y as && fitsRoom d y rest && decide ((entA as).length ≤ y.maxL)) = true) (E1 : OEnds P a 0 (entL as y.maxL) [] H (v, H1, kc, ks)) (E2 : OEnds P mi (pc + 3) (forget er L) (v.toList ++ rest) H1 r) : OEnds P mi pc L S H (addR r kc ks) := by
  obtain ⟨n1, E1⟩ := E1
  obtain ⟨n2, E2⟩ := E2
  refine ⟨n1 + n2 + 1, fun n hn => ?_⟩
  obtain ⟨k, rfl⟩ : ∃ k, n = k + 1 := ⟨n - 1, by omega⟩
  have e1 := E1 k (by omega)
  have e2 := E2 k (by omega)
  unfold exe
  rw [hm]
  simp only
  rw [hf]
  simp only
  split
  all_goals first | (simp [isInv] at hi; done) | skip
  rw [if_pos hi, if_neg hb, hy]
  simp only
  rw [hao]
  simp only
  rw [if_pos hc, e1]
  simp only
  rw [e2]
  rfl
theorem OEnds.call0 (hm : P.mth[mi]? = some d) (hf : fetch d.code pc = some (i, len, er, a, b)) (hi : isInv i = true) (hb : ¬ b = -1) (hy : P.mth[a]? = some y) (hao : argsOf (nargs y) S = some (as, rest))
    (hc : (decide (0 < a) && invKind i y.kind && recvOk P H y as && fitsRoom d y rest && decide ((entA as).length ≤ y.maxL)) = true) (E1 : OEnds P a 0 (entL as y.maxL) [] H (v, H1, 0, 0)) (E2 : OEnds P mi (pc + 3) (forget er L) (v.toList ++ rest) H1 r) : OEnds P mi pc L S H r :=
  OEnds.call (r := r) hm hf hi hb hy hao hc E1 E2
theorem OEnds.made (hm : P.mth[mi]? = some d) (hf : fetch d.code pc = some (i, len, er, a, b)) (hi : isNew i = true) (hx : xN P i a S H = some (S', H', ks)) (E : OEnds P mi (pc + len) (forget er L) S' H' r) : OEnds P mi pc L S H (addR r 1 ks) := by
  obtain ⟨n0, E⟩ := E
  refine ⟨n0 + 1, fun n hn => ?_⟩
  obtain ⟨k, rfl⟩ : ∃ k, n = k + 1 := ⟨n - 1, by omega⟩
  have e1 := E k (by omega)
  unfold exe
  rw [hm]
  simp only
  rw [hf]
  simp only
  split
  all_goals first | (simp [isNew] at hi; done) | skip
  have h1 : ¬ isInv i = true := by
    cases i <;> first | (simp [isNew] at hi; done) | simp [isInv]
  rw [if_neg h1, if_pos hi, hx]
  simp only
  rw [e1]
  rfl
end Rules
/-- k plain instructions and jumps in one go -/
def adv (P : PD) (d : MD) : Nat → Nat → List Slot → List Value → AHeap → Option (Nat × List Slot × List Value × AHeap)
  | 0, pc, L, S, H => some (pc, L, S, H)
  | k + 1, pc, L, S, H => match fetch d.code pc with
    | some (i, len, er, a, b) => match i with
      | .goto o => match tgt pc o with
        | some q => adv P d k q (forget er L) S H
        | none => none
      | i => if plainI i = true then match xI P (d.name.name == "<init>") d.cid i a b (forget er L) S H with
          | some (L', S', H') => adv P d k (pc + len) L' S' H'
          | none => none
        else none
    | none => none
theorem OEnds.adv {P : PD} {mi : Nat} {d : MD} (hm : P.mth[mi]? = some d) {r : Res} : ∀ (k : Nat) {pc pc' : Nat} {L L' : List Slot} {S S' : List Value} {H H' : AHeap}, adv P d k pc L S H = some (pc', L', S', H') → OEnds P mi pc' L' S' H' r → OEnds P mi pc L S H r
  | 0, _, _, _, _, _, _, _, _, h, E => by
    unfold Own.adv at h
    cases h
    exact E
  | k + 1, pc, pc', L, L', S, S', H, H', h, E => by
    unfold Own.adv at h
    split at h
    · rename_i it i len er a b hf
      split at h
      · rename_i o
        split at h
        · rename_i q hq
          exact OEnds.goto hm hf hq (OEnds.adv hm k h E)
        · cases h
      · split at h
        · rename_i hp
          split at h
          · rename_i L1 S1 H1 hx
            exact OEnds.plain hm hf hp hx (OEnds.adv hm k h E)
          · cases h
        · cases h
    · cases h
theorem x_iaload {P : PD} {ini : Bool} {cid a o : Nat} {b : Int} {L : List Slot} {S : List Value} {H : AHeap} {A : List Int32} {j x : Int32} (h : H[o]? = some (.inr (.inl (false, A)))) (hx : rdA A j = some x) : xI P ini cid .iaload a b L (.int j :: .ref o :: S) H = some (L, .int x :: S, H) := by simp [xI, h, hx]
theorem x_baload {P : PD} {ini : Bool} {cid a o : Nat} {b : Int} {L : List Slot} {S : List Value} {H : AHeap} {A : List Int32} {j x : Int32} (h : H[o]? = some (.inr (.inl (true, A)))) (hx : rdA A j = some x) : xI P ini cid .baload a b L (.int j :: .ref o :: S) H = some (L, .int x :: S, H) := by simp [xI, h, hx]
theorem x_laload {P : PD} {ini : Bool} {cid a o : Nat} {b : Int} {L : List Slot} {S : List Value} {H : AHeap} {A : List Int64} {j : Int32} {x : Int64} (h : H[o]? = some (.inr (.inr A))) (hx : rdA A j = some x) : xI P ini cid .laload a b L (.int j :: .ref o :: S) H = some (L, .long x :: S, H) := by simp [xI, h, hx]
theorem x_iastore {P : PD} {ini : Bool} {cid a o : Nat} {b : Int} {L : List Slot} {S : List Value} {H : AHeap} {A A' : List Int32} {j x : Int32} (h : H[o]? = some (.inr (.inl (false, A)))) (hn : P.nr ≤ o) (hx : wrA A j x = some A') : xI P ini cid .iastore a b L (.int x :: .int j :: .ref o :: S) H = some (L, S, H.set o (.inr (.inl (false, A')))) := by simp [xI, h, hx, hn]
theorem x_bastore {P : PD} {ini : Bool} {cid a o : Nat} {b : Int} {L : List Slot} {S : List Value} {H : AHeap} {A A' : List Int32} {j x : Int32} (h : H[o]? = some (.inr (.inl (true, A)))) (hn : P.nr ≤ o) (hx : wrA A j (x &&& 1) = some A') : xI P ini cid .bastore a b L (.int x :: .int j :: .ref o :: S) H = some (L, S, H.set o (.inr (.inl (true, A')))) := by simp [xI, h, hx, hn]
theorem x_lastore {P : PD} {ini : Bool} {cid a o : Nat} {b : Int} {L : List Slot} {S : List Value} {H : AHeap} {A A' : List Int64} {j : Int32} {x : Int64} (h : H[o]? = some (.inr (.inr A))) (hn : P.nr ≤ o) (hx : wrA A j x = some A') : xI P ini cid .lastore a b L (.long x :: .int j :: .ref o :: S) H = some (L, S, H.set o (.inr (.inr A'))) := by simp [xI, h, hx, hn]
theorem x_irem {P : PD} {ini : Bool} {cid a : Nat} {b : Int} {L : List Slot} {S : List Value} {H : AHeap} {x y : Int32} (h : ¬ y = 0) : xI P ini cid .irem a b L (.int y :: .int x :: S) H = some (L, .int (x % y) :: S, H) := by simp [xI, h]
theorem x_idiv {P : PD} {ini : Bool} {cid a : Nat} {b : Int} {L : List Slot} {S : List Value} {H : AHeap} {x y : Int32} (h : ¬ y = 0) : xI P ini cid .idiv a b L (.int y :: .int x :: S) H = some (L, .int (x / y) :: S, H) := by simp [xI, h]
theorem x_lrem {P : PD} {ini : Bool} {cid a : Nat} {b : Int} {L : List Slot} {S : List Value} {H : AHeap} {x y : Int64} (h : ¬ y = 0) : xI P ini cid .lrem a b L (.long y :: .long x :: S) H = some (L, .long (x % y) :: S, H) := by simp [xI, h]
theorem x_ldiv {P : PD} {ini : Bool} {cid a : Nat} {b : Int} {L : List Slot} {S : List Value} {H : AHeap} {x y : Int64} (h : ¬ y = 0) : xI P ini cid .ldiv a b L (.long y :: .long x :: S) H = some (L, .long (x / y) :: S, H) := by simp [xI, h]
theorem c_lt {x y : Int64} : XT.cmpL x y < 0 ↔ x < y := by
  unfold XT.cmpL; split <;> (try split) <;> simp_all [Int64.lt_iff_toInt_lt, ← Int64.toInt_inj] <;> omega
theorem c_gt {x y : Int64} : 0 < XT.cmpL x y ↔ y < x := by
  unfold XT.cmpL; split <;> (try split) <;> simp_all [Int64.lt_iff_toInt_lt, ← Int64.toInt_inj] <;> omega
theorem c_eq {x y : Int64} : XT.cmpL x y = 0 ↔ x = y := by
  unfold XT.cmpL; split <;> (try split) <;> simp_all [Int64.lt_iff_toInt_lt, ← Int64.toInt_inj] <;> omega
end Jvm.Own
namespace Jvm.Own
open Jvm Jvm.ClassFile Sem Op Lib Jvm.Free Jvm.Stand Jvm.LawKit Jvm.RoadKit Bundle
theorem bnd {α β : Type} {o : Option α} {f : α → Option β} {b : β} (h : o.bind f = some b) : ∃ a, o = some a ∧ f a = some b := Option.bind_eq_some_iff.mp h
theorem x_putZ {P : PD} {ini : Bool} {k cid a o : Nat} {b : Int} {L : List Slot} {S : List Value} {H : AHeap} {fs : List Value} {nm ds : String} {x : Int32} (h : H[o]? = some (.inl (cid, fs))) (hn : P.nr ≤ o) (hf : ((P.cls[cid]?).bind fun cd => cd.2.2[a]?) = some (nm, ds, .boolean, false)) (hx : x = 0 ∨ x = 1) :
    xI P ini cid (.putfield k) a b L (.int x :: .ref o :: S) H = some (L, S, H.set o (.inl (cid, fs.set a (.int x)))) := by
  rcases hx with rfl | rfl <;> simp [xI, h, hn, hf, putOk]
section Rules
variable {P : PD} {mi pc len a q : Nat} {er : List Bool} {b : Int} {i : Instr} {d y : MD} {L L' : List Slot} {S S' as rest : List Value} {H H' H1 : AHeap} {r : Res} {kc ks : Nat} {v : Option Value}
theorem OEnds.made1 {w : Option Value} {Hf : AHeap} (hm : P.mth[mi]? = some d) (hf : fetch d.code pc = some (i, len, er, a, b)) (hi : isNew i = true) (hx : xN P i a S H = some (S', H', ks)) {c0 s0 c1 s1 : Nat} (hr : (c1, s1) = (c0 + 1, s0 + ks)) (E : OEnds P mi (pc + len) (forget er L) S' H' (w, Hf, c0, s0)) : OEnds P mi pc L S H (w, Hf, c1, s1) := by
  cases hr
  exact OEnds.made (r := (w, Hf, c0, s0)) hm hf hi hx E
/-! The same, of a run whose end is told by a property -/
def OEndsQ (P : PD) (mi pc : Nat) (L : List Slot) (S : List Value) (H : AHeap) (Q : Res → Prop) : Prop := ∃ r, OEnds P mi pc L S H r ∧ Q r
variable {Q : Res → Prop}
theorem OEndsQ.plain (hm : P.mth[mi]? = some d) (hf : fetch d.code pc = some (i, len, er, a, b)) (hp : plainI i = true) (hx : xI P (d.name.name == "<init>") d.cid i a b (forget er L) S H = some (L', S', H')) (E : OEndsQ P mi (pc + len) L' S' H' Q) : OEndsQ P mi pc L S H Q := by
  obtain ⟨r, E, hq⟩ := E; exact ⟨r, OEnds.plain hm hf hp hx E, hq⟩
theorem OEndsQ.icmpT {o : Int} {cd : ClassFile.Cond} {x z : Int32} (hm : P.mth[mi]? = some d) (hf : fetch d.code pc = some (.if_icmp cd o, len, er, a, b)) (ht : tgt pc o = some q) (hc : if_icmp.holds cd x z = true) (E : OEndsQ P mi q (forget er L) S H Q) : OEndsQ P mi pc L (.int z :: .int x :: S) H Q := by
  obtain ⟨r, E, hq⟩ := E; exact ⟨r, OEnds.icmpT hm hf ht hc E, hq⟩
theorem OEndsQ.icmpF {o : Int} {cd : ClassFile.Cond} {x z : Int32} (hm : P.mth[mi]? = some d) (hf : fetch d.code pc = some (.if_icmp cd o, len, er, a, b)) (hc : if_icmp.holds cd x z = false) (E : OEndsQ P mi (pc + 3) (forget er L) S H Q) : OEndsQ P mi pc L (.int z :: .int x :: S) H Q := by
  obtain ⟨r, E, hq⟩ := E; exact ⟨r, OEnds.icmpF hm hf hc E, hq⟩
theorem OEndsQ.ifT {o : Int} {cd : ClassFile.Cond} {x : Int32} (hm : P.mth[mi]? = some d) (hf : fetch d.code pc = some (.ifCond cd o, len, er, a, b)) (ht : tgt pc o = some q) (hc : if_icmp.holds cd x 0 = true) (E : OEndsQ P mi q (forget er L) S H Q) : OEndsQ P mi pc L (.int x :: S) H Q := by
  obtain ⟨r, E, hq⟩ := E; exact ⟨r, OEnds.ifT hm hf ht hc E, hq⟩
theorem OEndsQ.ifF {o : Int} {cd : ClassFile.Cond} {x : Int32} (hm : P.mth[mi]? = some d) (hf : fetch d.code pc = some (.ifCond cd o, len, er, a, b)) (hc : if_icmp.holds cd x 0 = false) (E : OEndsQ P mi (pc + 3) (forget er L) S H Q) : OEndsQ P mi pc L (.int x :: S) H Q := by
  obtain ⟨r, E, hq⟩ := E; exact ⟨r, OEnds.ifF hm hf hc E, hq⟩
theorem OEndsQ.nonnull {o : Int} {x : Nat} (hm : P.mth[mi]? = some d) (hf : fetch d.code pc = some (.ifnonnull o, len, er, a, b)) (ht : tgt pc o = some q) (E : OEndsQ P mi q (forget er L) S H Q) : OEndsQ P mi pc L (.ref x :: S) H Q := by
  obtain ⟨r, E, hq⟩ := E; exact ⟨r, OEnds.nonnull hm hf ht E, hq⟩
theorem OEndsQ.call0 (hm : P.mth[mi]? = some d) (hf : fetch d.code pc = some (i, len, er, a, b)) (hi : isInv i = true) (hb : ¬ b = -1) (hy : P.mth[a]? = some y) (hao : argsOf (nargs y) S = some (as, rest))
    (hc : (decide (0 < a) && invKind i y.kind && recvOk P H y as && fitsRoom d y rest && decide ((entA as).length ≤ y.maxL)) = true) (E1 : OEnds P a 0 (entL as y.maxL) [] H (v, H1, 0, 0)) (E2 : OEndsQ P mi (pc + 3) (forget er L) (v.toList ++ rest) H1 Q) : OEndsQ P mi pc L S H Q := by
  obtain ⟨r, E, hq⟩ := E2; exact ⟨r, OEnds.call0 hm hf hi hb hy hao hc E1 E, hq⟩
theorem OEndsQ.adv (hm : P.mth[mi]? = some d) (k : Nat) {pc' : Nat} (h : adv P d k pc L S H = some (pc', L', S', H')) (E : OEndsQ P mi pc' L' S' H' Q) : OEndsQ P mi pc L S H Q := by
  obtain ⟨r, E, hq⟩ := E; exact ⟨r, OEnds.adv hm k h E, hq⟩
/-- what a law's run ends with: its answer, and at the most so many cells and slots made -/
def LawQ (x : Int32) (kc ks : Nat) (r : Res) : Prop := r.1 = some (.int x) ∧ r.2.2.1 ≤ kc ∧ r.2.2.2 ≤ ks
theorem OEndsQ.iret {x u : Int32} (hm : P.mth[mi]? = some d) (hf : fetch d.code pc = some (.ireturn, len, er, a, b)) (hv : retV d.ret x = some (.int u)) : OEndsQ P mi pc L [.int x] H (LawQ u kc ks) :=
  ⟨_, OEnds.iret hm hf hv, rfl, Nat.zero_le _, Nat.zero_le _⟩
theorem OEndsQ.weak {x : Int32} {c0 s0 : Nat} (h1 : c0 ≤ kc) (h2 : s0 ≤ ks) (E : OEndsQ P mi pc L S H (LawQ x c0 s0)) : OEndsQ P mi pc L S H (LawQ x kc ks) := by
  obtain ⟨r, E, q1, q2, q3⟩ := E; exact ⟨r, E, q1, Nat.le_trans q2 h1, Nat.le_trans q3 h2⟩
theorem OEndsQ.made {x : Int32} {c0 s0 c1 s1 : Nat} (hm : P.mth[mi]? = some d) (hf : fetch d.code pc = some (i, len, er, a, b)) (hi : isNew i = true) (hx : xN P i a S H = some (S', H', ks)) (h1 : c0 + 1 ≤ c1) (h2 : s0 + ks ≤ s1) (E : OEndsQ P mi (pc + len) (forget er L) S' H' (LawQ x c0 s0)) : OEndsQ P mi pc L S H (LawQ x c1 s1) := by
  obtain ⟨⟨v, Hf, k, n⟩, E, q1, q2, q3⟩ := E
  dsimp only at q1 q2 q3
  exact ⟨_, OEnds.made hm hf hi hx E, q1, by show k + 1 ≤ c1; omega, by show n + ks ≤ s1; omega⟩
theorem OEndsQ.callN {x : Int32} {c0 s0 c1 s1 : Nat} (hm : P.mth[mi]? = some d) (hf : fetch d.code pc = some (i, len, er, a, b)) (hi : isInv i = true) (hb : ¬ b = -1) (hy : P.mth[a]? = some y) (hao : argsOf (nargs y) S = some (as, rest))
    (hc : (decide (0 < a) && invKind i y.kind && recvOk P H y as && fitsRoom d y rest && decide ((entA as).length ≤ y.maxL)) = true) (E1 : OEnds P a 0 (entL as y.maxL) [] H (v, H1, kc, ks)) (h1 : c0 + kc ≤ c1) (h2 : s0 + ks ≤ s1) (E2 : OEndsQ P mi (pc + 3) (forget er L) (v.toList ++ rest) H1 (LawQ x c0 s0)) : OEndsQ P mi pc L S H (LawQ x c1 s1) := by
  obtain ⟨⟨v, Hf, k, n⟩, E, q1, q2, q3⟩ := E2
  dsimp only at q1 q2 q3
  exact ⟨_, OEnds.call hm hf hi hb hy hao hc E1 E, q1, by show k + kc ≤ c1; omega, by show n + ks ≤ s1; omega⟩
end Rules
/-! From the machine to the claim -/
theorem law_met {P : PD} {Z : State} {a0 : Array Value} {l : Launch} {y : MD} {as ws : List Value} {H : AHeap} {ρ : List Addr} {n0 kc ks : Nat} {h : Heap} (hP : chk P = true) (hW : ∀ w ∈ wordsOf P, w.before a0 Z = true) (hy : P.mth[0]? = some y)
    (E : OEndsQ P 0 0 (entL as y.maxL) [] H (LawQ 1 kc ks)) (hS : SR ρ as ws) (hlen : (entA as).length ≤ y.maxL) (hH : HR P Z n0 h ρ H) (w0 : List Jvm.Cond) (rm : Room) (r1 : y.rf ≤ rm.frames) (r2 : y.rw ≤ rm.locals) (r3 : kc ≤ rm.cells) (r4 : ks ≤ rm.slots) :
    MetFree l y.name (head1 (Jvm.Cond.code y.name y.bytes y.maxL y.ret :: w0) rm) (fun a U => a = ws.toArray ∧ Z.Warmed39 U.vm ∧ U.heap = h) (fun _ _ _ _ _ => True)
      (fun _ U o U' => ∃ L, o = .returned (some (.int 1)) ∧ Fr n0 L ∧ FrameEnd U o U' L kc ks) := by
  obtain ⟨⟨v, H1, c1, s1⟩, ⟨n, E⟩, q1, q2, q3⟩ := E
  dsimp only at q1 q2 q3
  subst q1
  have hpn : plainName y.name.cls = true := by
    have := mChk_of hP (List.mem_of_getElem? hy)
    simp only [mChk, Bool.and_eq_true] at this
    exact this.1.1.1.1.1.1
  have M := met_of (l := l) (n := n) (sound hP hW n) hy hpn (E n (Nat.le_refl _)) hS hlen hH w0 rm r1 r2 (Nat.le_trans q2 r3) (Nat.le_trans q3 r4)
  intro p e ha hc hk s m args below hf happ hp hK
  obtain ⟨n', o, h1, h2, h3, v', L, rfl, ⟨hF, t, ⟨u, rfl, hu⟩, -⟩, hq⟩ := M p e ha hc hk s m args below hf happ hp hK
  obtain rfl : u = .int 1 := hu
  exact ⟨n', _, h1, h2, h3, L, rfl, hF, hq.1, hq.2.1, hq.2.2.mono q2 q3⟩
end Jvm.Own
namespace Jvm.Own
open Jvm Jvm.ClassFile Sem Op Lib Jvm.Free Jvm.Stand Jvm.LawKit Jvm.RoadKit Bundle
/-- the law's script: an int array of at most 260 -/
theorem script_of {s : State} {ad : Addr} {cl : Cell} (hf : Fit s) (A : Arr s s.heap ad cl .int) (e0 : (Term.arg 0).eval #[.ref ad] s none [] s = some (.ref ad)) (hn : (Jvm.Cond.le (.length (.arg 0)) (.int 260)).value #[.ref ad] s none s [] = some true) :
    ∃ scr : List Int32, cl.slots.size = scr.length ∧ scr.length ≤ 260 ∧ ∀ (i : Nat) x, scr[i]? = some x → cl.slots[i]? = some (.int x) := by
  obtain ⟨u, v, g1, g2, -, -⟩ := cmp_v (Or.inr (Or.inr hn))
  obtain ⟨a', cl', z1, z2, z3⟩ := Term.length_spec g1
  have hat := A.fin (Vm.Alike.refl _)
  rw [e0] at z1
  cases z1
  rw [hat] at z2
  cases z2
  have hsz : cl.slots.size < 2 ^ 31 := by
    rcases Nat.lt_or_ge cl.slots.size (2 ^ 31) with q | q
    · exact q
    · exfalso
      simp [Term.eval, hat] at g1
      omega
  subst z3
  have hv : v = .int 260 := by simpa [Term.eval] using g2.symm
  subst hv
  have hle : cl.slots.size.toInt32 ≤ 260 := by
    simpa [Cond.value, g1, g2] using hn
  have hle' : cl.slots.size ≤ 260 := by
    rw [Int32.le_iff_toInt_le, len_toInt hsz] at hle
    have : (260 : Int32).toInt = 260 := rfl
    rw [this] at hle
    omega
  have key : ∀ i, i < cl.slots.size → ∃ x, cl.slots[i]? = some (.int x) := fun i hi => by
    have hj := idx_in hi hsz
    obtain ⟨v, e1, e2⟩ := elem_fit hf A hj
    have : i.toInt32.toNatClampNeg = i := by
      have h1 : i.toInt32.toInt = i := len_toInt (by omega)
      simp [Int32.toNatClampNeg, h1]
    rw [this] at e1
    obtain ⟨x, rfl⟩ := fit_I e2 (Or.inl rfl)
    exact ⟨x, e1⟩
  refine ⟨cl.slots.toList.map fun v => match v with | .int x => x | _ => 0, by simp, by simpa using hle', fun i x hx => ?_⟩
  rw [List.getElem?_map] at hx
  obtain ⟨v, h1, h2⟩ := Option.map_eq_some_iff.mp hx
  have h1' : cl.slots[i]? = some v := by simpa using h1
  obtain ⟨y, hy⟩ := key i (Array.getElem?_eq_some_iff.mp h1').1
  rw [h1'] at hy
  cases hy
  rw [h1']
  simp at h2
  rw [h2]
theorem hr_script {P : PD} {s : State} {ad : Addr} {cl : Cell} {scr : List Int32} (hnr : P.nr = 1) (A : Arr s s.heap ad cl .int) (h1 : cl.slots.size = scr.length) (h2 : scr.length ≤ 260) (h3 : ∀ (i : Nat) x, scr[i]? = some x → cl.slots[i]? = some (.int x)) : HR P s s.heap.size s.heap [ad] [.inr (.inl (false, scr))] := by
  refine ⟨Nat.le_refl _, rfl, fun i j a g1 g2 => ?_, fun k a g1 g2 => ?_, fun k a c g1 g2 => ?_⟩
  · match i, j, g1, g2 with
    | 0, 0, _, _ => rfl
    | i + 1, _, g1, _ => simp at g1
    | 0, j + 1, _, g2 => simp at g2
  · match k, g1, g2 with
    | 0, _, g2 => rw [hnr] at g2; omega
    | k + 1, g1, _ => simp at g1
  · match k, g1, g2 with
    | 0, g1, g2 =>
      simp at g1 g2
      subst g1 g2
      exact ⟨cl, A, h1, by omega, h3⟩
    | k + 1, g1, _ => simp at g1
end Jvm.Own
namespace Jvm.Own
open Jvm
/-! Ints in range, arrays -/
theorem ilt {a b : Int32} : a < b ↔ a.toInt < b.toInt := Int32.lt_iff_toInt_lt
theorem ile {a b : Int32} : a ≤ b ↔ a.toInt ≤ b.toInt := Int32.le_iff_toInt_le
theorem ieq {a b : Int32} : a = b ↔ a.toInt = b.toInt := Int32.toInt_inj.symm
theorem irng (a : Int32) : -2147483648 ≤ a.toInt ∧ a.toInt < 2147483648 := ⟨Int32.le_toInt a, Int32.toInt_lt a⟩
theorem iadd_i {a b : Int32} (h1 : -2147483648 ≤ a.toInt + b.toInt) (h2 : a.toInt + b.toInt < 2147483648) : (a + b).toInt = a.toInt + b.toInt := by
  rw [Int32.toInt_add]; exact Int.bmod_eq_of_le (by omega) (by omega)
theorem isub_i {a b : Int32} (h1 : -2147483648 ≤ a.toInt - b.toInt) (h2 : a.toInt - b.toInt < 2147483648) : (a - b).toInt = a.toInt - b.toInt := by
  rw [Int32.toInt_sub]; exact Int.bmod_eq_of_le (by omega) (by omega)
theorem imul_i {a b : Int32} (h1 : -2147483648 ≤ a.toInt * b.toInt) (h2 : a.toInt * b.toInt < 2147483648) : (a * b).toInt = a.toInt * b.toInt := by
  rw [Int32.toInt_mul]; exact Int.bmod_eq_of_le (by omega) (by omega)
theorem rdA_nn {α : Type} {L : List α} {j : Int32} (h0 : 0 ≤ j.toInt) : rdA L j = L[j.toInt.toNat]? := by
  unfold rdA
  rw [if_neg (by rw [ilt]; exact Int.not_lt.mpr h0)]
  rfl
theorem rdA_in {α : Type} {L : List α} {j : Int32} (h0 : 0 ≤ j.toInt) (h1 : j.toInt.toNat < L.length) : rdA L j = some L[j.toInt.toNat] := by
  rw [rdA_nn h0, List.getElem?_eq_getElem h1]
theorem wrA_in {α : Type} {L : List α} {j : Int32} {x : α} (h0 : 0 ≤ j.toInt) (h1 : j.toInt.toNat < L.length) : wrA L j x = some (L.set j.toInt.toNat x) := by
  unfold wrA
  rw [if_neg (by rw [ilt]; exact Int.not_lt.mpr h0)]
  exact if_pos h1
theorem rdA_rep {α : Type} {n : Nat} {x : α} {j : Int32} (h0 : 0 ≤ j.toInt) (h1 : j.toInt < n) : rdA (List.replicate n x) j = some x := by
  rw [rdA_nn h0, List.getElem?_replicate, if_pos (by omega)]
end Jvm.Own
namespace Jvm.Own
open Jvm
/-! Sums of ints with their wrap, for omega; runs that answer, and what they answer -/
theorem bmod32 (x : Int) : x.bmod (2 ^ 32) = (x + 2147483648) % 4294967296 - 2147483648 := by
  rw [Int.bmod_def]
  split <;> omega
theorem iadd_e (a b : Int32) : (a + b).toInt = (a.toInt + b.toInt + 2147483648) % 4294967296 - 2147483648 := by
  rw [Int32.toInt_add, bmod32]
theorem isub_e (a b : Int32) : (a - b).toInt = (a.toInt - b.toInt + 2147483648) % 4294967296 - 2147483648 := by
  rw [Int32.toInt_sub, bmod32]
theorem imul_e (a b : Int32) : (a * b).toInt = (a.toInt * b.toInt + 2147483648) % 4294967296 - 2147483648 := by
  rw [Int32.toInt_mul, bmod32]
theorem iscr {n : Nat} (h : n ≤ 260) : (n.toInt32).toInt = n := Int32.toInt_ofNat_of_lt (by omega)
def Tot {α : Type} (x : Option α) (P : α → Prop) : Prop := ∃ r, x = some r ∧ P r
theorem Tot.mk {α : Type} {P : α → Prop} {a : α} (h : P a) : Tot (some a) P := ⟨a, rfl, h⟩
theorem Tot.bind {α β : Type} {x : Option α} {f : α → Option β} {P : α → Prop} {Q : β → Prop} (h : Tot x P) (g : ∀ a, P a → Tot (f a) Q) : Tot (x.bind f) Q := by
  obtain ⟨r, e, p⟩ := h
  rw [e]
  exact g r p
theorem Tot.mono {α : Type} {x : Option α} {P Q : α → Prop} (h : Tot x P) (g : ∀ a, P a → Q a) : Tot x Q := by
  obtain ⟨r, e, p⟩ := h
  exact ⟨r, e, g r p⟩
theorem Tot.ite {α : Type} {c : Prop} [Decidable c] {a b : Option α} {Q : α → Prop} (h1 : c → Tot a Q) (h2 : ¬ c → Tot b Q) : Tot (if c then a else b) Q := by
  by_cases h : c
  · rw [if_pos h]; exact h1 h
  · rw [if_neg h]; exact h2 h
theorem Tot.rd {α β : Type} {L : List α} {j : Int32} {f : α → Option β} {Q : β → Prop} (h0 : 0 ≤ j.toInt) (h1 : j.toInt < L.length) (g : ∀ a, L[j.toInt.toNat]? = some a → Tot (f a) Q) : Tot ((rdA L j).bind f) Q := by
  have h2 : j.toInt.toNat < L.length := by omega
  rw [rdA_in h0 h2]
  exact g _ (List.getElem?_eq_getElem h2)
theorem Tot.wr {α β : Type} {L : List α} {j : Int32} {x : α} {f : List α → Option β} {Q : β → Prop} (h0 : 0 ≤ j.toInt) (h1 : j.toInt < L.length) (g : ∀ L' : List α, L' = L.set j.toInt.toNat x → L'.length = L.length → Tot (f L') Q) : Tot ((wrA L j x).bind f) Q := by
  rw [wrA_in h0 (by omega)]
  exact g _ rfl (by simp)
theorem Tot.eq {α : Type} {x : Option α} {a : α} (h : Tot x (fun r => r = a)) : x = some a := by
  obtain ⟨r, e, p⟩ := h
  rw [e, p]
theorem Tot.of {α : Type} {x : Option α} {a : α} {P : α → Prop} (e : x = some a) (p : P a) : Tot x P := ⟨a, e, p⟩
/-- a bit mask at 15, 31 .. -/
theorem iand_rng (x : Int32) (m : Int32) (h : 0 ≤ m.toInt) : 0 ≤ (x &&& m).toInt ∧ (x &&& m).toInt ≤ m.toInt := by
  have hm : m.toBitVec.msb = false := by
    rw [BitVec.msb_eq_toInt]; simpa using h
  have hx : (x &&& m).toBitVec.msb = false := by
    rw [Int32.toBitVec_and, BitVec.msb_and, hm, Bool.and_false]
  have e1 : m.toInt = (m.toBitVec.toNat : Int) := BitVec.toInt_eq_toNat_of_msb hm
  have e2 : (x &&& m).toInt = (((x &&& m).toBitVec).toNat : Int) := BitVec.toInt_eq_toNat_of_msb hx
  have e3 : ((x &&& m).toBitVec).toNat ≤ m.toBitVec.toNat := by
    rw [Int32.toBitVec_and, BitVec.toNat_and]; exact Nat.and_le_right
  omega
def gI (L : List Int32) (j : Int32) : Int32 := (rdA L j).getD 0
theorem rdg {L : List Int32} {j : Int32} (h0 : 0 ≤ j.toInt) (h1 : j.toInt < L.length) : rdA L j = some (gI L j) := by
  have h2 : j.toInt.toNat < L.length := by omega
  unfold gI
  rw [rdA_in h0 h2]
  (first | done | rfl | simp)
theorem gset {L : List Int32} {i j : Int32} {x : Int32} (hi : 0 ≤ i.toInt) (hl : i.toInt < L.length) (hj : 0 ≤ j.toInt) : gI (L.set i.toInt.toNat x) j = if i = j then x else gI L j := by
  unfold gI
  rw [rdA_nn hj, rdA_nn hj]
  by_cases h : i = j
  · subst h
    rw [if_pos rfl, List.getElem?_set_self (by omega)]
    (first | done | rfl | simp)
  · rw [if_neg h, List.getElem?_set_ne (by rw [ieq] at h; omega)]
theorem gext {A B : List Int32} (hl : A.length < 100000) (ha : A.length = B.length) (h : ∀ i : Int32, 0 ≤ i.toInt → i.toInt < A.length → gI A i = gI B i) : A = B := by
  apply List.ext_getElem ha
  intro k h1 h2
  have e : (Int32.ofNat k).toInt = k := Int32.toInt_ofNat_of_lt (by omega)
  have q := h (Int32.ofNat k) (by omega) (by omega)
  unfold gI at q
  rw [rdA_nn (by omega), rdA_nn (by omega), e] at q
  simpa [h1, h2] using q
theorem Tot.rdI {β : Type} {L : List Int32} {j : Int32} {f : Int32 → Option β} {Q : β → Prop} (h0 : 0 ≤ j.toInt) (h1 : j.toInt < L.length) (g : Tot (f (gI L j)) Q) : Tot ((rdA L j).bind f) Q := by
  rw [rdg h0 h1]
  exact g
theorem gI_rep {n : Nat} {x : Int32} {j : Int32} (h0 : 0 ≤ j.toInt) (h1 : j.toInt < n) : gI (List.replicate n x) j = x := by
  unfold gI
  rw [rdA_rep h0 h1]
  (first | done | rfl | simp)
/-! Longs -/
theorem lltI {a b : Int64} : a < b ↔ a.toInt < b.toInt := Int64.lt_iff_toInt_lt
theorem leqI {a b : Int64} : a = b ↔ a.toInt = b.toInt := Int64.toInt_inj.symm
theorem lrng (a : Int64) : -9223372036854775808 ≤ a.toInt ∧ a.toInt < 9223372036854775808 := ⟨Int64.le_toInt a, Int64.toInt_lt a⟩
theorem ladd_i {a b : Int64} (h1 : -9223372036854775808 ≤ a.toInt + b.toInt) (h2 : a.toInt + b.toInt < 9223372036854775808) : (a + b).toInt = a.toInt + b.toInt := by
  rw [Int64.toInt_add]; exact Int.bmod_eq_of_le (by omega) (by omega)
theorem lsub_i {a b : Int64} (h1 : -9223372036854775808 ≤ a.toInt - b.toInt) (h2 : a.toInt - b.toInt < 9223372036854775808) : (a - b).toInt = a.toInt - b.toInt := by
  rw [Int64.toInt_sub]; exact Int.bmod_eq_of_le (by omega) (by omega)
theorem lmul_i {a b : Int64} (h1 : -9223372036854775808 ≤ a.toInt * b.toInt) (h2 : a.toInt * b.toInt < 9223372036854775808) : (a * b).toInt = a.toInt * b.toInt := by
  rw [Int64.toInt_mul]; exact Int.bmod_eq_of_le (by omega) (by omega)
theorem lmod_i {a b : Int64} (h : 0 ≤ a.toInt) : (a % b).toInt = a.toInt % b.toInt := by
  rw [Int64.toInt_mod, Int.tmod_eq_emod_of_nonneg h]
theorem lback {a : Int64} (h1 : -2147483648 ≤ a.toInt) (h2 : a.toInt < 2147483648) : a.toInt32.toInt64 = a := by
  rw [leqI, Int32.toInt_toInt64, Int64.toInt_toInt32, bmod32]
  omega
theorem mulb {a b M : Int} (h0 : 0 ≤ a) (h1 : a ≤ M) (h2 : 0 ≤ b) (h3 : b ≤ M) : 0 ≤ a * b ∧ a * b ≤ M * M :=
  ⟨Int.mul_nonneg h0 h2, Int.mul_le_mul h1 h3 h2 (by omega)⟩
end Jvm.Own
namespace Jvm.Pilot.@@N@@
open Jvm Jvm.ClassFile Sem Op Lib Jvm.Free Jvm.Stand Jvm.LawKit Jvm.RoadKit Bundle Jvm.Own Jvm.Pilot.@@N@@.Jvm.D
def d_0 : MD := (x, code, maxLocals, ret, 0, 1, 999, 5, 73, [(0, .aload_n 0, 1, [], 0, 0), (1, .iconst 0, 1, [], 0, 0), (2, .invokestatic 7, 3, [], 1, 0), (5, .bipush 18, 2, [], 0, 0), (7, .invokestatic 13, 3, [], 2, 0), (10, .iconst 1, 1, [], 0, 0), (11, .isub, 1, [], 0, 0), (12, .istore_n 1, 1, [], 0, 0), (13, .aload_n 0, 1, [], 0, 0), (14, .iconst 1, 1, [], 0, 0), (15, .invokestatic 7, 3, [], 1, 0), (18, .bipush 10, 2, [], 0, 0), (20, .invokestatic 13, 3, [], 2, 0), (23, .iconst 1, 1, [], 0, 0), (24, .isub, 1, [], 0, 0), (25, .istore_n 2, 1, [], 0, 0), (26, .iload_n 1, 1, [], 0, 0), (27, .iconst 1, 1, [], 0, 0), (28, .bipush 16, 2, [], 0, 0), (30, .invokestatic 17, 3, [], 3, 0), (33, .istore_n 3, 1, [], 0, 0), (34, .iload_n 2, 1, [], 0, 0), (35, .iconst 1, 1, [], 0, 0), (36, .bipush 8, 2, [], 0, 0), (38, .invokestatic 17, 3, [], 3, 0), (41, .istore 4, 2, [], 0, 0), (43, .new 21, 3, [], 0, 0), (46, .dup, 1, [], 0, 0), (47, .iload_n 1, 1, [], 0, 0), (48, .iload_n 2, 1, [], 0, 0), (49, .invokespecial 23, 3, [], 4, 0), (52, .astore 5, 2, [], 0, 0), (54, .iconst 2, 1, [], 0, 0), (55, .aload_n 0, 1, [], 0, 0), (56, .iconst 2, 1, [], 0, 0), (57, .invokestatic 7, 3, [], 1, 0), (60, .iconst 3, 1, [], 0, 0), (61, .invokestatic 13, 3, [], 2, 0), (64, .iadd, 1, [], 0, 0), (65, .istore 6, 2, [], 0, 0), (67, .iconst 0, 1, [], 0, 0), (68, .istore 7, 2, [], 0, 0), (70, .iconst 1, 1, [], 0, 0), (71, .istore 8, 2, [], 0, 0), (73, .iconst 1, 1, [], 0, 0), (74, .istore 9, 2, [], 0, 0), (76, .iload 9, 2, [false, true, true, false, false, false, false, false, false, false, true, true, true, true, true, true, true, true, true, true, true, true, true, true, true, true, true, true], 0, 0), (78, .iload 4, 2, [], 0, 0), (80, .if_icmp .gt 37, 3, [], 0, 0), (83, .iload 8, 2, [], 0, 0), (85, .iload 6, 2, [], 0, 0), (87, .imul, 1, [], 0, 0), (88, .istore 8, 2, [], 0, 0), (90, .iload 7, 2, [], 0, 0), (92, .iload 8, 2, [], 0, 0), (94, .iadd, 1, [], 0, 0), (95, .istore 7, 2, [], 0, 0), (97, .iload 7, 2, [], 0, 0), (99, .bipush 16, 2, [], 0, 0), (101, .if_icmp .lt 10, 3, [], 0, 0), (104, .bipush 16, 2, [], 0, 0), (106, .istore 7, 2, [], 0, 0), (108, .goto 9, 3, [], 0, 0), (111, .iinc 9 1, 3, [], 0, 0), (114, .goto (-38), 3, [], 0, 0), (117, .iload_n 3, 1, [false, true, true, false, false, false, false, false, true, true, true, true, true, true, true, true, true, true, true, true, true, true, true, true, true, true, true, true], 0, 0), (118, .iload 7, 2, [], 0, 0), (120, .if_icmp .ge 7, 3, [], 0, 0), (123, .iload_n 3, 1, [], 0, 0), (124, .goto 5, 3, [], 0, 0), (127, .iload 7, 2, [], 0, 0), (129, .istore 9, 2, [false, true, true, true, false, false, false, true, true, true, true, true, true, true, true, true, true, true, true, true, true, true, true, true, true, true, true, true], 0, 0), (131, .iconst 1, 1, [], 0, 0), (132, .aload_n 0, 1, [], 0, 0), (133, .iconst 3, 1, [], 0, 0), (134, .invokestatic 7, 3, [], 1, 0), (137, .iload 9, 2, [], 0, 0), (139, .invokestatic 13, 3, [], 2, 0), (142, .iadd, 1, [], 0, 0), (143, .istore 10, 2, [], 0, 0), (145, .iconst 4, 1, [], 0, 0), (146, .istore 11, 2, [], 0, 0), (148, .iconst 0, 1, [], 0, 0), (149, .istore 12, 2, [], 0, 0), (151, .iload 12, 2, [false, true, true, true, false, false, false, true, true, true, false, false, false, true, true, true, true, true, true, true, true, true, true, true, true, true, true, true], 0, 0), (153, .iload 10, 2, [], 0, 0), (155, .if_icmp .ge 388, 3, [], 0, 0), (158, .iconst 1, 1, [], 0, 0), (159, .aload_n 0, 1, [], 0, 0), (160, .iload 11, 2, [], 0, 0), (162, .iinc 11 1, 3, [], 0, 0), (165, .invokestatic 7, 3, [], 1, 0), (168, .iload 4, 2, [], 0, 0), (170, .invokestatic 13, 3, [], 2, 0), (173, .iadd, 1, [], 0, 0), (174, .istore 13, 2, [], 0, 0), (176, .iconst 0, 1, [], 0, 0), (177, .istore 14, 2, [], 0, 0), (179, .iload 14, 2, [false, true, true, true, false, false, false, true, true, true, false, false, false, false, false, true, true, true, true, true, true, true, true, true, true, true, true, true], 0, 0), (181, .iload 4, 2, [], 0, 0), (183, .if_icmp .gt 354, 3, [], 0, 0), (186, .aload 5, 2, [], 0, 0), (188, .invokevirtual 26, 3, [], 6, 0), (191, .istore 15, 2, [], 0, 0), (193, .aload 5, 2, [], 0, 0), (195, .iload 15, 2, [], 0, 0), (197, .invokevirtual 30, 3, [], 7, 0), (200, .istore 16, 2, [], 0, 0), (202, .iload 16, 2, [], 0, 0), (204, .iload 13, 2, [], 0, 0), (206, .if_icmp .lt 128, 3, [], 0, 0), (209, .iconst 0, 1, [], 0, 0), (210, .istore 17, 2, [], 0, 0), (212, .iconst 0, 1, [], 0, 0), (213, .istore 18, 2, [], 0, 0), (215, .iload 18, 2, [false, true, true, true, false, false, false, true, true, true, false, false, false, false, false, false, false, false, false, true, true, true, true, true, true, true, true, true], 0, 0), (217, .iload 15, 2, [], 0, 0), (219, .if_icmp .ge 84, 3, [], 0, 0), (222, .iload 17, 2, [], 0, 0), (224, .ifCond .ne 79, 3, [], 0, 0), (227, .aload 5, 2, [], 0, 0), (229, .iload 18, 2, [], 0, 0), (231, .invokevirtual 30, 3, [], 7, 0), (234, .iload 16, 2, [], 0, 0), (236, .if_icmp .ne 61, 3, [], 0, 0), (239, .iconst 1, 1, [], 0, 0), (240, .istore 19, 2, [], 0, 0), (242, .iconst 0, 1, [], 0, 0), (243, .istore 20, 2, [], 0, 0), (245, .iload 20, 2, [false, true, true, true, false, false, false, true, true, true, false, false, false, false, false, false, false, false, false, false, false, true, true, true, true, true, true, true], 0, 0), (247, .iload 16, 2, [], 0, 0), (249, .if_icmp .ge 40, 3, [], 0, 0), (252, .iload 20, 2, [], 0, 0), (254, .bipush 8, 2, [], 0, 0), (256, .if_icmp .ge 33, 3, [], 0, 0), (259, .aload 5, 2, [], 0, 0), (261, .iload 18, 2, [], 0, 0), (263, .iload 20, 2, [], 0, 0), (265, .invokevirtual 34, 3, [], 31, 0), (268, .aload 5, 2, [], 0, 0), (270, .iload 15, 2, [], 0, 0), (272, .iload 20, 2, [], 0, 0), (274, .invokevirtual 34, 3, [], 31, 0), (277, .if_icmp .eq 6, 3, [], 0, 0), (280, .iconst 0, 1, [], 0, 0), (281, .istore 19, 2, [], 0, 0), (283, .iinc 20 1, 3, [], 0, 0), (286, .goto (-41), 3, [], 0, 0), (289, .iload 19, 2, [false, true, true, true, false, false, false, true, true, true, false, false, false, false, false, false, false, false, false, false, true, true, true, true, true, true, true, true], 0, 0), (291, .ifCond .eq 6, 3, [], 0, 0), (294, .iconst 1, 1, [], 0, 0), (295, .istore 17, 2, [], 0, 0), (297, .iinc 18 1, 3, [], 0, 0), (300, .goto (-85), 3, [], 0, 0), (303, .iload 17, 2, [false, true, true, true, false, false, false, true, true, true, false, false, false, false, false, false, false, false, true, true, true, true, true, true, true, true, true, true], 0, 0), (305, .ifCond .ne 29, 3, [], 0, 0), (308, .aload 5, 2, [false, true, true, true, false, false, false, true, true, true, false, false, false, true, true, true, true, true, true, true, true, true, true, true, true, true, true, true], 0, 0), (310, .bipush 32, 2, [], 0, 0), (312, .aload_n 0, 1, [], 0, 0), (313, .iload 11, 2, [], 0, 0), (315, .iinc 11 1, 3, [], 0, 0), (318, .invokestatic 7, 3, [], 1, 0), (321, .bipush 95, 2, [], 0, 0), (323, .invokestatic 13, 3, [], 2, 0), (326, .iadd, 1, [], 0, 0), (327, .invokevirtual 37, 3, [], 10, 0), (330, .pop, 1, [], 0, 0), (331, .goto 206, 3, [], 0, 0), (334, .aload_n 0, 1, [false, true, true, true, false, false, false, true, true, true, false, false, false, false, false, false, false, true, true, true, true, true, true, true, true, true, true, true], 0, 0), (335, .iload 11, 2, [], 0, 0), (337, .iinc 11 1, 3, [], 0, 0), (340, .invokestatic 7, 3, [], 1, 0), (343, .iload 6, 2, [], 0, 0), (345, .invokestatic 13, 3, [], 2, 0), (348, .istore 17, 2, [], 0, 0), (350, .bipush 97, 2, [], 0, 0), (352, .iload 17, 2, [], 0, 0), (354, .iadd, 1, [], 0, 0), (355, .istore 18, 2, [], 0, 0), (357, .iload 16, 2, [], 0, 0), (359, .iconst 1, 1, [], 0, 0), (360, .iadd, 1, [], 0, 0), (361, .iload 4, 2, [], 0, 0), (363, .if_icmp .ne 155, 3, [], 0, 0), (366, .iconst 0, 1, [], 0, 0), (367, .istore 19, 2, [], 0, 0), (369, .iload 19, 2, [false, true, true, true, false, false, false, true, true, true, false, false, false, false, false, false, false, false, false, false, true, true, true, true, true, true, true, true], 0, 0), (371, .iload 6, 2, [], 0, 0), (373, .if_icmp .ge 145, 3, [], 0, 0), (376, .bipush 97, 2, [], 0, 0), (378, .iload 17, 2, [], 0, 0), (380, .iload 19, 2, [], 0, 0), (382, .iadd, 1, [], 0, 0), (383, .iload 6, 2, [], 0, 0), (385, .invokestatic 13, 3, [], 2, 0), (388, .iadd, 1, [], 0, 0), (389, .istore 20, 2, [], 0, 0), (391, .iconst 0, 1, [], 0, 0), (392, .istore 21, 2, [], 0, 0), (394, .iconst 0, 1, [], 0, 0), (395, .istore 22, 2, [], 0, 0), (397, .iload 22, 2, [false, true, true, true, false, false, false, true, true, true, false, false, false, false, false, false, false, false, false, false, false, false, false, true, true, true, true, true], 0, 0), (399, .iload 15, 2, [], 0, 0), (401, .if_icmp .ge 99, 3, [], 0, 0), (404, .aload 5, 2, [], 0, 0), (406, .iload 22, 2, [], 0, 0), (408, .invokevirtual 30, 3, [], 7, 0), (411, .iload 16, 2, [], 0, 0), (413, .iconst 1, 1, [], 0, 0), (414, .iadd, 1, [], 0, 0), (415, .if_icmp .ne 79, 3, [], 0, 0), (418, .aload 5, 2, [], 0, 0), (420, .iload 22, 2, [], 0, 0), (422, .iload 16, 2, [], 0, 0), (424, .invokevirtual 34, 3, [], 31, 0), (427, .iload 20, 2, [], 0, 0), (429, .if_icmp .ne 7, 3, [], 0, 0), (432, .iconst 1, 1, [], 0, 0), (433, .goto 4, 3, [], 0, 0), (436, .iconst 0, 1, [], 0, 0), (437, .istore 23, 2, [], 0, 0), (439, .iconst 0, 1, [], 0, 0), (440, .istore 24, 2, [], 0, 0), (442, .iload 24, 2, [false, true, true, true, false, false, false, true, true, true, false, false, false, false, false, false, false, false, false, false, false, false, false, false, false, true, true, true], 0, 0), (444, .iload 16, 2, [], 0, 0), (446, .if_icmp .ge 40, 3, [], 0, 0), (449, .iload 24, 2, [], 0, 0), (451, .bipush 8, 2, [], 0, 0), (453, .if_icmp .ge 33, 3, [], 0, 0), (456, .aload 5, 2, [], 0, 0), (458, .iload 22, 2, [], 0, 0), (460, .iload 24, 2, [], 0, 0), (462, .invokevirtual 34, 3, [], 31, 0), (465, .aload 5, 2, [], 0, 0), (467, .iload 15, 2, [], 0, 0), (469, .iload 24, 2, [], 0, 0), (471, .invokevirtual 34, 3, [], 31, 0), (474, .if_icmp .eq 6, 3, [], 0, 0), (477, .iconst 0, 1, [], 0, 0), (478, .istore 23, 2, [], 0, 0), (480, .iinc 24 1, 3, [], 0, 0), (483, .goto (-41), 3, [], 0, 0), (486, .iload 23, 2, [false, true, true, true, false, false, false, true, true, true, false, false, false, false, false, false, false, false, false, false, false, false, false, false, true, true, true, true], 0, 0), (488, .ifCond .eq 6, 3, [], 0, 0), (491, .iconst 1, 1, [], 0, 0), (492, .istore 21, 2, [], 0, 0), (494, .iinc 22 1, 3, [], 0, 0), (497, .goto (-100), 3, [], 0, 0), (500, .iload 21, 2, [false, true, true, true, false, false, false, true, true, true, false, false, false, false, false, false, false, false, false, false, false, false, true, true, true, true, true, true], 0, 0), (502, .ifCond .ne 10, 3, [], 0, 0), (505, .iload 20, 2, [], 0, 0), (507, .istore 18, 2, [], 0, 0), (509, .goto 9, 3, [], 0, 0), (512, .iinc 19 1, 3, [], 0, 0), (515, .goto (-146), 3, [], 0, 0), (518, .aload 5, 2, [false, true, true, true, false, false, false, true, true, true, false, false, false, false, false, true, true, true, false, true, true, true, true, true, true, true, true, true], 0, 0), (520, .iload 18, 2, [], 0, 0), (522, .invokevirtual 40, 3, [], 8, 0), (525, .ifCond .ge 6, 3, [], 0, 0), (528, .goto 9, 3, [], 0, 0), (531, .iinc 14 1, 3, [], 0, 0), (534, .goto (-355), 3, [], 0, 0), (537, .iinc 12 1, 3, [], 0, 0), (540, .goto (-389), 3, [], 0, 0), (543, .aload 5, 2, [false, true, true, true, true, false, false, true, true, true, true, false, true, true, true, true, true, true, true, true, true, true, true, true, true, true, true, true], 0, 0), (545, .bipush 33, 2, [], 0, 0), (547, .invokevirtual 37, 3, [], 10, 0), (550, .pop, 1, [], 0, 0), (551, .aload 5, 2, [], 0, 0), (553, .invokevirtual 43, 3, [], 14, 0), (556, .pop, 1, [], 0, 0), (557, .aload 5, 2, [], 0, 0), (559, .invokevirtual 46, 3, [], 19, 0), (562, .iconst 1, 1, [], 0, 0), (563, .if_icmp .eq 5, 3, [], 0, 0), (566, .iconst 1, 1, [], 0, 0), (567, .ireturn, 1, [], 0, 0), (568, .lconst 0, 1, [], 0, 0), (569, .lstore 12, 2, [false, false, false, false, false, false, false, false, false, false, false, false, true, true], 0, 0), (571, .iload 11, 2, [], 0, 0), (573, .istore 14, 2, [], 0, 0), (575, .iload 14, 2, [false, true, true, true, true, false, false, true, true, true, true, true, false, false, false, true, true, true, true, true, true, true, true, true, true, true, true, true], 0, 0), (577, .aload_n 0, 1, [], 0, 0), (578, .arraylength, 1, [], 0, 0), (579, .if_icmp .ge 367, 3, [], 0, 0), (582, .aload_n 0, 1, [], 0, 0), (583, .iload 14, 2, [], 0, 0), (585, .iaload, 1, [], 0, 0), (586, .istore 15, 2, [], 0, 0), (588, .iload 15, 2, [], 0, 0), (590, .bipush 16, 2, [], 0, 0), (592, .invokestatic 13, 3, [], 2, 0), (595, .istore 16, 2, [], 0, 0), (597, .iload 16, 2, [], 0, 0), (599, .ifCond .ne 23, 3, [], 0, 0), (602, .aload 5, 2, [], 0, 0), (604, .invokevirtual 49, 3, [], 34, 0), (607, .pop, 1, [], 0, 0), (608, .aload 5, 2, [], 0, 0), (610, .invokevirtual 52, 3, [], 20, 0), (613, .ifCond .ne 114, 3, [], 0, 0), (616, .lconst 0, 1, [], 0, 0), (617, .lstore 12, 2, [false, false, false, false, false, false, false, false, false, false, false, false, true, true], 0, 0), (619, .goto 108, 3, [], 0, 0), (622, .aload 5, 2, [], 0, 0), (624, .invokevirtual 52, 3, [], 20, 0), (627, .istore 17, 2, [], 0, 0), (629, .iload 16, 2, [], 0, 0), (631, .bipush 11, 2, [], 0, 0), (633, .if_icmp .gt 20, 3, [], 0, 0), (636, .bipush 97, 2, [], 0, 0), (638, .iload 15, 2, [], 0, 0), (640, .iconst 4, 1, [], 0, 0), (641, .ishr, 1, [], 0, 0), (642, .iload 6, 2, [], 0, 0), (644, .iconst 1, 1, [], 0, 0), (645, .iadd, 1, [], 0, 0), (646, .invokestatic 13, 3, [], 2, 0), (649, .iadd, 1, [], 0, 0), (650, .goto 15, 3, [], 0, 0), (653, .bipush 32, 2, [], 0, 0), (655, .iload 15, 2, [], 0, 0), (657, .iconst 4, 1, [], 0, 0), (658, .ishr, 1, [], 0, 0), (659, .bipush 95, 2, [], 0, 0), (661, .invokestatic 13, 3, [], 2, 0), (664, .iadd, 1, [], 0, 0), (665, .istore 18, 2, [false, true, true, true, true, false, false, true, true, true, true, true, false, false, false, true, true, false, true, true, true, true, true, true, true, true, true, true], 0, 0), (667, .aload 5, 2, [], 0, 0), (669, .iload 18, 2, [], 0, 0), (671, .invokevirtual 55, 3, [], 21, 0), (674, .istore 19, 2, [], 0, 0), (676, .aload 5, 2, [], 0, 0), (678, .invokevirtual 52, 3, [], 20, 0), (681, .istore 20, 2, [], 0, 0), (683, .iload 20, 2, [], 0, 0), (685, .iload 17, 2, [], 0, 0), (687, .iconst 1, 1, [], 0, 0), (688, .iadd, 1, [], 0, 0), (689, .if_icmp .ne 38, 3, [], 0, 0), (692, .aload 5, 2, [], 0, 0), (694, .iload 20, 2, [], 0, 0), (696, .iconst 1, 1, [], 0, 0), (697, .isub, 1, [], 0, 0), (698, .invokevirtual 58, 3, [], 28, 0), (701, .istore 21, 2, [], 0, 0), (703, .iload 19, 2, [], 0, 0), (705, .iload 21, 2, [], 0, 0), (707, .invokestatic 61, 3, [], 29, 0), (710, .if_icmp .eq 5, 3, [], 0, 0), (713, .iconst 0, 1, [], 0, 0), (714, .ireturn, 1, [], 0, 0), (715, .lload 12, 2, [], 0, 0), (717, .ldc2_w 64, 3, [], 0, 1000003), (720, .lmul, 1, [], 0, 0), (721, .iload 21, 2, [], 0, 0), (723, .i2l, 1, [], 0, 0), (724, .ladd, 1, [], 0, 0), (725, .lstore 12, 2, [false, false, false, false, false, false, false, false, false, false, false, false, true, true], 0, 0), (727, .aload 5, 2, [false, true, true, true, true, false, false, true, true, true, true, true, false, false, false, true, true, true, true, true, true, true, true, true, true, true, true, true], 0, 0), (729, .invokevirtual 52, 3, [], 20, 0), (732, .istore 17, 2, [], 0, 0), (734, .aload 5, 2, [], 0, 0), (736, .invokevirtual 26, 3, [], 6, 0), (739, .istore 18, 2, [], 0, 0), (741, .lconst 0, 1, [], 0, 0), (742, .lstore 19, 2, [false, false, false, false, false, false, false, false, false, false, false, false, false, false, false, false, false, false, false, true, true], 0, 0), (744, .iconst 0, 1, [], 0, 0), (745, .istore 21, 2, [], 0, 0), (747, .iconst 0, 1, [], 0, 0), (748, .istore 22, 2, [], 0, 0), (750, .iload 22, 2, [false, true, true, true, true, false, false, true, true, true, true, true, false, false, false, true, true, false, false, false, false, false, false, true, true, true, true, true], 0, 0), (752, .iload 17, 2, [], 0, 0), (754, .if_icmp .ge 164, 3, [], 0, 0), (757, .iload 22, 2, [], 0, 0), (759, .sipush 300, 3, [], 0, 0), (762, .if_icmp .ge 156, 3, [], 0, 0), (765, .aload 5, 2, [], 0, 0), (767, .iload 22, 2, [], 0, 0), (769, .invokevirtual 58, 3, [], 28, 0), (772, .istore 23, 2, [], 0, 0), (774, .iconst 0, 1, [], 0, 0), (775, .istore 24, 2, [], 0, 0), (777, .iload 24, 2, [false, true, true, true, true, false, false, true, true, true, true, true, false, false, false, true, true, false, false, false, false, false, false, false, false, true, true, true], 0, 0), (779, .bipush 16, 2, [], 0, 0), (781, .if_icmp .ge 109, 3, [], 0, 0), (784, .iconst 0, 1, [], 0, 0), (785, .istore 25, 2, [], 0, 0), (787, .iload 24, 2, [], 0, 0), (789, .iload 18, 2, [], 0, 0), (791, .if_icmp .ge 70, 3, [], 0, 0), (794, .aload 5, 2, [], 0, 0), (796, .iload 24, 2, [], 0, 0), (798, .invokevirtual 30, 3, [], 7, 0), (801, .istore 26, 2, [], 0, 0), (803, .iload 26, 2, [], 0, 0), (805, .iload 22, 2, [], 0, 0), (807, .iconst 1, 1, [], 0, 0), (808, .iadd, 1, [], 0, 0), (809, .if_icmp .gt 52, 3, [], 0, 0), (812, .iconst 1, 1, [], 0, 0), (813, .istore 25, 2, [], 0, 0), (815, .iconst 0, 1, [], 0, 0), (816, .istore 27, 2, [], 0, 0), (818, .iload 27, 2, [false, true, true, true, true, false, false, true, true, true, true, true, false, false, false, true, true], 0, 0), (820, .iload 26, 2, [], 0, 0), (822, .if_icmp .ge 39, 3, [], 0, 0), (825, .aload 5, 2, [], 0, 0), (827, .iload 22, 2, [], 0, 0), (829, .iload 26, 2, [], 0, 0), (831, .isub, 1, [], 0, 0), (832, .iconst 1, 1, [], 0, 0), (833, .iadd, 1, [], 0, 0), (834, .iload 27, 2, [], 0, 0), (836, .iadd, 1, [], 0, 0), (837, .invokevirtual 66, 3, [], 30, 0), (840, .aload 5, 2, [], 0, 0), (842, .iload 24, 2, [], 0, 0), (844, .iload 27, 2, [], 0, 0), (846, .invokevirtual 34, 3, [], 31, 0), (849, .if_icmp .eq 6, 3, [], 0, 0), (852, .iconst 0, 1, [], 0, 0), (853, .istore 25, 2, [], 0, 0), (855, .iinc 27 1, 3, [], 0, 0), (858, .goto (-40), 3, [], 0, 0), (861, .iload 23, 2, [false, true, true, true, true, false, false, true, true, true, true, true, false, false, false, true, true, false, false, false, false, false, false, false, false, false, true, true], 0, 0), (863, .iload 24, 2, [], 0, 0), (865, .ishr, 1, [], 0, 0), (866, .iconst 1, 1, [], 0, 0), (867, .iand, 1, [], 0, 0), (868, .iconst 1, 1, [], 0, 0), (869, .if_icmp .ne 7, 3, [], 0, 0), (872, .iconst 1, 1, [], 0, 0), (873, .goto 4, 3, [], 0, 0), (876, .iconst 0, 1, [], 0, 0), (877, .iload 25, 2, [false, true, true, true, true, false, false, true, true, true, true, true, false, false, false, true, true, false, false, false, false, false, false, false, false, false, true, true], 0, 0), (879, .if_icmp .eq 5, 3, [], 0, 0), (882, .iconst 0, 1, [], 0, 0), (883, .ireturn, 1, [], 0, 0), (884, .iinc 24 1, 3, [], 0, 0), (887, .goto (-110), 3, [], 0, 0), (890, .lload 19, 2, [false, true, true, true, true, false, false, true, true, true, true, true, false, false, false, true, true, false, false, false, false, false, false, false, true, true, true, true], 0, 0), (892, .ldc2_w 64, 3, [], 0, 1000003), (895, .lmul, 1, [], 0, 0), (896, .iload 23, 2, [], 0, 0), (898, .i2l, 1, [], 0, 0), (899, .ladd, 1, [], 0, 0), (900, .lstore 19, 2, [false, false, false, false, false, false, false, false, false, false, false, false, false, false, false, false, false, false, false, true, true], 0, 0), (902, .iload 21, 2, [], 0, 0), (904, .iload 23, 2, [], 0, 0), (906, .invokestatic 61, 3, [], 29, 0), (909, .iadd, 1, [], 0, 0), (910, .istore 21, 2, [], 0, 0), (912, .iinc 22 1, 3, [], 0, 0), (915, .goto (-165), 3, [], 0, 0), (918, .lload 19, 2, [false, true, true, true, true, false, false, true, true, true, true, true, false, false, false, true, true, true, true, false, false, false, true, true, true, true, true, true], 0, 0), (920, .lload 12, 2, [], 0, 0), (922, .lcmp, 1, [], 0, 0), (923, .ifCond .eq 5, 3, [], 0, 0), (926, .iconst 0, 1, [], 0, 0), (927, .ireturn, 1, [], 0, 0), (928, .aload 5, 2, [], 0, 0), (930, .invokevirtual 69, 3, [], 33, 0), (933, .iload 21, 2, [], 0, 0), (935, .if_icmp .eq 5, 3, [], 0, 0), (938, .iconst 0, 1, [], 0, 0), (939, .ireturn, 1, [], 0, 0), (940, .iinc 14 1, 3, [], 0, 0), (943, .goto (-368), 3, [], 0, 0), (946, .iconst 1, 1, [], 0, 0), (947, .ireturn, 1, [], 0, 0)])
def d_1 : MD := (⟨"MultiPatternScanOwnLaw", "cell", "([II)I"⟩, method_2_code, 2, some .int, 0, 2, 999, 0, 0, [(0, .iload_n 1, 1, [], 0, 0), (1, .aload_n 0, 1, [], 0, 0), (2, .arraylength, 1, [], 0, 0), (3, .if_icmp .ge 9, 3, [], 0, 0), (6, .aload_n 0, 1, [], 0, 0), (7, .iload_n 1, 1, [], 0, 0), (8, .iaload, 1, [], 0, 0), (9, .goto 4, 3, [], 0, 0), (12, .iconst 0, 1, [], 0, 0), (13, .ireturn, 1, [], 0, 0)])
def d_2 : MD := (⟨"MultiPatternScanOwnLaw", "mod", "(II)I"⟩, method_3_code, 3, some .int, 0, 2, 999, 0, 0, [(0, .iload_n 0, 1, [], 0, 0), (1, .iload_n 1, 1, [], 0, 0), (2, .irem, 1, [], 0, 0), (3, .istore_n 2, 1, [], 0, 0), (4, .iload_n 2, 1, [], 0, 0), (5, .ifCond .ge 9, 3, [], 0, 0), (8, .iload_n 2, 1, [], 0, 0), (9, .iload_n 1, 1, [], 0, 0), (10, .iadd, 1, [], 0, 0), (11, .goto 4, 3, [], 0, 0), (14, .iload_n 2, 1, [], 0, 0), (15, .ireturn, 1, [], 0, 0)])
def d_3 : MD := (⟨"MultiPatternScanOwnLaw", "clamp", "(III)I"⟩, method_4_code, 3, some .int, 0, 3, 999, 0, 0, [(0, .iload_n 0, 1, [], 0, 0), (1, .iload_n 1, 1, [], 0, 0), (2, .if_icmp .ge 7, 3, [], 0, 0), (5, .iload_n 1, 1, [], 0, 0), (6, .goto 13, 3, [], 0, 0), (9, .iload_n 0, 1, [], 0, 0), (10, .iload_n 2, 1, [], 0, 0), (11, .if_icmp .le 7, 3, [], 0, 0), (14, .iload_n 2, 1, [], 0, 0), (15, .goto 4, 3, [], 0, 0), (18, .iload_n 0, 1, [], 0, 0), (19, .ireturn, 1, [], 0, 0)])
def d_4 : MD := (⟨"MultiPatternScan", "<init>", "(II)V"⟩, prog_1_method_1_code, 6, none, 1, 2, 0, 1, 12, [(0, .aload_n 0, 1, [], 0, 0), (1, .invokespecial 1, 3, [], 0, -1), (4, .aload_n 0, 1, [], 0, 0), (5, .sipush 128, 3, [], 0, 0), (8, .newarray .int, 2, [], 0, 0), (10, .putfield 7, 3, [], 0, 0), (13, .aload_n 0, 1, [], 0, 0), (14, .bipush 16, 2, [], 0, 0), (16, .newarray .int, 2, [], 0, 0), (18, .putfield 13, 3, [], 1, 0), (21, .aload_n 0, 1, [], 0, 0), (22, .bipush 16, 2, [], 0, 0), (24, .newarray .int, 2, [], 0, 0), (26, .putfield 16, 3, [], 2, 0), (29, .aload_n 0, 1, [], 0, 0), (30, .bipush 8, 2, [], 0, 0), (32, .newarray .int, 2, [], 0, 0), (34, .putfield 19, 3, [], 3, 0), (37, .aload_n 0, 1, [], 0, 0), (38, .sipush 3354, 3, [], 0, 0), (41, .newarray .int, 2, [], 0, 0), (43, .putfield 22, 3, [], 4, 0), (46, .aload_n 0, 1, [], 0, 0), (47, .sipush 3354, 3, [], 0, 0), (50, .newarray .int, 2, [], 0, 0), (52, .putfield 25, 3, [], 5, 0), (55, .aload_n 0, 1, [], 0, 0), (56, .sipush 129, 3, [], 0, 0), (59, .newarray .int, 2, [], 0, 0), (61, .putfield 28, 3, [], 6, 0), (64, .aload_n 0, 1, [], 0, 0), (65, .sipush 129, 3, [], 0, 0), (68, .newarray .int, 2, [], 0, 0), (70, .putfield 31, 3, [], 7, 0), (73, .aload_n 0, 1, [], 0, 0), (74, .sipush 129, 3, [], 0, 0), (77, .newarray .int, 2, [], 0, 0), (79, .putfield 34, 3, [], 8, 0), (82, .aload_n 0, 1, [], 0, 0), (83, .sipush 129, 3, [], 0, 0), (86, .newarray .int, 2, [], 0, 0), (88, .putfield 37, 3, [], 9, 0), (91, .aload_n 0, 1, [], 0, 0), (92, .sipush 129, 3, [], 0, 0), (95, .newarray .int, 2, [], 0, 0), (97, .putfield 40, 3, [], 10, 0), (100, .aload_n 0, 1, [], 0, 0), (101, .sipush 240, 3, [], 0, 0), (104, .newarray .int, 2, [], 0, 0), (106, .putfield 43, 3, [], 11, 0), (109, .aload_n 0, 1, [], 0, 0), (110, .sipush 240, 3, [], 0, 0), (113, .newarray .int, 2, [], 0, 0), (115, .putfield 46, 3, [], 12, 0), (118, .aload_n 0, 1, [], 0, 0), (119, .sipush 240, 3, [], 0, 0), (122, .newarray .int, 2, [], 0, 0), (124, .putfield 49, 3, [], 13, 0), (127, .aload_n 0, 1, [], 0, 0), (128, .bipush 8, 2, [], 0, 0), (130, .newarray .int, 2, [], 0, 0), (132, .putfield 52, 3, [], 14, 0), (135, .iload_n 1, 1, [], 0, 0), (136, .istore_n 3, 1, [], 0, 0), (137, .iload_n 3, 1, [], 0, 0), (138, .iconst 1, 1, [], 0, 0), (139, .if_icmp .ge 5, 3, [], 0, 0), (142, .iconst 1, 1, [], 0, 0), (143, .istore_n 3, 1, [], 0, 0), (144, .iload_n 3, 1, [false, true, false, false, true, true], 0, 0), (145, .bipush 16, 2, [], 0, 0), (147, .if_icmp .le 6, 3, [], 0, 0), (150, .bipush 16, 2, [], 0, 0), (152, .istore_n 3, 1, [], 0, 0), (153, .iload_n 2, 1, [false, true, false, false, true, true], 0, 0), (154, .istore 4, 2, [], 0, 0), (156, .iload 4, 2, [], 0, 0), (158, .iconst 1, 1, [], 0, 0), (159, .if_icmp .ge 6, 3, [], 0, 0), (162, .iconst 1, 1, [], 0, 0), (163, .istore 4, 2, [], 0, 0), (165, .iload 4, 2, [false, true, true, false, false, true], 0, 0), (167, .bipush 8, 2, [], 0, 0), (169, .if_icmp .le 7, 3, [], 0, 0), (172, .bipush 8, 2, [], 0, 0), (174, .istore 4, 2, [], 0, 0), (176, .aload_n 0, 1, [false, true, true, false, false, true], 0, 0), (177, .iload_n 3, 1, [], 0, 0), (178, .putfield 55, 3, [], 15, 0), (181, .aload_n 0, 1, [], 0, 0), (182, .iload 4, 2, [], 0, 0), (184, .putfield 59, 3, [], 16, 0), (187, .aload_n 0, 1, [], 0, 0), (188, .iconst 0, 1, [], 0, 0), (189, .putfield 62, 3, [], 17, 0), (192, .aload_n 0, 1, [], 0, 0), (193, .iconst 0, 1, [], 0, 0), (194, .putfield 65, 3, [], 18, 0), (197, .aload_n 0, 1, [], 0, 0), (198, .iconst 0, 1, [], 0, 0), (199, .putfield 68, 3, [], 19, 0), (202, .aload_n 0, 1, [], 0, 0), (203, .iconst 1, 1, [], 0, 0), (204, .putfield 71, 3, [], 20, 0), (207, .aload_n 0, 1, [], 0, 0), (208, .iconst 1, 1, [], 0, 0), (209, .putfield 74, 3, [], 21, 0), (212, .iconst 0, 1, [], 0, 0), (213, .istore 5, 2, [], 0, 0), (215, .iload 5, 2, [false, true, true, true, true], 0, 0), (217, .sipush 129, 3, [], 0, 0), (220, .if_icmp .ge 17, 3, [], 0, 0), (223, .aload_n 0, 1, [], 0, 0), (224, .getfield 34, 3, [], 8, 0), (227, .iload 5, 2, [], 0, 0), (229, .iconst (-1), 1, [], 0, 0), (230, .iastore, 1, [], 0, 0), (231, .iinc 5 1, 3, [], 0, 0), (234, .goto (-19), 3, [], 0, 0), (237, .aload_n 0, 1, [false, true, true, true, true, true], 0, 0), (238, .invokevirtual 77, 3, [], 5, 0), (241, .return_, 1, [], 0, 0)])
def d_5 : MD := (⟨"MultiPatternScan", "clearText", "()V"⟩, prog_1_method_27_code, 1, none, 2, 0, 0, 0, 0, [(0, .aload_n 0, 1, [], 0, 0), (1, .iconst 0, 1, [], 0, 0), (2, .putfield 101, 3, [], 22, 0), (5, .aload_n 0, 1, [], 0, 0), (6, .iconst 0, 1, [], 0, 0), (7, .putfield 104, 3, [], 23, 0), (10, .aload_n 0, 1, [], 0, 0), (11, .iconst 0, 1, [], 0, 0), (12, .putfield 115, 3, [], 24, 0), (15, .aload_n 0, 1, [], 0, 0), (16, .iconst 0, 1, [], 0, 0), (17, .putfield 127, 3, [], 25, 0), (20, .aload_n 0, 1, [], 0, 0), (21, .iconst 0, 1, [], 0, 0), (22, .putfield 142, 3, [], 26, 0), (25, .aload_n 0, 1, [], 0, 0), (26, .iconst 0, 1, [], 0, 0), (27, .putfield 130, 3, [], 27, 0), (30, .return_, 1, [], 0, 0)])
def d_6 : MD := (⟨"MultiPatternScan", "keywordCount", "()I"⟩, prog_1_method_8_code, 1, some .int, 3, 0, 0, 0, 0, [(0, .aload_n 0, 1, [], 0, 0), (1, .getfield 65, 3, [], 18, 0), (4, .ireturn, 1, [], 0, 0)])
def d_7 : MD := (⟨"MultiPatternScan", "keywordLength", "(I)I"⟩, prog_1_method_9_code, 2, some .int, 3, 1, 0, 0, 0, [(0, .iload_n 1, 1, [], 0, 0), (1, .ifCond .lt 18, 3, [], 0, 0), (4, .iload_n 1, 1, [], 0, 0), (5, .aload_n 0, 1, [], 0, 0), (6, .getfield 65, 3, [], 18, 0), (9, .if_icmp .ge 10, 3, [], 0, 0), (12, .aload_n 0, 1, [], 0, 0), (13, .getfield 13, 3, [], 1, 0), (16, .iload_n 1, 1, [], 0, 0), (17, .iaload, 1, [], 0, 0), (18, .ireturn, 1, [], 0, 0), (19, .iload_n 1, 1, [], 0, 0), (20, .aload_n 0, 1, [], 0, 0), (21, .getfield 65, 3, [], 18, 0), (24, .if_icmp .ne 8, 3, [], 0, 0), (27, .aload_n 0, 1, [], 0, 0), (28, .getfield 68, 3, [], 19, 0), (31, .ireturn, 1, [], 0, 0), (32, .iconst (-1), 1, [], 0, 0), (33, .ireturn, 1, [], 0, 0)])
def d_8 : MD := (⟨"MultiPatternScan", "addChar", "(I)I"⟩, prog_1_method_2_code, 2, some .int, 3, 1, 0, 1, 13, [(0, .aload_n 0, 1, [], 0, 0), (1, .getfield 62, 3, [], 17, 0), (4, .ifCond .eq 5, 3, [], 0, 0), (7, .iconst (-1), 1, [], 0, 0), (8, .ireturn, 1, [], 0, 0), (9, .aload_n 0, 1, [], 0, 0), (10, .iload_n 1, 1, [], 0, 0), (11, .invokevirtual 80, 3, [], 9, 0), (14, .ifCond .ne 6, 3, [], 0, 0), (17, .bipush (-2), 2, [], 0, 0), (19, .ireturn, 1, [], 0, 0), (20, .aload_n 0, 1, [], 0, 0), (21, .getfield 65, 3, [], 18, 0), (24, .aload_n 0, 1, [], 0, 0), (25, .getfield 55, 3, [], 15, 0), (28, .if_icmp .lt 6, 3, [], 0, 0), (31, .bipush (-3), 2, [], 0, 0), (33, .ireturn, 1, [], 0, 0), (34, .aload_n 0, 1, [], 0, 0), (35, .getfield 68, 3, [], 19, 0), (38, .aload_n 0, 1, [], 0, 0), (39, .getfield 59, 3, [], 16, 0), (42, .if_icmp .ge 12, 3, [], 0, 0), (45, .aload_n 0, 1, [], 0, 0), (46, .getfield 68, 3, [], 19, 0), (49, .bipush 8, 2, [], 0, 0), (51, .if_icmp .lt 6, 3, [], 0, 0), (54, .bipush (-3), 2, [], 0, 0), (56, .ireturn, 1, [], 0, 0), (57, .aload_n 0, 1, [], 0, 0), (58, .getfield 19, 3, [], 3, 0), (61, .aload_n 0, 1, [], 0, 0), (62, .getfield 68, 3, [], 19, 0), (65, .iload_n 1, 1, [], 0, 0), (66, .iastore, 1, [], 0, 0), (67, .aload_n 0, 1, [], 0, 0), (68, .dup, 1, [], 0, 0), (69, .getfield 68, 3, [], 19, 0), (72, .iconst 1, 1, [], 0, 0), (73, .iadd, 1, [], 0, 0), (74, .putfield 68, 3, [], 19, 0), (77, .aload_n 0, 1, [], 0, 0), (78, .getfield 68, 3, [], 19, 0), (81, .ireturn, 1, [], 0, 0)])
def d_9 : MD := (⟨"MultiPatternScan", "isLetter", "(I)Z"⟩, prog_1_method_32_code, 2, some .boolean, 2, 1, 0, 0, 0, [(0, .iload_n 1, 1, [], 0, 0), (1, .bipush 97, 2, [], 0, 0), (3, .if_icmp .lt 13, 3, [], 0, 0), (6, .iload_n 1, 1, [], 0, 0), (7, .bipush 122, 2, [], 0, 0), (9, .if_icmp .gt 7, 3, [], 0, 0), (12, .iconst 1, 1, [], 0, 0), (13, .goto 4, 3, [], 0, 0), (16, .iconst 0, 1, [], 0, 0), (17, .ireturn, 1, [], 0, 0)])
def d_10 : MD := (⟨"MultiPatternScan", "endKeyword", "(I)I"⟩, prog_1_method_3_code, 2, some .int, 3, 1, 0, 2, 28, [(0, .aload_n 0, 1, [], 0, 0), (1, .getfield 62, 3, [], 17, 0), (4, .ifCond .eq 5, 3, [], 0, 0), (7, .iconst (-1), 1, [], 0, 0), (8, .ireturn, 1, [], 0, 0), (9, .aload_n 0, 1, [], 0, 0), (10, .getfield 68, 3, [], 19, 0), (13, .ifCond .ne 6, 3, [], 0, 0), (16, .bipush (-4), 2, [], 0, 0), (18, .ireturn, 1, [], 0, 0), (19, .aload_n 0, 1, [], 0, 0), (20, .iload_n 1, 1, [], 0, 0), (21, .invokevirtual 84, 3, [], 11, 0), (24, .ifCond .ne 6, 3, [], 0, 0), (27, .bipush (-6), 2, [], 0, 0), (29, .ireturn, 1, [], 0, 0), (30, .aload_n 0, 1, [], 0, 0), (31, .invokevirtual 87, 3, [], 12, 0), (34, .ifCond .eq 6, 3, [], 0, 0), (37, .bipush (-5), 2, [], 0, 0), (39, .ireturn, 1, [], 0, 0), (40, .aload_n 0, 1, [], 0, 0), (41, .getfield 65, 3, [], 18, 0), (44, .bipush 16, 2, [], 0, 0), (46, .if_icmp .lt 6, 3, [], 0, 0), (49, .bipush (-3), 2, [], 0, 0), (51, .ireturn, 1, [], 0, 0), (52, .aload_n 0, 1, [], 0, 0), (53, .iload_n 1, 1, [], 0, 0), (54, .invokevirtual 91, 3, [], 13, 0), (57, .aload_n 0, 1, [], 0, 0), (58, .getfield 65, 3, [], 18, 0), (61, .iconst 1, 1, [], 0, 0), (62, .isub, 1, [], 0, 0), (63, .ireturn, 1, [], 0, 0)])
def d_11 : MD := (⟨"MultiPatternScan", "isPrintable", "(I)Z"⟩, prog_1_method_33_code, 2, some .boolean, 2, 1, 0, 0, 0, [(0, .iload_n 1, 1, [], 0, 0), (1, .bipush 32, 2, [], 0, 0), (3, .if_icmp .lt 13, 3, [], 0, 0), (6, .iload_n 1, 1, [], 0, 0), (7, .bipush 126, 2, [], 0, 0), (9, .if_icmp .gt 7, 3, [], 0, 0), (12, .iconst 1, 1, [], 0, 0), (13, .goto 4, 3, [], 0, 0), (16, .iconst 0, 1, [], 0, 0), (17, .ireturn, 1, [], 0, 0)])
def d_12 : MD := (⟨"MultiPatternScan", "pendingIsDuplicate", "()Z"⟩, prog_1_method_19_code, 2, some .boolean, 2, 0, 0, 1, 15, [(0, .iconst 0, 1, [], 0, 0), (1, .istore_n 1, 1, [], 0, 0), (2, .iload_n 1, 1, [], 0, 0), (3, .aload_n 0, 1, [], 0, 0), (4, .getfield 65, 3, [], 18, 0), (7, .if_icmp .ge 25, 3, [], 0, 0), (10, .iload_n 1, 1, [], 0, 0), (11, .bipush 16, 2, [], 0, 0), (13, .if_icmp .ge 19, 3, [], 0, 0), (16, .aload_n 0, 1, [], 0, 0), (17, .iload_n 1, 1, [], 0, 0), (18, .invokevirtual 133, 3, [], 35, 0), (21, .ifCond .eq 5, 3, [], 0, 0), (24, .iconst 1, 1, [], 0, 0), (25, .ireturn, 1, [], 0, 0), (26, .iinc 1 1, 3, [], 0, 0), (29, .goto (-27), 3, [], 0, 0), (32, .iconst 0, 1, [], 0, 0), (33, .ireturn, 1, [], 0, 0)])
def d_13 : MD := (⟨"MultiPatternScan", "storePending", "(I)V"⟩, prog_1_method_21_code, 4, none, 2, 1, 0, 0, 0, [(0, .aload_n 0, 1, [], 0, 0), (1, .getfield 65, 3, [], 18, 0), (4, .bipush 8, 2, [], 0, 0), (6, .imul, 1, [], 0, 0), (7, .istore_n 2, 1, [], 0, 0), (8, .iconst 0, 1, [], 0, 0), (9, .istore_n 3, 1, [], 0, 0), (10, .iload_n 3, 1, [], 0, 0), (11, .aload_n 0, 1, [], 0, 0), (12, .getfield 68, 3, [], 19, 0), (15, .if_icmp .ge 29, 3, [], 0, 0), (18, .iload_n 3, 1, [], 0, 0), (19, .bipush 8, 2, [], 0, 0), (21, .if_icmp .ge 23, 3, [], 0, 0), (24, .aload_n 0, 1, [], 0, 0), (25, .getfield 7, 3, [], 0, 0), (28, .iload_n 2, 1, [], 0, 0), (29, .iload_n 3, 1, [], 0, 0), (30, .iadd, 1, [], 0, 0), (31, .aload_n 0, 1, [], 0, 0), (32, .getfield 19, 3, [], 3, 0), (35, .iload_n 3, 1, [], 0, 0), (36, .iaload, 1, [], 0, 0), (37, .iastore, 1, [], 0, 0), (38, .iinc 3 1, 3, [], 0, 0), (41, .goto (-31), 3, [], 0, 0), (44, .aload_n 0, 1, [false, false, true, true], 0, 0), (45, .getfield 13, 3, [], 1, 0), (48, .aload_n 0, 1, [], 0, 0), (49, .getfield 65, 3, [], 18, 0), (52, .aload_n 0, 1, [], 0, 0), (53, .getfield 68, 3, [], 19, 0), (56, .iastore, 1, [], 0, 0), (57, .aload_n 0, 1, [], 0, 0), (58, .getfield 16, 3, [], 2, 0), (61, .aload_n 0, 1, [], 0, 0), (62, .getfield 65, 3, [], 18, 0), (65, .iload_n 1, 1, [], 0, 0), (66, .iastore, 1, [], 0, 0), (67, .aload_n 0, 1, [], 0, 0), (68, .dup, 1, [], 0, 0), (69, .getfield 65, 3, [], 18, 0), (72, .iconst 1, 1, [], 0, 0), (73, .iadd, 1, [], 0, 0), (74, .putfield 65, 3, [], 18, 0), (77, .aload_n 0, 1, [], 0, 0), (78, .iconst 0, 1, [], 0, 0), (79, .putfield 68, 3, [], 19, 0), (82, .return_, 1, [], 0, 0)])
def d_14 : MD := (⟨"MultiPatternScan", "build", "()I"⟩, prog_1_method_4_code, 1, some .int, 3, 0, 0, 2, 35, [(0, .aload_n 0, 1, [], 0, 0), (1, .getfield 62, 3, [], 17, 0), (4, .ifCond .eq 5, 3, [], 0, 0), (7, .iconst (-1), 1, [], 0, 0), (8, .ireturn, 1, [], 0, 0), (9, .aload_n 0, 1, [], 0, 0), (10, .getfield 68, 3, [], 19, 0), (13, .ifCond .eq 6, 3, [], 0, 0), (16, .bipush (-7), 2, [], 0, 0), (18, .ireturn, 1, [], 0, 0), (19, .aload_n 0, 1, [], 0, 0), (20, .getfield 65, 3, [], 18, 0), (23, .ifCond .ne 6, 3, [], 0, 0), (26, .bipush (-4), 2, [], 0, 0), (28, .ireturn, 1, [], 0, 0), (29, .aload_n 0, 1, [], 0, 0), (30, .invokevirtual 95, 3, [], 15, 0), (33, .aload_n 0, 1, [], 0, 0), (34, .invokevirtual 98, 3, [], 17, 0), (37, .aload_n 0, 1, [], 0, 0), (38, .iconst 1, 1, [], 0, 0), (39, .putfield 62, 3, [], 17, 0), (42, .aload_n 0, 1, [], 0, 0), (43, .invokevirtual 77, 3, [], 5, 0), (46, .iconst 0, 1, [], 0, 0), (47, .ireturn, 1, [], 0, 0)])
def d_15 : MD := (⟨"MultiPatternScan", "buildTrie", "()V"⟩, prog_1_method_22_code, 2, none, 2, 0, 0, 1, 18, [(0, .aload_n 0, 1, [], 0, 0), (1, .iconst 1, 1, [], 0, 0), (2, .putfield 71, 3, [], 20, 0), (5, .aload_n 0, 1, [], 0, 0), (6, .iconst 1, 1, [], 0, 0), (7, .putfield 74, 3, [], 21, 0), (10, .iconst 0, 1, [], 0, 0), (11, .istore_n 1, 1, [], 0, 0), (12, .iload_n 1, 1, [], 0, 0), (13, .aload_n 0, 1, [], 0, 0), (14, .getfield 65, 3, [], 18, 0), (17, .if_icmp .ge 43, 3, [], 0, 0), (20, .iload_n 1, 1, [], 0, 0), (21, .bipush 16, 2, [], 0, 0), (23, .if_icmp .ge 37, 3, [], 0, 0), (26, .aload_n 0, 1, [], 0, 0), (27, .iload_n 1, 1, [], 0, 0), (28, .invokevirtual 136, 3, [], 16, 0), (31, .aload_n 0, 1, [], 0, 0), (32, .getfield 13, 3, [], 1, 0), (35, .iload_n 1, 1, [], 0, 0), (36, .iaload, 1, [], 0, 0), (37, .aload_n 0, 1, [], 0, 0), (38, .getfield 74, 3, [], 21, 0), (41, .if_icmp .le 13, 3, [], 0, 0), (44, .aload_n 0, 1, [], 0, 0), (45, .aload_n 0, 1, [], 0, 0), (46, .getfield 13, 3, [], 1, 0), (49, .iload_n 1, 1, [], 0, 0), (50, .iaload, 1, [], 0, 0), (51, .putfield 74, 3, [], 21, 0), (54, .iinc 1 1, 3, [], 0, 0), (57, .goto (-45), 3, [], 0, 0), (60, .return_, 1, [], 0, 0)])
def d_16 : MD := (⟨"MultiPatternScan", "insertKeyword", "(I)V"⟩, prog_1_method_23_code, 7, none, 2, 1, 0, 0, 0, [(0, .iconst 0, 1, [], 0, 0), (1, .istore_n 2, 1, [], 0, 0), (2, .iload_n 1, 1, [], 0, 0), (3, .bipush 8, 2, [], 0, 0), (5, .imul, 1, [], 0, 0), (6, .istore_n 3, 1, [], 0, 0), (7, .iconst 0, 1, [], 0, 0), (8, .istore 4, 2, [], 0, 0), (10, .iload 4, 2, [false, false, false, false, false, true, true], 0, 0), (12, .aload_n 0, 1, [], 0, 0), (13, .getfield 13, 3, [], 1, 0), (16, .iload_n 1, 1, [], 0, 0), (17, .iaload, 1, [], 0, 0), (18, .if_icmp .ge 119, 3, [], 0, 0), (21, .iload 4, 2, [], 0, 0), (23, .bipush 8, 2, [], 0, 0), (25, .if_icmp .ge 112, 3, [], 0, 0), (28, .aload_n 0, 1, [], 0, 0), (29, .getfield 7, 3, [], 0, 0), (32, .iload_n 3, 1, [], 0, 0), (33, .iload 4, 2, [], 0, 0), (35, .iadd, 1, [], 0, 0), (36, .iaload, 1, [], 0, 0), (37, .bipush 97, 2, [], 0, 0), (39, .isub, 1, [], 0, 0), (40, .istore 5, 2, [], 0, 0), (42, .iload 5, 2, [], 0, 0), (44, .ifCond .lt 10, 3, [], 0, 0), (47, .iload 5, 2, [], 0, 0), (49, .bipush 26, 2, [], 0, 0), (51, .if_icmp .lt 4, 3, [], 0, 0), (54, .return_, 1, [], 0, 0), (55, .iload_n 2, 1, [], 0, 0), (56, .bipush 26, 2, [], 0, 0), (58, .imul, 1, [], 0, 0), (59, .iload 5, 2, [], 0, 0), (61, .iadd, 1, [], 0, 0), (62, .istore 6, 2, [], 0, 0), (64, .aload_n 0, 1, [], 0, 0), (65, .getfield 22, 3, [], 4, 0), (68, .iload 6, 2, [], 0, 0), (70, .iaload, 1, [], 0, 0), (71, .ifCond .ne 52, 3, [], 0, 0), (74, .aload_n 0, 1, [], 0, 0), (75, .getfield 71, 3, [], 20, 0), (78, .sipush 129, 3, [], 0, 0), (81, .if_icmp .lt 4, 3, [], 0, 0), (84, .return_, 1, [], 0, 0), (85, .aload_n 0, 1, [], 0, 0), (86, .getfield 22, 3, [], 4, 0), (89, .iload 6, 2, [], 0, 0), (91, .aload_n 0, 1, [], 0, 0), (92, .getfield 71, 3, [], 20, 0), (95, .iastore, 1, [], 0, 0), (96, .aload_n 0, 1, [], 0, 0), (97, .getfield 31, 3, [], 7, 0), (100, .aload_n 0, 1, [], 0, 0), (101, .getfield 71, 3, [], 20, 0), (104, .aload_n 0, 1, [], 0, 0), (105, .getfield 31, 3, [], 7, 0), (108, .iload_n 2, 1, [], 0, 0), (109, .iaload, 1, [], 0, 0), (110, .iconst 1, 1, [], 0, 0), (111, .iadd, 1, [], 0, 0), (112, .iastore, 1, [], 0, 0), (113, .aload_n 0, 1, [], 0, 0), (114, .dup, 1, [], 0, 0), (115, .getfield 71, 3, [], 20, 0), (118, .iconst 1, 1, [], 0, 0), (119, .iadd, 1, [], 0, 0), (120, .putfield 71, 3, [], 20, 0), (123, .aload_n 0, 1, [false, false, true, false, false, true], 0, 0), (124, .getfield 22, 3, [], 4, 0), (127, .iload 6, 2, [], 0, 0), (129, .iaload, 1, [], 0, 0), (130, .istore_n 2, 1, [], 0, 0), (131, .iinc 4 1, 3, [], 0, 0), (134, .goto (-124), 3, [], 0, 0), (137, .aload_n 0, 1, [false, false, false, true, true, true, true], 0, 0), (138, .getfield 34, 3, [], 8, 0), (141, .iload_n 2, 1, [], 0, 0), (142, .iload_n 1, 1, [], 0, 0), (143, .iastore, 1, [], 0, 0), (144, .aload_n 0, 1, [], 0, 0), (145, .getfield 37, 3, [], 9, 0), (148, .iload_n 2, 1, [], 0, 0), (149, .aload_n 0, 1, [], 0, 0), (150, .getfield 37, 3, [], 9, 0), (153, .iload_n 2, 1, [], 0, 0), (154, .iaload, 1, [], 0, 0), (155, .iconst 1, 1, [], 0, 0), (156, .iload_n 1, 1, [], 0, 0), (157, .ishl, 1, [], 0, 0), (158, .ior, 1, [], 0, 0), (159, .iastore, 1, [], 0, 0), (160, .return_, 1, [], 0, 0)])
def d_17 : MD := (⟨"MultiPatternScan", "computeLinks", "()V"⟩, prog_1_method_24_code, 5, none, 2, 0, 0, 1, 19, [(0, .iconst 0, 1, [], 0, 0), (1, .istore_n 1, 1, [], 0, 0), (2, .iconst 0, 1, [], 0, 0), (3, .istore_n 2, 1, [], 0, 0), (4, .aload_n 0, 1, [], 0, 0), (5, .getfield 28, 3, [], 6, 0), (8, .iconst 0, 1, [], 0, 0), (9, .iconst 0, 1, [], 0, 0), (10, .iastore, 1, [], 0, 0), (11, .iconst 0, 1, [], 0, 0), (12, .istore_n 3, 1, [], 0, 0), (13, .iload_n 3, 1, [false, false, false, false, true], 0, 0), (14, .bipush 26, 2, [], 0, 0), (16, .if_icmp .ge 56, 3, [], 0, 0), (19, .aload_n 0, 1, [], 0, 0), (20, .getfield 22, 3, [], 4, 0), (23, .iload_n 3, 1, [], 0, 0), (24, .iaload, 1, [], 0, 0), (25, .istore 4, 2, [], 0, 0), (27, .aload_n 0, 1, [], 0, 0), (28, .getfield 25, 3, [], 5, 0), (31, .iload_n 3, 1, [], 0, 0), (32, .iload 4, 2, [], 0, 0), (34, .iastore, 1, [], 0, 0), (35, .iload 4, 2, [], 0, 0), (37, .ifCond .eq 29, 3, [], 0, 0), (40, .iload_n 2, 1, [], 0, 0), (41, .sipush 129, 3, [], 0, 0), (44, .if_icmp .ge 22, 3, [], 0, 0), (47, .aload_n 0, 1, [], 0, 0), (48, .getfield 28, 3, [], 6, 0), (51, .iload 4, 2, [], 0, 0), (53, .iconst 0, 1, [], 0, 0), (54, .iastore, 1, [], 0, 0), (55, .aload_n 0, 1, [], 0, 0), (56, .getfield 40, 3, [], 10, 0), (59, .iload_n 2, 1, [], 0, 0), (60, .iload 4, 2, [], 0, 0), (62, .iastore, 1, [], 0, 0), (63, .iinc 2 1, 3, [], 0, 0), (66, .iinc 3 1, 3, [], 0, 0), (69, .goto (-56), 3, [], 0, 0), (72, .iconst 0, 1, [], 0, 0), (73, .istore_n 3, 1, [], 0, 0), (74, .iload_n 3, 1, [false, false, false, false, true], 0, 0), (75, .sipush 129, 3, [], 0, 0), (78, .if_icmp .ge 34, 3, [], 0, 0), (81, .iload_n 1, 1, [], 0, 0), (82, .iload_n 2, 1, [], 0, 0), (83, .if_icmp .lt 4, 3, [], 0, 0), (86, .return_, 1, [], 0, 0), (87, .aload_n 0, 1, [], 0, 0), (88, .getfield 40, 3, [], 10, 0), (91, .iload_n 1, 1, [], 0, 0), (92, .iaload, 1, [], 0, 0), (93, .istore 4, 2, [], 0, 0), (95, .iinc 1 1, 3, [], 0, 0), (98, .aload_n 0, 1, [], 0, 0), (99, .iload 4, 2, [], 0, 0), (101, .iload_n 2, 1, [], 0, 0), (102, .invokevirtual 139, 3, [], 18, 0), (105, .istore_n 2, 1, [], 0, 0), (106, .iinc 3 1, 3, [], 0, 0), (109, .goto (-35), 3, [], 0, 0), (112, .return_, 1, [], 0, 0)])
def d_18 : MD := (⟨"MultiPatternScan", "expandNode", "(II)I"⟩, prog_1_method_25_code, 8, some .int, 2, 2, 0, 0, 0, [(0, .iload_n 1, 1, [], 0, 0), (1, .ifCond .le 10, 3, [], 0, 0), (4, .iload_n 1, 1, [], 0, 0), (5, .sipush 129, 3, [], 0, 0), (8, .if_icmp .lt 5, 3, [], 0, 0), (11, .iload_n 2, 1, [], 0, 0), (12, .ireturn, 1, [], 0, 0), (13, .aload_n 0, 1, [], 0, 0), (14, .getfield 28, 3, [], 6, 0), (17, .iload_n 1, 1, [], 0, 0), (18, .iaload, 1, [], 0, 0), (19, .istore_n 3, 1, [], 0, 0), (20, .iload_n 3, 1, [], 0, 0), (21, .ifCond .lt 10, 3, [], 0, 0), (24, .iload_n 3, 1, [], 0, 0), (25, .sipush 129, 3, [], 0, 0), (28, .if_icmp .lt 5, 3, [], 0, 0), (31, .iconst 0, 1, [], 0, 0), (32, .istore_n 3, 1, [], 0, 0), (33, .aload_n 0, 1, [false, false, false, false, true, true, true, true], 0, 0), (34, .getfield 37, 3, [], 9, 0), (37, .iload_n 1, 1, [], 0, 0), (38, .aload_n 0, 1, [], 0, 0), (39, .getfield 37, 3, [], 9, 0), (42, .iload_n 1, 1, [], 0, 0), (43, .iaload, 1, [], 0, 0), (44, .aload_n 0, 1, [], 0, 0), (45, .getfield 37, 3, [], 9, 0), (48, .iload_n 3, 1, [], 0, 0), (49, .iaload, 1, [], 0, 0), (50, .ior, 1, [], 0, 0), (51, .iastore, 1, [], 0, 0), (52, .iload_n 2, 1, [], 0, 0), (53, .istore 4, 2, [], 0, 0), (55, .iconst 0, 1, [], 0, 0), (56, .istore 5, 2, [], 0, 0), (58, .iload 5, 2, [false, false, true, false, false, false, true, true], 0, 0), (60, .bipush 26, 2, [], 0, 0), (62, .if_icmp .ge 102, 3, [], 0, 0), (65, .aload_n 0, 1, [], 0, 0), (66, .getfield 22, 3, [], 4, 0), (69, .iload_n 1, 1, [], 0, 0), (70, .bipush 26, 2, [], 0, 0), (72, .imul, 1, [], 0, 0), (73, .iload 5, 2, [], 0, 0), (75, .iadd, 1, [], 0, 0), (76, .iaload, 1, [], 0, 0), (77, .istore 6, 2, [], 0, 0), (79, .aload_n 0, 1, [], 0, 0), (80, .getfield 25, 3, [], 5, 0), (83, .iload_n 3, 1, [], 0, 0), (84, .bipush 26, 2, [], 0, 0), (86, .imul, 1, [], 0, 0), (87, .iload 5, 2, [], 0, 0), (89, .iadd, 1, [], 0, 0), (90, .iaload, 1, [], 0, 0), (91, .istore 7, 2, [], 0, 0), (93, .iload 6, 2, [], 0, 0), (95, .ifCond .eq 49, 3, [], 0, 0), (98, .aload_n 0, 1, [], 0, 0), (99, .getfield 28, 3, [], 6, 0), (102, .iload 6, 2, [], 0, 0), (104, .iload 7, 2, [], 0, 0), (106, .iastore, 1, [], 0, 0), (107, .aload_n 0, 1, [], 0, 0), (108, .getfield 25, 3, [], 5, 0), (111, .iload_n 1, 1, [], 0, 0), (112, .bipush 26, 2, [], 0, 0), (114, .imul, 1, [], 0, 0), (115, .iload 5, 2, [], 0, 0), (117, .iadd, 1, [], 0, 0), (118, .iload 6, 2, [], 0, 0), (120, .iastore, 1, [], 0, 0), (121, .iload 4, 2, [], 0, 0), (123, .sipush 129, 3, [], 0, 0), (126, .if_icmp .ge 32, 3, [], 0, 0), (129, .aload_n 0, 1, [], 0, 0), (130, .getfield 40, 3, [], 10, 0), (133, .iload 4, 2, [], 0, 0), (135, .iload 6, 2, [], 0, 0), (137, .iastore, 1, [], 0, 0), (138, .iinc 4 1, 3, [], 0, 0), (141, .goto 17, 3, [], 0, 0), (144, .aload_n 0, 1, [], 0, 0), (145, .getfield 25, 3, [], 5, 0), (148, .iload_n 1, 1, [], 0, 0), (149, .bipush 26, 2, [], 0, 0), (151, .imul, 1, [], 0, 0), (152, .iload 5, 2, [], 0, 0), (154, .iadd, 1, [], 0, 0), (155, .iload 7, 2, [], 0, 0), (157, .iastore, 1, [], 0, 0), (158, .iinc 5 1, 3, [], 0, 0), (161, .goto (-103), 3, [], 0, 0), (164, .iload 4, 2, [], 0, 0), (166, .ireturn, 1, [], 0, 0)])
def d_19 : MD := (⟨"MultiPatternScan", "phase", "()I"⟩, prog_1_method_7_code, 1, some .int, 3, 0, 0, 0, 0, [(0, .aload_n 0, 1, [], 0, 0), (1, .getfield 62, 3, [], 17, 0), (4, .ireturn, 1, [], 0, 0)])
def d_20 : MD := (⟨"MultiPatternScan", "textLength", "()I"⟩, prog_1_method_11_code, 1, some .int, 3, 0, 0, 0, 0, [(0, .aload_n 0, 1, [], 0, 0), (1, .getfield 101, 3, [], 22, 0), (4, .ireturn, 1, [], 0, 0)])
def d_21 : MD := (⟨"MultiPatternScan", "feed", "(I)I"⟩, prog_1_method_5_code, 4, some .int, 3, 1, 0, 4, 58, [(0, .aload_n 0, 1, [], 0, 0), (1, .getfield 62, 3, [], 17, 0), (4, .iconst 1, 1, [], 0, 0), (5, .if_icmp .eq 5, 3, [], 0, 0), (8, .iconst (-1), 1, [], 0, 0), (9, .ireturn, 1, [], 0, 0), (10, .aload_n 0, 1, [], 0, 0), (11, .iload_n 1, 1, [], 0, 0), (12, .invokevirtual 84, 3, [], 11, 0), (15, .ifCond .ne 6, 3, [], 0, 0), (18, .bipush (-2), 2, [], 0, 0), (20, .ireturn, 1, [], 0, 0), (21, .aload_n 0, 1, [], 0, 0), (22, .getfield 101, 3, [], 22, 0), (25, .sipush 240, 3, [], 0, 0), (28, .if_icmp .lt 6, 3, [], 0, 0), (31, .bipush (-3), 2, [], 0, 0), (33, .ireturn, 1, [], 0, 0), (34, .aload_n 0, 1, [], 0, 0), (35, .aload_n 0, 1, [], 0, 0), (36, .aload_n 0, 1, [], 0, 0), (37, .getfield 104, 3, [], 23, 0), (40, .iload_n 1, 1, [], 0, 0), (41, .invokevirtual 107, 3, [], 22, 0), (44, .putfield 104, 3, [], 23, 0), (47, .aload_n 0, 1, [], 0, 0), (48, .getfield 37, 3, [], 9, 0), (51, .aload_n 0, 1, [], 0, 0), (52, .getfield 104, 3, [], 23, 0), (55, .iaload, 1, [], 0, 0), (56, .istore_n 2, 1, [], 0, 0), (57, .aload_n 0, 1, [], 0, 0), (58, .getfield 43, 3, [], 11, 0), (61, .aload_n 0, 1, [], 0, 0), (62, .getfield 101, 3, [], 22, 0), (65, .iload_n 1, 1, [], 0, 0), (66, .iastore, 1, [], 0, 0), (67, .aload_n 0, 1, [], 0, 0), (68, .getfield 46, 3, [], 12, 0), (71, .aload_n 0, 1, [], 0, 0), (72, .getfield 101, 3, [], 22, 0), (75, .iload_n 2, 1, [], 0, 0), (76, .iastore, 1, [], 0, 0), (77, .aload_n 0, 1, [], 0, 0), (78, .dup, 1, [], 0, 0), (79, .getfield 101, 3, [], 22, 0), (82, .iconst 1, 1, [], 0, 0), (83, .iadd, 1, [], 0, 0), (84, .putfield 101, 3, [], 22, 0), (87, .aload_n 0, 1, [], 0, 0), (88, .iload_n 2, 1, [], 0, 0), (89, .invokevirtual 111, 3, [], 23, 0), (92, .istore_n 3, 1, [], 0, 0), (93, .aload_n 0, 1, [], 0, 0), (94, .dup, 1, [], 0, 0), (95, .getfield 115, 3, [], 24, 0), (98, .iload_n 3, 1, [], 0, 0), (99, .iadd, 1, [], 0, 0), (100, .putfield 115, 3, [], 24, 0), (103, .aload_n 0, 1, [], 0, 0), (104, .invokevirtual 118, 3, [], 24, 0), (107, .aload_n 0, 1, [], 0, 0), (108, .invokevirtual 121, 3, [], 27, 0), (111, .iload_n 3, 1, [], 0, 0), (112, .ireturn, 1, [], 0, 0)])
def d_22 : MD := (⟨"MultiPatternScan", "nextState", "(II)I"⟩, prog_1_method_26_code, 3, some .int, 2, 2, 0, 1, 13, [(0, .aload_n 0, 1, [], 0, 0), (1, .iload_n 2, 1, [], 0, 0), (2, .invokevirtual 80, 3, [], 9, 0), (5, .ifCond .ne 5, 3, [], 0, 0), (8, .iconst 0, 1, [], 0, 0), (9, .ireturn, 1, [], 0, 0), (10, .iload_n 1, 1, [], 0, 0), (11, .ifCond .lt 10, 3, [], 0, 0), (14, .iload_n 1, 1, [], 0, 0), (15, .sipush 129, 3, [], 0, 0), (18, .if_icmp .lt 5, 3, [], 0, 0), (21, .iconst 0, 1, [], 0, 0), (22, .ireturn, 1, [], 0, 0), (23, .aload_n 0, 1, [], 0, 0), (24, .getfield 25, 3, [], 5, 0), (27, .iload_n 1, 1, [], 0, 0), (28, .bipush 26, 2, [], 0, 0), (30, .imul, 1, [], 0, 0), (31, .iload_n 2, 1, [], 0, 0), (32, .bipush 97, 2, [], 0, 0), (34, .isub, 1, [], 0, 0), (35, .iadd, 1, [], 0, 0), (36, .iaload, 1, [], 0, 0), (37, .ireturn, 1, [], 0, 0)])
def d_23 : MD := (⟨"MultiPatternScan", "popCount", "(I)I"⟩, prog_1_method_34_code, 4, some .int, 2, 1, 0, 0, 0, [(0, .iconst 0, 1, [], 0, 0), (1, .istore_n 2, 1, [], 0, 0), (2, .iconst 0, 1, [], 0, 0), (3, .istore_n 3, 1, [], 0, 0), (4, .iload_n 3, 1, [true], 0, 0), (5, .bipush 16, 2, [], 0, 0), (7, .if_icmp .ge 20, 3, [], 0, 0), (10, .iload_n 1, 1, [], 0, 0), (11, .iload_n 3, 1, [], 0, 0), (12, .ishr, 1, [], 0, 0), (13, .iconst 1, 1, [], 0, 0), (14, .iand, 1, [], 0, 0), (15, .ifCond .eq 6, 3, [], 0, 0), (18, .iinc 2 1, 3, [], 0, 0), (21, .iinc 3 1, 3, [], 0, 0), (24, .goto (-20), 3, [], 0, 0), (27, .iload_n 2, 1, [], 0, 0), (28, .ireturn, 1, [], 0, 0)])
def d_24 : MD := (⟨"MultiPatternScan", "commitReady", "()V"⟩, prog_1_method_29_code, 2, none, 2, 0, 0, 3, 45, [(0, .iconst 0, 1, [], 0, 0), (1, .istore_n 1, 1, [], 0, 0), (2, .iload_n 1, 1, [], 0, 0), (3, .sipush 240, 3, [], 0, 0), (6, .if_icmp .ge 59, 3, [], 0, 0), (9, .aload_n 0, 1, [], 0, 0), (10, .getfield 142, 3, [], 26, 0), (13, .ifCond .lt 30, 3, [], 0, 0), (16, .aload_n 0, 1, [], 0, 0), (17, .getfield 142, 3, [], 26, 0), (20, .aload_n 0, 1, [], 0, 0), (21, .getfield 101, 3, [], 22, 0), (24, .if_icmp .ge 19, 3, [], 0, 0), (27, .aload_n 0, 1, [], 0, 0), (28, .getfield 142, 3, [], 26, 0), (31, .aload_n 0, 1, [], 0, 0), (32, .getfield 74, 3, [], 21, 0), (35, .iadd, 1, [], 0, 0), (36, .aload_n 0, 1, [], 0, 0), (37, .getfield 101, 3, [], 22, 0), (40, .if_icmp .le 4, 3, [], 0, 0), (43, .return_, 1, [], 0, 0), (44, .aload_n 0, 1, [], 0, 0), (45, .getfield 127, 3, [], 25, 0), (48, .sipush 240, 3, [], 0, 0), (51, .if_icmp .lt 4, 3, [], 0, 0), (54, .return_, 1, [], 0, 0), (55, .aload_n 0, 1, [], 0, 0), (56, .invokevirtual 145, 3, [], 25, 0), (59, .iinc 1 1, 3, [], 0, 0), (62, .goto (-60), 3, [], 0, 0), (65, .return_, 1, [], 0, 0)])
def d_25 : MD := (⟨"MultiPatternScan", "commitOne", "()V"⟩, prog_1_method_30_code, 2, none, 2, 0, 0, 2, 32, [(0, .aload_n 0, 1, [], 0, 0), (1, .aload_n 0, 1, [], 0, 0), (2, .getfield 142, 3, [], 26, 0), (5, .invokevirtual 148, 3, [], 26, 0), (8, .istore_n 1, 1, [], 0, 0), (9, .iload_n 1, 1, [], 0, 0), (10, .ifCond .lt 36, 3, [], 0, 0), (13, .aload_n 0, 1, [], 0, 0), (14, .getfield 49, 3, [], 13, 0), (17, .aload_n 0, 1, [], 0, 0), (18, .getfield 127, 3, [], 25, 0), (21, .aload_n 0, 1, [], 0, 0), (22, .getfield 16, 3, [], 2, 0), (25, .iload_n 1, 1, [], 0, 0), (26, .iaload, 1, [], 0, 0), (27, .iastore, 1, [], 0, 0), (28, .aload_n 0, 1, [], 0, 0), (29, .dup, 1, [], 0, 0), (30, .getfield 142, 3, [], 26, 0), (33, .aload_n 0, 1, [], 0, 0), (34, .getfield 13, 3, [], 1, 0), (37, .iload_n 1, 1, [], 0, 0), (38, .iaload, 1, [], 0, 0), (39, .iadd, 1, [], 0, 0), (40, .putfield 142, 3, [], 26, 0), (43, .goto 31, 3, [], 0, 0), (46, .aload_n 0, 1, [], 0, 0), (47, .getfield 49, 3, [], 13, 0), (50, .aload_n 0, 1, [], 0, 0), (51, .getfield 127, 3, [], 25, 0), (54, .aload_n 0, 1, [], 0, 0), (55, .getfield 43, 3, [], 11, 0), (58, .aload_n 0, 1, [], 0, 0), (59, .getfield 142, 3, [], 26, 0), (62, .iaload, 1, [], 0, 0), (63, .iastore, 1, [], 0, 0), (64, .aload_n 0, 1, [], 0, 0), (65, .dup, 1, [], 0, 0), (66, .getfield 142, 3, [], 26, 0), (69, .iconst 1, 1, [], 0, 0), (70, .iadd, 1, [], 0, 0), (71, .putfield 142, 3, [], 26, 0), (74, .aload_n 0, 1, [false, true], 0, 0), (75, .dup, 1, [], 0, 0), (76, .getfield 127, 3, [], 25, 0), (79, .iconst 1, 1, [], 0, 0), (80, .iadd, 1, [], 0, 0), (81, .putfield 127, 3, [], 25, 0), (84, .return_, 1, [], 0, 0)])
def d_26 : MD := (⟨"MultiPatternScan", "longestAt", "(I)I"⟩, prog_1_method_28_code, 8, some .int, 2, 1, 0, 1, 13, [(0, .iconst (-1), 1, [], 0, 0), (1, .istore_n 2, 1, [], 0, 0), (2, .iconst 0, 1, [], 0, 0), (3, .istore_n 3, 1, [], 0, 0), (4, .iconst 0, 1, [], 0, 0), (5, .istore 4, 2, [], 0, 0), (7, .iload 4, 2, [false, false, false, false, false, true, true, true], 0, 0), (9, .bipush 8, 2, [], 0, 0), (11, .if_icmp .ge 94, 3, [], 0, 0), (14, .iload_n 1, 1, [], 0, 0), (15, .iload 4, 2, [], 0, 0), (17, .iadd, 1, [], 0, 0), (18, .istore 5, 2, [], 0, 0), (20, .iload 5, 2, [], 0, 0), (22, .ifCond .lt 12, 3, [], 0, 0), (25, .iload 5, 2, [], 0, 0), (27, .aload_n 0, 1, [], 0, 0), (28, .getfield 101, 3, [], 22, 0), (31, .if_icmp .lt 5, 3, [], 0, 0), (34, .iload_n 2, 1, [], 0, 0), (35, .ireturn, 1, [], 0, 0), (36, .aload_n 0, 1, [], 0, 0), (37, .getfield 43, 3, [], 11, 0), (40, .iload 5, 2, [], 0, 0), (42, .iaload, 1, [], 0, 0), (43, .istore 6, 2, [], 0, 0), (45, .aload_n 0, 1, [], 0, 0), (46, .iload 6, 2, [], 0, 0), (48, .invokevirtual 80, 3, [], 9, 0), (51, .ifCond .ne 5, 3, [], 0, 0), (54, .iload_n 2, 1, [], 0, 0), (55, .ireturn, 1, [], 0, 0), (56, .aload_n 0, 1, [], 0, 0), (57, .getfield 22, 3, [], 4, 0), (60, .iload_n 3, 1, [], 0, 0), (61, .bipush 26, 2, [], 0, 0), (63, .imul, 1, [], 0, 0), (64, .iload 6, 2, [], 0, 0), (66, .bipush 97, 2, [], 0, 0), (68, .isub, 1, [], 0, 0), (69, .iadd, 1, [], 0, 0), (70, .iaload, 1, [], 0, 0), (71, .istore 7, 2, [], 0, 0), (73, .iload 7, 2, [], 0, 0), (75, .ifCond .ne 5, 3, [], 0, 0), (78, .iload_n 2, 1, [], 0, 0), (79, .ireturn, 1, [], 0, 0), (80, .iload 7, 2, [], 0, 0), (82, .istore_n 3, 1, [], 0, 0), (83, .aload_n 0, 1, [], 0, 0), (84, .getfield 34, 3, [], 8, 0), (87, .iload_n 3, 1, [], 0, 0), (88, .iaload, 1, [], 0, 0), (89, .ifCond .lt 10, 3, [], 0, 0), (92, .aload_n 0, 1, [], 0, 0), (93, .getfield 34, 3, [], 8, 0), (96, .iload_n 3, 1, [], 0, 0), (97, .iaload, 1, [], 0, 0), (98, .istore_n 2, 1, [], 0, 0), (99, .iinc 4 1, 3, [], 0, 0), (102, .goto (-95), 3, [], 0, 0), (105, .iload_n 2, 1, [], 0, 0), (106, .ireturn, 1, [], 0, 0)])
def d_27 : MD := (⟨"MultiPatternScan", "rebuildTail", "()V"⟩, prog_1_method_31_code, 4, none, 2, 0, 0, 2, 32, [(0, .aload_n 0, 1, [], 0, 0), (1, .iconst 0, 1, [], 0, 0), (2, .putfield 130, 3, [], 27, 0), (5, .aload_n 0, 1, [], 0, 0), (6, .getfield 142, 3, [], 26, 0), (9, .istore_n 1, 1, [], 0, 0), (10, .iconst 0, 1, [], 0, 0), (11, .istore_n 2, 1, [], 0, 0), (12, .iload_n 2, 1, [false, false, false, true], 0, 0), (13, .bipush 8, 2, [], 0, 0), (15, .if_icmp .ge 96, 3, [], 0, 0), (18, .iload_n 1, 1, [], 0, 0), (19, .ifCond .lt 20, 3, [], 0, 0), (22, .iload_n 1, 1, [], 0, 0), (23, .aload_n 0, 1, [], 0, 0), (24, .getfield 101, 3, [], 22, 0), (27, .if_icmp .ge 12, 3, [], 0, 0), (30, .aload_n 0, 1, [], 0, 0), (31, .getfield 130, 3, [], 27, 0), (34, .bipush 8, 2, [], 0, 0), (36, .if_icmp .lt 4, 3, [], 0, 0), (39, .return_, 1, [], 0, 0), (40, .aload_n 0, 1, [], 0, 0), (41, .iload_n 1, 1, [], 0, 0), (42, .invokevirtual 148, 3, [], 26, 0), (45, .istore_n 3, 1, [], 0, 0), (46, .iload_n 3, 1, [], 0, 0), (47, .ifCond .lt 30, 3, [], 0, 0), (50, .aload_n 0, 1, [], 0, 0), (51, .getfield 52, 3, [], 14, 0), (54, .aload_n 0, 1, [], 0, 0), (55, .getfield 130, 3, [], 27, 0), (58, .aload_n 0, 1, [], 0, 0), (59, .getfield 16, 3, [], 2, 0), (62, .iload_n 3, 1, [], 0, 0), (63, .iaload, 1, [], 0, 0), (64, .iastore, 1, [], 0, 0), (65, .iload_n 1, 1, [], 0, 0), (66, .aload_n 0, 1, [], 0, 0), (67, .getfield 13, 3, [], 1, 0), (70, .iload_n 3, 1, [], 0, 0), (71, .iaload, 1, [], 0, 0), (72, .iadd, 1, [], 0, 0), (73, .istore_n 1, 1, [], 0, 0), (74, .goto 21, 3, [], 0, 0), (77, .aload_n 0, 1, [], 0, 0), (78, .getfield 52, 3, [], 14, 0), (81, .aload_n 0, 1, [], 0, 0), (82, .getfield 130, 3, [], 27, 0), (85, .aload_n 0, 1, [], 0, 0), (86, .getfield 43, 3, [], 11, 0), (89, .iload_n 1, 1, [], 0, 0), (90, .iaload, 1, [], 0, 0), (91, .iastore, 1, [], 0, 0), (92, .iinc 1 1, 3, [], 0, 0), (95, .aload_n 0, 1, [false, false, false, true], 0, 0), (96, .dup, 1, [], 0, 0), (97, .getfield 130, 3, [], 27, 0), (100, .iconst 1, 1, [], 0, 0), (101, .iadd, 1, [], 0, 0), (102, .putfield 130, 3, [], 27, 0), (105, .iinc 2 1, 3, [], 0, 0), (108, .goto (-96), 3, [], 0, 0), (111, .return_, 1, [], 0, 0)])
def d_28 : MD := (⟨"MultiPatternScan", "occurrenceMask", "(I)I"⟩, prog_1_method_13_code, 2, some .int, 3, 1, 0, 0, 0, [(0, .iload_n 1, 1, [], 0, 0), (1, .ifCond .lt 11, 3, [], 0, 0), (4, .iload_n 1, 1, [], 0, 0), (5, .aload_n 0, 1, [], 0, 0), (6, .getfield 101, 3, [], 22, 0), (9, .if_icmp .lt 5, 3, [], 0, 0), (12, .iconst (-1), 1, [], 0, 0), (13, .ireturn, 1, [], 0, 0), (14, .aload_n 0, 1, [], 0, 0), (15, .getfield 46, 3, [], 12, 0), (18, .iload_n 1, 1, [], 0, 0), (19, .iaload, 1, [], 0, 0), (20, .ireturn, 1, [], 0, 0)])
def d_29 : MD := (⟨"MultiPatternScanOwnLaw", "pop", "(I)I"⟩, method_5_code, 3, some .int, 0, 1, 999, 0, 0, [(0, .iconst 0, 1, [], 0, 0), (1, .istore_n 1, 1, [], 0, 0), (2, .iconst 0, 1, [], 0, 0), (3, .istore_n 2, 1, [], 0, 0), (4, .iload_n 2, 1, [], 0, 0), (5, .bipush 32, 2, [], 0, 0), (7, .if_icmp .ge 17, 3, [], 0, 0), (10, .iload_n 1, 1, [], 0, 0), (11, .iload_n 0, 1, [], 0, 0), (12, .iload_n 2, 1, [], 0, 0), (13, .iushr, 1, [], 0, 0), (14, .iconst 1, 1, [], 0, 0), (15, .iand, 1, [], 0, 0), (16, .iadd, 1, [], 0, 0), (17, .istore_n 1, 1, [], 0, 0), (18, .iinc 2 1, 3, [], 0, 0), (21, .goto (-17), 3, [], 0, 0), (24, .iload_n 1, 1, [], 0, 0), (25, .ireturn, 1, [], 0, 0)])
def d_30 : MD := (⟨"MultiPatternScan", "textChar", "(I)I"⟩, prog_1_method_12_code, 2, some .int, 3, 1, 0, 0, 0, [(0, .iload_n 1, 1, [], 0, 0), (1, .ifCond .lt 11, 3, [], 0, 0), (4, .iload_n 1, 1, [], 0, 0), (5, .aload_n 0, 1, [], 0, 0), (6, .getfield 101, 3, [], 22, 0), (9, .if_icmp .lt 5, 3, [], 0, 0), (12, .iconst (-1), 1, [], 0, 0), (13, .ireturn, 1, [], 0, 0), (14, .aload_n 0, 1, [], 0, 0), (15, .getfield 43, 3, [], 11, 0), (18, .iload_n 1, 1, [], 0, 0), (19, .iaload, 1, [], 0, 0), (20, .ireturn, 1, [], 0, 0)])
def d_31 : MD := (⟨"MultiPatternScan", "keywordChar", "(II)I"⟩, prog_1_method_10_code, 3, some .int, 3, 2, 0, 1, 14, [(0, .iload_n 1, 1, [], 0, 0), (1, .ifCond .lt 18, 3, [], 0, 0), (4, .iload_n 1, 1, [], 0, 0), (5, .aload_n 0, 1, [], 0, 0), (6, .getfield 65, 3, [], 18, 0), (9, .if_icmp .ge 10, 3, [], 0, 0), (12, .aload_n 0, 1, [], 0, 0), (13, .iload_n 1, 1, [], 0, 0), (14, .iload_n 2, 1, [], 0, 0), (15, .invokevirtual 124, 3, [], 32, 0), (18, .ireturn, 1, [], 0, 0), (19, .iload_n 1, 1, [], 0, 0), (20, .aload_n 0, 1, [], 0, 0), (21, .getfield 65, 3, [], 18, 0), (24, .if_icmp .ne 22, 3, [], 0, 0), (27, .iload_n 2, 1, [], 0, 0), (28, .ifCond .lt 18, 3, [], 0, 0), (31, .iload_n 2, 1, [], 0, 0), (32, .aload_n 0, 1, [], 0, 0), (33, .getfield 68, 3, [], 19, 0), (36, .if_icmp .ge 10, 3, [], 0, 0), (39, .aload_n 0, 1, [], 0, 0), (40, .getfield 19, 3, [], 3, 0), (43, .iload_n 2, 1, [], 0, 0), (44, .iaload, 1, [], 0, 0), (45, .ireturn, 1, [], 0, 0), (46, .iconst (-1), 1, [], 0, 0), (47, .ireturn, 1, [], 0, 0)])
def d_32 : MD := (⟨"MultiPatternScan", "acceptedChar", "(II)I"⟩, prog_1_method_18_code, 3, some .int, 2, 2, 0, 0, 0, [(0, .iload_n 2, 1, [], 0, 0), (1, .iconst (-1), 1, [], 0, 0), (2, .if_icmp .ne 10, 3, [], 0, 0), (5, .aload_n 0, 1, [], 0, 0), (6, .getfield 16, 3, [], 2, 0), (9, .iload_n 1, 1, [], 0, 0), (10, .iaload, 1, [], 0, 0), (11, .ireturn, 1, [], 0, 0), (12, .iload_n 2, 1, [], 0, 0), (13, .ifCond .lt 25, 3, [], 0, 0), (16, .iload_n 2, 1, [], 0, 0), (17, .aload_n 0, 1, [], 0, 0), (18, .getfield 13, 3, [], 1, 0), (21, .iload_n 1, 1, [], 0, 0), (22, .iaload, 1, [], 0, 0), (23, .if_icmp .ge 15, 3, [], 0, 0), (26, .aload_n 0, 1, [], 0, 0), (27, .getfield 7, 3, [], 0, 0), (30, .iload_n 1, 1, [], 0, 0), (31, .bipush 8, 2, [], 0, 0), (33, .imul, 1, [], 0, 0), (34, .iload_n 2, 1, [], 0, 0), (35, .iadd, 1, [], 0, 0), (36, .iaload, 1, [], 0, 0), (37, .ireturn, 1, [], 0, 0), (38, .iconst (-1), 1, [], 0, 0), (39, .ireturn, 1, [], 0, 0)])
def d_33 : MD := (⟨"MultiPatternScan", "totalOccurrences", "()I"⟩, prog_1_method_14_code, 1, some .int, 3, 0, 0, 0, 0, [(0, .aload_n 0, 1, [], 0, 0), (1, .getfield 115, 3, [], 24, 0), (4, .ireturn, 1, [], 0, 0)])
def d_34 : MD := (⟨"MultiPatternScan", "resetText", "()I"⟩, prog_1_method_6_code, 1, some .int, 3, 0, 0, 1, 12, [(0, .aload_n 0, 1, [], 0, 0), (1, .getfield 62, 3, [], 17, 0), (4, .iconst 1, 1, [], 0, 0), (5, .if_icmp .eq 5, 3, [], 0, 0), (8, .iconst (-1), 1, [], 0, 0), (9, .ireturn, 1, [], 0, 0), (10, .aload_n 0, 1, [], 0, 0), (11, .invokevirtual 77, 3, [], 5, 0), (14, .iconst 0, 1, [], 0, 0), (15, .ireturn, 1, [], 0, 0)])
def d_35 : MD := (⟨"MultiPatternScan", "pendingEquals", "(I)Z"⟩, prog_1_method_20_code, 4, some .boolean, 2, 1, 0, 0, 0, [(0, .aload_n 0, 1, [], 0, 0), (1, .getfield 13, 3, [], 1, 0), (4, .iload_n 1, 1, [], 0, 0), (5, .iaload, 1, [], 0, 0), (6, .aload_n 0, 1, [], 0, 0), (7, .getfield 68, 3, [], 19, 0), (10, .if_icmp .eq 5, 3, [], 0, 0), (13, .iconst 0, 1, [], 0, 0), (14, .ireturn, 1, [], 0, 0), (15, .iload_n 1, 1, [], 0, 0), (16, .bipush 8, 2, [], 0, 0), (18, .imul, 1, [], 0, 0), (19, .istore_n 2, 1, [], 0, 0), (20, .iconst 0, 1, [], 0, 0), (21, .istore_n 3, 1, [], 0, 0), (22, .iload_n 3, 1, [false, true], 0, 0), (23, .aload_n 0, 1, [], 0, 0), (24, .getfield 68, 3, [], 19, 0), (27, .if_icmp .ge 34, 3, [], 0, 0), (30, .iload_n 3, 1, [], 0, 0), (31, .bipush 8, 2, [], 0, 0), (33, .if_icmp .ge 28, 3, [], 0, 0), (36, .aload_n 0, 1, [], 0, 0), (37, .getfield 7, 3, [], 0, 0), (40, .iload_n 2, 1, [], 0, 0), (41, .iload_n 3, 1, [], 0, 0), (42, .iadd, 1, [], 0, 0), (43, .iaload, 1, [], 0, 0), (44, .aload_n 0, 1, [], 0, 0), (45, .getfield 19, 3, [], 3, 0), (48, .iload_n 3, 1, [], 0, 0), (49, .iaload, 1, [], 0, 0), (50, .if_icmp .eq 5, 3, [], 0, 0), (53, .iconst 0, 1, [], 0, 0), (54, .ireturn, 1, [], 0, 0), (55, .iinc 3 1, 3, [], 0, 0), (58, .goto (-36), 3, [], 0, 0), (61, .iconst 1, 1, [], 0, 0), (62, .ireturn, 1, [], 0, 0)])
def own_P : PD := ([("MultiPatternScan", 28, [("kwChars", "[I", (.array .int), false), ("kwLen", "[I", (.array .int), false), ("kwRepl", "[I", (.array .int), false), ("pend", "[I", (.array .int), false), ("child", "[I", (.array .int), false), ("delta", "[I", (.array .int), false), ("fail", "[I", (.array .int), false), ("depth", "[I", (.array .int), false), ("term", "[I", (.array .int), false), ("outMask", "[I", (.array .int), false), ("queue", "[I", (.array .int), false), ("text", "[I", (.array .int), false), ("masks", "[I", (.array .int), false), ("out", "[I", (.array .int), false), ("tail", "[I", (.array .int), false), ("maxKw", "I", .int, false), ("maxLen", "I", .int, false), ("phaseNow", "I", .int, false), ("count", "I", .int, false), ("pendLen", "I", .int, false), ("nodeCount", "I", .int, false), ("longestKw", "I", .int, false), ("n", "I", .int, false), ("state", "I", .int, false), ("total", "I", .int, false), ("outLen", "I", .int, false), ("commitPos", "I", .int, false), ("tailLen", "I", .int, false)])], [d_0, d_1, d_2, d_3, d_4, d_5, d_6, d_7, d_8, d_9, d_10, d_11, d_12, d_13, d_14, d_15, d_16, d_17, d_18, d_19, d_20, d_21, d_22, d_23, d_24, d_25, d_26, d_27, d_28, d_29, d_30, d_31, d_32, d_33, d_34, d_35], 1)
theorem hm_0 : own_P.mth[0]? = some d_0 := rfl
theorem hm_1 : own_P.mth[1]? = some d_1 := rfl
theorem hm_2 : own_P.mth[2]? = some d_2 := rfl
theorem hm_3 : own_P.mth[3]? = some d_3 := rfl
theorem hm_4 : own_P.mth[4]? = some d_4 := rfl
theorem hm_5 : own_P.mth[5]? = some d_5 := rfl
theorem hm_6 : own_P.mth[6]? = some d_6 := rfl
theorem hm_7 : own_P.mth[7]? = some d_7 := rfl
theorem hm_8 : own_P.mth[8]? = some d_8 := rfl
theorem hm_9 : own_P.mth[9]? = some d_9 := rfl
theorem hm_10 : own_P.mth[10]? = some d_10 := rfl
theorem hm_11 : own_P.mth[11]? = some d_11 := rfl
theorem hm_12 : own_P.mth[12]? = some d_12 := rfl
theorem hm_13 : own_P.mth[13]? = some d_13 := rfl
theorem hm_14 : own_P.mth[14]? = some d_14 := rfl
theorem hm_15 : own_P.mth[15]? = some d_15 := rfl
theorem hm_16 : own_P.mth[16]? = some d_16 := rfl
theorem hm_17 : own_P.mth[17]? = some d_17 := rfl
theorem hm_18 : own_P.mth[18]? = some d_18 := rfl
theorem hm_19 : own_P.mth[19]? = some d_19 := rfl
theorem hm_20 : own_P.mth[20]? = some d_20 := rfl
theorem hm_21 : own_P.mth[21]? = some d_21 := rfl
theorem hm_22 : own_P.mth[22]? = some d_22 := rfl
theorem hm_23 : own_P.mth[23]? = some d_23 := rfl
theorem hm_24 : own_P.mth[24]? = some d_24 := rfl
theorem hm_25 : own_P.mth[25]? = some d_25 := rfl
theorem hm_26 : own_P.mth[26]? = some d_26 := rfl
theorem hm_27 : own_P.mth[27]? = some d_27 := rfl
theorem hm_28 : own_P.mth[28]? = some d_28 := rfl
theorem hm_29 : own_P.mth[29]? = some d_29 := rfl
theorem hm_30 : own_P.mth[30]? = some d_30 := rfl
theorem hm_31 : own_P.mth[31]? = some d_31 := rfl
theorem hm_32 : own_P.mth[32]? = some d_32 := rfl
theorem hm_33 : own_P.mth[33]? = some d_33 := rfl
theorem hm_34 : own_P.mth[34]? = some d_34 := rfl
theorem hm_35 : own_P.mth[35]? = some d_35 := rfl
set_option maxRecDepth 100000 in
theorem own_chk : chk own_P = true := by decide +kernel
def own_ix : List Nat := [11, 12, 21, 23, 25, 27, 29, 31, 33, 35, 37, 39, 41, 43, 45, 47, 49, 51, 53, 55, 57, 59, 61, 63, 69, 71, 73, 75, 77, 79, 3, 2, 1, 6, 2, 5, 9, 2, 8, 15, 12, 14, 67, 12, 65, 66, 84, 12, 81, 83, 82, 89, 12, 86, 88, 87, 94, 12, 91, 93, 92, 98, 12, 96, 97, 103, 12, 100, 102, 101, 107, 12, 105, 106, 111, 12, 109, 110, 115, 12, 113, 114, 120, 12, 117, 119, 118, 124, 12, 122, 123, 128, 12, 126, 127, 132, 12, 130, 131, 136, 12, 134, 135, 141, 12, 138, 140, 139, 146, 12, 143, 145, 144, 151, 12, 148, 150, 149, 155, 12, 153, 154, 159, 12, 157, 158, 163, 12, 161, 162, 167, 12, 165, 166, 171, 12, 169, 170, 175, 12, 173, 174, 180, 12, 177, 179, 178, 183, 2, 182, 189, 12, 186, 188, 187, 194, 12, 191, 193, 192, 198, 12, 196, 197, 203, 12, 200, 202, 201, 208, 12, 205, 207, 206, 212, 12, 210, 211, 0, 4, 0, 4, 7, 7, 10, 13, 0, 4, 0, 4, 0, 4, 80, 85, 85, 190, 190, 0, 4, 99, 0, 4, 4, 85, 190, 190, 190, 90, 99, 116, 137, 4, 204, 142, 142, 4, 4, 147, 142, 176, 181, 184, 142, 80, 176, 85, 185, 190, 184, 181, 199, 16, 17, 18, 19, 20, 19, 22, 19, 24, 19, 26, 19, 28, 19, 30, 19, 32, 19, 34, 19, 36, 19, 38, 19, 40, 19, 42, 19, 44, 19, 46, 19, 48, 50, 52, 54, 56, 58, 60, 62, 36, 64, 68, 70, 72, 74, 76, 78, 56, 56, 22, 56, 58, 54, 95, 56, 50, 58, 52, 58, 26, 58, 58, 58, 58, 54, 58, 104, 108, 56, 112, 56, 56, 209, 56, 58, 20, 26, 22, 56, 58, 24, 56, 56, 56, 58, 54, 58, 56, 121, 129, 54, 64, 60, 62, 56, 125, 22, 62, 22, 62, 22, 20, 28, 60, 28, 60, 34, 60, 34, 60, 60, 28, 36, 38, 38, 32, 28, 30, 32, 40, 40, 133, 32, 38, 38, 38, 28, 30, 32, 30, 40, 30, 54, 68, 54, 104, 68, 70, 152, 70, 38, 70, 42, 68, 44, 68, 68, 68, 156, 72, 72, 160, 172, 95, 30, 76, 76, 68, 76, 62, 68, 74, 164, 76, 168, 46, 74, 24, 76, 22, 76, 46, 74, 42, 76, 76, 76, 74, 74, 68, 42, 95, 28, 36, 36, 78, 76, 68, 78, 168, 48, 78, 24, 22, 48, 78, 42, 78, 78, 68, 44, 68, 42, 56, 195, 56, 58, 26, 24, 22, 20, 72, 54, 64, 22, 58, 58, 20, 26]
set_option maxRecDepth 100000 in
theorem own_words : (wordsOf own_P).map some = own_ix.map fun k => tables_1[k]? := rfl
theorem own_in : ∀ d ∈ wordsOf own_P, d ∈ tables_1 := fun d hd => by
  have h1 : some d ∈ (wordsOf own_P).map some := List.mem_map.mpr ⟨d, hd, rfl⟩
  rw [own_words] at h1
  obtain ⟨k, -, hk⟩ := List.mem_map.mp h1
  exact List.mem_of_getElem? hk
abbrev bk0 (s_kwChars : List Int32) (s_kwLen : List Int32) (s_kwRepl : List Int32) (s_pend : List Int32) (s_child : List Int32) (s_delta : List Int32) (s_fail : List Int32) (s_depth : List Int32) (s_term : List Int32) (s_outMask : List Int32) (s_queue : List Int32) (s_text : List Int32) (s_masks : List Int32) (s_out : List Int32) (s_tail : List Int32) (s_maxKw : Int32) (s_maxLen : Int32) (s_phaseNow : Int32) (s_count : Int32) (s_pendLen : Int32) (s_nodeCount : Int32) (s_longestKw : Int32) (s_n : Int32) (s_state : Int32) (s_total : Int32) (s_outLen : Int32) (s_commitPos : Int32) (s_tailLen : Int32) (po : List ACell) : List ACell := .inl (0, [.ref 2, .ref 3, .ref 4, .ref 5, .ref 6, .ref 7, .ref 8, .ref 9, .ref 10, .ref 11, .ref 12, .ref 13, .ref 14, .ref 15, .ref 16, .int s_maxKw, .int s_maxLen, .int s_phaseNow, .int s_count, .int s_pendLen, .int s_nodeCount, .int s_longestKw, .int s_n, .int s_state, .int s_total, .int s_outLen, .int s_commitPos, .int s_tailLen]) :: .inr (.inl (false, s_kwChars)) :: .inr (.inl (false, s_kwLen)) :: .inr (.inl (false, s_kwRepl)) :: .inr (.inl (false, s_pend)) :: .inr (.inl (false, s_child)) :: .inr (.inl (false, s_delta)) :: .inr (.inl (false, s_fail)) :: .inr (.inl (false, s_depth)) :: .inr (.inl (false, s_term)) :: .inr (.inl (false, s_outMask)) :: .inr (.inl (false, s_queue)) :: .inr (.inl (false, s_text)) :: .inr (.inl (false, s_masks)) :: .inr (.inl (false, s_out)) :: .inr (.inl (false, s_tail)) :: po
def f_L_cell (scr : List Int32) (v1 : Int32) : Option (Int32) :=
  if v1 < scr.length.toInt32 then
    (rdA scr v1).bind fun x1 =>
    some x1
  else
    some (0 : Int32)
def f_L_mod (v0 v1 : Int32) : Option (Int32) :=
  if v1 = 0 then none else
  some (if (v0 % v1) < (0 : Int32) then ((v0 % v1) + v1) else (v0 % v1))
def f_L_clamp (v0 v1 v2 : Int32) : Option (Int32) :=
  some (if v0 < v1 then v1 else (if v2 < v0 then v2 else v0))
def f_clearText (ze zy zx zm zj zn : Int32) : Option (Int32 × Int32 × Int32 × Int32 × Int32 × Int32) :=
  some ((0 : Int32), (0 : Int32), (0 : Int32), (0 : Int32), (0 : Int32), (0 : Int32))
def f_init_237 (zf za zi zk zb zs zt zr zg zh zo zl zz zv zw : List Int32) (zaa zab zq zc zd zp zu ze zy zx zm zj zn : Int32) : Option (List Int32 × List Int32 × List Int32 × List Int32 × List Int32 × List Int32 × List Int32 × List Int32 × List Int32 × List Int32 × List Int32 × List Int32 × List Int32 × List Int32 × List Int32 × Int32 × Int32 × Int32 × Int32 × Int32 × Int32 × Int32 × Int32 × Int32 × Int32 × Int32 × Int32 × Int32) :=
  (f_clearText ze zy zx zm zj zn).bind fun (s3, s4, s5, s6, s7, s8) =>
  some (zf, za, zi, zk, zb, zs, zt, zr, zg, zh, zo, zl, zz, zv, zw, zaa, zab, zq, zc, zd, zp, zu, s3, s4, s5, s6, s7, s8)
def f_init_215 (k237 : List Int32 → List Int32 → List Int32 → List Int32 → List Int32 → List Int32 → List Int32 → List Int32 → List Int32 → List Int32 → List Int32 → List Int32 → List Int32 → List Int32 → List Int32 → Int32 → Int32 → Int32 → Int32 → Int32 → Int32 → Int32 → Int32 → Int32 → Int32 → Int32 → Int32 → Int32 → Option (List Int32 × List Int32 × List Int32 × List Int32 × List Int32 × List Int32 × List Int32 × List Int32 × List Int32 × List Int32 × List Int32 × List Int32 × List Int32 × List Int32 × List Int32 × Int32 × Int32 × Int32 × Int32 × Int32 × Int32 × Int32 × Int32 × Int32 × Int32 × Int32 × Int32 × Int32)) : Nat → List Int32 → List Int32 → List Int32 → List Int32 → List Int32 → List Int32 → List Int32 → List Int32 → List Int32 → List Int32 → List Int32 → List Int32 → List Int32 → List Int32 → List Int32 → Int32 → Int32 → Int32 → Int32 → Int32 → Int32 → Int32 → Int32 → Int32 → Int32 → Int32 → Int32 → Int32 → Int32 → Option (List Int32 × List Int32 × List Int32 × List Int32 × List Int32 × List Int32 × List Int32 × List Int32 × List Int32 × List Int32 × List Int32 × List Int32 × List Int32 × List Int32 × List Int32 × Int32 × Int32 × Int32 × Int32 × Int32 × Int32 × Int32 × Int32 × Int32 × Int32 × Int32 × Int32 × Int32)
  | 0, _, _, _, _, _, _, _, _, _, _, _, _, _, _, _, _, _, _, _, _, _, _, _, _, _, _, _, _, _ => none
  | n + 1, zf, za, zi, zk, zb, zs, zt, zr, zg, zh, zo, zl, zz, zv, zw, zaa, zab, zq, zc, zd, zp, zu, ze, zy, zx, zm, zj, zn, v5 =>
    if v5 < (129 : Int32) then
      (wrA zg v5 (-1 : Int32)).bind fun A2 =>
      f_init_215 k237 n zf za zi zk zb zs zt zr A2 zh zo zl zz zv zw zaa zab zq zc zd zp zu ze zy zx zm zj zn (v5 + (1 : Int32))
    else
      k237 zf za zi zk zb zs zt zr zg zh zo zl zz zv zw zaa zab zq zc zd zp zu ze zy zx zm zj zn
def f_init_176 (zf za zi zk zb zs zt zr zg zh zo zl zz zv zw : List Int32) (zaa zab zq zc zd zp zu ze zy zx zm zj zn v3 v4 : Int32) : Option (List Int32 × List Int32 × List Int32 × List Int32 × List Int32 × List Int32 × List Int32 × List Int32 × List Int32 × List Int32 × List Int32 × List Int32 × List Int32 × List Int32 × List Int32 × Int32 × Int32 × Int32 × Int32 × Int32 × Int32 × Int32 × Int32 × Int32 × Int32 × Int32 × Int32 × Int32) :=
  f_init_215 f_init_237 100000 zf za zi zk zb zs zt zr zg zh zo zl zz zv zw v3 v4 (0 : Int32) (0 : Int32) (0 : Int32) (1 : Int32) (1 : Int32) ze zy zx zm zj zn (0 : Int32)
def f_init_165 (zf za zi zk zb zs zt zr zg zh zo zl zz zv zw : List Int32) (zaa zab zq zc zd zp zu ze zy zx zm zj zn v3 v4 : Int32) : Option (List Int32 × List Int32 × List Int32 × List Int32 × List Int32 × List Int32 × List Int32 × List Int32 × List Int32 × List Int32 × List Int32 × List Int32 × List Int32 × List Int32 × List Int32 × Int32 × Int32 × Int32 × Int32 × Int32 × Int32 × Int32 × Int32 × Int32 × Int32 × Int32 × Int32 × Int32) :=
  f_init_176 zf za zi zk zb zs zt zr zg zh zo zl zz zv zw zaa zab zq zc zd zp zu ze zy zx zm zj zn v3 (if (8 : Int32) < v4 then (8 : Int32) else v4)
def f_init_153 (zf za zi zk zb zs zt zr zg zh zo zl zz zv zw : List Int32) (zaa zab zq zc zd zp zu ze zy zx zm zj zn v2 v3 : Int32) : Option (List Int32 × List Int32 × List Int32 × List Int32 × List Int32 × List Int32 × List Int32 × List Int32 × List Int32 × List Int32 × List Int32 × List Int32 × List Int32 × List Int32 × List Int32 × Int32 × Int32 × Int32 × Int32 × Int32 × Int32 × Int32 × Int32 × Int32 × Int32 × Int32 × Int32 × Int32) :=
  f_init_165 zf za zi zk zb zs zt zr zg zh zo zl zz zv zw zaa zab zq zc zd zp zu ze zy zx zm zj zn v3 (if v2 < (1 : Int32) then (1 : Int32) else v2)
def f_init_144 (zf za zi zk zb zs zt zr zg zh zo zl zz zv zw : List Int32) (zaa zab zq zc zd zp zu ze zy zx zm zj zn v2 v3 : Int32) : Option (List Int32 × List Int32 × List Int32 × List Int32 × List Int32 × List Int32 × List Int32 × List Int32 × List Int32 × List Int32 × List Int32 × List Int32 × List Int32 × List Int32 × List Int32 × Int32 × Int32 × Int32 × Int32 × Int32 × Int32 × Int32 × Int32 × Int32 × Int32 × Int32 × Int32 × Int32) :=
  f_init_153 zf za zi zk zb zs zt zr zg zh zo zl zz zv zw zaa zab zq zc zd zp zu ze zy zx zm zj zn v2 (if (16 : Int32) < v3 then (16 : Int32) else v3)
def f_init (v1 v2 : Int32) : Option (List Int32 × List Int32 × List Int32 × List Int32 × List Int32 × List Int32 × List Int32 × List Int32 × List Int32 × List Int32 × List Int32 × List Int32 × List Int32 × List Int32 × List Int32 × Int32 × Int32 × Int32 × Int32 × Int32 × Int32 × Int32 × Int32 × Int32 × Int32 × Int32 × Int32 × Int32) :=
  f_init_144 (List.replicate 128 0) (List.replicate 16 0) (List.replicate 16 0) (List.replicate 8 0) (List.replicate 3354 0) (List.replicate 3354 0) (List.replicate 129 0) (List.replicate 129 0) (List.replicate 129 0) (List.replicate 129 0) (List.replicate 129 0) (List.replicate 240 0) (List.replicate 240 0) (List.replicate 240 0) (List.replicate 8 0) (0 : Int32) (0 : Int32) (0 : Int32) (0 : Int32) (0 : Int32) (0 : Int32) (0 : Int32) (0 : Int32) (0 : Int32) (0 : Int32) (0 : Int32) (0 : Int32) (0 : Int32) v2 (if v1 < (1 : Int32) then (1 : Int32) else v1)
def f_keywordCount (zc : Int32) : Option (Int32) :=
  some zc
def f_keywordLength_19 (za : List Int32) (zc zd v1 : Int32) : Option (Int32) :=
  some (if v1 = zc then zd else (-1 : Int32))
def f_keywordLength (za : List Int32) (zc zd v1 : Int32) : Option (Int32) :=
  if v1 < (0 : Int32) then
    f_keywordLength_19 za zc zd v1
  else
    if v1 < zc then
      (rdA za v1).bind fun x9 =>
      some x9
    else
      f_keywordLength_19 za zc zd v1
def f_acceptedChar (zf za zi : List Int32) (v1 v2 : Int32) : Option (Int32) :=
  if v2 = (-1 : Int32) then
    (rdA zi v1).bind fun x12 =>
    some x12
  else
    if v2 < (0 : Int32) then
      some (-1 : Int32)
    else
      (rdA za v1).bind fun x10 =>
      if v2 < x10 then
        (rdA zf ((v1 * (8 : Int32)) + v2)).bind fun x11 =>
        some x11
      else
        some (-1 : Int32)
def f_keywordChar_19 (zf za zi zk : List Int32) (zc zd v1 v2 : Int32) : Option (Int32) :=
  if v1 = zc then
    if v2 < (0 : Int32) then
      some (-1 : Int32)
    else
      if v2 < zd then
        (rdA zk v2).bind fun x14 =>
        some x14
      else
        some (-1 : Int32)
  else
    some (-1 : Int32)
def f_keywordChar (zf za zi zk : List Int32) (zc zd v1 v2 : Int32) : Option (Int32) :=
  if v1 < (0 : Int32) then
    f_keywordChar_19 zf za zi zk zc zd v1 v2
  else
    if v1 < zc then
      (f_acceptedChar zf za zi v1 v2).bind fun r13 =>
      some r13
    else
      f_keywordChar_19 zf za zi zk zc zd v1 v2
def f_isPrintable (v1 : Int32) : Option (Int32) :=
  some (if v1 < (32 : Int32) then (0 : Int32) else (if (126 : Int32) < v1 then (0 : Int32) else (1 : Int32)))
def f_pendingEquals_22 (zf za zk : List Int32) (zd : Int32) : Nat → Int32 → Int32 → Option (Int32)
  | 0, _, _ => none
  | n + 1, v2, v3 =>
    if v3 < zd then
      if v3 < (8 : Int32) then
        (rdA zf (v2 + v3)).bind fun x16 =>
        (rdA zk v3).bind fun x17 =>
        if x16 = x17 then
          f_pendingEquals_22 zf za zk zd n v2 (v3 + (1 : Int32))
        else
          some (0 : Int32)
      else
        some (1 : Int32)
    else
      some (1 : Int32)
def f_pendingEquals (zf za zk : List Int32) (zd v1 : Int32) : Option (Int32) :=
  (rdA za v1).bind fun x15 =>
  if x15 = zd then
    f_pendingEquals_22 zf za zk zd 100000 (v1 * (8 : Int32)) (0 : Int32)
  else
    some (0 : Int32)
def f_pendingIsDuplicate_2 (zf za zk : List Int32) (zc zd : Int32) : Nat → Int32 → Option (Int32)
  | 0, _ => none
  | n + 1, v1 =>
    if v1 < zc then
      if v1 < (16 : Int32) then
        (f_pendingEquals zf za zk zd v1).bind fun r18 =>
        if r18 = (0 : Int32) then
          f_pendingIsDuplicate_2 zf za zk zc zd n (v1 + (1 : Int32))
        else
          some (1 : Int32)
      else
        some (0 : Int32)
    else
      some (0 : Int32)
def f_pendingIsDuplicate (zf za zk : List Int32) (zc zd : Int32) : Option (Int32) :=
  f_pendingIsDuplicate_2 zf za zk zc zd 100000 (0 : Int32)
def f_storePending_44 (zk zf za zi : List Int32) (zc zd v1 : Int32) : Option (List Int32 × List Int32 × List Int32 × Int32 × Int32) :=
  (wrA za zc zd).bind fun A21 =>
  (wrA zi zc v1).bind fun A22 =>
  some (zf, A21, A22, (zc + (1 : Int32)), (0 : Int32))
def f_storePending_10 (k44 : List Int32 → List Int32 → List Int32 → Int32 → Int32 → Int32 → Option (List Int32 × List Int32 × List Int32 × Int32 × Int32)) (zk : List Int32) : Nat → List Int32 → List Int32 → List Int32 → Int32 → Int32 → Int32 → Int32 → Int32 → Option (List Int32 × List Int32 × List Int32 × Int32 × Int32)
  | 0, _, _, _, _, _, _, _, _ => none
  | n + 1, zf, za, zi, zc, zd, v1, v2, v3 =>
    if v3 < zd then
      if v3 < (8 : Int32) then
        (rdA zk v3).bind fun x19 =>
        (wrA zf (v2 + v3) x19).bind fun A20 =>
        f_storePending_10 k44 zk n A20 za zi zc zd v1 v2 (v3 + (1 : Int32))
      else
        k44 zf za zi zc zd v1
    else
      k44 zf za zi zc zd v1
def f_storePending (zk zf za zi : List Int32) (zc zd v1 : Int32) : Option (List Int32 × List Int32 × List Int32 × Int32 × Int32) :=
  f_storePending_10 (f_storePending_44 zk) zk 100000 zf za zi zc zd v1 (zc * (8 : Int32)) (0 : Int32)
def f_endKeyword (zk : List Int32) (zq : Int32) (zf za zi : List Int32) (zc zd v1 : Int32) : Option (Int32 × List Int32 × List Int32 × List Int32 × Int32 × Int32) :=
  if zq = (0 : Int32) then
    if zd = (0 : Int32) then
      some ((-4 : Int32), zf, za, zi, zc, zd)
    else
      (f_isPrintable v1).bind fun r23 =>
      if r23 = (0 : Int32) then
        some ((-6 : Int32), zf, za, zi, zc, zd)
      else
        (f_pendingIsDuplicate zf za zk zc zd).bind fun r24 =>
        if r24 = (0 : Int32) then
          if zc < (16 : Int32) then
            (f_storePending zk zf za zi zc zd v1).bind fun (s25, s26, s27, s28, s29) =>
            some ((s28 - (1 : Int32)), s25, s26, s27, s28, s29)
          else
            some ((-3 : Int32), zf, za, zi, zc, zd)
        else
          some ((-5 : Int32), zf, za, zi, zc, zd)
  else
    some ((-1 : Int32), zf, za, zi, zc, zd)
def f_isLetter (v1 : Int32) : Option (Int32) :=
  some (if v1 < (97 : Int32) then (0 : Int32) else (if (122 : Int32) < v1 then (0 : Int32) else (1 : Int32)))
def f_addChar (zaa zab zq zc : Int32) (zk : List Int32) (zd v1 : Int32) : Option (Int32 × List Int32 × Int32) :=
  if zq = (0 : Int32) then
    (f_isLetter v1).bind fun r30 =>
    if r30 = (0 : Int32) then
      some ((-2 : Int32), zk, zd)
    else
      if zc < zaa then
        if zd < zab then
          if zd < (8 : Int32) then
            (wrA zk zd v1).bind fun A31 =>
            some ((zd + (1 : Int32)), A31, (zd + (1 : Int32)))
          else
            some ((-3 : Int32), zk, zd)
        else
          some ((-3 : Int32), zk, zd)
      else
        some ((-3 : Int32), zk, zd)
  else
    some ((-1 : Int32), zk, zd)
def f_insertKeyword_137 (zf za zb zr zg zh : List Int32) (zp v1 v2 : Int32) : Option (List Int32 × List Int32 × List Int32 × List Int32 × Int32) :=
  (wrA zg v2 v1).bind fun A39 =>
  (rdA zh v2).bind fun x40 =>
  (wrA zh v2 (x40 ||| ((1 : Int32) <<< (v1 &&& 31)))).bind fun A41 =>
  some (zb, zr, A39, A41, zp)
def f_insertKeyword_123 (kb : List Int32 → List Int32 → List Int32 → List Int32 → Int32 → Int32 → Int32 → Int32 → Int32 → Option (List Int32 × List Int32 × List Int32 × List Int32 × Int32)) (k137 : List Int32 → List Int32 → List Int32 → List Int32 → Int32 → Int32 → Int32 → Option (List Int32 × List Int32 × List Int32 × List Int32 × Int32)) (zf za zb zr zg zh : List Int32) (zp v1 v3 v4 v6 : Int32) : Option (List Int32 × List Int32 × List Int32 × List Int32 × Int32) :=
  (rdA zb v6).bind fun x38 =>
  kb zb zr zg zh zp v1 x38 v3 (v4 + (1 : Int32))
def f_insertKeyword_10 (k137 : List Int32 → List Int32 → List Int32 → List Int32 → Int32 → Int32 → Int32 → Option (List Int32 × List Int32 × List Int32 × List Int32 × Int32)) (zf za : List Int32) : Nat → List Int32 → List Int32 → List Int32 → List Int32 → Int32 → Int32 → Int32 → Int32 → Int32 → Option (List Int32 × List Int32 × List Int32 × List Int32 × Int32)
  | 0, _, _, _, _, _, _, _, _, _ => none
  | n + 1, zb, zr, zg, zh, zp, v1, v2, v3, v4 =>
    (rdA za v1).bind fun x32 =>
    if v4 < x32 then
      if v4 < (8 : Int32) then
        (rdA zf (v3 + v4)).bind fun x33 =>
        if (x33 - (97 : Int32)) < (0 : Int32) then
          some (zb, zr, zg, zh, zp)
        else
          if (x33 - (97 : Int32)) < (26 : Int32) then
            (rdA zb ((v2 * (26 : Int32)) + (x33 - (97 : Int32)))).bind fun x34 =>
            if x34 = (0 : Int32) then
              if zp < (129 : Int32) then
                (wrA zb ((v2 * (26 : Int32)) + (x33 - (97 : Int32))) zp).bind fun A35 =>
                (rdA zr v2).bind fun x36 =>
                (wrA zr zp (x36 + (1 : Int32))).bind fun A37 =>
                f_insertKeyword_123 (f_insertKeyword_10 k137 zf za n) k137 zf za A35 A37 zg zh (zp + (1 : Int32)) v1 v3 v4 ((v2 * (26 : Int32)) + (x33 - (97 : Int32)))
              else
                some (zb, zr, zg, zh, zp)
            else
              f_insertKeyword_123 (f_insertKeyword_10 k137 zf za n) k137 zf za zb zr zg zh zp v1 v3 v4 ((v2 * (26 : Int32)) + (x33 - (97 : Int32)))
          else
            some (zb, zr, zg, zh, zp)
      else
        k137 zb zr zg zh zp v1 v2
    else
      k137 zb zr zg zh zp v1 v2
def f_insertKeyword (zf za zb zr zg zh : List Int32) (zp v1 : Int32) : Option (List Int32 × List Int32 × List Int32 × List Int32 × Int32) :=
  f_insertKeyword_10 (f_insertKeyword_137 zf za) zf za 100000 zb zr zg zh zp v1 (0 : Int32) (v1 * (8 : Int32)) (0 : Int32)
def f_buildTrie_12 (zf za : List Int32) (zc : Int32) : Nat → List Int32 → List Int32 → List Int32 → List Int32 → Int32 → Int32 → Int32 → Option (List Int32 × List Int32 × List Int32 × List Int32 × Int32 × Int32)
  | 0, _, _, _, _, _, _, _ => none
  | n + 1, zb, zr, zg, zh, zp, zu, v1 =>
    if v1 < zc then
      if v1 < (16 : Int32) then
        (f_insertKeyword zf za zb zr zg zh zp v1).bind fun (s42, s43, s44, s45, s46) =>
        (rdA za v1).bind fun x47 =>
        if zu < x47 then
          (rdA za v1).bind fun x48 =>
          f_buildTrie_12 zf za zc n s42 s43 s44 s45 s46 x48 (v1 + (1 : Int32))
        else
          f_buildTrie_12 zf za zc n s42 s43 s44 s45 s46 zu (v1 + (1 : Int32))
      else
        some (zb, zr, zg, zh, zp, zu)
    else
      some (zb, zr, zg, zh, zp, zu)
def f_buildTrie (zf za : List Int32) (zc : Int32) (zb zr zg zh : List Int32) (zp zu : Int32) : Option (List Int32 × List Int32 × List Int32 × List Int32 × Int32 × Int32) :=
  f_buildTrie_12 zf za zc 100000 zb zr zg zh (1 : Int32) (1 : Int32) (0 : Int32)
def f_expandNode_58 (zb : List Int32) : Nat → List Int32 → List Int32 → List Int32 → List Int32 → Int32 → Int32 → Int32 → Int32 → Option (Int32 × List Int32 × List Int32 × List Int32 × List Int32)
  | 0, _, _, _, _, _, _, _, _ => none
  | n + 1, zs, zt, zh, zo, v1, v3, v4, v5 =>
    if v5 < (26 : Int32) then
      (rdA zb ((v1 * (26 : Int32)) + v5)).bind fun x53 =>
      (rdA zs ((v3 * (26 : Int32)) + v5)).bind fun x54 =>
      if x53 = (0 : Int32) then
        (wrA zs ((v1 * (26 : Int32)) + v5) x54).bind fun A55 =>
        f_expandNode_58 zb n A55 zt zh zo v1 v3 v4 (v5 + (1 : Int32))
      else
        (wrA zt x53 x54).bind fun A56 =>
        (wrA zs ((v1 * (26 : Int32)) + v5) x53).bind fun A57 =>
        if v4 < (129 : Int32) then
          (wrA zo v4 x53).bind fun A58 =>
          f_expandNode_58 zb n A57 A56 zh A58 v1 v3 (v4 + (1 : Int32)) (v5 + (1 : Int32))
        else
          f_expandNode_58 zb n A57 A56 zh zo v1 v3 v4 (v5 + (1 : Int32))
    else
      some (v4, zs, zt, zh, zo)
def f_expandNode_33 (zb zs zt zh zo : List Int32) (v1 v2 v3 : Int32) : Option (Int32 × List Int32 × List Int32 × List Int32 × List Int32) :=
  (rdA zh v1).bind fun x50 =>
  (rdA zh v3).bind fun x51 =>
  (wrA zh v1 (x50 ||| x51)).bind fun A52 =>
  f_expandNode_58 zb 100000 zs zt A52 zo v1 v3 v2 (0 : Int32)
def f_expandNode (zb zs zt zh zo : List Int32) (v1 v2 : Int32) : Option (Int32 × List Int32 × List Int32 × List Int32 × List Int32) :=
  if (0 : Int32) < v1 then
    if v1 < (129 : Int32) then
      (rdA zt v1).bind fun x49 =>
      f_expandNode_33 zb zs zt zh zo v1 v2 (if x49 < (0 : Int32) then (0 : Int32) else (if x49 < (129 : Int32) then x49 else (0 : Int32)))
    else
      some (v2, zs, zt, zh, zo)
  else
    some (v2, zs, zt, zh, zo)
def f_computeLinks_74 (zb : List Int32) : Nat → List Int32 → List Int32 → List Int32 → List Int32 → Int32 → Int32 → Int32 → Option (List Int32 × List Int32 × List Int32 × List Int32)
  | 0, _, _, _, _, _, _, _ => none
  | n + 1, zs, zt, zh, zo, v1, v2, v3 =>
    if v3 < (129 : Int32) then
      if v1 < v2 then
        (rdA zo v1).bind fun x64 =>
        (f_expandNode zb zs zt zh zo x64 v2).bind fun (r65, s66, s67, s68, s69) =>
        f_computeLinks_74 zb n s66 s67 s68 s69 (v1 + (1 : Int32)) r65 (v3 + (1 : Int32))
      else
        some (zs, zt, zh, zo)
    else
      some (zs, zt, zh, zo)
def f_computeLinks_13 (k74 : List Int32 → List Int32 → List Int32 → List Int32 → Int32 → Int32 → Int32 → Option (List Int32 × List Int32 × List Int32 × List Int32)) (zb : List Int32) : Nat → List Int32 → List Int32 → List Int32 → List Int32 → Int32 → Int32 → Int32 → Option (List Int32 × List Int32 × List Int32 × List Int32)
  | 0, _, _, _, _, _, _, _ => none
  | n + 1, zs, zt, zh, zo, v1, v2, v3 =>
    if v3 < (26 : Int32) then
      (rdA zb v3).bind fun x60 =>
      (wrA zs v3 x60).bind fun A61 =>
      if x60 = (0 : Int32) then
        f_computeLinks_13 k74 zb n A61 zt zh zo v1 v2 (v3 + (1 : Int32))
      else
        if v2 < (129 : Int32) then
          (wrA zt x60 (0 : Int32)).bind fun A62 =>
          (wrA zo v2 x60).bind fun A63 =>
          f_computeLinks_13 k74 zb n A61 A62 zh A63 v1 (v2 + (1 : Int32)) (v3 + (1 : Int32))
        else
          f_computeLinks_13 k74 zb n A61 zt zh zo v1 v2 (v3 + (1 : Int32))
    else
      k74 zs zt zh zo v1 v2 (0 : Int32)
def f_computeLinks (zb zs zt zh zo : List Int32) : Option (List Int32 × List Int32 × List Int32 × List Int32) :=
  (wrA zt (0 : Int32) (0 : Int32)).bind fun A59 =>
  f_computeLinks_13 (f_computeLinks_74 zb 100000) zb 100000 zs A59 zh zo (0 : Int32) (0 : Int32) (0 : Int32)
def f_build (zf za : List Int32) (zc zd : Int32) (zb zs zt zr zg zh zo : List Int32) (zq zp zu ze zy zx zm zj zn : Int32) : Option (Int32 × List Int32 × List Int32 × List Int32 × List Int32 × List Int32 × List Int32 × List Int32 × Int32 × Int32 × Int32 × Int32 × Int32 × Int32 × Int32 × Int32 × Int32) :=
  if zq = (0 : Int32) then
    if zd = (0 : Int32) then
      if zc = (0 : Int32) then
        some ((-4 : Int32), zb, zs, zt, zr, zg, zh, zo, zq, zp, zu, ze, zy, zx, zm, zj, zn)
      else
        (f_buildTrie zf za zc zb zr zg zh zp zu).bind fun (s70, s71, s72, s73, s74, s75) =>
        (f_computeLinks s70 zs zt s73 zo).bind fun (s76, s77, s78, s79) =>
        (f_clearText ze zy zx zm zj zn).bind fun (s80, s81, s82, s83, s84, s85) =>
        some ((0 : Int32), s70, s76, s77, s71, s72, s78, s79, (1 : Int32), s74, s75, s80, s81, s82, s83, s84, s85)
    else
      some ((-7 : Int32), zb, zs, zt, zr, zg, zh, zo, zq, zp, zu, ze, zy, zx, zm, zj, zn)
  else
    some ((-1 : Int32), zb, zs, zt, zr, zg, zh, zo, zq, zp, zu, ze, zy, zx, zm, zj, zn)
def f_phase (zq : Int32) : Option (Int32) :=
  some zq
def f_resetText (zq ze zy zx zm zj zn : Int32) : Option (Int32 × Int32 × Int32 × Int32 × Int32 × Int32 × Int32) :=
  if zq = (1 : Int32) then
    (f_clearText ze zy zx zm zj zn).bind fun (s86, s87, s88, s89, s90, s91) =>
    some ((0 : Int32), s86, s87, s88, s89, s90, s91)
  else
    some ((-1 : Int32), ze, zy, zx, zm, zj, zn)
def f_textLength (ze : Int32) : Option (Int32) :=
  some ze
def f_nextState (zs : List Int32) (v1 v2 : Int32) : Option (Int32) :=
  (f_isLetter v2).bind fun r92 =>
  if r92 = (0 : Int32) then
    some (0 : Int32)
  else
    if v1 < (0 : Int32) then
      some (0 : Int32)
    else
      if v1 < (129 : Int32) then
        (rdA zs ((v1 * (26 : Int32)) + (v2 - (97 : Int32)))).bind fun x93 =>
        some x93
      else
        some (0 : Int32)
def f_popCount_4 : Nat → Int32 → Int32 → Int32 → Option (Int32)
  | 0, _, _, _ => none
  | n + 1, v1, v2, v3 =>
    if v3 < (16 : Int32) then
      f_popCount_4 n v1 (if ((v1 >>> (v3 &&& 31)) &&& (1 : Int32)) = (0 : Int32) then v2 else (v2 + (1 : Int32))) (v3 + (1 : Int32))
    else
      some v2
def f_popCount (v1 : Int32) : Option (Int32) :=
  f_popCount_4 100000 v1 (0 : Int32) (0 : Int32)
def f_longestAt_7 (zb zg zl : List Int32) (ze : Int32) : Nat → Int32 → Int32 → Int32 → Int32 → Option (Int32)
  | 0, _, _, _, _ => none
  | n + 1, v1, v2, v3, v4 =>
    if v4 < (8 : Int32) then
      if (v1 + v4) < (0 : Int32) then
        some v2
      else
        if (v1 + v4) < ze then
          (rdA zl (v1 + v4)).bind fun x94 =>
          (f_isLetter x94).bind fun r95 =>
          if r95 = (0 : Int32) then
            some v2
          else
            (rdA zb ((v3 * (26 : Int32)) + (x94 - (97 : Int32)))).bind fun x96 =>
            if x96 = (0 : Int32) then
              some v2
            else
              (rdA zg x96).bind fun x97 =>
              if x97 < (0 : Int32) then
                f_longestAt_7 zb zg zl ze n v1 v2 x96 (v4 + (1 : Int32))
              else
                (rdA zg x96).bind fun x98 =>
                f_longestAt_7 zb zg zl ze n v1 x98 x96 (v4 + (1 : Int32))
        else
          some v2
    else
      some v2
def f_longestAt (zb zg zl : List Int32) (ze v1 : Int32) : Option (Int32) :=
  f_longestAt_7 zb zg zl ze 100000 v1 (-1 : Int32) (0 : Int32) (0 : Int32)
def f_commitOne_74 (za zi zb zg zl : List Int32) (ze : Int32) (zv : List Int32) (zm zj : Int32) : Option (List Int32 × Int32 × Int32) :=
  some (zv, (zm + (1 : Int32)), zj)
def f_commitOne (za zi zb zg zl : List Int32) (ze : Int32) (zv : List Int32) (zm zj : Int32) : Option (List Int32 × Int32 × Int32) :=
  (f_longestAt zb zg zl ze zj).bind fun r99 =>
  if r99 < (0 : Int32) then
    (rdA zl zj).bind fun x100 =>
    (wrA zv zm x100).bind fun A101 =>
    f_commitOne_74 za zi zb zg zl ze A101 zm (zj + (1 : Int32))
  else
    (rdA zi r99).bind fun x102 =>
    (wrA zv zm x102).bind fun A103 =>
    (rdA za r99).bind fun x104 =>
    f_commitOne_74 za zi zb zg zl ze A103 zm (zj + x104)
def f_commitReady_2 (za zi zb zg zl : List Int32) (zu ze : Int32) : Nat → List Int32 → Int32 → Int32 → Int32 → Option (List Int32 × Int32 × Int32)
  | 0, _, _, _, _ => none
  | n + 1, zv, zm, zj, v1 =>
    if v1 < (240 : Int32) then
      if zj < (0 : Int32) then
        some (zv, zm, zj)
      else
        if zj < ze then
          if ze < (zj + zu) then
            some (zv, zm, zj)
          else
            if zm < (240 : Int32) then
              (f_commitOne za zi zb zg zl ze zv zm zj).bind fun (s105, s106, s107) =>
              f_commitReady_2 za zi zb zg zl zu ze n s105 s106 s107 (v1 + (1 : Int32))
            else
              some (zv, zm, zj)
        else
          some (zv, zm, zj)
    else
      some (zv, zm, zj)
def f_commitReady (za zi zb zg zl : List Int32) (zu ze : Int32) (zv : List Int32) (zm zj : Int32) : Option (List Int32 × Int32 × Int32) :=
  f_commitReady_2 za zi zb zg zl zu ze 100000 zv zm zj (0 : Int32)
def f_rebuildTail_95 (kb : List Int32 → Int32 → Int32 → Int32 → Option (List Int32 × Int32)) (za zi zb zg zl : List Int32) (ze zj : Int32) (zw : List Int32) (zn v1 v2 : Int32) : Option (List Int32 × Int32) :=
  kb zw (zn + (1 : Int32)) v1 (v2 + (1 : Int32))
def f_rebuildTail_12 (za zi zb zg zl : List Int32) (ze zj : Int32) : Nat → List Int32 → Int32 → Int32 → Int32 → Option (List Int32 × Int32)
  | 0, _, _, _, _ => none
  | n + 1, zw, zn, v1, v2 =>
    if v2 < (8 : Int32) then
      if v1 < (0 : Int32) then
        some (zw, zn)
      else
        if v1 < ze then
          if zn < (8 : Int32) then
            (f_longestAt zb zg zl ze v1).bind fun r108 =>
            if r108 < (0 : Int32) then
              (rdA zl v1).bind fun x109 =>
              (wrA zw zn x109).bind fun A110 =>
              f_rebuildTail_95 (f_rebuildTail_12 za zi zb zg zl ze zj n) za zi zb zg zl ze zj A110 zn (v1 + (1 : Int32)) v2
            else
              (rdA zi r108).bind fun x111 =>
              (wrA zw zn x111).bind fun A112 =>
              (rdA za r108).bind fun x113 =>
              f_rebuildTail_95 (f_rebuildTail_12 za zi zb zg zl ze zj n) za zi zb zg zl ze zj A112 zn (v1 + x113) v2
          else
            some (zw, zn)
        else
          some (zw, zn)
    else
      some (zw, zn)
def f_rebuildTail (za zi zb zg zl : List Int32) (ze zj : Int32) (zw : List Int32) (zn : Int32) : Option (List Int32 × Int32) :=
  f_rebuildTail_12 za zi zb zg zl ze zj 100000 zw (0 : Int32) zj (0 : Int32)
def f_feed (za zi zb zs zg zh : List Int32) (zq zu : Int32) (zl zz zv zw : List Int32) (ze zy zx zm zj zn v1 : Int32) : Option (Int32 × List Int32 × List Int32 × List Int32 × List Int32 × Int32 × Int32 × Int32 × Int32 × Int32 × Int32) :=
  if zq = (1 : Int32) then
    (f_isPrintable v1).bind fun r114 =>
    if r114 = (0 : Int32) then
      some ((-2 : Int32), zl, zz, zv, zw, ze, zy, zx, zm, zj, zn)
    else
      if ze < (240 : Int32) then
        (f_nextState zs zy v1).bind fun r115 =>
        (rdA zh r115).bind fun x116 =>
        (wrA zl ze v1).bind fun A117 =>
        (wrA zz ze x116).bind fun A118 =>
        (f_popCount x116).bind fun r119 =>
        (f_commitReady za zi zb zg A117 zu (ze + (1 : Int32)) zv zm zj).bind fun (s120, s121, s122) =>
        (f_rebuildTail za zi zb zg A117 (ze + (1 : Int32)) s122 zw zn).bind fun (s123, s124) =>
        some (r119, A117, A118, s120, s123, (ze + (1 : Int32)), r115, (zx + r119), s121, s122, s124)
      else
        some ((-3 : Int32), zl, zz, zv, zw, ze, zy, zx, zm, zj, zn)
  else
    some ((-1 : Int32), zl, zz, zv, zw, ze, zy, zx, zm, zj, zn)
def f_occurrenceMask (zz : List Int32) (ze v1 : Int32) : Option (Int32) :=
  if v1 < (0 : Int32) then
    some (-1 : Int32)
  else
    if v1 < ze then
      (rdA zz v1).bind fun x125 =>
      some x125
    else
      some (-1 : Int32)
def f_L_pop_4 : Nat → Int32 → Int32 → Int32 → Option (Int32)
  | 0, _, _, _ => none
  | n + 1, v0, v1, v2 =>
    if v2 < (32 : Int32) then
      f_L_pop_4 n v0 (v1 + ((XT.ushr v0 v2) &&& (1 : Int32))) (v2 + (1 : Int32))
    else
      some v1
def f_L_pop (v0 : Int32) : Option (Int32) :=
  f_L_pop_4 100000 v0 (0 : Int32) (0 : Int32)
def f_textChar (zl : List Int32) (ze v1 : Int32) : Option (Int32) :=
  if v1 < (0 : Int32) then
    some (-1 : Int32)
  else
    if v1 < ze then
      (rdA zl v1).bind fun x126 =>
      some x126
    else
      some (-1 : Int32)
def f_totalOccurrences (zx : Int32) : Option (Int32) :=
  some zx
def f_L_law_918 (kb : List Int32 → List Int32 → List Int32 → List Int32 → List Int32 → List Int32 → List Int32 → List Int32 → List Int32 → List Int32 → List Int32 → List Int32 → Int32 → Int32 → Int32 → Int32 → Int32 → Int32 → Int32 → Int32 → Int32 → Int32 → Int32 → Int64 → Int32 → Option (Int32)) (scr zah zad zaf zae zaj zak zal zam zao zap zaq zar : List Int32) (zag zac zai zan zas zau zat zav zaw zax v6 : Int32) (v12 : Int64) (v14 : Int32) (v19 : Int64) (v21 : Int32) : Option (Int32) :=
  if v19 = v12 then
    (f_totalOccurrences zat).bind fun r234 =>
    if r234 = v21 then
      kb zah zad zaf zae zaj zak zal zam zao zap zaq zar zag zac zai zan zas zau zat zav zaw zax v6 v12 (v14 + (1 : Int32))
    else
      some (0 : Int32)
  else
    some (0 : Int32)
def f_L_law_890 (kb : List Int32 → List Int32 → List Int32 → List Int32 → List Int32 → List Int32 → List Int32 → List Int32 → List Int32 → List Int32 → List Int32 → List Int32 → Int32 → Int32 → Int32 → Int32 → Int32 → Int32 → Int32 → Int32 → Int32 → Int32 → Int32 → Int64 → Int32 → Int32 → Int32 → Int64 → Int32 → Int32 → Option (Int32)) (k918 : List Int32 → List Int32 → List Int32 → List Int32 → List Int32 → List Int32 → List Int32 → List Int32 → List Int32 → List Int32 → List Int32 → List Int32 → Int32 → Int32 → Int32 → Int32 → Int32 → Int32 → Int32 → Int32 → Int32 → Int32 → Int32 → Int64 → Int32 → Int64 → Int32 → Option (Int32)) (scr zah zad zaf zae zaj zak zal zam zao zap zaq zar : List Int32) (zag zac zai zan zas zau zat zav zaw zax v6 : Int32) (v12 : Int64) (v14 v17 v18 : Int32) (v19 : Int64) (v21 v22 v23 : Int32) : Option (Int32) :=
  (f_L_pop v23).bind fun r233 =>
  kb zah zad zaf zae zaj zak zal zam zao zap zaq zar zag zac zai zan zas zau zat zav zaw zax v6 v12 v14 v17 v18 ((v19 * (1000003 : Int64)) + v23.toInt64) (v21 + r233) (v22 + (1 : Int32))
def f_L_law_877 (kb : List Int32 → List Int32 → List Int32 → List Int32 → List Int32 → List Int32 → List Int32 → List Int32 → List Int32 → List Int32 → List Int32 → List Int32 → Int32 → Int32 → Int32 → Int32 → Int32 → Int32 → Int32 → Int32 → Int32 → Int32 → Int32 → Int64 → Int32 → Int32 → Int32 → Int64 → Int32 → Int32 → Int32 → Int32 → Option (Int32)) (k890 : List Int32 → List Int32 → List Int32 → List Int32 → List Int32 → List Int32 → List Int32 → List Int32 → List Int32 → List Int32 → List Int32 → List Int32 → Int32 → Int32 → Int32 → Int32 → Int32 → Int32 → Int32 → Int32 → Int32 → Int32 → Int32 → Int64 → Int32 → Int32 → Int32 → Int64 → Int32 → Int32 → Int32 → Option (Int32)) (scr zah zad zaf zae zaj zak zal zam zao zap zaq zar : List Int32) (zag zac zai zan zas zau zat zav zaw zax v6 : Int32) (v12 : Int64) (v14 v17 v18 : Int32) (v19 : Int64) (v21 v22 v23 v24 v25 t0 : Int32) : Option (Int32) :=
  if t0 = v25 then
    kb zah zad zaf zae zaj zak zal zam zao zap zaq zar zag zac zai zan zas zau zat zav zaw zax v6 v12 v14 v17 v18 v19 v21 v22 v23 (v24 + (1 : Int32))
  else
    some (0 : Int32)
def f_L_law_861 (kb : List Int32 → List Int32 → List Int32 → List Int32 → List Int32 → List Int32 → List Int32 → List Int32 → List Int32 → List Int32 → List Int32 → List Int32 → Int32 → Int32 → Int32 → Int32 → Int32 → Int32 → Int32 → Int32 → Int32 → Int32 → Int32 → Int64 → Int32 → Int32 → Int32 → Int64 → Int32 → Int32 → Int32 → Int32 → Option (Int32)) (k890 : List Int32 → List Int32 → List Int32 → List Int32 → List Int32 → List Int32 → List Int32 → List Int32 → List Int32 → List Int32 → List Int32 → List Int32 → Int32 → Int32 → Int32 → Int32 → Int32 → Int32 → Int32 → Int32 → Int32 → Int32 → Int32 → Int64 → Int32 → Int32 → Int32 → Int64 → Int32 → Int32 → Int32 → Option (Int32)) (scr zah zad zaf zae zaj zak zal zam zao zap zaq zar : List Int32) (zag zac zai zan zas zau zat zav zaw zax v6 : Int32) (v12 : Int64) (v14 v17 v18 : Int32) (v19 : Int64) (v21 v22 v23 v24 v25 : Int32) : Option (Int32) :=
  f_L_law_877 kb k890 scr zah zad zaf zae zaj zak zal zam zao zap zaq zar zag zac zai zan zas zau zat zav zaw zax v6 v12 v14 v17 v18 v19 v21 v22 v23 v24 v25 (if ((v23 >>> (v24 &&& 31)) &&& (1 : Int32)) = (1 : Int32) then (1 : Int32) else (0 : Int32))
def f_L_law_818 (k861 : List Int32 → List Int32 → List Int32 → List Int32 → List Int32 → List Int32 → List Int32 → List Int32 → List Int32 → List Int32 → List Int32 → List Int32 → Int32 → Int32 → Int32 → Int32 → Int32 → Int32 → Int32 → Int32 → Int32 → Int32 → Int32 → Int64 → Int32 → Int32 → Int32 → Int64 → Int32 → Int32 → Int32 → Int32 → Int32 → Option (Int32)) (scr : List Int32) : Nat → List Int32 → List Int32 → List Int32 → List Int32 → List Int32 → List Int32 → List Int32 → List Int32 → List Int32 → List Int32 → List Int32 → List Int32 → Int32 → Int32 → Int32 → Int32 → Int32 → Int32 → Int32 → Int32 → Int32 → Int32 → Int32 → Int64 → Int32 → Int32 → Int32 → Int64 → Int32 → Int32 → Int32 → Int32 → Int32 → Int32 → Int32 → Option (Int32)
  | 0, _, _, _, _, _, _, _, _, _, _, _, _, _, _, _, _, _, _, _, _, _, _, _, _, _, _, _, _, _, _, _, _, _, _, _ => none
  | n + 1, zah, zad, zaf, zae, zaj, zak, zal, zam, zao, zap, zaq, zar, zag, zac, zai, zan, zas, zau, zat, zav, zaw, zax, v6, v12, v14, v17, v18, v19, v21, v22, v23, v24, v25, v26, v27 =>
    if v27 < v26 then
      (f_textChar zao zas (((v22 - v26) + (1 : Int32)) + v27)).bind fun r231 =>
      (f_keywordChar zah zad zaf zae zac zai v24 v27).bind fun r232 =>
      f_L_law_818 k861 scr n zah zad zaf zae zaj zak zal zam zao zap zaq zar zag zac zai zan zas zau zat zav zaw zax v6 v12 v14 v17 v18 v19 v21 v22 v23 v24 (if r231 = r232 then v25 else (0 : Int32)) v26 (v27 + (1 : Int32))
    else
      k861 zah zad zaf zae zaj zak zal zam zao zap zaq zar zag zac zai zan zas zau zat zav zaw zax v6 v12 v14 v17 v18 v19 v21 v22 v23 v24 v25
def f_L_law_777 (k890 : List Int32 → List Int32 → List Int32 → List Int32 → List Int32 → List Int32 → List Int32 → List Int32 → List Int32 → List Int32 → List Int32 → List Int32 → Int32 → Int32 → Int32 → Int32 → Int32 → Int32 → Int32 → Int32 → Int32 → Int32 → Int32 → Int64 → Int32 → Int32 → Int32 → Int64 → Int32 → Int32 → Int32 → Option (Int32)) (scr : List Int32) : Nat → List Int32 → List Int32 → List Int32 → List Int32 → List Int32 → List Int32 → List Int32 → List Int32 → List Int32 → List Int32 → List Int32 → List Int32 → Int32 → Int32 → Int32 → Int32 → Int32 → Int32 → Int32 → Int32 → Int32 → Int32 → Int32 → Int64 → Int32 → Int32 → Int32 → Int64 → Int32 → Int32 → Int32 → Int32 → Option (Int32)
  | 0, _, _, _, _, _, _, _, _, _, _, _, _, _, _, _, _, _, _, _, _, _, _, _, _, _, _, _, _, _, _, _, _ => none
  | n + 1, zah, zad, zaf, zae, zaj, zak, zal, zam, zao, zap, zaq, zar, zag, zac, zai, zan, zas, zau, zat, zav, zaw, zax, v6, v12, v14, v17, v18, v19, v21, v22, v23, v24 =>
    if v24 < (16 : Int32) then
      if v24 < v18 then
        (f_keywordLength zad zac zai v24).bind fun r230 =>
        if (v22 + (1 : Int32)) < r230 then
          f_L_law_861 (f_L_law_777 k890 scr n) k890 scr zah zad zaf zae zaj zak zal zam zao zap zaq zar zag zac zai zan zas zau zat zav zaw zax v6 v12 v14 v17 v18 v19 v21 v22 v23 v24 (0 : Int32)
        else
          f_L_law_818 (f_L_law_861 (f_L_law_777 k890 scr n) k890 scr) scr 100000 zah zad zaf zae zaj zak zal zam zao zap zaq zar zag zac zai zan zas zau zat zav zaw zax v6 v12 v14 v17 v18 v19 v21 v22 v23 v24 (1 : Int32) r230 (0 : Int32)
      else
        f_L_law_861 (f_L_law_777 k890 scr n) k890 scr zah zad zaf zae zaj zak zal zam zao zap zaq zar zag zac zai zan zas zau zat zav zaw zax v6 v12 v14 v17 v18 v19 v21 v22 v23 v24 (0 : Int32)
    else
      k890 zah zad zaf zae zaj zak zal zam zao zap zaq zar zag zac zai zan zas zau zat zav zaw zax v6 v12 v14 v17 v18 v19 v21 v22 v23
def f_L_law_750 (k918 : List Int32 → List Int32 → List Int32 → List Int32 → List Int32 → List Int32 → List Int32 → List Int32 → List Int32 → List Int32 → List Int32 → List Int32 → Int32 → Int32 → Int32 → Int32 → Int32 → Int32 → Int32 → Int32 → Int32 → Int32 → Int32 → Int64 → Int32 → Int64 → Int32 → Option (Int32)) (scr : List Int32) : Nat → List Int32 → List Int32 → List Int32 → List Int32 → List Int32 → List Int32 → List Int32 → List Int32 → List Int32 → List Int32 → List Int32 → List Int32 → Int32 → Int32 → Int32 → Int32 → Int32 → Int32 → Int32 → Int32 → Int32 → Int32 → Int32 → Int64 → Int32 → Int32 → Int32 → Int64 → Int32 → Int32 → Option (Int32)
  | 0, _, _, _, _, _, _, _, _, _, _, _, _, _, _, _, _, _, _, _, _, _, _, _, _, _, _, _, _, _, _ => none
  | n + 1, zah, zad, zaf, zae, zaj, zak, zal, zam, zao, zap, zaq, zar, zag, zac, zai, zan, zas, zau, zat, zav, zaw, zax, v6, v12, v14, v17, v18, v19, v21, v22 =>
    if v22 < v17 then
      if v22 < (300 : Int32) then
        (f_occurrenceMask zap zas v22).bind fun r229 =>
        f_L_law_777 (f_L_law_890 (f_L_law_750 k918 scr n) k918 scr) scr 100000 zah zad zaf zae zaj zak zal zam zao zap zaq zar zag zac zai zan zas zau zat zav zaw zax v6 v12 v14 v17 v18 v19 v21 v22 r229 (0 : Int32)
      else
        k918 zah zad zaf zae zaj zak zal zam zao zap zaq zar zag zac zai zan zas zau zat zav zaw zax v6 v12 v14 v19 v21
    else
      k918 zah zad zaf zae zaj zak zal zam zao zap zaq zar zag zac zai zan zas zau zat zav zaw zax v6 v12 v14 v19 v21
def f_L_law_727 (kb : List Int32 → List Int32 → List Int32 → List Int32 → List Int32 → List Int32 → List Int32 → List Int32 → List Int32 → List Int32 → List Int32 → List Int32 → Int32 → Int32 → Int32 → Int32 → Int32 → Int32 → Int32 → Int32 → Int32 → Int32 → Int32 → Int64 → Int32 → Option (Int32)) (scr zah zad zaf zae zaj zak zal zam zao zap zaq zar : List Int32) (zag zac zai zan zas zau zat zav zaw zax v6 : Int32) (v12 : Int64) (v14 : Int32) : Option (Int32) :=
  (f_textLength zas).bind fun r227 =>
  (f_keywordCount zac).bind fun r228 =>
  f_L_law_750 (f_L_law_918 kb scr) scr 100000 zah zad zaf zae zaj zak zal zam zao zap zaq zar zag zac zai zan zas zau zat zav zaw zax v6 v12 v14 r227 r228 (0 : Int64) (0 : Int32) (0 : Int32)
def f_L_law_665 (kb : List Int32 → List Int32 → List Int32 → List Int32 → List Int32 → List Int32 → List Int32 → List Int32 → List Int32 → List Int32 → List Int32 → List Int32 → Int32 → Int32 → Int32 → Int32 → Int32 → Int32 → Int32 → Int32 → Int32 → Int32 → Int32 → Int64 → Int32 → Option (Int32)) (scr zah zad zaf zae zaj zak zal zam zao zap zaq zar : List Int32) (zag zac zai zan zas zau zat zav zaw zax v6 : Int32) (v12 : Int64) (v14 v17 t0 : Int32) : Option (Int32) :=
  (f_feed zad zaf zaj zak zal zam zag zan zao zap zaq zar zas zau zat zav zaw zax t0).bind fun (r235, s236, s237, s238, s239, s240, s241, s242, s243, s244, s245) =>
  (f_textLength s240).bind fun r246 =>
  if r246 = (v17 + (1 : Int32)) then
    (f_occurrenceMask s237 s240 (r246 - (1 : Int32))).bind fun r247 =>
    (f_L_pop r247).bind fun r248 =>
    if r235 = r248 then
      f_L_law_727 kb scr zah zad zaf zae zaj zak zal zam s236 s237 s238 s239 zag zac zai zan s240 s241 s242 s243 s244 s245 v6 ((v12 * (1000003 : Int64)) + r247.toInt64) v14
    else
      some (0 : Int32)
  else
    f_L_law_727 kb scr zah zad zaf zae zaj zak zal zam s236 s237 s238 s239 zag zac zai zan s240 s241 s242 s243 s244 s245 v6 v12 v14
def f_L_law_575 (scr : List Int32) : Nat → List Int32 → List Int32 → List Int32 → List Int32 → List Int32 → List Int32 → List Int32 → List Int32 → List Int32 → List Int32 → List Int32 → List Int32 → Int32 → Int32 → Int32 → Int32 → Int32 → Int32 → Int32 → Int32 → Int32 → Int32 → Int32 → Int64 → Int32 → Option (Int32)
  | 0, _, _, _, _, _, _, _, _, _, _, _, _, _, _, _, _, _, _, _, _, _, _, _, _, _ => none
  | n + 1, zah, zad, zaf, zae, zaj, zak, zal, zam, zao, zap, zaq, zar, zag, zac, zai, zan, zas, zau, zat, zav, zaw, zax, v6, v12, v14 =>
    if v14 < scr.length.toInt32 then
      (rdA scr v14).bind fun x214 =>
      (f_L_mod x214 (16 : Int32)).bind fun r215 =>
      if r215 = (0 : Int32) then
        (f_resetText zag zas zau zat zav zaw zax).bind fun (r219, s220, s221, s222, s223, s224, s225) =>
        (f_textLength s220).bind fun r226 =>
        f_L_law_727 (f_L_law_575 scr n) scr zah zad zaf zae zaj zak zal zam zao zap zaq zar zag zac zai zan s220 s221 s222 s223 s224 s225 v6 (if r226 = (0 : Int32) then (0 : Int64) else v12) v14
      else
        (f_textLength zas).bind fun r216 =>
        if (11 : Int32) < r215 then
          (f_L_mod (x214 >>> ((4 : Int32) &&& 31)) (95 : Int32)).bind fun r217 =>
          f_L_law_665 (f_L_law_575 scr n) scr zah zad zaf zae zaj zak zal zam zao zap zaq zar zag zac zai zan zas zau zat zav zaw zax v6 v12 v14 r216 ((32 : Int32) + r217)
        else
          (f_L_mod (x214 >>> ((4 : Int32) &&& 31)) (v6 + (1 : Int32))).bind fun r218 =>
          f_L_law_665 (f_L_law_575 scr n) scr zah zad zaf zae zaj zak zal zam zao zap zaq zar zag zac zai zan zas zau zat zav zaw zax v6 v12 v14 r216 ((97 : Int32) + r218)
    else
      some (1 : Int32)
def f_L_law_543 (scr zah zad zaf zae zaj zak zay zaz zal zam zba zao zap zaq zar : List Int32) (zag zac zai zbb zan zas zau zat zav zaw zax v6 v11 : Int32) : Option (Int32) :=
  (f_endKeyword zae zag zah zad zaf zac zai (33 : Int32)).bind fun (r190, s191, s192, s193, s194, s195) =>
  (f_build s191 s192 s194 s195 zaj zak zay zaz zal zam zba zag zbb zan zas zau zat zav zaw zax).bind fun (r196, s197, s198, s199, s200, s201, s202, s203, s204, s205, s206, s207, s208, s209, s210, s211, s212) =>
  (f_phase s204).bind fun r213 =>
  if r213 = (1 : Int32) then
    f_L_law_575 scr 100000 s191 s192 s193 zae s197 s198 s201 s202 zao zap zaq zar s204 s194 s195 s206 s207 s208 s209 s210 s211 s212 v6 (0 : Int64) v11
  else
    some (1 : Int32)
def f_L_law_518 (kb : List Int32 → List Int32 → List Int32 → List Int32 → List Int32 → List Int32 → List Int32 → List Int32 → List Int32 → List Int32 → List Int32 → List Int32 → List Int32 → List Int32 → List Int32 → Int32 → Int32 → Int32 → Int32 → Int32 → Int32 → Int32 → Int32 → Int32 → Int32 → Int32 → Int32 → Int32 → Int32 → Int32 → Int32 → Int32 → Int32 → Int32 → Int32 → Option (Int32)) (k151 : List Int32 → List Int32 → List Int32 → List Int32 → List Int32 → List Int32 → List Int32 → List Int32 → List Int32 → List Int32 → List Int32 → List Int32 → List Int32 → List Int32 → List Int32 → Int32 → Int32 → Int32 → Int32 → Int32 → Int32 → Int32 → Int32 → Int32 → Int32 → Int32 → Int32 → Int32 → Int32 → Int32 → Int32 → Int32 → Int32 → Option (Int32)) (k308 : List Int32 → List Int32 → List Int32 → List Int32 → List Int32 → List Int32 → List Int32 → List Int32 → List Int32 → List Int32 → List Int32 → List Int32 → List Int32 → List Int32 → List Int32 → Int32 → Int32 → Int32 → Int32 → Int32 → Int32 → Int32 → Int32 → Int32 → Int32 → Int32 → Int32 → Int32 → Int32 → Int32 → Int32 → Int32 → Int32 → Option (Int32)) (scr zah zad zaf zae zaj zak zay zaz zal zam zba zao zap zaq zar : List Int32) (zbc zbd zag zac zai zbb zan zas zau zat zav zaw zax v4 v6 v10 v11 v12 v13 v14 v18 : Int32) : Option (Int32) :=
  (f_addChar zbc zbd zag zac zae zai v18).bind fun (r187, s188, s189) =>
  if r187 < (0 : Int32) then
    k151 zah zad zaf s188 zaj zak zay zaz zal zam zba zao zap zaq zar zbc zbd zag zac s189 zbb zan zas zau zat zav zaw zax v4 v6 v10 v11 (v12 + (1 : Int32))
  else
    kb zah zad zaf s188 zaj zak zay zaz zal zam zba zao zap zaq zar zbc zbd zag zac s189 zbb zan zas zau zat zav zaw zax v4 v6 v10 v11 v12 v13 (v14 + (1 : Int32))
def f_L_law_500 (kb : List Int32 → List Int32 → List Int32 → List Int32 → List Int32 → List Int32 → List Int32 → List Int32 → List Int32 → List Int32 → List Int32 → List Int32 → List Int32 → List Int32 → List Int32 → Int32 → Int32 → Int32 → Int32 → Int32 → Int32 → Int32 → Int32 → Int32 → Int32 → Int32 → Int32 → Int32 → Int32 → Int32 → Int32 → Int32 → Int32 → Int32 → Int32 → Int32 → Int32 → Int32 → Int32 → Int32 → Option (Int32)) (k518 : List Int32 → List Int32 → List Int32 → List Int32 → List Int32 → List Int32 → List Int32 → List Int32 → List Int32 → List Int32 → List Int32 → List Int32 → List Int32 → List Int32 → List Int32 → Int32 → Int32 → Int32 → Int32 → Int32 → Int32 → Int32 → Int32 → Int32 → Int32 → Int32 → Int32 → Int32 → Int32 → Int32 → Int32 → Int32 → Int32 → Int32 → Int32 → Int32 → Option (Int32)) (scr zah zad zaf zae zaj zak zay zaz zal zam zba zao zap zaq zar : List Int32) (zbc zbd zag zac zai zbb zan zas zau zat zav zaw zax v4 v6 v10 v11 v12 v13 v14 v15 v16 v17 v18 v19 v20 v21 : Int32) : Option (Int32) :=
  if v21 = (0 : Int32) then
    k518 zah zad zaf zae zaj zak zay zaz zal zam zba zao zap zaq zar zbc zbd zag zac zai zbb zan zas zau zat zav zaw zax v4 v6 v10 v11 v12 v13 v14 v20
  else
    kb zah zad zaf zae zaj zak zay zaz zal zam zba zao zap zaq zar zbc zbd zag zac zai zbb zan zas zau zat zav zaw zax v4 v6 v10 v11 v12 v13 v14 v15 v16 v17 v18 (v19 + (1 : Int32))
def f_L_law_486 (kb : List Int32 → List Int32 → List Int32 → List Int32 → List Int32 → List Int32 → List Int32 → List Int32 → List Int32 → List Int32 → List Int32 → List Int32 → List Int32 → List Int32 → List Int32 → Int32 → Int32 → Int32 → Int32 → Int32 → Int32 → Int32 → Int32 → Int32 → Int32 → Int32 → Int32 → Int32 → Int32 → Int32 → Int32 → Int32 → Int32 → Int32 → Int32 → Int32 → Int32 → Int32 → Int32 → Int32 → Int32 → Int32 → Int32 → Option (Int32)) (k500 : List Int32 → List Int32 → List Int32 → List Int32 → List Int32 → List Int32 → List Int32 → List Int32 → List Int32 → List Int32 → List Int32 → List Int32 → List Int32 → List Int32 → List Int32 → Int32 → Int32 → Int32 → Int32 → Int32 → Int32 → Int32 → Int32 → Int32 → Int32 → Int32 → Int32 → Int32 → Int32 → Int32 → Int32 → Int32 → Int32 → Int32 → Int32 → Int32 → Int32 → Int32 → Int32 → Int32 → Int32 → Int32 → Option (Int32)) (scr zah zad zaf zae zaj zak zay zaz zal zam zba zao zap zaq zar : List Int32) (zbc zbd zag zac zai zbb zan zas zau zat zav zaw zax v4 v6 v10 v11 v12 v13 v14 v15 v16 v17 v18 v19 v20 v21 v22 v23 : Int32) : Option (Int32) :=
  kb zah zad zaf zae zaj zak zay zaz zal zam zba zao zap zaq zar zbc zbd zag zac zai zbb zan zas zau zat zav zaw zax v4 v6 v10 v11 v12 v13 v14 v15 v16 v17 v18 v19 v20 (if v23 = (0 : Int32) then v21 else (1 : Int32)) (v22 + (1 : Int32))
def f_L_law_442 (k486 : List Int32 → List Int32 → List Int32 → List Int32 → List Int32 → List Int32 → List Int32 → List Int32 → List Int32 → List Int32 → List Int32 → List Int32 → List Int32 → List Int32 → List Int32 → Int32 → Int32 → Int32 → Int32 → Int32 → Int32 → Int32 → Int32 → Int32 → Int32 → Int32 → Int32 → Int32 → Int32 → Int32 → Int32 → Int32 → Int32 → Int32 → Int32 → Int32 → Int32 → Int32 → Int32 → Int32 → Int32 → Int32 → Int32 → Int32 → Option (Int32)) (scr : List Int32) : Nat → List Int32 → List Int32 → List Int32 → List Int32 → List Int32 → List Int32 → List Int32 → List Int32 → List Int32 → List Int32 → List Int32 → List Int32 → List Int32 → List Int32 → List Int32 → Int32 → Int32 → Int32 → Int32 → Int32 → Int32 → Int32 → Int32 → Int32 → Int32 → Int32 → Int32 → Int32 → Int32 → Int32 → Int32 → Int32 → Int32 → Int32 → Int32 → Int32 → Int32 → Int32 → Int32 → Int32 → Int32 → Int32 → Int32 → Int32 → Int32 → Option (Int32)
  | 0, _, _, _, _, _, _, _, _, _, _, _, _, _, _, _, _, _, _, _, _, _, _, _, _, _, _, _, _, _, _, _, _, _, _, _, _, _, _, _, _, _, _, _, _, _ => none
  | n + 1, zah, zad, zaf, zae, zaj, zak, zay, zaz, zal, zam, zba, zao, zap, zaq, zar, zbc, zbd, zag, zac, zai, zbb, zan, zas, zau, zat, zav, zaw, zax, v4, v6, v10, v11, v12, v13, v14, v15, v16, v17, v18, v19, v20, v21, v22, v23, v24 =>
    if v24 < v16 then
      if v24 < (8 : Int32) then
        (f_keywordChar zah zad zaf zae zac zai v22 v24).bind fun r185 =>
        (f_keywordChar zah zad zaf zae zac zai v15 v24).bind fun r186 =>
        f_L_law_442 k486 scr n zah zad zaf zae zaj zak zay zaz zal zam zba zao zap zaq zar zbc zbd zag zac zai zbb zan zas zau zat zav zaw zax v4 v6 v10 v11 v12 v13 v14 v15 v16 v17 v18 v19 v20 v21 v22 (if r185 = r186 then v23 else (0 : Int32)) (v24 + (1 : Int32))
      else
        k486 zah zad zaf zae zaj zak zay zaz zal zam zba zao zap zaq zar zbc zbd zag zac zai zbb zan zas zau zat zav zaw zax v4 v6 v10 v11 v12 v13 v14 v15 v16 v17 v18 v19 v20 v21 v22 v23
    else
      k486 zah zad zaf zae zaj zak zay zaz zal zam zba zao zap zaq zar zbc zbd zag zac zai zbb zan zas zau zat zav zaw zax v4 v6 v10 v11 v12 v13 v14 v15 v16 v17 v18 v19 v20 v21 v22 v23
def f_L_law_397 (k500 : List Int32 → List Int32 → List Int32 → List Int32 → List Int32 → List Int32 → List Int32 → List Int32 → List Int32 → List Int32 → List Int32 → List Int32 → List Int32 → List Int32 → List Int32 → Int32 → Int32 → Int32 → Int32 → Int32 → Int32 → Int32 → Int32 → Int32 → Int32 → Int32 → Int32 → Int32 → Int32 → Int32 → Int32 → Int32 → Int32 → Int32 → Int32 → Int32 → Int32 → Int32 → Int32 → Int32 → Int32 → Int32 → Option (Int32)) (scr : List Int32) : Nat → List Int32 → List Int32 → List Int32 → List Int32 → List Int32 → List Int32 → List Int32 → List Int32 → List Int32 → List Int32 → List Int32 → List Int32 → List Int32 → List Int32 → List Int32 → Int32 → Int32 → Int32 → Int32 → Int32 → Int32 → Int32 → Int32 → Int32 → Int32 → Int32 → Int32 → Int32 → Int32 → Int32 → Int32 → Int32 → Int32 → Int32 → Int32 → Int32 → Int32 → Int32 → Int32 → Int32 → Int32 → Int32 → Int32 → Option (Int32)
  | 0, _, _, _, _, _, _, _, _, _, _, _, _, _, _, _, _, _, _, _, _, _, _, _, _, _, _, _, _, _, _, _, _, _, _, _, _, _, _, _, _, _, _, _ => none
  | n + 1, zah, zad, zaf, zae, zaj, zak, zay, zaz, zal, zam, zba, zao, zap, zaq, zar, zbc, zbd, zag, zac, zai, zbb, zan, zas, zau, zat, zav, zaw, zax, v4, v6, v10, v11, v12, v13, v14, v15, v16, v17, v18, v19, v20, v21, v22 =>
    if v22 < v15 then
      (f_keywordLength zad zac zai v22).bind fun r183 =>
      if r183 = (v16 + (1 : Int32)) then
        (f_keywordChar zah zad zaf zae zac zai v22 v16).bind fun r184 =>
        f_L_law_442 (f_L_law_486 (f_L_law_397 k500 scr n) k500 scr) scr 100000 zah zad zaf zae zaj zak zay zaz zal zam zba zao zap zaq zar zbc zbd zag zac zai zbb zan zas zau zat zav zaw zax v4 v6 v10 v11 v12 v13 v14 v15 v16 v17 v18 v19 v20 v21 v22 (if r184 = v20 then (1 : Int32) else (0 : Int32)) (0 : Int32)
      else
        f_L_law_397 k500 scr n zah zad zaf zae zaj zak zay zaz zal zam zba zao zap zaq zar zbc zbd zag zac zai zbb zan zas zau zat zav zaw zax v4 v6 v10 v11 v12 v13 v14 v15 v16 v17 v18 v19 v20 v21 (v22 + (1 : Int32))
    else
      k500 zah zad zaf zae zaj zak zay zaz zal zam zba zao zap zaq zar zbc zbd zag zac zai zbb zan zas zau zat zav zaw zax v4 v6 v10 v11 v12 v13 v14 v15 v16 v17 v18 v19 v20 v21
def f_L_law_369 (k518 : List Int32 → List Int32 → List Int32 → List Int32 → List Int32 → List Int32 → List Int32 → List Int32 → List Int32 → List Int32 → List Int32 → List Int32 → List Int32 → List Int32 → List Int32 → Int32 → Int32 → Int32 → Int32 → Int32 → Int32 → Int32 → Int32 → Int32 → Int32 → Int32 → Int32 → Int32 → Int32 → Int32 → Int32 → Int32 → Int32 → Int32 → Int32 → Int32 → Option (Int32)) (scr : List Int32) : Nat → List Int32 → List Int32 → List Int32 → List Int32 → List Int32 → List Int32 → List Int32 → List Int32 → List Int32 → List Int32 → List Int32 → List Int32 → List Int32 → List Int32 → List Int32 → Int32 → Int32 → Int32 → Int32 → Int32 → Int32 → Int32 → Int32 → Int32 → Int32 → Int32 → Int32 → Int32 → Int32 → Int32 → Int32 → Int32 → Int32 → Int32 → Int32 → Int32 → Int32 → Int32 → Int32 → Int32 → Option (Int32)
  | 0, _, _, _, _, _, _, _, _, _, _, _, _, _, _, _, _, _, _, _, _, _, _, _, _, _, _, _, _, _, _, _, _, _, _, _, _, _, _, _, _ => none
  | n + 1, zah, zad, zaf, zae, zaj, zak, zay, zaz, zal, zam, zba, zao, zap, zaq, zar, zbc, zbd, zag, zac, zai, zbb, zan, zas, zau, zat, zav, zaw, zax, v4, v6, v10, v11, v12, v13, v14, v15, v16, v17, v18, v19 =>
    if v19 < v6 then
      (f_L_mod (v17 + v19) v6).bind fun r182 =>
      f_L_law_397 (f_L_law_500 (f_L_law_369 k518 scr n) k518 scr) scr 100000 zah zad zaf zae zaj zak zay zaz zal zam zba zao zap zaq zar zbc zbd zag zac zai zbb zan zas zau zat zav zaw zax v4 v6 v10 v11 v12 v13 v14 v15 v16 v17 v18 v19 ((97 : Int32) + r182) (0 : Int32) (0 : Int32)
    else
      k518 zah zad zaf zae zaj zak zay zaz zal zam zba zao zap zaq zar zbc zbd zag zac zai zbb zan zas zau zat zav zaw zax v4 v6 v10 v11 v12 v13 v14 v18
def f_L_law_334 (kb : List Int32 → List Int32 → List Int32 → List Int32 → List Int32 → List Int32 → List Int32 → List Int32 → List Int32 → List Int32 → List Int32 → List Int32 → List Int32 → List Int32 → List Int32 → Int32 → Int32 → Int32 → Int32 → Int32 → Int32 → Int32 → Int32 → Int32 → Int32 → Int32 → Int32 → Int32 → Int32 → Int32 → Int32 → Int32 → Int32 → Int32 → Int32 → Option (Int32)) (k151 : List Int32 → List Int32 → List Int32 → List Int32 → List Int32 → List Int32 → List Int32 → List Int32 → List Int32 → List Int32 → List Int32 → List Int32 → List Int32 → List Int32 → List Int32 → Int32 → Int32 → Int32 → Int32 → Int32 → Int32 → Int32 → Int32 → Int32 → Int32 → Int32 → Int32 → Int32 → Int32 → Int32 → Int32 → Int32 → Int32 → Option (Int32)) (k308 : List Int32 → List Int32 → List Int32 → List Int32 → List Int32 → List Int32 → List Int32 → List Int32 → List Int32 → List Int32 → List Int32 → List Int32 → List Int32 → List Int32 → List Int32 → Int32 → Int32 → Int32 → Int32 → Int32 → Int32 → Int32 → Int32 → Int32 → Int32 → Int32 → Int32 → Int32 → Int32 → Int32 → Int32 → Int32 → Int32 → Option (Int32)) (scr zah zad zaf zae zaj zak zay zaz zal zam zba zao zap zaq zar : List Int32) (zbc zbd zag zac zai zbb zan zas zau zat zav zaw zax v4 v6 v10 v11 v12 v13 v14 v15 v16 : Int32) : Option (Int32) :=
  (f_L_cell scr v11).bind fun r180 =>
  (f_L_mod r180 v6).bind fun r181 =>
  if (v16 + (1 : Int32)) = v4 then
    f_L_law_369 (f_L_law_518 kb k151 k308 scr) scr 100000 zah zad zaf zae zaj zak zay zaz zal zam zba zao zap zaq zar zbc zbd zag zac zai zbb zan zas zau zat zav zaw zax v4 v6 v10 (v11 + (1 : Int32)) v12 v13 v14 v15 v16 r181 ((97 : Int32) + r181) (0 : Int32)
  else
    f_L_law_518 kb k151 k308 scr zah zad zaf zae zaj zak zay zaz zal zam zba zao zap zaq zar zbc zbd zag zac zai zbb zan zas zau zat zav zaw zax v4 v6 v10 (v11 + (1 : Int32)) v12 v13 v14 ((97 : Int32) + r181)
def f_L_law_308 (kb : List Int32 → List Int32 → List Int32 → List Int32 → List Int32 → List Int32 → List Int32 → List Int32 → List Int32 → List Int32 → List Int32 → List Int32 → List Int32 → List Int32 → List Int32 → Int32 → Int32 → Int32 → Int32 → Int32 → Int32 → Int32 → Int32 → Int32 → Int32 → Int32 → Int32 → Int32 → Int32 → Int32 → Int32 → Int32 → Int32 → Option (Int32)) (k543 : List Int32 → List Int32 → List Int32 → List Int32 → List Int32 → List Int32 → List Int32 → List Int32 → List Int32 → List Int32 → List Int32 → List Int32 → List Int32 → List Int32 → List Int32 → Int32 → Int32 → Int32 → Int32 → Int32 → Int32 → Int32 → Int32 → Int32 → Int32 → Int32 → Int32 → Int32 → Option (Int32)) (scr zah zad zaf zae zaj zak zay zaz zal zam zba zao zap zaq zar : List Int32) (zbc zbd zag zac zai zbb zan zas zau zat zav zaw zax v4 v6 v10 v11 v12 : Int32) : Option (Int32) :=
  (f_L_cell scr v11).bind fun r172 =>
  (f_L_mod r172 (95 : Int32)).bind fun r173 =>
  (f_endKeyword zae zag zah zad zaf zac zai ((32 : Int32) + r173)).bind fun (r174, s175, s176, s177, s178, s179) =>
  kb s175 s176 s177 zae zaj zak zay zaz zal zam zba zao zap zaq zar zbc zbd zag s178 s179 zbb zan zas zau zat zav zaw zax v4 v6 v10 (v11 + (1 : Int32)) (v12 + (1 : Int32))
def f_L_law_303 (kb : List Int32 → List Int32 → List Int32 → List Int32 → List Int32 → List Int32 → List Int32 → List Int32 → List Int32 → List Int32 → List Int32 → List Int32 → List Int32 → List Int32 → List Int32 → Int32 → Int32 → Int32 → Int32 → Int32 → Int32 → Int32 → Int32 → Int32 → Int32 → Int32 → Int32 → Int32 → Int32 → Int32 → Int32 → Int32 → Int32 → Int32 → Int32 → Option (Int32)) (k151 : List Int32 → List Int32 → List Int32 → List Int32 → List Int32 → List Int32 → List Int32 → List Int32 → List Int32 → List Int32 → List Int32 → List Int32 → List Int32 → List Int32 → List Int32 → Int32 → Int32 → Int32 → Int32 → Int32 → Int32 → Int32 → Int32 → Int32 → Int32 → Int32 → Int32 → Int32 → Int32 → Int32 → Int32 → Int32 → Int32 → Option (Int32)) (k308 : List Int32 → List Int32 → List Int32 → List Int32 → List Int32 → List Int32 → List Int32 → List Int32 → List Int32 → List Int32 → List Int32 → List Int32 → List Int32 → List Int32 → List Int32 → Int32 → Int32 → Int32 → Int32 → Int32 → Int32 → Int32 → Int32 → Int32 → Int32 → Int32 → Int32 → Int32 → Int32 → Int32 → Int32 → Int32 → Int32 → Option (Int32)) (scr zah zad zaf zae zaj zak zay zaz zal zam zba zao zap zaq zar : List Int32) (zbc zbd zag zac zai zbb zan zas zau zat zav zaw zax v4 v6 v10 v11 v12 v13 v14 v15 v16 v17 : Int32) : Option (Int32) :=
  if v17 = (0 : Int32) then
    k308 zah zad zaf zae zaj zak zay zaz zal zam zba zao zap zaq zar zbc zbd zag zac zai zbb zan zas zau zat zav zaw zax v4 v6 v10 v11 v12
  else
    f_L_law_334 kb k151 k308 scr zah zad zaf zae zaj zak zay zaz zal zam zba zao zap zaq zar zbc zbd zag zac zai zbb zan zas zau zat zav zaw zax v4 v6 v10 v11 v12 v13 v14 v15 v16
def f_L_law_289 (kb : List Int32 → List Int32 → List Int32 → List Int32 → List Int32 → List Int32 → List Int32 → List Int32 → List Int32 → List Int32 → List Int32 → List Int32 → List Int32 → List Int32 → List Int32 → Int32 → Int32 → Int32 → Int32 → Int32 → Int32 → Int32 → Int32 → Int32 → Int32 → Int32 → Int32 → Int32 → Int32 → Int32 → Int32 → Int32 → Int32 → Int32 → Int32 → Int32 → Int32 → Int32 → Int32 → Option (Int32)) (k303 : List Int32 → List Int32 → List Int32 → List Int32 → List Int32 → List Int32 → List Int32 → List Int32 → List Int32 → List Int32 → List Int32 → List Int32 → List Int32 → List Int32 → List Int32 → Int32 → Int32 → Int32 → Int32 → Int32 → Int32 → Int32 → Int32 → Int32 → Int32 → Int32 → Int32 → Int32 → Int32 → Int32 → Int32 → Int32 → Int32 → Int32 → Int32 → Int32 → Int32 → Int32 → Option (Int32)) (scr zah zad zaf zae zaj zak zay zaz zal zam zba zao zap zaq zar : List Int32) (zbc zbd zag zac zai zbb zan zas zau zat zav zaw zax v4 v6 v10 v11 v12 v13 v14 v15 v16 v17 v18 v19 : Int32) : Option (Int32) :=
  kb zah zad zaf zae zaj zak zay zaz zal zam zba zao zap zaq zar zbc zbd zag zac zai zbb zan zas zau zat zav zaw zax v4 v6 v10 v11 v12 v13 v14 v15 v16 (if v19 = (0 : Int32) then v17 else (1 : Int32)) (v18 + (1 : Int32))
def f_L_law_245 (k289 : List Int32 → List Int32 → List Int32 → List Int32 → List Int32 → List Int32 → List Int32 → List Int32 → List Int32 → List Int32 → List Int32 → List Int32 → List Int32 → List Int32 → List Int32 → Int32 → Int32 → Int32 → Int32 → Int32 → Int32 → Int32 → Int32 → Int32 → Int32 → Int32 → Int32 → Int32 → Int32 → Int32 → Int32 → Int32 → Int32 → Int32 → Int32 → Int32 → Int32 → Int32 → Int32 → Int32 → Option (Int32)) (scr : List Int32) : Nat → List Int32 → List Int32 → List Int32 → List Int32 → List Int32 → List Int32 → List Int32 → List Int32 → List Int32 → List Int32 → List Int32 → List Int32 → List Int32 → List Int32 → List Int32 → Int32 → Int32 → Int32 → Int32 → Int32 → Int32 → Int32 → Int32 → Int32 → Int32 → Int32 → Int32 → Int32 → Int32 → Int32 → Int32 → Int32 → Int32 → Int32 → Int32 → Int32 → Int32 → Int32 → Int32 → Int32 → Int32 → Option (Int32)
  | 0, _, _, _, _, _, _, _, _, _, _, _, _, _, _, _, _, _, _, _, _, _, _, _, _, _, _, _, _, _, _, _, _, _, _, _, _, _, _, _, _, _ => none
  | n + 1, zah, zad, zaf, zae, zaj, zak, zay, zaz, zal, zam, zba, zao, zap, zaq, zar, zbc, zbd, zag, zac, zai, zbb, zan, zas, zau, zat, zav, zaw, zax, v4, v6, v10, v11, v12, v13, v14, v15, v16, v17, v18, v19, v20 =>
    if v20 < v16 then
      if v20 < (8 : Int32) then
        (f_keywordChar zah zad zaf zae zac zai v18 v20).bind fun r170 =>
        (f_keywordChar zah zad zaf zae zac zai v15 v20).bind fun r171 =>
        f_L_law_245 k289 scr n zah zad zaf zae zaj zak zay zaz zal zam zba zao zap zaq zar zbc zbd zag zac zai zbb zan zas zau zat zav zaw zax v4 v6 v10 v11 v12 v13 v14 v15 v16 v17 v18 (if r170 = r171 then v19 else (0 : Int32)) (v20 + (1 : Int32))
      else
        k289 zah zad zaf zae zaj zak zay zaz zal zam zba zao zap zaq zar zbc zbd zag zac zai zbb zan zas zau zat zav zaw zax v4 v6 v10 v11 v12 v13 v14 v15 v16 v17 v18 v19
    else
      k289 zah zad zaf zae zaj zak zay zaz zal zam zba zao zap zaq zar zbc zbd zag zac zai zbb zan zas zau zat zav zaw zax v4 v6 v10 v11 v12 v13 v14 v15 v16 v17 v18 v19
def f_L_law_215 (k303 : List Int32 → List Int32 → List Int32 → List Int32 → List Int32 → List Int32 → List Int32 → List Int32 → List Int32 → List Int32 → List Int32 → List Int32 → List Int32 → List Int32 → List Int32 → Int32 → Int32 → Int32 → Int32 → Int32 → Int32 → Int32 → Int32 → Int32 → Int32 → Int32 → Int32 → Int32 → Int32 → Int32 → Int32 → Int32 → Int32 → Int32 → Int32 → Int32 → Int32 → Int32 → Option (Int32)) (scr : List Int32) : Nat → List Int32 → List Int32 → List Int32 → List Int32 → List Int32 → List Int32 → List Int32 → List Int32 → List Int32 → List Int32 → List Int32 → List Int32 → List Int32 → List Int32 → List Int32 → Int32 → Int32 → Int32 → Int32 → Int32 → Int32 → Int32 → Int32 → Int32 → Int32 → Int32 → Int32 → Int32 → Int32 → Int32 → Int32 → Int32 → Int32 → Int32 → Int32 → Int32 → Int32 → Int32 → Int32 → Option (Int32)
  | 0, _, _, _, _, _, _, _, _, _, _, _, _, _, _, _, _, _, _, _, _, _, _, _, _, _, _, _, _, _, _, _, _, _, _, _, _, _, _, _ => none
  | n + 1, zah, zad, zaf, zae, zaj, zak, zay, zaz, zal, zam, zba, zao, zap, zaq, zar, zbc, zbd, zag, zac, zai, zbb, zan, zas, zau, zat, zav, zaw, zax, v4, v6, v10, v11, v12, v13, v14, v15, v16, v17, v18 =>
    if v18 < v15 then
      if v17 = (0 : Int32) then
        (f_keywordLength zad zac zai v18).bind fun r169 =>
        if r169 = v16 then
          f_L_law_245 (f_L_law_289 (f_L_law_215 k303 scr n) k303 scr) scr 100000 zah zad zaf zae zaj zak zay zaz zal zam zba zao zap zaq zar zbc zbd zag zac zai zbb zan zas zau zat zav zaw zax v4 v6 v10 v11 v12 v13 v14 v15 v16 v17 v18 (1 : Int32) (0 : Int32)
        else
          f_L_law_215 k303 scr n zah zad zaf zae zaj zak zay zaz zal zam zba zao zap zaq zar zbc zbd zag zac zai zbb zan zas zau zat zav zaw zax v4 v6 v10 v11 v12 v13 v14 v15 v16 v17 (v18 + (1 : Int32))
      else
        k303 zah zad zaf zae zaj zak zay zaz zal zam zba zao zap zaq zar zbc zbd zag zac zai zbb zan zas zau zat zav zaw zax v4 v6 v10 v11 v12 v13 v14 v15 v16 v17
    else
      k303 zah zad zaf zae zaj zak zay zaz zal zam zba zao zap zaq zar zbc zbd zag zac zai zbb zan zas zau zat zav zaw zax v4 v6 v10 v11 v12 v13 v14 v15 v16 v17
def f_L_law_179 (k151 : List Int32 → List Int32 → List Int32 → List Int32 → List Int32 → List Int32 → List Int32 → List Int32 → List Int32 → List Int32 → List Int32 → List Int32 → List Int32 → List Int32 → List Int32 → Int32 → Int32 → Int32 → Int32 → Int32 → Int32 → Int32 → Int32 → Int32 → Int32 → Int32 → Int32 → Int32 → Int32 → Int32 → Int32 → Int32 → Int32 → Option (Int32)) (k308 : List Int32 → List Int32 → List Int32 → List Int32 → List Int32 → List Int32 → List Int32 → List Int32 → List Int32 → List Int32 → List Int32 → List Int32 → List Int32 → List Int32 → List Int32 → Int32 → Int32 → Int32 → Int32 → Int32 → Int32 → Int32 → Int32 → Int32 → Int32 → Int32 → Int32 → Int32 → Int32 → Int32 → Int32 → Int32 → Int32 → Option (Int32)) (scr : List Int32) : Nat → List Int32 → List Int32 → List Int32 → List Int32 → List Int32 → List Int32 → List Int32 → List Int32 → List Int32 → List Int32 → List Int32 → List Int32 → List Int32 → List Int32 → List Int32 → Int32 → Int32 → Int32 → Int32 → Int32 → Int32 → Int32 → Int32 → Int32 → Int32 → Int32 → Int32 → Int32 → Int32 → Int32 → Int32 → Int32 → Int32 → Int32 → Int32 → Option (Int32)
  | 0, _, _, _, _, _, _, _, _, _, _, _, _, _, _, _, _, _, _, _, _, _, _, _, _, _, _, _, _, _, _, _, _, _, _, _ => none
  | n + 1, zah, zad, zaf, zae, zaj, zak, zay, zaz, zal, zam, zba, zao, zap, zaq, zar, zbc, zbd, zag, zac, zai, zbb, zan, zas, zau, zat, zav, zaw, zax, v4, v6, v10, v11, v12, v13, v14 =>
    if v4 < v14 then
      k151 zah zad zaf zae zaj zak zay zaz zal zam zba zao zap zaq zar zbc zbd zag zac zai zbb zan zas zau zat zav zaw zax v4 v6 v10 v11 (v12 + (1 : Int32))
    else
      (f_keywordCount zac).bind fun r167 =>
      (f_keywordLength zad zac zai r167).bind fun r168 =>
      if r168 < v13 then
        f_L_law_334 (f_L_law_179 k151 k308 scr n) k151 k308 scr zah zad zaf zae zaj zak zay zaz zal zam zba zao zap zaq zar zbc zbd zag zac zai zbb zan zas zau zat zav zaw zax v4 v6 v10 v11 v12 v13 v14 r167 r168
      else
        f_L_law_215 (f_L_law_303 (f_L_law_179 k151 k308 scr n) k151 k308 scr) scr 100000 zah zad zaf zae zaj zak zay zaz zal zam zba zao zap zaq zar zbc zbd zag zac zai zbb zan zas zau zat zav zaw zax v4 v6 v10 v11 v12 v13 v14 r167 r168 (0 : Int32) (0 : Int32)
def f_L_law_151 (k543 : List Int32 → List Int32 → List Int32 → List Int32 → List Int32 → List Int32 → List Int32 → List Int32 → List Int32 → List Int32 → List Int32 → List Int32 → List Int32 → List Int32 → List Int32 → Int32 → Int32 → Int32 → Int32 → Int32 → Int32 → Int32 → Int32 → Int32 → Int32 → Int32 → Int32 → Int32 → Option (Int32)) (scr : List Int32) : Nat → List Int32 → List Int32 → List Int32 → List Int32 → List Int32 → List Int32 → List Int32 → List Int32 → List Int32 → List Int32 → List Int32 → List Int32 → List Int32 → List Int32 → List Int32 → Int32 → Int32 → Int32 → Int32 → Int32 → Int32 → Int32 → Int32 → Int32 → Int32 → Int32 → Int32 → Int32 → Int32 → Int32 → Int32 → Int32 → Int32 → Option (Int32)
  | 0, _, _, _, _, _, _, _, _, _, _, _, _, _, _, _, _, _, _, _, _, _, _, _, _, _, _, _, _, _, _, _, _, _ => none
  | n + 1, zah, zad, zaf, zae, zaj, zak, zay, zaz, zal, zam, zba, zao, zap, zaq, zar, zbc, zbd, zag, zac, zai, zbb, zan, zas, zau, zat, zav, zaw, zax, v4, v6, v10, v11, v12 =>
    if v12 < v10 then
      (f_L_cell scr v11).bind fun r165 =>
      (f_L_mod r165 v4).bind fun r166 =>
      f_L_law_179 (f_L_law_151 k543 scr n) (f_L_law_308 (f_L_law_151 k543 scr n) k543 scr) scr 100000 zah zad zaf zae zaj zak zay zaz zal zam zba zao zap zaq zar zbc zbd zag zac zai zbb zan zas zau zat zav zaw zax v4 v6 v10 (v11 + (1 : Int32)) v12 ((1 : Int32) + r166) (0 : Int32)
    else
      k543 zah zad zaf zae zaj zak zay zaz zal zam zba zao zap zaq zar zag zac zai zbb zan zas zau zat zav zaw zax v6 v11
def f_L_law_129 (scr zah zad zaf zae zaj zak zay zaz zal zam zba zao zap zaq zar : List Int32) (zbc zbd zag zac zai zbb zan zas zau zat zav zaw zax v4 v6 t0 : Int32) : Option (Int32) :=
  (f_L_cell scr (3 : Int32)).bind fun r163 =>
  (f_L_mod r163 t0).bind fun r164 =>
  f_L_law_151 (f_L_law_543 scr) scr 100000 zah zad zaf zae zaj zak zay zaz zal zam zba zao zap zaq zar zbc zbd zag zac zai zbb zan zas zau zat zav zaw zax v4 v6 ((1 : Int32) + r164) (4 : Int32) (0 : Int32)
def f_L_law_117 (scr zah zad zaf zae zaj zak zay zaz zal zam zba zao zap zaq zar : List Int32) (zbc zbd zag zac zai zbb zan zas zau zat zav zaw zax v3 v4 v6 v7 : Int32) : Option (Int32) :=
  f_L_law_129 scr zah zad zaf zae zaj zak zay zaz zal zam zba zao zap zaq zar zbc zbd zag zac zai zbb zan zas zau zat zav zaw zax v4 v6 (if v3 < v7 then v3 else v7)
def f_L_law_76 (k117 : List Int32 → List Int32 → List Int32 → List Int32 → List Int32 → List Int32 → List Int32 → List Int32 → List Int32 → List Int32 → List Int32 → List Int32 → List Int32 → List Int32 → List Int32 → Int32 → Int32 → Int32 → Int32 → Int32 → Int32 → Int32 → Int32 → Int32 → Int32 → Int32 → Int32 → Int32 → Int32 → Int32 → Int32 → Int32 → Option (Int32)) (scr : List Int32) : Nat → List Int32 → List Int32 → List Int32 → List Int32 → List Int32 → List Int32 → List Int32 → List Int32 → List Int32 → List Int32 → List Int32 → List Int32 → List Int32 → List Int32 → List Int32 → Int32 → Int32 → Int32 → Int32 → Int32 → Int32 → Int32 → Int32 → Int32 → Int32 → Int32 → Int32 → Int32 → Int32 → Int32 → Int32 → Int32 → Int32 → Int32 → Option (Int32)
  | 0, _, _, _, _, _, _, _, _, _, _, _, _, _, _, _, _, _, _, _, _, _, _, _, _, _, _, _, _, _, _, _, _, _, _ => none
  | n + 1, zah, zad, zaf, zae, zaj, zak, zay, zaz, zal, zam, zba, zao, zap, zaq, zar, zbc, zbd, zag, zac, zai, zbb, zan, zas, zau, zat, zav, zaw, zax, v3, v4, v6, v7, v8, v9 =>
    if v4 < v9 then
      k117 zah zad zaf zae zaj zak zay zaz zal zam zba zao zap zaq zar zbc zbd zag zac zai zbb zan zas zau zat zav zaw zax v3 v4 v6 v7
    else
      if (v7 + (v8 * v6)) < (16 : Int32) then
        f_L_law_76 k117 scr n zah zad zaf zae zaj zak zay zaz zal zam zba zao zap zaq zar zbc zbd zag zac zai zbb zan zas zau zat zav zaw zax v3 v4 v6 (v7 + (v8 * v6)) (v8 * v6) (v9 + (1 : Int32))
      else
        k117 zah zad zaf zae zaj zak zay zaz zal zam zba zao zap zaq zar zbc zbd zag zac zai zbb zan zas zau zat zav zaw zax v3 v4 v6 (16 : Int32)
def f_L_law (scr : List Int32) : Option (Int32) :=
  (f_L_cell scr (0 : Int32)).bind fun r127 =>
  (f_L_mod r127 (18 : Int32)).bind fun r128 =>
  (f_L_cell scr (1 : Int32)).bind fun r129 =>
  (f_L_mod r129 (10 : Int32)).bind fun r130 =>
  (f_L_clamp (r128 - (1 : Int32)) (1 : Int32) (16 : Int32)).bind fun r131 =>
  (f_L_clamp (r130 - (1 : Int32)) (1 : Int32) (8 : Int32)).bind fun r132 =>
  (f_init (r128 - (1 : Int32)) (r130 - (1 : Int32))).bind fun (s133, s134, s135, s136, s137, s138, s139, s140, s141, s142, s143, s144, s145, s146, s147, s148, s149, s150, s151, s152, s153, s154, s155, s156, s157, s158, s159, s160) =>
  (f_L_cell scr (2 : Int32)).bind fun r161 =>
  (f_L_mod r161 (3 : Int32)).bind fun r162 =>
  f_L_law_76 (f_L_law_117 scr) scr 100000 s133 s134 s135 s136 s137 s138 s139 s140 s141 s142 s143 s144 s145 s146 s147 s148 s149 s150 s151 s152 s153 s154 s155 s156 s157 s158 s159 s160 r131 r132 ((2 : Int32) + r162) (0 : Int32) (1 : Int32) (1 : Int32)
set_option maxHeartbeats 4000000
set_option maxRecDepth 10000
abbrev qi (x : Int32) : Slot := .val (.int x)
abbrev ql (x : Int64) : Slot := .val (.long x)
abbrev qr (x : Nat) : Slot := .val (.ref x)
abbrev qu : Slot := .unset
abbrev qw : Slot := .second
abbrev qa (l : List Int32) : ACell := .inr (.inl (false, l))
theorem ok_L_cell {scr : List Int32} {po : List ACell} {v1 res : Int32} (h : f_L_cell scr v1 = some res) : OEnds own_P 1 0 [qr 0, qi v1] [] (qa scr :: po) (some (.int res), (qa scr :: po), 0, 0) := by
  unfold f_L_cell at h
  refine OEnds.adv hm_1 3 (pc' := 3) (L' := [qr 0, qi v1]) (S' := [.int scr.length.toInt32, .int v1]) (H' := (qa scr :: po)) rfl ?_
  by_cases hc1 : v1 < scr.length.toInt32
  · simp only [if_pos hc1] at h
    refine OEnds.icmpF hm_1 rfl ((tlt hc1).2.1) ?_
    refine OEnds.adv hm_1 2 (pc' := 8) (L' := [qr 0, qi v1]) (S' := [.int v1, .ref 0]) (H' := (qa scr :: po)) rfl ?_
    obtain ⟨x1, hx1, h⟩ := bnd h
    refine OEnds.plain hm_1 rfl rfl (x_iaload rfl hx1) ?_
    refine OEnds.adv hm_1 1 (pc' := 13) (L' := [qr 0, qi v1]) (S' := [.int x1]) (H' := (qa scr :: po)) rfl ?_
    cases h
    exact OEnds.iret hm_1 rfl rfl
  · simp only [if_neg hc1] at h
    refine OEnds.icmpT hm_1 rfl (q := 12) rfl ((flt hc1).2.1) ?_
    refine OEnds.adv hm_1 1 (pc' := 13) (L' := [qr 0, qi v1]) (S' := [.int 0]) (H' := (qa scr :: po)) rfl ?_
    cases h
    exact OEnds.iret hm_1 rfl rfl
theorem ok_L_mod {c0 : ACell} {po : List ACell} {v0 v1 res : Int32} (h : f_L_mod v0 v1 = some res) : OEnds own_P 2 0 [qi v0, qi v1, qu] [] (c0 :: po) (some (.int res), (c0 :: po), 0, 0) := by
  unfold f_L_mod at h
  refine OEnds.adv hm_2 2 (pc' := 2) (L' := [qi v0, qi v1, qu]) (S' := [.int v1, .int v0]) (H' := (c0 :: po)) rfl ?_
  by_cases hz2 : v1 = 0
  · simp only [if_pos hz2] at h
    cases h
  simp only [if_neg hz2] at h
  refine OEnds.plain hm_2 rfl rfl (x_irem hz2) ?_
  refine OEnds.adv hm_2 2 (pc' := 5) (L' := [qi v0, qi v1, qi (v0 % v1)]) (S' := [.int (v0 % v1)]) (H' := (c0 :: po)) rfl ?_
  by_cases hc3 : (v0 % v1) < (0 : Int32)
  · simp only [if_pos hc3] at h
    refine OEnds.ifF hm_2 rfl ((tlt hc3).2.1) ?_
    refine OEnds.adv hm_2 4 (pc' := 15) (L' := [qi v0, qi v1, qi (v0 % v1)]) (S' := [.int ((v0 % v1) + v1)]) (H' := (c0 :: po)) rfl ?_
    cases h
    exact OEnds.iret hm_2 rfl rfl
  · simp only [if_neg hc3] at h
    refine OEnds.ifT hm_2 rfl (q := 14) rfl ((flt hc3).2.1) ?_
    refine OEnds.adv hm_2 1 (pc' := 15) (L' := [qi v0, qi v1, qi (v0 % v1)]) (S' := [.int (v0 % v1)]) (H' := (c0 :: po)) rfl ?_
    cases h
    exact OEnds.iret hm_2 rfl rfl
theorem ok_L_clamp {c0 : ACell} {po : List ACell} {v0 v1 v2 res : Int32} (h : f_L_clamp v0 v1 v2 = some res) : OEnds own_P 3 0 [qi v0, qi v1, qi v2] [] (c0 :: po) (some (.int res), (c0 :: po), 0, 0) := by
  unfold f_L_clamp at h
  refine OEnds.adv hm_3 2 (pc' := 2) (L' := [qi v0, qi v1, qi v2]) (S' := [.int v1, .int v0]) (H' := (c0 :: po)) rfl ?_
  by_cases hc4 : v0 < v1
  · simp only [if_pos hc4] at h
    refine OEnds.icmpF hm_3 rfl ((tlt hc4).2.1) ?_
    refine OEnds.adv hm_3 2 (pc' := 19) (L' := [qi v0, qi v1, qi v2]) (S' := [.int v1]) (H' := (c0 :: po)) rfl ?_
    cases h
    exact OEnds.iret hm_3 rfl rfl
  · simp only [if_neg hc4] at h
    refine OEnds.icmpT hm_3 rfl (q := 9) rfl ((flt hc4).2.1) ?_
    refine OEnds.adv hm_3 2 (pc' := 11) (L' := [qi v0, qi v1, qi v2]) (S' := [.int v2, .int v0]) (H' := (c0 :: po)) rfl ?_
    by_cases hc5 : v2 < v0
    · simp only [if_pos hc5] at h
      refine OEnds.icmpF hm_3 rfl ((tlt hc5).2.2.2) ?_
      refine OEnds.adv hm_3 2 (pc' := 19) (L' := [qi v0, qi v1, qi v2]) (S' := [.int v2]) (H' := (c0 :: po)) rfl ?_
      cases h
      exact OEnds.iret hm_3 rfl rfl
    · simp only [if_neg hc5] at h
      refine OEnds.icmpT hm_3 rfl (q := 18) rfl ((flt hc5).2.2.2) ?_
      refine OEnds.adv hm_3 1 (pc' := 19) (L' := [qi v0, qi v1, qi v2]) (S' := [.int v0]) (H' := (c0 :: po)) rfl ?_
      cases h
      exact OEnds.iret hm_3 rfl rfl
theorem ok_clearText {zf za zi zk zb zs zt zr zg zh zo zl zz zv zw : List Int32} {zaa zab zq zc zd zp zu : Int32} {c0 : ACell} {po : List ACell} {ze zy zx zm zj zn w_o_n w_o_state w_o_total w_o_outLen w_o_commitPos w_o_tailLen : Int32} (h : f_clearText ze zy zx zm zj zn = some (w_o_n, w_o_state, w_o_total, w_o_outLen, w_o_commitPos, w_o_tailLen)) : OEnds own_P 5 0 [qr 1] [] (c0 :: bk0 zf za zi zk zb zs zt zr zg zh zo zl zz zv zw zaa zab zq zc zd zp zu ze zy zx zm zj zn po) (none, (c0 :: bk0 zf za zi zk zb zs zt zr zg zh zo zl zz zv zw zaa zab zq zc zd zp zu w_o_n w_o_state w_o_total w_o_outLen w_o_commitPos w_o_tailLen po), 0, 0) := by
  unfold f_clearText at h
  refine OEnds.adv hm_5 18 (pc' := 30) (L' := [qr 1]) (S' := []) (H' := (c0 :: bk0 zf za zi zk zb zs zt zr zg zh zo zl zz zv zw zaa zab zq zc zd zp zu 0 0 0 0 0 0 po)) rfl ?_
  cases h
  exact OEnds.vret hm_5 rfl rfl
theorem ok_init_237 {c0 : ACell} : ∀ {zf za zi zk zb zs zt zr zg zh zo zl zz zv zw : List Int32} {zaa zab zq zc zd zp zu ze zy zx zm zj zn : Int32} {d1 d2 d3 d4 d5 : Slot} {w_o_kwChars w_o_kwLen w_o_kwRepl w_o_pend w_o_child w_o_delta w_o_fail w_o_depth w_o_term w_o_outMask w_o_queue w_o_text w_o_masks w_o_out w_o_tail : List Int32} {w_o_maxKw w_o_maxLen w_o_phaseNow w_o_count w_o_pendLen w_o_nodeCount w_o_longestKw w_o_n w_o_state w_o_total w_o_outLen w_o_commitPos : Int32} {w_o_tailLen : Int32}, f_init_237 zf za zi zk zb zs zt zr zg zh zo zl zz zv zw zaa zab zq zc zd zp zu ze zy zx zm zj zn = some (w_o_kwChars, w_o_kwLen, w_o_kwRepl, w_o_pend, w_o_child, w_o_delta, w_o_fail, w_o_depth, w_o_term, w_o_outMask, w_o_queue, w_o_text, w_o_masks, w_o_out, w_o_tail, w_o_maxKw, w_o_maxLen, w_o_phaseNow, w_o_count, w_o_pendLen, w_o_nodeCount, w_o_longestKw, w_o_n, w_o_state, w_o_total, w_o_outLen, w_o_commitPos, w_o_tailLen) → OEnds own_P 4 237 [qr 1, d1, d2, d3, d4, d5] [] (c0 :: bk0 zf za zi zk zb zs zt zr zg zh zo zl zz zv zw zaa zab zq zc zd zp zu ze zy zx zm zj zn []) (none, (c0 :: bk0 w_o_kwChars w_o_kwLen w_o_kwRepl w_o_pend w_o_child w_o_delta w_o_fail w_o_depth w_o_term w_o_outMask w_o_queue w_o_text w_o_masks w_o_out w_o_tail w_o_maxKw w_o_maxLen w_o_phaseNow w_o_count w_o_pendLen w_o_nodeCount w_o_longestKw w_o_n w_o_state w_o_total w_o_outLen w_o_commitPos w_o_tailLen []), 0, 0) := by
  intro zf za zi zk zb zs zt zr zg zh zo zl zz zv zw zaa zab zq zc zd zp zu ze zy zx zm zj zn d1 d2 d3 d4 d5 w_o_kwChars w_o_kwLen w_o_kwRepl w_o_pend w_o_child w_o_delta w_o_fail w_o_depth w_o_term w_o_outMask w_o_queue w_o_text w_o_masks w_o_out w_o_tail w_o_maxKw w_o_maxLen w_o_phaseNow w_o_count w_o_pendLen w_o_nodeCount w_o_longestKw w_o_n w_o_state w_o_total w_o_outLen w_o_commitPos w_o_tailLen h
  unfold f_init_237 at h
  refine OEnds.adv hm_4 1 (pc' := 238) (L' := [qr 1, qu, qu, qu, qu, qu]) (S' := [.ref 1]) (H' := (c0 :: bk0 zf za zi zk zb zs zt zr zg zh zo zl zz zv zw zaa zab zq zc zd zp zu ze zy zx zm zj zn [])) rfl ?_
  obtain ⟨⟨s3, s4, s5, s6, s7, s8⟩, hq6, h⟩ := bnd h
  refine OEnds.call0 hm_4 rfl rfl (by decide) rfl (as := [.ref 1]) (rest := []) rfl rfl (ok_clearText hq6) ?_
  show OEnds own_P 4 241 [qr 1, qu, qu, qu, qu, qu] [] (c0 :: bk0 zf za zi zk zb zs zt zr zg zh zo zl zz zv zw zaa zab zq zc zd zp zu s3 s4 s5 s6 s7 s8 []) _
  cases h
  exact OEnds.vret hm_4 rfl rfl
theorem ok_init_215 {c0 : ACell} {k237 : List Int32 → List Int32 → List Int32 → List Int32 → List Int32 → List Int32 → List Int32 → List Int32 → List Int32 → List Int32 → List Int32 → List Int32 → List Int32 → List Int32 → List Int32 → Int32 → Int32 → Int32 → Int32 → Int32 → Int32 → Int32 → Int32 → Int32 → Int32 → Int32 → Int32 → Int32 → Option (List Int32 × List Int32 × List Int32 × List Int32 × List Int32 × List Int32 × List Int32 × List Int32 × List Int32 × List Int32 × List Int32 × List Int32 × List Int32 × List Int32 × List Int32 × Int32 × Int32 × Int32 × Int32 × Int32 × Int32 × Int32 × Int32 × Int32 × Int32 × Int32 × Int32 × Int32)} (hk237 : ∀ {zf za zi zk zb zs zt zr zg zh zo zl zz zv zw : List Int32} {zaa zab zq zc zd zp zu ze zy zx zm zj zn : Int32} {d1 d2 d3 d4 d5 : Slot} {w_o_kwChars w_o_kwLen w_o_kwRepl w_o_pend w_o_child w_o_delta w_o_fail w_o_depth w_o_term w_o_outMask w_o_queue w_o_text w_o_masks w_o_out w_o_tail : List Int32} {w_o_maxKw w_o_maxLen w_o_phaseNow w_o_count w_o_pendLen w_o_nodeCount w_o_longestKw w_o_n w_o_state w_o_total w_o_outLen w_o_commitPos : Int32} {w_o_tailLen : Int32}, k237 zf za zi zk zb zs zt zr zg zh zo zl zz zv zw zaa zab zq zc zd zp zu ze zy zx zm zj zn = some (w_o_kwChars, w_o_kwLen, w_o_kwRepl, w_o_pend, w_o_child, w_o_delta, w_o_fail, w_o_depth, w_o_term, w_o_outMask, w_o_queue, w_o_text, w_o_masks, w_o_out, w_o_tail, w_o_maxKw, w_o_maxLen, w_o_phaseNow, w_o_count, w_o_pendLen, w_o_nodeCount, w_o_longestKw, w_o_n, w_o_state, w_o_total, w_o_outLen, w_o_commitPos, w_o_tailLen) → OEnds own_P 4 237 [qr 1, d1, d2, d3, d4, d5] [] (c0 :: bk0 zf za zi zk zb zs zt zr zg zh zo zl zz zv zw zaa zab zq zc zd zp zu ze zy zx zm zj zn []) (none, (c0 :: bk0 w_o_kwChars w_o_kwLen w_o_kwRepl w_o_pend w_o_child w_o_delta w_o_fail w_o_depth w_o_term w_o_outMask w_o_queue w_o_text w_o_masks w_o_out w_o_tail w_o_maxKw w_o_maxLen w_o_phaseNow w_o_count w_o_pendLen w_o_nodeCount w_o_longestKw w_o_n w_o_state w_o_total w_o_outLen w_o_commitPos w_o_tailLen []), 0, 0)) : ∀ (n : Nat), ∀ {zf za zi zk zb zs zt zr zg zh zo zl zz zv zw : List Int32} {zaa zab zq zc zd zp zu ze zy zx zm zj zn v5 : Int32} {d1 d2 d3 d4 : Slot} {w_o_kwChars w_o_kwLen w_o_kwRepl w_o_pend w_o_child w_o_delta w_o_fail w_o_depth w_o_term w_o_outMask w_o_queue w_o_text w_o_masks w_o_out w_o_tail : List Int32} {w_o_maxKw w_o_maxLen w_o_phaseNow w_o_count w_o_pendLen w_o_nodeCount w_o_longestKw w_o_n w_o_state w_o_total w_o_outLen w_o_commitPos : Int32} {w_o_tailLen : Int32}, f_init_215 k237 n zf za zi zk zb zs zt zr zg zh zo zl zz zv zw zaa zab zq zc zd zp zu ze zy zx zm zj zn v5 = some (w_o_kwChars, w_o_kwLen, w_o_kwRepl, w_o_pend, w_o_child, w_o_delta, w_o_fail, w_o_depth, w_o_term, w_o_outMask, w_o_queue, w_o_text, w_o_masks, w_o_out, w_o_tail, w_o_maxKw, w_o_maxLen, w_o_phaseNow, w_o_count, w_o_pendLen, w_o_nodeCount, w_o_longestKw, w_o_n, w_o_state, w_o_total, w_o_outLen, w_o_commitPos, w_o_tailLen) → OEnds own_P 4 215 [qr 1, d1, d2, d3, d4, qi v5] [] (c0 :: bk0 zf za zi zk zb zs zt zr zg zh zo zl zz zv zw zaa zab zq zc zd zp zu ze zy zx zm zj zn []) (none, (c0 :: bk0 w_o_kwChars w_o_kwLen w_o_kwRepl w_o_pend w_o_child w_o_delta w_o_fail w_o_depth w_o_term w_o_outMask w_o_queue w_o_text w_o_masks w_o_out w_o_tail w_o_maxKw w_o_maxLen w_o_phaseNow w_o_count w_o_pendLen w_o_nodeCount w_o_longestKw w_o_n w_o_state w_o_total w_o_outLen w_o_commitPos w_o_tailLen []), 0, 0) := by
  intro n
  induction n with
  | zero => intro zf za zi zk zb zs zt zr zg zh zo zl zz zv zw zaa zab zq zc zd zp zu ze zy zx zm zj zn v5 d1 d2 d3 d4 w_o_kwChars w_o_kwLen w_o_kwRepl w_o_pend w_o_child w_o_delta w_o_fail w_o_depth w_o_term w_o_outMask w_o_queue w_o_text w_o_masks w_o_out w_o_tail w_o_maxKw w_o_maxLen w_o_phaseNow w_o_count w_o_pendLen w_o_nodeCount w_o_longestKw w_o_n w_o_state w_o_total w_o_outLen w_o_commitPos w_o_tailLen h; cases h
  | succ n ih =>
    intro zf za zi zk zb zs zt zr zg zh zo zl zz zv zw zaa zab zq zc zd zp zu ze zy zx zm zj zn v5 d1 d2 d3 d4 w_o_kwChars w_o_kwLen w_o_kwRepl w_o_pend w_o_child w_o_delta w_o_fail w_o_depth w_o_term w_o_outMask w_o_queue w_o_text w_o_masks w_o_out w_o_tail w_o_maxKw w_o_maxLen w_o_phaseNow w_o_count w_o_pendLen w_o_nodeCount w_o_longestKw w_o_n w_o_state w_o_total w_o_outLen w_o_commitPos w_o_tailLen h
    unfold f_init_215 at h
    refine OEnds.adv hm_4 2 (pc' := 220) (L' := [qr 1, qu, qu, qu, qu, qi v5]) (S' := [.int 129, .int v5]) (H' := (c0 :: bk0 zf za zi zk zb zs zt zr zg zh zo zl zz zv zw zaa zab zq zc zd zp zu ze zy zx zm zj zn [])) rfl ?_
    by_cases hc7 : v5 < (129 : Int32)
    · simp only [if_pos hc7] at h
      refine OEnds.icmpF hm_4 rfl ((tlt hc7).2.1) ?_
      refine OEnds.adv hm_4 4 (pc' := 230) (L' := [qr 1, qu, qu, qu, qu, qi v5]) (S' := [.int (-1), .int v5, .ref 10]) (H' := (c0 :: bk0 zf za zi zk zb zs zt zr zg zh zo zl zz zv zw zaa zab zq zc zd zp zu ze zy zx zm zj zn [])) rfl ?_
      obtain ⟨A2, hA2, h⟩ := bnd h
      refine OEnds.plain hm_4 rfl rfl (x_iastore rfl (Nat.le_of_ble_eq_true rfl) hA2) ?_
      refine OEnds.adv hm_4 2 (pc' := 215) (L' := [qr 1, qu, qu, qu, qu, qi (v5 + (1 : Int32))]) (S' := []) (H' := (c0 :: bk0 zf za zi zk zb zs zt zr A2 zh zo zl zz zv zw zaa zab zq zc zd zp zu ze zy zx zm zj zn [])) rfl ?_
      exact ih h
    · simp only [if_neg hc7] at h
      refine OEnds.icmpT hm_4 rfl (q := 237) rfl ((flt hc7).2.1) ?_
      show OEnds own_P 4 237 [qr 1, qu, qu, qu, qu, qi v5] [] (c0 :: bk0 zf za zi zk zb zs zt zr zg zh zo zl zz zv zw zaa zab zq zc zd zp zu ze zy zx zm zj zn []) _
      exact hk237 h
theorem ok_init_176 {c0 : ACell} : ∀ {zf za zi zk zb zs zt zr zg zh zo zl zz zv zw : List Int32} {zaa zab zq zc zd zp zu ze zy zx zm zj zn v3 v4 : Int32} {d1 d2 d5 : Slot} {w_o_kwChars w_o_kwLen w_o_kwRepl w_o_pend w_o_child w_o_delta w_o_fail w_o_depth w_o_term w_o_outMask w_o_queue w_o_text w_o_masks w_o_out w_o_tail : List Int32} {w_o_maxKw w_o_maxLen w_o_phaseNow w_o_count w_o_pendLen w_o_nodeCount w_o_longestKw w_o_n w_o_state w_o_total w_o_outLen w_o_commitPos : Int32} {w_o_tailLen : Int32}, f_init_176 zf za zi zk zb zs zt zr zg zh zo zl zz zv zw zaa zab zq zc zd zp zu ze zy zx zm zj zn v3 v4 = some (w_o_kwChars, w_o_kwLen, w_o_kwRepl, w_o_pend, w_o_child, w_o_delta, w_o_fail, w_o_depth, w_o_term, w_o_outMask, w_o_queue, w_o_text, w_o_masks, w_o_out, w_o_tail, w_o_maxKw, w_o_maxLen, w_o_phaseNow, w_o_count, w_o_pendLen, w_o_nodeCount, w_o_longestKw, w_o_n, w_o_state, w_o_total, w_o_outLen, w_o_commitPos, w_o_tailLen) → OEnds own_P 4 176 [qr 1, d1, d2, qi v3, qi v4, d5] [] (c0 :: bk0 zf za zi zk zb zs zt zr zg zh zo zl zz zv zw zaa zab zq zc zd zp zu ze zy zx zm zj zn []) (none, (c0 :: bk0 w_o_kwChars w_o_kwLen w_o_kwRepl w_o_pend w_o_child w_o_delta w_o_fail w_o_depth w_o_term w_o_outMask w_o_queue w_o_text w_o_masks w_o_out w_o_tail w_o_maxKw w_o_maxLen w_o_phaseNow w_o_count w_o_pendLen w_o_nodeCount w_o_longestKw w_o_n w_o_state w_o_total w_o_outLen w_o_commitPos w_o_tailLen []), 0, 0) := by
  intro zf za zi zk zb zs zt zr zg zh zo zl zz zv zw zaa zab zq zc zd zp zu ze zy zx zm zj zn v3 v4 d1 d2 d5 w_o_kwChars w_o_kwLen w_o_kwRepl w_o_pend w_o_child w_o_delta w_o_fail w_o_depth w_o_term w_o_outMask w_o_queue w_o_text w_o_masks w_o_out w_o_tail w_o_maxKw w_o_maxLen w_o_phaseNow w_o_count w_o_pendLen w_o_nodeCount w_o_longestKw w_o_n w_o_state w_o_total w_o_outLen w_o_commitPos w_o_tailLen h
  unfold f_init_176 at h
  refine OEnds.adv hm_4 23 (pc' := 215) (L' := [qr 1, qu, qu, qi v3, qi v4, qi 0]) (S' := []) (H' := (c0 :: bk0 zf za zi zk zb zs zt zr zg zh zo zl zz zv zw v3 v4 0 0 0 1 1 ze zy zx zm zj zn [])) rfl ?_
  exact ok_init_215 (k237 := f_init_237) ok_init_237 100000 h
theorem ok_init_165 {c0 : ACell} : ∀ {zf za zi zk zb zs zt zr zg zh zo zl zz zv zw : List Int32} {zaa zab zq zc zd zp zu ze zy zx zm zj zn v3 v4 : Int32} {d1 d2 d5 : Slot} {w_o_kwChars w_o_kwLen w_o_kwRepl w_o_pend w_o_child w_o_delta w_o_fail w_o_depth w_o_term w_o_outMask w_o_queue w_o_text w_o_masks w_o_out w_o_tail : List Int32} {w_o_maxKw w_o_maxLen w_o_phaseNow w_o_count w_o_pendLen w_o_nodeCount w_o_longestKw w_o_n w_o_state w_o_total w_o_outLen w_o_commitPos : Int32} {w_o_tailLen : Int32}, f_init_165 zf za zi zk zb zs zt zr zg zh zo zl zz zv zw zaa zab zq zc zd zp zu ze zy zx zm zj zn v3 v4 = some (w_o_kwChars, w_o_kwLen, w_o_kwRepl, w_o_pend, w_o_child, w_o_delta, w_o_fail, w_o_depth, w_o_term, w_o_outMask, w_o_queue, w_o_text, w_o_masks, w_o_out, w_o_tail, w_o_maxKw, w_o_maxLen, w_o_phaseNow, w_o_count, w_o_pendLen, w_o_nodeCount, w_o_longestKw, w_o_n, w_o_state, w_o_total, w_o_outLen, w_o_commitPos, w_o_tailLen) → OEnds own_P 4 165 [qr 1, d1, d2, qi v3, qi v4, d5] [] (c0 :: bk0 zf za zi zk zb zs zt zr zg zh zo zl zz zv zw zaa zab zq zc zd zp zu ze zy zx zm zj zn []) (none, (c0 :: bk0 w_o_kwChars w_o_kwLen w_o_kwRepl w_o_pend w_o_child w_o_delta w_o_fail w_o_depth w_o_term w_o_outMask w_o_queue w_o_text w_o_masks w_o_out w_o_tail w_o_maxKw w_o_maxLen w_o_phaseNow w_o_count w_o_pendLen w_o_nodeCount w_o_longestKw w_o_n w_o_state w_o_total w_o_outLen w_o_commitPos w_o_tailLen []), 0, 0) := by
  intro zf za zi zk zb zs zt zr zg zh zo zl zz zv zw zaa zab zq zc zd zp zu ze zy zx zm zj zn v3 v4 d1 d2 d5 w_o_kwChars w_o_kwLen w_o_kwRepl w_o_pend w_o_child w_o_delta w_o_fail w_o_depth w_o_term w_o_outMask w_o_queue w_o_text w_o_masks w_o_out w_o_tail w_o_maxKw w_o_maxLen w_o_phaseNow w_o_count w_o_pendLen w_o_nodeCount w_o_longestKw w_o_n w_o_state w_o_total w_o_outLen w_o_commitPos w_o_tailLen h
  unfold f_init_165 at h
  refine OEnds.adv hm_4 2 (pc' := 169) (L' := [qr 1, qu, qu, qi v3, qi v4, qu]) (S' := [.int 8, .int v4]) (H' := (c0 :: bk0 zf za zi zk zb zs zt zr zg zh zo zl zz zv zw zaa zab zq zc zd zp zu ze zy zx zm zj zn [])) rfl ?_
  by_cases hc8 : (8 : Int32) < v4
  · simp only [if_pos hc8] at h
    refine OEnds.icmpF hm_4 rfl ((tlt hc8).2.2.2) ?_
    refine OEnds.adv hm_4 2 (pc' := 176) (L' := [qr 1, qu, qu, qi v3, qi 8, qu]) (S' := []) (H' := (c0 :: bk0 zf za zi zk zb zs zt zr zg zh zo zl zz zv zw zaa zab zq zc zd zp zu ze zy zx zm zj zn [])) rfl ?_
    exact ok_init_176 h
  · simp only [if_neg hc8] at h
    refine OEnds.icmpT hm_4 rfl (q := 176) rfl ((flt hc8).2.2.2) ?_
    show OEnds own_P 4 176 [qr 1, qu, qu, qi v3, qi v4, qu] [] (c0 :: bk0 zf za zi zk zb zs zt zr zg zh zo zl zz zv zw zaa zab zq zc zd zp zu ze zy zx zm zj zn []) _
    exact ok_init_176 h
theorem ok_init_153 {c0 : ACell} : ∀ {zf za zi zk zb zs zt zr zg zh zo zl zz zv zw : List Int32} {zaa zab zq zc zd zp zu ze zy zx zm zj zn v2 v3 : Int32} {d1 d4 d5 : Slot} {w_o_kwChars w_o_kwLen w_o_kwRepl w_o_pend w_o_child w_o_delta w_o_fail w_o_depth w_o_term w_o_outMask w_o_queue w_o_text w_o_masks w_o_out w_o_tail : List Int32} {w_o_maxKw w_o_maxLen w_o_phaseNow w_o_count w_o_pendLen w_o_nodeCount w_o_longestKw w_o_n w_o_state w_o_total w_o_outLen w_o_commitPos : Int32} {w_o_tailLen : Int32}, f_init_153 zf za zi zk zb zs zt zr zg zh zo zl zz zv zw zaa zab zq zc zd zp zu ze zy zx zm zj zn v2 v3 = some (w_o_kwChars, w_o_kwLen, w_o_kwRepl, w_o_pend, w_o_child, w_o_delta, w_o_fail, w_o_depth, w_o_term, w_o_outMask, w_o_queue, w_o_text, w_o_masks, w_o_out, w_o_tail, w_o_maxKw, w_o_maxLen, w_o_phaseNow, w_o_count, w_o_pendLen, w_o_nodeCount, w_o_longestKw, w_o_n, w_o_state, w_o_total, w_o_outLen, w_o_commitPos, w_o_tailLen) → OEnds own_P 4 153 [qr 1, d1, qi v2, qi v3, d4, d5] [] (c0 :: bk0 zf za zi zk zb zs zt zr zg zh zo zl zz zv zw zaa zab zq zc zd zp zu ze zy zx zm zj zn []) (none, (c0 :: bk0 w_o_kwChars w_o_kwLen w_o_kwRepl w_o_pend w_o_child w_o_delta w_o_fail w_o_depth w_o_term w_o_outMask w_o_queue w_o_text w_o_masks w_o_out w_o_tail w_o_maxKw w_o_maxLen w_o_phaseNow w_o_count w_o_pendLen w_o_nodeCount w_o_longestKw w_o_n w_o_state w_o_total w_o_outLen w_o_commitPos w_o_tailLen []), 0, 0) := by
  intro zf za zi zk zb zs zt zr zg zh zo zl zz zv zw zaa zab zq zc zd zp zu ze zy zx zm zj zn v2 v3 d1 d4 d5 w_o_kwChars w_o_kwLen w_o_kwRepl w_o_pend w_o_child w_o_delta w_o_fail w_o_depth w_o_term w_o_outMask w_o_queue w_o_text w_o_masks w_o_out w_o_tail w_o_maxKw w_o_maxLen w_o_phaseNow w_o_count w_o_pendLen w_o_nodeCount w_o_longestKw w_o_n w_o_state w_o_total w_o_outLen w_o_commitPos w_o_tailLen h
  unfold f_init_153 at h
  refine OEnds.adv hm_4 4 (pc' := 159) (L' := [qr 1, qu, qi v2, qi v3, qi v2, qu]) (S' := [.int 1, .int v2]) (H' := (c0 :: bk0 zf za zi zk zb zs zt zr zg zh zo zl zz zv zw zaa zab zq zc zd zp zu ze zy zx zm zj zn [])) rfl ?_
  by_cases hc9 : v2 < (1 : Int32)
  · simp only [if_pos hc9] at h
    refine OEnds.icmpF hm_4 rfl ((tlt hc9).2.1) ?_
    refine OEnds.adv hm_4 2 (pc' := 165) (L' := [qr 1, qu, qi v2, qi v3, qi 1, qu]) (S' := []) (H' := (c0 :: bk0 zf za zi zk zb zs zt zr zg zh zo zl zz zv zw zaa zab zq zc zd zp zu ze zy zx zm zj zn [])) rfl ?_
    exact ok_init_165 h
  · simp only [if_neg hc9] at h
    refine OEnds.icmpT hm_4 rfl (q := 165) rfl ((flt hc9).2.1) ?_
    show OEnds own_P 4 165 [qr 1, qu, qi v2, qi v3, qi v2, qu] [] (c0 :: bk0 zf za zi zk zb zs zt zr zg zh zo zl zz zv zw zaa zab zq zc zd zp zu ze zy zx zm zj zn []) _
    exact ok_init_165 h
theorem ok_init_144 {c0 : ACell} : ∀ {zf za zi zk zb zs zt zr zg zh zo zl zz zv zw : List Int32} {zaa zab zq zc zd zp zu ze zy zx zm zj zn v2 v3 : Int32} {d1 d4 d5 : Slot} {w_o_kwChars w_o_kwLen w_o_kwRepl w_o_pend w_o_child w_o_delta w_o_fail w_o_depth w_o_term w_o_outMask w_o_queue w_o_text w_o_masks w_o_out w_o_tail : List Int32} {w_o_maxKw w_o_maxLen w_o_phaseNow w_o_count w_o_pendLen w_o_nodeCount w_o_longestKw w_o_n w_o_state w_o_total w_o_outLen w_o_commitPos : Int32} {w_o_tailLen : Int32}, f_init_144 zf za zi zk zb zs zt zr zg zh zo zl zz zv zw zaa zab zq zc zd zp zu ze zy zx zm zj zn v2 v3 = some (w_o_kwChars, w_o_kwLen, w_o_kwRepl, w_o_pend, w_o_child, w_o_delta, w_o_fail, w_o_depth, w_o_term, w_o_outMask, w_o_queue, w_o_text, w_o_masks, w_o_out, w_o_tail, w_o_maxKw, w_o_maxLen, w_o_phaseNow, w_o_count, w_o_pendLen, w_o_nodeCount, w_o_longestKw, w_o_n, w_o_state, w_o_total, w_o_outLen, w_o_commitPos, w_o_tailLen) → OEnds own_P 4 144 [qr 1, d1, qi v2, qi v3, d4, d5] [] (c0 :: bk0 zf za zi zk zb zs zt zr zg zh zo zl zz zv zw zaa zab zq zc zd zp zu ze zy zx zm zj zn []) (none, (c0 :: bk0 w_o_kwChars w_o_kwLen w_o_kwRepl w_o_pend w_o_child w_o_delta w_o_fail w_o_depth w_o_term w_o_outMask w_o_queue w_o_text w_o_masks w_o_out w_o_tail w_o_maxKw w_o_maxLen w_o_phaseNow w_o_count w_o_pendLen w_o_nodeCount w_o_longestKw w_o_n w_o_state w_o_total w_o_outLen w_o_commitPos w_o_tailLen []), 0, 0) := by
  intro zf za zi zk zb zs zt zr zg zh zo zl zz zv zw zaa zab zq zc zd zp zu ze zy zx zm zj zn v2 v3 d1 d4 d5 w_o_kwChars w_o_kwLen w_o_kwRepl w_o_pend w_o_child w_o_delta w_o_fail w_o_depth w_o_term w_o_outMask w_o_queue w_o_text w_o_masks w_o_out w_o_tail w_o_maxKw w_o_maxLen w_o_phaseNow w_o_count w_o_pendLen w_o_nodeCount w_o_longestKw w_o_n w_o_state w_o_total w_o_outLen w_o_commitPos w_o_tailLen h
  unfold f_init_144 at h
  refine OEnds.adv hm_4 2 (pc' := 147) (L' := [qr 1, qu, qi v2, qi v3, qu, qu]) (S' := [.int 16, .int v3]) (H' := (c0 :: bk0 zf za zi zk zb zs zt zr zg zh zo zl zz zv zw zaa zab zq zc zd zp zu ze zy zx zm zj zn [])) rfl ?_
  by_cases hc10 : (16 : Int32) < v3
  · simp only [if_pos hc10] at h
    refine OEnds.icmpF hm_4 rfl ((tlt hc10).2.2.2) ?_
    refine OEnds.adv hm_4 2 (pc' := 153) (L' := [qr 1, qu, qi v2, qi 16, qu, qu]) (S' := []) (H' := (c0 :: bk0 zf za zi zk zb zs zt zr zg zh zo zl zz zv zw zaa zab zq zc zd zp zu ze zy zx zm zj zn [])) rfl ?_
    exact ok_init_153 h
  · simp only [if_neg hc10] at h
    refine OEnds.icmpT hm_4 rfl (q := 153) rfl ((flt hc10).2.2.2) ?_
    show OEnds own_P 4 153 [qr 1, qu, qi v2, qi v3, qu, qu] [] (c0 :: bk0 zf za zi zk zb zs zt zr zg zh zo zl zz zv zw zaa zab zq zc zd zp zu ze zy zx zm zj zn []) _
    exact ok_init_153 h
theorem ok_init {c0 : ACell} {v1 v2 : Int32} {w_o_kwChars w_o_kwLen w_o_kwRepl w_o_pend w_o_child w_o_delta w_o_fail w_o_depth w_o_term w_o_outMask w_o_queue w_o_text w_o_masks w_o_out w_o_tail : List Int32} {w_o_maxKw w_o_maxLen w_o_phaseNow w_o_count w_o_pendLen w_o_nodeCount w_o_longestKw w_o_n w_o_state w_o_total w_o_outLen w_o_commitPos w_o_tailLen : Int32} (h : f_init v1 v2 = some (w_o_kwChars, w_o_kwLen, w_o_kwRepl, w_o_pend, w_o_child, w_o_delta, w_o_fail, w_o_depth, w_o_term, w_o_outMask, w_o_queue, w_o_text, w_o_masks, w_o_out, w_o_tail, w_o_maxKw, w_o_maxLen, w_o_phaseNow, w_o_count, w_o_pendLen, w_o_nodeCount, w_o_longestKw, w_o_n, w_o_state, w_o_total, w_o_outLen, w_o_commitPos, w_o_tailLen)) : OEnds own_P 4 0 [qr 1, qi v1, qi v2, qu, qu, qu] [] (c0 :: (.inl (0, [.null, .null, .null, .null, .null, .null, .null, .null, .null, .null, .null, .null, .null, .null, .null, .int 0, .int 0, .int 0, .int 0, .int 0, .int 0, .int 0, .int 0, .int 0, .int 0, .int 0, .int 0, .int 0]) : ACell) :: []) (none, (c0 :: bk0 w_o_kwChars w_o_kwLen w_o_kwRepl w_o_pend w_o_child w_o_delta w_o_fail w_o_depth w_o_term w_o_outMask w_o_queue w_o_text w_o_masks w_o_out w_o_tail w_o_maxKw w_o_maxLen w_o_phaseNow w_o_count w_o_pendLen w_o_nodeCount w_o_longestKw w_o_n w_o_state w_o_total w_o_outLen w_o_commitPos w_o_tailLen []), 15, 8249) := by
  unfold f_init at h
  refine OEnds.adv hm_4 1 (pc' := 1) (L' := [qr 1, qi v1, qi v2, qu, qu, qu]) (S' := [.ref 1]) (H' := (c0 :: (.inl (0, [.null, .null, .null, .null, .null, .null, .null, .null, .null, .null, .null, .null, .null, .null, .null, .int 0, .int 0, .int 0, .int 0, .int 0, .int 0, .int 0, .int 0, .int 0, .int 0, .int 0, .int 0, .int 0]) : ACell) :: [])) rfl ?_
  refine OEnds.oinit hm_4 rfl ⟨Nat.le_of_ble_eq_true rfl, Nat.le_of_ble_eq_true rfl⟩ ?_
  refine OEnds.adv hm_4 2 (pc' := 8) (L' := [qr 1, qi v1, qi v2, qu, qu, qu]) (S' := [.int 128, .ref 1]) (H' := (c0 :: (.inl (0, [.null, .null, .null, .null, .null, .null, .null, .null, .null, .null, .null, .null, .null, .null, .null, .int 0, .int 0, .int 0, .int 0, .int 0, .int 0, .int 0, .int 0, .int 0, .int 0, .int 0, .int 0, .int 0]) : ACell) :: [])) rfl ?_
  refine OEnds.made1 hm_4 rfl rfl (ks := 128) rfl rfl ?_
  refine OEnds.adv hm_4 3 (pc' := 16) (L' := [qr 1, qi v1, qi v2, qu, qu, qu]) (S' := [.int 16, .ref 1]) (H' := (c0 :: (.inl (0, [.ref 2, .null, .null, .null, .null, .null, .null, .null, .null, .null, .null, .null, .null, .null, .null, .int 0, .int 0, .int 0, .int 0, .int 0, .int 0, .int 0, .int 0, .int 0, .int 0, .int 0, .int 0, .int 0]) : ACell) :: .inr (.inl (false, (List.replicate 128 0))) :: [])) rfl ?_
  refine OEnds.made1 hm_4 rfl rfl (ks := 16) rfl rfl ?_
  refine OEnds.adv hm_4 3 (pc' := 24) (L' := [qr 1, qi v1, qi v2, qu, qu, qu]) (S' := [.int 16, .ref 1]) (H' := (c0 :: (.inl (0, [.ref 2, .ref 3, .null, .null, .null, .null, .null, .null, .null, .null, .null, .null, .null, .null, .null, .int 0, .int 0, .int 0, .int 0, .int 0, .int 0, .int 0, .int 0, .int 0, .int 0, .int 0, .int 0, .int 0]) : ACell) :: .inr (.inl (false, (List.replicate 128 0))) :: .inr (.inl (false, (List.replicate 16 0))) :: [])) rfl ?_
  refine OEnds.made1 hm_4 rfl rfl (ks := 16) rfl rfl ?_
  refine OEnds.adv hm_4 3 (pc' := 32) (L' := [qr 1, qi v1, qi v2, qu, qu, qu]) (S' := [.int 8, .ref 1]) (H' := (c0 :: (.inl (0, [.ref 2, .ref 3, .ref 4, .null, .null, .null, .null, .null, .null, .null, .null, .null, .null, .null, .null, .int 0, .int 0, .int 0, .int 0, .int 0, .int 0, .int 0, .int 0, .int 0, .int 0, .int 0, .int 0, .int 0]) : ACell) :: .inr (.inl (false, (List.replicate 128 0))) :: .inr (.inl (false, (List.replicate 16 0))) :: .inr (.inl (false, (List.replicate 16 0))) :: [])) rfl ?_
  refine OEnds.made1 hm_4 rfl rfl (ks := 8) rfl rfl ?_
  refine OEnds.adv hm_4 3 (pc' := 41) (L' := [qr 1, qi v1, qi v2, qu, qu, qu]) (S' := [.int 3354, .ref 1]) (H' := (c0 :: (.inl (0, [.ref 2, .ref 3, .ref 4, .ref 5, .null, .null, .null, .null, .null, .null, .null, .null, .null, .null, .null, .int 0, .int 0, .int 0, .int 0, .int 0, .int 0, .int 0, .int 0, .int 0, .int 0, .int 0, .int 0, .int 0]) : ACell) :: .inr (.inl (false, (List.replicate 128 0))) :: .inr (.inl (false, (List.replicate 16 0))) :: .inr (.inl (false, (List.replicate 16 0))) :: .inr (.inl (false, (List.replicate 8 0))) :: [])) rfl ?_
  refine OEnds.made1 hm_4 rfl rfl (ks := 3354) rfl rfl ?_
  refine OEnds.adv hm_4 3 (pc' := 50) (L' := [qr 1, qi v1, qi v2, qu, qu, qu]) (S' := [.int 3354, .ref 1]) (H' := (c0 :: (.inl (0, [.ref 2, .ref 3, .ref 4, .ref 5, .ref 6, .null, .null, .null, .null, .null, .null, .null, .null, .null, .null, .int 0, .int 0, .int 0, .int 0, .int 0, .int 0, .int 0, .int 0, .int 0, .int 0, .int 0, .int 0, .int 0]) : ACell) :: .inr (.inl (false, (List.replicate 128 0))) :: .inr (.inl (false, (List.replicate 16 0))) :: .inr (.inl (false, (List.replicate 16 0))) :: .inr (.inl (false, (List.replicate 8 0))) :: .inr (.inl (false, (List.replicate 3354 0))) :: [])) rfl ?_
  refine OEnds.made1 hm_4 rfl rfl (ks := 3354) rfl rfl ?_
  refine OEnds.adv hm_4 3 (pc' := 59) (L' := [qr 1, qi v1, qi v2, qu, qu, qu]) (S' := [.int 129, .ref 1]) (H' := (c0 :: (.inl (0, [.ref 2, .ref 3, .ref 4, .ref 5, .ref 6, .ref 7, .null, .null, .null, .null, .null, .null, .null, .null, .null, .int 0, .int 0, .int 0, .int 0, .int 0, .int 0, .int 0, .int 0, .int 0, .int 0, .int 0, .int 0, .int 0]) : ACell) :: .inr (.inl (false, (List.replicate 128 0))) :: .inr (.inl (false, (List.replicate 16 0))) :: .inr (.inl (false, (List.replicate 16 0))) :: .inr (.inl (false, (List.replicate 8 0))) :: .inr (.inl (false, (List.replicate 3354 0))) :: .inr (.inl (false, (List.replicate 3354 0))) :: [])) rfl ?_
  refine OEnds.made1 hm_4 rfl rfl (ks := 129) rfl rfl ?_
  refine OEnds.adv hm_4 3 (pc' := 68) (L' := [qr 1, qi v1, qi v2, qu, qu, qu]) (S' := [.int 129, .ref 1]) (H' := (c0 :: (.inl (0, [.ref 2, .ref 3, .ref 4, .ref 5, .ref 6, .ref 7, .ref 8, .null, .null, .null, .null, .null, .null, .null, .null, .int 0, .int 0, .int 0, .int 0, .int 0, .int 0, .int 0, .int 0, .int 0, .int 0, .int 0, .int 0, .int 0]) : ACell) :: .inr (.inl (false, (List.replicate 128 0))) :: .inr (.inl (false, (List.replicate 16 0))) :: .inr (.inl (false, (List.replicate 16 0))) :: .inr (.inl (false, (List.replicate 8 0))) :: .inr (.inl (false, (List.replicate 3354 0))) :: .inr (.inl (false, (List.replicate 3354 0))) :: .inr (.inl (false, (List.replicate 129 0))) :: [])) rfl ?_
  refine OEnds.made1 hm_4 rfl rfl (ks := 129) rfl rfl ?_
  refine OEnds.adv hm_4 3 (pc' := 77) (L' := [qr 1, qi v1, qi v2, qu, qu, qu]) (S' := [.int 129, .ref 1]) (H' := (c0 :: (.inl (0, [.ref 2, .ref 3, .ref 4, .ref 5, .ref 6, .ref 7, .ref 8, .ref 9, .null, .null, .null, .null, .null, .null, .null, .int 0, .int 0, .int 0, .int 0, .int 0, .int 0, .int 0, .int 0, .int 0, .int 0, .int 0, .int 0, .int 0]) : ACell) :: .inr (.inl (false, (List.replicate 128 0))) :: .inr (.inl (false, (List.replicate 16 0))) :: .inr (.inl (false, (List.replicate 16 0))) :: .inr (.inl (false, (List.replicate 8 0))) :: .inr (.inl (false, (List.replicate 3354 0))) :: .inr (.inl (false, (List.replicate 3354 0))) :: .inr (.inl (false, (List.replicate 129 0))) :: .inr (.inl (false, (List.replicate 129 0))) :: [])) rfl ?_
  refine OEnds.made1 hm_4 rfl rfl (ks := 129) rfl rfl ?_
  refine OEnds.adv hm_4 3 (pc' := 86) (L' := [qr 1, qi v1, qi v2, qu, qu, qu]) (S' := [.int 129, .ref 1]) (H' := (c0 :: (.inl (0, [.ref 2, .ref 3, .ref 4, .ref 5, .ref 6, .ref 7, .ref 8, .ref 9, .ref 10, .null, .null, .null, .null, .null, .null, .int 0, .int 0, .int 0, .int 0, .int 0, .int 0, .int 0, .int 0, .int 0, .int 0, .int 0, .int 0, .int 0]) : ACell) :: .inr (.inl (false, (List.replicate 128 0))) :: .inr (.inl (false, (List.replicate 16 0))) :: .inr (.inl (false, (List.replicate 16 0))) :: .inr (.inl (false, (List.replicate 8 0))) :: .inr (.inl (false, (List.replicate 3354 0))) :: .inr (.inl (false, (List.replicate 3354 0))) :: .inr (.inl (false, (List.replicate 129 0))) :: .inr (.inl (false, (List.replicate 129 0))) :: .inr (.inl (false, (List.replicate 129 0))) :: [])) rfl ?_
  refine OEnds.made1 hm_4 rfl rfl (ks := 129) rfl rfl ?_
  refine OEnds.adv hm_4 3 (pc' := 95) (L' := [qr 1, qi v1, qi v2, qu, qu, qu]) (S' := [.int 129, .ref 1]) (H' := (c0 :: (.inl (0, [.ref 2, .ref 3, .ref 4, .ref 5, .ref 6, .ref 7, .ref 8, .ref 9, .ref 10, .ref 11, .null, .null, .null, .null, .null, .int 0, .int 0, .int 0, .int 0, .int 0, .int 0, .int 0, .int 0, .int 0, .int 0, .int 0, .int 0, .int 0]) : ACell) :: .inr (.inl (false, (List.replicate 128 0))) :: .inr (.inl (false, (List.replicate 16 0))) :: .inr (.inl (false, (List.replicate 16 0))) :: .inr (.inl (false, (List.replicate 8 0))) :: .inr (.inl (false, (List.replicate 3354 0))) :: .inr (.inl (false, (List.replicate 3354 0))) :: .inr (.inl (false, (List.replicate 129 0))) :: .inr (.inl (false, (List.replicate 129 0))) :: .inr (.inl (false, (List.replicate 129 0))) :: .inr (.inl (false, (List.replicate 129 0))) :: [])) rfl ?_
  refine OEnds.made1 hm_4 rfl rfl (ks := 129) rfl rfl ?_
  refine OEnds.adv hm_4 3 (pc' := 104) (L' := [qr 1, qi v1, qi v2, qu, qu, qu]) (S' := [.int 240, .ref 1]) (H' := (c0 :: (.inl (0, [.ref 2, .ref 3, .ref 4, .ref 5, .ref 6, .ref 7, .ref 8, .ref 9, .ref 10, .ref 11, .ref 12, .null, .null, .null, .null, .int 0, .int 0, .int 0, .int 0, .int 0, .int 0, .int 0, .int 0, .int 0, .int 0, .int 0, .int 0, .int 0]) : ACell) :: .inr (.inl (false, (List.replicate 128 0))) :: .inr (.inl (false, (List.replicate 16 0))) :: .inr (.inl (false, (List.replicate 16 0))) :: .inr (.inl (false, (List.replicate 8 0))) :: .inr (.inl (false, (List.replicate 3354 0))) :: .inr (.inl (false, (List.replicate 3354 0))) :: .inr (.inl (false, (List.replicate 129 0))) :: .inr (.inl (false, (List.replicate 129 0))) :: .inr (.inl (false, (List.replicate 129 0))) :: .inr (.inl (false, (List.replicate 129 0))) :: .inr (.inl (false, (List.replicate 129 0))) :: [])) rfl ?_
  refine OEnds.made1 hm_4 rfl rfl (ks := 240) rfl rfl ?_
  refine OEnds.adv hm_4 3 (pc' := 113) (L' := [qr 1, qi v1, qi v2, qu, qu, qu]) (S' := [.int 240, .ref 1]) (H' := (c0 :: (.inl (0, [.ref 2, .ref 3, .ref 4, .ref 5, .ref 6, .ref 7, .ref 8, .ref 9, .ref 10, .ref 11, .ref 12, .ref 13, .null, .null, .null, .int 0, .int 0, .int 0, .int 0, .int 0, .int 0, .int 0, .int 0, .int 0, .int 0, .int 0, .int 0, .int 0]) : ACell) :: .inr (.inl (false, (List.replicate 128 0))) :: .inr (.inl (false, (List.replicate 16 0))) :: .inr (.inl (false, (List.replicate 16 0))) :: .inr (.inl (false, (List.replicate 8 0))) :: .inr (.inl (false, (List.replicate 3354 0))) :: .inr (.inl (false, (List.replicate 3354 0))) :: .inr (.inl (false, (List.replicate 129 0))) :: .inr (.inl (false, (List.replicate 129 0))) :: .inr (.inl (false, (List.replicate 129 0))) :: .inr (.inl (false, (List.replicate 129 0))) :: .inr (.inl (false, (List.replicate 129 0))) :: .inr (.inl (false, (List.replicate 240 0))) :: [])) rfl ?_
  refine OEnds.made1 hm_4 rfl rfl (ks := 240) rfl rfl ?_
  refine OEnds.adv hm_4 3 (pc' := 122) (L' := [qr 1, qi v1, qi v2, qu, qu, qu]) (S' := [.int 240, .ref 1]) (H' := (c0 :: (.inl (0, [.ref 2, .ref 3, .ref 4, .ref 5, .ref 6, .ref 7, .ref 8, .ref 9, .ref 10, .ref 11, .ref 12, .ref 13, .ref 14, .null, .null, .int 0, .int 0, .int 0, .int 0, .int 0, .int 0, .int 0, .int 0, .int 0, .int 0, .int 0, .int 0, .int 0]) : ACell) :: .inr (.inl (false, (List.replicate 128 0))) :: .inr (.inl (false, (List.replicate 16 0))) :: .inr (.inl (false, (List.replicate 16 0))) :: .inr (.inl (false, (List.replicate 8 0))) :: .inr (.inl (false, (List.replicate 3354 0))) :: .inr (.inl (false, (List.replicate 3354 0))) :: .inr (.inl (false, (List.replicate 129 0))) :: .inr (.inl (false, (List.replicate 129 0))) :: .inr (.inl (false, (List.replicate 129 0))) :: .inr (.inl (false, (List.replicate 129 0))) :: .inr (.inl (false, (List.replicate 129 0))) :: .inr (.inl (false, (List.replicate 240 0))) :: .inr (.inl (false, (List.replicate 240 0))) :: [])) rfl ?_
  refine OEnds.made1 hm_4 rfl rfl (ks := 240) rfl rfl ?_
  refine OEnds.adv hm_4 3 (pc' := 130) (L' := [qr 1, qi v1, qi v2, qu, qu, qu]) (S' := [.int 8, .ref 1]) (H' := (c0 :: (.inl (0, [.ref 2, .ref 3, .ref 4, .ref 5, .ref 6, .ref 7, .ref 8, .ref 9, .ref 10, .ref 11, .ref 12, .ref 13, .ref 14, .ref 15, .null, .int 0, .int 0, .int 0, .int 0, .int 0, .int 0, .int 0, .int 0, .int 0, .int 0, .int 0, .int 0, .int 0]) : ACell) :: .inr (.inl (false, (List.replicate 128 0))) :: .inr (.inl (false, (List.replicate 16 0))) :: .inr (.inl (false, (List.replicate 16 0))) :: .inr (.inl (false, (List.replicate 8 0))) :: .inr (.inl (false, (List.replicate 3354 0))) :: .inr (.inl (false, (List.replicate 3354 0))) :: .inr (.inl (false, (List.replicate 129 0))) :: .inr (.inl (false, (List.replicate 129 0))) :: .inr (.inl (false, (List.replicate 129 0))) :: .inr (.inl (false, (List.replicate 129 0))) :: .inr (.inl (false, (List.replicate 129 0))) :: .inr (.inl (false, (List.replicate 240 0))) :: .inr (.inl (false, (List.replicate 240 0))) :: .inr (.inl (false, (List.replicate 240 0))) :: [])) rfl ?_
  refine OEnds.made1 hm_4 rfl rfl (ks := 8) rfl rfl ?_
  refine OEnds.adv hm_4 5 (pc' := 139) (L' := [qr 1, qi v1, qi v2, qi v1, qu, qu]) (S' := [.int 1, .int v1]) (H' := (c0 :: bk0 (List.replicate 128 0) (List.replicate 16 0) (List.replicate 16 0) (List.replicate 8 0) (List.replicate 3354 0) (List.replicate 3354 0) (List.replicate 129 0) (List.replicate 129 0) (List.replicate 129 0) (List.replicate 129 0) (List.replicate 129 0) (List.replicate 240 0) (List.replicate 240 0) (List.replicate 240 0) (List.replicate 8 0) 0 0 0 0 0 0 0 0 0 0 0 0 0 [])) rfl ?_
  by_cases hc11 : v1 < (1 : Int32)
  · simp only [if_pos hc11] at h
    refine OEnds.icmpF hm_4 rfl ((tlt hc11).2.1) ?_
    refine OEnds.adv hm_4 2 (pc' := 144) (L' := [qr 1, qi v1, qi v2, qi 1, qu, qu]) (S' := []) (H' := (c0 :: bk0 (List.replicate 128 0) (List.replicate 16 0) (List.replicate 16 0) (List.replicate 8 0) (List.replicate 3354 0) (List.replicate 3354 0) (List.replicate 129 0) (List.replicate 129 0) (List.replicate 129 0) (List.replicate 129 0) (List.replicate 129 0) (List.replicate 240 0) (List.replicate 240 0) (List.replicate 240 0) (List.replicate 8 0) 0 0 0 0 0 0 0 0 0 0 0 0 0 [])) rfl ?_
    exact ok_init_144 h
  · simp only [if_neg hc11] at h
    refine OEnds.icmpT hm_4 rfl (q := 144) rfl ((flt hc11).2.1) ?_
    show OEnds own_P 4 144 [qr 1, qi v1, qi v2, qi v1, qu, qu] [] (c0 :: bk0 (List.replicate 128 0) (List.replicate 16 0) (List.replicate 16 0) (List.replicate 8 0) (List.replicate 3354 0) (List.replicate 3354 0) (List.replicate 129 0) (List.replicate 129 0) (List.replicate 129 0) (List.replicate 129 0) (List.replicate 129 0) (List.replicate 240 0) (List.replicate 240 0) (List.replicate 240 0) (List.replicate 8 0) 0 0 0 0 0 0 0 0 0 0 0 0 0 []) _
    exact ok_init_144 h
theorem ok_keywordCount {zf za zi zk zb zs zt zr zg zh zo zl zz zv zw : List Int32} {zaa zab zq zc zd zp zu ze zy zx zm zj zn : Int32} {c0 : ACell} {po : List ACell} {res : Int32} (h : f_keywordCount zc = some res) : OEnds own_P 6 0 [qr 1] [] (c0 :: bk0 zf za zi zk zb zs zt zr zg zh zo zl zz zv zw zaa zab zq zc zd zp zu ze zy zx zm zj zn po) (some (.int res), (c0 :: bk0 zf za zi zk zb zs zt zr zg zh zo zl zz zv zw zaa zab zq zc zd zp zu ze zy zx zm zj zn po), 0, 0) := by
  unfold f_keywordCount at h
  refine OEnds.adv hm_6 2 (pc' := 4) (L' := [qr 1]) (S' := [.int zc]) (H' := (c0 :: bk0 zf za zi zk zb zs zt zr zg zh zo zl zz zv zw zaa zab zq zc zd zp zu ze zy zx zm zj zn po)) rfl ?_
  cases h
  exact OEnds.iret hm_6 rfl rfl
theorem ok_keywordLength_19 {zf za zi zk zb zs zt zr zg zh zo zl zz zv zw : List Int32} {zaa zab zq zc zd zp zu ze zy zx zm zj zn : Int32} {c0 : ACell} {po : List ACell} : ∀ {v1 : Int32} {res : Int32}, f_keywordLength_19 za zc zd v1 = some res → OEnds own_P 7 19 [qr 1, qi v1] [] (c0 :: bk0 zf za zi zk zb zs zt zr zg zh zo zl zz zv zw zaa zab zq zc zd zp zu ze zy zx zm zj zn po) (some (.int res), (c0 :: bk0 zf za zi zk zb zs zt zr zg zh zo zl zz zv zw zaa zab zq zc zd zp zu ze zy zx zm zj zn po), 0, 0) := by
  intro v1 res h
  unfold f_keywordLength_19 at h
  refine OEnds.adv hm_7 3 (pc' := 24) (L' := [qr 1, qi v1]) (S' := [.int zc, .int v1]) (H' := (c0 :: bk0 zf za zi zk zb zs zt zr zg zh zo zl zz zv zw zaa zab zq zc zd zp zu ze zy zx zm zj zn po)) rfl ?_
  by_cases hc12 : v1 = zc
  · simp only [if_pos hc12] at h
    refine OEnds.icmpF hm_7 rfl ((teq hc12).2) ?_
    refine OEnds.adv hm_7 2 (pc' := 31) (L' := [qr 1, qi v1]) (S' := [.int zd]) (H' := (c0 :: bk0 zf za zi zk zb zs zt zr zg zh zo zl zz zv zw zaa zab zq zc zd zp zu ze zy zx zm zj zn po)) rfl ?_
    cases h
    exact OEnds.iret hm_7 rfl rfl
  · simp only [if_neg hc12] at h
    refine OEnds.icmpT hm_7 rfl (q := 32) rfl ((feq hc12).2) ?_
    refine OEnds.adv hm_7 1 (pc' := 33) (L' := [qr 1, qi v1]) (S' := [.int (-1)]) (H' := (c0 :: bk0 zf za zi zk zb zs zt zr zg zh zo zl zz zv zw zaa zab zq zc zd zp zu ze zy zx zm zj zn po)) rfl ?_
    cases h
    exact OEnds.iret hm_7 rfl rfl
theorem ok_keywordLength {zf za zi zk zb zs zt zr zg zh zo zl zz zv zw : List Int32} {zaa zab zq zc zd zp zu ze zy zx zm zj zn : Int32} {c0 : ACell} {po : List ACell} {v1 res : Int32} (h : f_keywordLength za zc zd v1 = some res) : OEnds own_P 7 0 [qr 1, qi v1] [] (c0 :: bk0 zf za zi zk zb zs zt zr zg zh zo zl zz zv zw zaa zab zq zc zd zp zu ze zy zx zm zj zn po) (some (.int res), (c0 :: bk0 zf za zi zk zb zs zt zr zg zh zo zl zz zv zw zaa zab zq zc zd zp zu ze zy zx zm zj zn po), 0, 0) := by
  unfold f_keywordLength at h
  refine OEnds.adv hm_7 1 (pc' := 1) (L' := [qr 1, qi v1]) (S' := [.int v1]) (H' := (c0 :: bk0 zf za zi zk zb zs zt zr zg zh zo zl zz zv zw zaa zab zq zc zd zp zu ze zy zx zm zj zn po)) rfl ?_
  by_cases hc13 : v1 < (0 : Int32)
  · simp only [if_pos hc13] at h
    refine OEnds.ifT hm_7 rfl (q := 19) rfl ((tlt hc13).1) ?_
    show OEnds own_P 7 19 [qr 1, qi v1] [] (c0 :: bk0 zf za zi zk zb zs zt zr zg zh zo zl zz zv zw zaa zab zq zc zd zp zu ze zy zx zm zj zn po) _
    exact ok_keywordLength_19 h
  · simp only [if_neg hc13] at h
    refine OEnds.ifF hm_7 rfl ((flt hc13).1) ?_
    refine OEnds.adv hm_7 3 (pc' := 9) (L' := [qr 1, qi v1]) (S' := [.int zc, .int v1]) (H' := (c0 :: bk0 zf za zi zk zb zs zt zr zg zh zo zl zz zv zw zaa zab zq zc zd zp zu ze zy zx zm zj zn po)) rfl ?_
    by_cases hc14 : v1 < zc
    · simp only [if_pos hc14] at h
      refine OEnds.icmpF hm_7 rfl ((tlt hc14).2.1) ?_
      refine OEnds.adv hm_7 3 (pc' := 17) (L' := [qr 1, qi v1]) (S' := [.int v1, .ref 3]) (H' := (c0 :: bk0 zf za zi zk zb zs zt zr zg zh zo zl zz zv zw zaa zab zq zc zd zp zu ze zy zx zm zj zn po)) rfl ?_
      obtain ⟨x9, hx9, h⟩ := bnd h
      refine OEnds.plain hm_7 rfl rfl (x_iaload rfl hx9) ?_
      show OEnds own_P 7 18 [qr 1, qi v1] [.int x9] (c0 :: bk0 zf za zi zk zb zs zt zr zg zh zo zl zz zv zw zaa zab zq zc zd zp zu ze zy zx zm zj zn po) _
      cases h
      exact OEnds.iret hm_7 rfl rfl
    · simp only [if_neg hc14] at h
      refine OEnds.icmpT hm_7 rfl (q := 19) rfl ((flt hc14).2.1) ?_
      show OEnds own_P 7 19 [qr 1, qi v1] [] (c0 :: bk0 zf za zi zk zb zs zt zr zg zh zo zl zz zv zw zaa zab zq zc zd zp zu ze zy zx zm zj zn po) _
      exact ok_keywordLength_19 h
theorem ok_acceptedChar {zf za zi zk zb zs zt zr zg zh zo zl zz zv zw : List Int32} {zaa zab zq zc zd zp zu ze zy zx zm zj zn : Int32} {c0 : ACell} {po : List ACell} {v1 v2 res : Int32} (h : f_acceptedChar zf za zi v1 v2 = some res) : OEnds own_P 32 0 [qr 1, qi v1, qi v2] [] (c0 :: bk0 zf za zi zk zb zs zt zr zg zh zo zl zz zv zw zaa zab zq zc zd zp zu ze zy zx zm zj zn po) (some (.int res), (c0 :: bk0 zf za zi zk zb zs zt zr zg zh zo zl zz zv zw zaa zab zq zc zd zp zu ze zy zx zm zj zn po), 0, 0) := by
  unfold f_acceptedChar at h
  refine OEnds.adv hm_32 2 (pc' := 2) (L' := [qr 1, qi v1, qi v2]) (S' := [.int (-1), .int v2]) (H' := (c0 :: bk0 zf za zi zk zb zs zt zr zg zh zo zl zz zv zw zaa zab zq zc zd zp zu ze zy zx zm zj zn po)) rfl ?_
  by_cases hc15 : v2 = (-1 : Int32)
  · simp only [if_pos hc15] at h
    refine OEnds.icmpF hm_32 rfl ((teq hc15).2) ?_
    refine OEnds.adv hm_32 3 (pc' := 10) (L' := [qr 1, qi v1, qi v2]) (S' := [.int v1, .ref 4]) (H' := (c0 :: bk0 zf za zi zk zb zs zt zr zg zh zo zl zz zv zw zaa zab zq zc zd zp zu ze zy zx zm zj zn po)) rfl ?_
    obtain ⟨x12, hx12, h⟩ := bnd h
    refine OEnds.plain hm_32 rfl rfl (x_iaload rfl hx12) ?_
    show OEnds own_P 32 11 [qr 1, qi v1, qi v2] [.int x12] (c0 :: bk0 zf za zi zk zb zs zt zr zg zh zo zl zz zv zw zaa zab zq zc zd zp zu ze zy zx zm zj zn po) _
    cases h
    exact OEnds.iret hm_32 rfl rfl
  · simp only [if_neg hc15] at h
    refine OEnds.icmpT hm_32 rfl (q := 12) rfl ((feq hc15).2) ?_
    refine OEnds.adv hm_32 1 (pc' := 13) (L' := [qr 1, qi v1, qi v2]) (S' := [.int v2]) (H' := (c0 :: bk0 zf za zi zk zb zs zt zr zg zh zo zl zz zv zw zaa zab zq zc zd zp zu ze zy zx zm zj zn po)) rfl ?_
    by_cases hc16 : v2 < (0 : Int32)
    · simp only [if_pos hc16] at h
      refine OEnds.ifT hm_32 rfl (q := 38) rfl ((tlt hc16).1) ?_
      refine OEnds.adv hm_32 1 (pc' := 39) (L' := [qr 1, qi v1, qi v2]) (S' := [.int (-1)]) (H' := (c0 :: bk0 zf za zi zk zb zs zt zr zg zh zo zl zz zv zw zaa zab zq zc zd zp zu ze zy zx zm zj zn po)) rfl ?_
      cases h
      exact OEnds.iret hm_32 rfl rfl
    · simp only [if_neg hc16] at h
      refine OEnds.ifF hm_32 rfl ((flt hc16).1) ?_
      refine OEnds.adv hm_32 4 (pc' := 22) (L' := [qr 1, qi v1, qi v2]) (S' := [.int v1, .ref 3, .int v2]) (H' := (c0 :: bk0 zf za zi zk zb zs zt zr zg zh zo zl zz zv zw zaa zab zq zc zd zp zu ze zy zx zm zj zn po)) rfl ?_
      obtain ⟨x10, hx10, h⟩ := bnd h
      refine OEnds.plain hm_32 rfl rfl (x_iaload rfl hx10) ?_
      show OEnds own_P 32 23 [qr 1, qi v1, qi v2] [.int x10, .int v2] (c0 :: bk0 zf za zi zk zb zs zt zr zg zh zo zl zz zv zw zaa zab zq zc zd zp zu ze zy zx zm zj zn po) _
      by_cases hc17 : v2 < x10
      · simp only [if_pos hc17] at h
        refine OEnds.icmpF hm_32 rfl ((tlt hc17).2.1) ?_
        refine OEnds.adv hm_32 7 (pc' := 36) (L' := [qr 1, qi v1, qi v2]) (S' := [.int ((v1 * (8 : Int32)) + v2), .ref 2]) (H' := (c0 :: bk0 zf za zi zk zb zs zt zr zg zh zo zl zz zv zw zaa zab zq zc zd zp zu ze zy zx zm zj zn po)) rfl ?_
        obtain ⟨x11, hx11, h⟩ := bnd h
        refine OEnds.plain hm_32 rfl rfl (x_iaload rfl hx11) ?_
        show OEnds own_P 32 37 [qr 1, qi v1, qi v2] [.int x11] (c0 :: bk0 zf za zi zk zb zs zt zr zg zh zo zl zz zv zw zaa zab zq zc zd zp zu ze zy zx zm zj zn po) _
        cases h
        exact OEnds.iret hm_32 rfl rfl
      · simp only [if_neg hc17] at h
        refine OEnds.icmpT hm_32 rfl (q := 38) rfl ((flt hc17).2.1) ?_
        refine OEnds.adv hm_32 1 (pc' := 39) (L' := [qr 1, qi v1, qi v2]) (S' := [.int (-1)]) (H' := (c0 :: bk0 zf za zi zk zb zs zt zr zg zh zo zl zz zv zw zaa zab zq zc zd zp zu ze zy zx zm zj zn po)) rfl ?_
        cases h
        exact OEnds.iret hm_32 rfl rfl
theorem ok_keywordChar_19 {zf za zi zk zb zs zt zr zg zh zo zl zz zv zw : List Int32} {zaa zab zq zc zd zp zu ze zy zx zm zj zn : Int32} {c0 : ACell} {po : List ACell} : ∀ {v1 v2 : Int32} {res : Int32}, f_keywordChar_19 zf za zi zk zc zd v1 v2 = some res → OEnds own_P 31 19 [qr 1, qi v1, qi v2] [] (c0 :: bk0 zf za zi zk zb zs zt zr zg zh zo zl zz zv zw zaa zab zq zc zd zp zu ze zy zx zm zj zn po) (some (.int res), (c0 :: bk0 zf za zi zk zb zs zt zr zg zh zo zl zz zv zw zaa zab zq zc zd zp zu ze zy zx zm zj zn po), 0, 0) := by
  intro v1 v2 res h
  unfold f_keywordChar_19 at h
  refine OEnds.adv hm_31 3 (pc' := 24) (L' := [qr 1, qi v1, qi v2]) (S' := [.int zc, .int v1]) (H' := (c0 :: bk0 zf za zi zk zb zs zt zr zg zh zo zl zz zv zw zaa zab zq zc zd zp zu ze zy zx zm zj zn po)) rfl ?_
  by_cases hc18 : v1 = zc
  · simp only [if_pos hc18] at h
    refine OEnds.icmpF hm_31 rfl ((teq hc18).2) ?_
    refine OEnds.adv hm_31 1 (pc' := 28) (L' := [qr 1, qi v1, qi v2]) (S' := [.int v2]) (H' := (c0 :: bk0 zf za zi zk zb zs zt zr zg zh zo zl zz zv zw zaa zab zq zc zd zp zu ze zy zx zm zj zn po)) rfl ?_
    by_cases hc19 : v2 < (0 : Int32)
    · simp only [if_pos hc19] at h
      refine OEnds.ifT hm_31 rfl (q := 46) rfl ((tlt hc19).1) ?_
      refine OEnds.adv hm_31 1 (pc' := 47) (L' := [qr 1, qi v1, qi v2]) (S' := [.int (-1)]) (H' := (c0 :: bk0 zf za zi zk zb zs zt zr zg zh zo zl zz zv zw zaa zab zq zc zd zp zu ze zy zx zm zj zn po)) rfl ?_
      cases h
      exact OEnds.iret hm_31 rfl rfl
    · simp only [if_neg hc19] at h
      refine OEnds.ifF hm_31 rfl ((flt hc19).1) ?_
      refine OEnds.adv hm_31 3 (pc' := 36) (L' := [qr 1, qi v1, qi v2]) (S' := [.int zd, .int v2]) (H' := (c0 :: bk0 zf za zi zk zb zs zt zr zg zh zo zl zz zv zw zaa zab zq zc zd zp zu ze zy zx zm zj zn po)) rfl ?_
      by_cases hc20 : v2 < zd
      · simp only [if_pos hc20] at h
        refine OEnds.icmpF hm_31 rfl ((tlt hc20).2.1) ?_
        refine OEnds.adv hm_31 3 (pc' := 44) (L' := [qr 1, qi v1, qi v2]) (S' := [.int v2, .ref 5]) (H' := (c0 :: bk0 zf za zi zk zb zs zt zr zg zh zo zl zz zv zw zaa zab zq zc zd zp zu ze zy zx zm zj zn po)) rfl ?_
        obtain ⟨x14, hx14, h⟩ := bnd h
        refine OEnds.plain hm_31 rfl rfl (x_iaload rfl hx14) ?_
        show OEnds own_P 31 45 [qr 1, qi v1, qi v2] [.int x14] (c0 :: bk0 zf za zi zk zb zs zt zr zg zh zo zl zz zv zw zaa zab zq zc zd zp zu ze zy zx zm zj zn po) _
        cases h
        exact OEnds.iret hm_31 rfl rfl
      · simp only [if_neg hc20] at h
        refine OEnds.icmpT hm_31 rfl (q := 46) rfl ((flt hc20).2.1) ?_
        refine OEnds.adv hm_31 1 (pc' := 47) (L' := [qr 1, qi v1, qi v2]) (S' := [.int (-1)]) (H' := (c0 :: bk0 zf za zi zk zb zs zt zr zg zh zo zl zz zv zw zaa zab zq zc zd zp zu ze zy zx zm zj zn po)) rfl ?_
        cases h
        exact OEnds.iret hm_31 rfl rfl
  · simp only [if_neg hc18] at h
    refine OEnds.icmpT hm_31 rfl (q := 46) rfl ((feq hc18).2) ?_
    refine OEnds.adv hm_31 1 (pc' := 47) (L' := [qr 1, qi v1, qi v2]) (S' := [.int (-1)]) (H' := (c0 :: bk0 zf za zi zk zb zs zt zr zg zh zo zl zz zv zw zaa zab zq zc zd zp zu ze zy zx zm zj zn po)) rfl ?_
    cases h
    exact OEnds.iret hm_31 rfl rfl
theorem ok_keywordChar {zf za zi zk zb zs zt zr zg zh zo zl zz zv zw : List Int32} {zaa zab zq zc zd zp zu ze zy zx zm zj zn : Int32} {c0 : ACell} {po : List ACell} {v1 v2 res : Int32} (h : f_keywordChar zf za zi zk zc zd v1 v2 = some res) : OEnds own_P 31 0 [qr 1, qi v1, qi v2] [] (c0 :: bk0 zf za zi zk zb zs zt zr zg zh zo zl zz zv zw zaa zab zq zc zd zp zu ze zy zx zm zj zn po) (some (.int res), (c0 :: bk0 zf za zi zk zb zs zt zr zg zh zo zl zz zv zw zaa zab zq zc zd zp zu ze zy zx zm zj zn po), 0, 0) := by
  unfold f_keywordChar at h
  refine OEnds.adv hm_31 1 (pc' := 1) (L' := [qr 1, qi v1, qi v2]) (S' := [.int v1]) (H' := (c0 :: bk0 zf za zi zk zb zs zt zr zg zh zo zl zz zv zw zaa zab zq zc zd zp zu ze zy zx zm zj zn po)) rfl ?_
  by_cases hc21 : v1 < (0 : Int32)
  · simp only [if_pos hc21] at h
    refine OEnds.ifT hm_31 rfl (q := 19) rfl ((tlt hc21).1) ?_
    show OEnds own_P 31 19 [qr 1, qi v1, qi v2] [] (c0 :: bk0 zf za zi zk zb zs zt zr zg zh zo zl zz zv zw zaa zab zq zc zd zp zu ze zy zx zm zj zn po) _
    exact ok_keywordChar_19 h
  · simp only [if_neg hc21] at h
    refine OEnds.ifF hm_31 rfl ((flt hc21).1) ?_
    refine OEnds.adv hm_31 3 (pc' := 9) (L' := [qr 1, qi v1, qi v2]) (S' := [.int zc, .int v1]) (H' := (c0 :: bk0 zf za zi zk zb zs zt zr zg zh zo zl zz zv zw zaa zab zq zc zd zp zu ze zy zx zm zj zn po)) rfl ?_
    by_cases hc22 : v1 < zc
    · simp only [if_pos hc22] at h
      refine OEnds.icmpF hm_31 rfl ((tlt hc22).2.1) ?_
      refine OEnds.adv hm_31 3 (pc' := 15) (L' := [qr 1, qi v1, qi v2]) (S' := [.int v2, .int v1, .ref 1]) (H' := (c0 :: bk0 zf za zi zk zb zs zt zr zg zh zo zl zz zv zw zaa zab zq zc zd zp zu ze zy zx zm zj zn po)) rfl ?_
      obtain ⟨r13, hq23, h⟩ := bnd h
      refine OEnds.call0 hm_31 rfl rfl (by decide) rfl (as := [.ref 1, .int v1, .int v2]) (rest := []) rfl rfl (ok_acceptedChar hq23) ?_
      show OEnds own_P 31 18 [qr 1, qi v1, qi v2] [.int r13] (c0 :: bk0 zf za zi zk zb zs zt zr zg zh zo zl zz zv zw zaa zab zq zc zd zp zu ze zy zx zm zj zn po) _
      cases h
      exact OEnds.iret hm_31 rfl rfl
    · simp only [if_neg hc22] at h
      refine OEnds.icmpT hm_31 rfl (q := 19) rfl ((flt hc22).2.1) ?_
      show OEnds own_P 31 19 [qr 1, qi v1, qi v2] [] (c0 :: bk0 zf za zi zk zb zs zt zr zg zh zo zl zz zv zw zaa zab zq zc zd zp zu ze zy zx zm zj zn po) _
      exact ok_keywordChar_19 h
theorem ok_isPrintable {zf za zi zk zb zs zt zr zg zh zo zl zz zv zw : List Int32} {zaa zab zq zc zd zp zu ze zy zx zm zj zn : Int32} {c0 : ACell} {po : List ACell} {v1 res : Int32} (h : f_isPrintable v1 = some res) : OEnds own_P 11 0 [qr 1, qi v1] [] (c0 :: bk0 zf za zi zk zb zs zt zr zg zh zo zl zz zv zw zaa zab zq zc zd zp zu ze zy zx zm zj zn po) (some (.int res), (c0 :: bk0 zf za zi zk zb zs zt zr zg zh zo zl zz zv zw zaa zab zq zc zd zp zu ze zy zx zm zj zn po), 0, 0) := by
  unfold f_isPrintable at h
  refine OEnds.adv hm_11 2 (pc' := 3) (L' := [qr 1, qi v1]) (S' := [.int 32, .int v1]) (H' := (c0 :: bk0 zf za zi zk zb zs zt zr zg zh zo zl zz zv zw zaa zab zq zc zd zp zu ze zy zx zm zj zn po)) rfl ?_
  by_cases hc24 : v1 < (32 : Int32)
  · simp only [if_pos hc24] at h
    refine OEnds.icmpT hm_11 rfl (q := 16) rfl ((tlt hc24).1) ?_
    refine OEnds.adv hm_11 1 (pc' := 17) (L' := [qr 1, qi v1]) (S' := [.int 0]) (H' := (c0 :: bk0 zf za zi zk zb zs zt zr zg zh zo zl zz zv zw zaa zab zq zc zd zp zu ze zy zx zm zj zn po)) rfl ?_
    cases h
    exact OEnds.iret hm_11 rfl rfl
  · simp only [if_neg hc24] at h
    refine OEnds.icmpF hm_11 rfl ((flt hc24).1) ?_
    refine OEnds.adv hm_11 2 (pc' := 9) (L' := [qr 1, qi v1]) (S' := [.int 126, .int v1]) (H' := (c0 :: bk0 zf za zi zk zb zs zt zr zg zh zo zl zz zv zw zaa zab zq zc zd zp zu ze zy zx zm zj zn po)) rfl ?_
    by_cases hc25 : (126 : Int32) < v1
    · simp only [if_pos hc25] at h
      refine OEnds.icmpT hm_11 rfl (q := 16) rfl ((tlt hc25).2.2.1) ?_
      refine OEnds.adv hm_11 1 (pc' := 17) (L' := [qr 1, qi v1]) (S' := [.int 0]) (H' := (c0 :: bk0 zf za zi zk zb zs zt zr zg zh zo zl zz zv zw zaa zab zq zc zd zp zu ze zy zx zm zj zn po)) rfl ?_
      cases h
      exact OEnds.iret hm_11 rfl rfl
    · simp only [if_neg hc25] at h
      refine OEnds.icmpF hm_11 rfl ((flt hc25).2.2.1) ?_
      refine OEnds.adv hm_11 2 (pc' := 17) (L' := [qr 1, qi v1]) (S' := [.int 1]) (H' := (c0 :: bk0 zf za zi zk zb zs zt zr zg zh zo zl zz zv zw zaa zab zq zc zd zp zu ze zy zx zm zj zn po)) rfl ?_
      cases h
      exact OEnds.iret hm_11 rfl rfl
theorem ok_pendingEquals_22 {zf za zi zk zb zs zt zr zg zh zo zl zz zv zw : List Int32} {zaa zab zq zc zd zp zu ze zy zx zm zj zn : Int32} {c0 : ACell} {po : List ACell} : ∀ (n : Nat), ∀ {v2 v3 : Int32} {d1 : Slot} {res : Int32}, f_pendingEquals_22 zf za zk zd n v2 v3 = some res → OEnds own_P 35 22 [qr 1, d1, qi v2, qi v3] [] (c0 :: bk0 zf za zi zk zb zs zt zr zg zh zo zl zz zv zw zaa zab zq zc zd zp zu ze zy zx zm zj zn po) (some (.int res), (c0 :: bk0 zf za zi zk zb zs zt zr zg zh zo zl zz zv zw zaa zab zq zc zd zp zu ze zy zx zm zj zn po), 0, 0) := by
  intro n
  induction n with
  | zero => intro v2 v3 d1 res h; cases h
  | succ n ih =>
    intro v2 v3 d1 res h
    unfold f_pendingEquals_22 at h
    refine OEnds.adv hm_35 3 (pc' := 27) (L' := [qr 1, qu, qi v2, qi v3]) (S' := [.int zd, .int v3]) (H' := (c0 :: bk0 zf za zi zk zb zs zt zr zg zh zo zl zz zv zw zaa zab zq zc zd zp zu ze zy zx zm zj zn po)) rfl ?_
    by_cases hc26 : v3 < zd
    · simp only [if_pos hc26] at h
      refine OEnds.icmpF hm_35 rfl ((tlt hc26).2.1) ?_
      refine OEnds.adv hm_35 2 (pc' := 33) (L' := [qr 1, qu, qi v2, qi v3]) (S' := [.int 8, .int v3]) (H' := (c0 :: bk0 zf za zi zk zb zs zt zr zg zh zo zl zz zv zw zaa zab zq zc zd zp zu ze zy zx zm zj zn po)) rfl ?_
      by_cases hc27 : v3 < (8 : Int32)
      · simp only [if_pos hc27] at h
        refine OEnds.icmpF hm_35 rfl ((tlt hc27).2.1) ?_
        refine OEnds.adv hm_35 5 (pc' := 43) (L' := [qr 1, qu, qi v2, qi v3]) (S' := [.int (v2 + v3), .ref 2]) (H' := (c0 :: bk0 zf za zi zk zb zs zt zr zg zh zo zl zz zv zw zaa zab zq zc zd zp zu ze zy zx zm zj zn po)) rfl ?_
        obtain ⟨x16, hx16, h⟩ := bnd h
        refine OEnds.plain hm_35 rfl rfl (x_iaload rfl hx16) ?_
        refine OEnds.adv hm_35 3 (pc' := 49) (L' := [qr 1, qu, qi v2, qi v3]) (S' := [.int v3, .ref 5, .int x16]) (H' := (c0 :: bk0 zf za zi zk zb zs zt zr zg zh zo zl zz zv zw zaa zab zq zc zd zp zu ze zy zx zm zj zn po)) rfl ?_
        obtain ⟨x17, hx17, h⟩ := bnd h
        refine OEnds.plain hm_35 rfl rfl (x_iaload rfl hx17) ?_
        show OEnds own_P 35 50 [qr 1, qu, qi v2, qi v3] [.int x17, .int x16] (c0 :: bk0 zf za zi zk zb zs zt zr zg zh zo zl zz zv zw zaa zab zq zc zd zp zu ze zy zx zm zj zn po) _
        by_cases hc28 : x16 = x17
        · simp only [if_pos hc28] at h
          refine OEnds.icmpT hm_35 rfl (q := 55) rfl ((teq hc28).1) ?_
          refine OEnds.adv hm_35 2 (pc' := 22) (L' := [qr 1, qu, qi v2, qi (v3 + (1 : Int32))]) (S' := []) (H' := (c0 :: bk0 zf za zi zk zb zs zt zr zg zh zo zl zz zv zw zaa zab zq zc zd zp zu ze zy zx zm zj zn po)) rfl ?_
          exact ih h
        · simp only [if_neg hc28] at h
          refine OEnds.icmpF hm_35 rfl ((feq hc28).1) ?_
          refine OEnds.adv hm_35 1 (pc' := 54) (L' := [qr 1, qu, qi v2, qi v3]) (S' := [.int 0]) (H' := (c0 :: bk0 zf za zi zk zb zs zt zr zg zh zo zl zz zv zw zaa zab zq zc zd zp zu ze zy zx zm zj zn po)) rfl ?_
          cases h
          exact OEnds.iret hm_35 rfl rfl
      · simp only [if_neg hc27] at h
        refine OEnds.icmpT hm_35 rfl (q := 61) rfl ((flt hc27).2.1) ?_
        refine OEnds.adv hm_35 1 (pc' := 62) (L' := [qr 1, qu, qi v2, qi v3]) (S' := [.int 1]) (H' := (c0 :: bk0 zf za zi zk zb zs zt zr zg zh zo zl zz zv zw zaa zab zq zc zd zp zu ze zy zx zm zj zn po)) rfl ?_
        cases h
        exact OEnds.iret hm_35 rfl rfl
    · simp only [if_neg hc26] at h
      refine OEnds.icmpT hm_35 rfl (q := 61) rfl ((flt hc26).2.1) ?_
      refine OEnds.adv hm_35 1 (pc' := 62) (L' := [qr 1, qu, qi v2, qi v3]) (S' := [.int 1]) (H' := (c0 :: bk0 zf za zi zk zb zs zt zr zg zh zo zl zz zv zw zaa zab zq zc zd zp zu ze zy zx zm zj zn po)) rfl ?_
      cases h
      exact OEnds.iret hm_35 rfl rfl
theorem ok_pendingEquals {zf za zi zk zb zs zt zr zg zh zo zl zz zv zw : List Int32} {zaa zab zq zc zd zp zu ze zy zx zm zj zn : Int32} {c0 : ACell} {po : List ACell} {v1 res : Int32} (h : f_pendingEquals zf za zk zd v1 = some res) : OEnds own_P 35 0 [qr 1, qi v1, qu, qu] [] (c0 :: bk0 zf za zi zk zb zs zt zr zg zh zo zl zz zv zw zaa zab zq zc zd zp zu ze zy zx zm zj zn po) (some (.int res), (c0 :: bk0 zf za zi zk zb zs zt zr zg zh zo zl zz zv zw zaa zab zq zc zd zp zu ze zy zx zm zj zn po), 0, 0) := by
  unfold f_pendingEquals at h
  refine OEnds.adv hm_35 3 (pc' := 5) (L' := [qr 1, qi v1, qu, qu]) (S' := [.int v1, .ref 3]) (H' := (c0 :: bk0 zf za zi zk zb zs zt zr zg zh zo zl zz zv zw zaa zab zq zc zd zp zu ze zy zx zm zj zn po)) rfl ?_
  obtain ⟨x15, hx15, h⟩ := bnd h
  refine OEnds.plain hm_35 rfl rfl (x_iaload rfl hx15) ?_
  refine OEnds.adv hm_35 2 (pc' := 10) (L' := [qr 1, qi v1, qu, qu]) (S' := [.int zd, .int x15]) (H' := (c0 :: bk0 zf za zi zk zb zs zt zr zg zh zo zl zz zv zw zaa zab zq zc zd zp zu ze zy zx zm zj zn po)) rfl ?_
  by_cases hc29 : x15 = zd
  · simp only [if_pos hc29] at h
    refine OEnds.icmpT hm_35 rfl (q := 15) rfl ((teq hc29).1) ?_
    refine OEnds.adv hm_35 6 (pc' := 22) (L' := [qr 1, qi v1, qi (v1 * (8 : Int32)), qi 0]) (S' := []) (H' := (c0 :: bk0 zf za zi zk zb zs zt zr zg zh zo zl zz zv zw zaa zab zq zc zd zp zu ze zy zx zm zj zn po)) rfl ?_
    exact ok_pendingEquals_22 100000 h
  · simp only [if_neg hc29] at h
    refine OEnds.icmpF hm_35 rfl ((feq hc29).1) ?_
    refine OEnds.adv hm_35 1 (pc' := 14) (L' := [qr 1, qi v1, qu, qu]) (S' := [.int 0]) (H' := (c0 :: bk0 zf za zi zk zb zs zt zr zg zh zo zl zz zv zw zaa zab zq zc zd zp zu ze zy zx zm zj zn po)) rfl ?_
    cases h
    exact OEnds.iret hm_35 rfl rfl
theorem ok_pendingIsDuplicate_2 {zf za zi zk zb zs zt zr zg zh zo zl zz zv zw : List Int32} {zaa zab zq zc zd zp zu ze zy zx zm zj zn : Int32} {c0 : ACell} {po : List ACell} : ∀ (n : Nat), ∀ {v1 : Int32} {res : Int32}, f_pendingIsDuplicate_2 zf za zk zc zd n v1 = some res → OEnds own_P 12 2 [qr 1, qi v1] [] (c0 :: bk0 zf za zi zk zb zs zt zr zg zh zo zl zz zv zw zaa zab zq zc zd zp zu ze zy zx zm zj zn po) (some (.int res), (c0 :: bk0 zf za zi zk zb zs zt zr zg zh zo zl zz zv zw zaa zab zq zc zd zp zu ze zy zx zm zj zn po), 0, 0) := by
  intro n
  induction n with
  | zero => intro v1 res h; cases h
  | succ n ih =>
    intro v1 res h
    unfold f_pendingIsDuplicate_2 at h
    refine OEnds.adv hm_12 3 (pc' := 7) (L' := [qr 1, qi v1]) (S' := [.int zc, .int v1]) (H' := (c0 :: bk0 zf za zi zk zb zs zt zr zg zh zo zl zz zv zw zaa zab zq zc zd zp zu ze zy zx zm zj zn po)) rfl ?_
    by_cases hc30 : v1 < zc
    · simp only [if_pos hc30] at h
      refine OEnds.icmpF hm_12 rfl ((tlt hc30).2.1) ?_
      refine OEnds.adv hm_12 2 (pc' := 13) (L' := [qr 1, qi v1]) (S' := [.int 16, .int v1]) (H' := (c0 :: bk0 zf za zi zk zb zs zt zr zg zh zo zl zz zv zw zaa zab zq zc zd zp zu ze zy zx zm zj zn po)) rfl ?_
      by_cases hc31 : v1 < (16 : Int32)
      · simp only [if_pos hc31] at h
        refine OEnds.icmpF hm_12 rfl ((tlt hc31).2.1) ?_
        refine OEnds.adv hm_12 2 (pc' := 18) (L' := [qr 1, qi v1]) (S' := [.int v1, .ref 1]) (H' := (c0 :: bk0 zf za zi zk zb zs zt zr zg zh zo zl zz zv zw zaa zab zq zc zd zp zu ze zy zx zm zj zn po)) rfl ?_
        obtain ⟨r18, hq32, h⟩ := bnd h
        refine OEnds.call0 hm_12 rfl rfl (by decide) rfl (as := [.ref 1, .int v1]) (rest := []) rfl rfl (ok_pendingEquals hq32) ?_
        show OEnds own_P 12 21 [qr 1, qi v1] [.int r18] (c0 :: bk0 zf za zi zk zb zs zt zr zg zh zo zl zz zv zw zaa zab zq zc zd zp zu ze zy zx zm zj zn po) _
        by_cases hc33 : r18 = (0 : Int32)
        · simp only [if_pos hc33] at h
          refine OEnds.ifT hm_12 rfl (q := 26) rfl ((teq hc33).1) ?_
          refine OEnds.adv hm_12 2 (pc' := 2) (L' := [qr 1, qi (v1 + (1 : Int32))]) (S' := []) (H' := (c0 :: bk0 zf za zi zk zb zs zt zr zg zh zo zl zz zv zw zaa zab zq zc zd zp zu ze zy zx zm zj zn po)) rfl ?_
          exact ih h
        · simp only [if_neg hc33] at h
          refine OEnds.ifF hm_12 rfl ((feq hc33).1) ?_
          refine OEnds.adv hm_12 1 (pc' := 25) (L' := [qr 1, qi v1]) (S' := [.int 1]) (H' := (c0 :: bk0 zf za zi zk zb zs zt zr zg zh zo zl zz zv zw zaa zab zq zc zd zp zu ze zy zx zm zj zn po)) rfl ?_
          cases h
          exact OEnds.iret hm_12 rfl rfl
      · simp only [if_neg hc31] at h
        refine OEnds.icmpT hm_12 rfl (q := 32) rfl ((flt hc31).2.1) ?_
        refine OEnds.adv hm_12 1 (pc' := 33) (L' := [qr 1, qi v1]) (S' := [.int 0]) (H' := (c0 :: bk0 zf za zi zk zb zs zt zr zg zh zo zl zz zv zw zaa zab zq zc zd zp zu ze zy zx zm zj zn po)) rfl ?_
        cases h
        exact OEnds.iret hm_12 rfl rfl
    · simp only [if_neg hc30] at h
      refine OEnds.icmpT hm_12 rfl (q := 32) rfl ((flt hc30).2.1) ?_
      refine OEnds.adv hm_12 1 (pc' := 33) (L' := [qr 1, qi v1]) (S' := [.int 0]) (H' := (c0 :: bk0 zf za zi zk zb zs zt zr zg zh zo zl zz zv zw zaa zab zq zc zd zp zu ze zy zx zm zj zn po)) rfl ?_
      cases h
      exact OEnds.iret hm_12 rfl rfl
theorem ok_pendingIsDuplicate {zf za zi zk zb zs zt zr zg zh zo zl zz zv zw : List Int32} {zaa zab zq zc zd zp zu ze zy zx zm zj zn : Int32} {c0 : ACell} {po : List ACell} {res : Int32} (h : f_pendingIsDuplicate zf za zk zc zd = some res) : OEnds own_P 12 0 [qr 1, qu] [] (c0 :: bk0 zf za zi zk zb zs zt zr zg zh zo zl zz zv zw zaa zab zq zc zd zp zu ze zy zx zm zj zn po) (some (.int res), (c0 :: bk0 zf za zi zk zb zs zt zr zg zh zo zl zz zv zw zaa zab zq zc zd zp zu ze zy zx zm zj zn po), 0, 0) := by
  unfold f_pendingIsDuplicate at h
  refine OEnds.adv hm_12 2 (pc' := 2) (L' := [qr 1, qi 0]) (S' := []) (H' := (c0 :: bk0 zf za zi zk zb zs zt zr zg zh zo zl zz zv zw zaa zab zq zc zd zp zu ze zy zx zm zj zn po)) rfl ?_
  exact ok_pendingIsDuplicate_2 100000 h
theorem ok_storePending_44 {zk zb zs zt zr zg zh zo zl zz zv zw : List Int32} {zaa zab zq zp zu ze zy zx zm zj zn : Int32} {c0 : ACell} {po : List ACell} : ∀ {zf za zi : List Int32} {zc zd v1 : Int32} {d2 d3 : Slot} {w_o_kwChars w_o_kwLen w_o_kwRepl : List Int32} {w_o_count : Int32} {w_o_pendLen : Int32}, f_storePending_44 zk zf za zi zc zd v1 = some (w_o_kwChars, w_o_kwLen, w_o_kwRepl, w_o_count, w_o_pendLen) → OEnds own_P 13 44 [qr 1, qi v1, d2, d3] [] (c0 :: bk0 zf za zi zk zb zs zt zr zg zh zo zl zz zv zw zaa zab zq zc zd zp zu ze zy zx zm zj zn po) (none, (c0 :: bk0 w_o_kwChars w_o_kwLen w_o_kwRepl zk zb zs zt zr zg zh zo zl zz zv zw zaa zab zq w_o_count w_o_pendLen zp zu ze zy zx zm zj zn po), 0, 0) := by
  intro zf za zi zc zd v1 d2 d3 w_o_kwChars w_o_kwLen w_o_kwRepl w_o_count w_o_pendLen h
  unfold f_storePending_44 at h
  refine OEnds.adv hm_13 6 (pc' := 56) (L' := [qr 1, qi v1, qu, qu]) (S' := [.int zd, .int zc, .ref 3]) (H' := (c0 :: bk0 zf za zi zk zb zs zt zr zg zh zo zl zz zv zw zaa zab zq zc zd zp zu ze zy zx zm zj zn po)) rfl ?_
  obtain ⟨A21, hA21, h⟩ := bnd h
  refine OEnds.plain hm_13 rfl rfl (x_iastore rfl (Nat.le_of_ble_eq_true rfl) hA21) ?_
  refine OEnds.adv hm_13 5 (pc' := 66) (L' := [qr 1, qi v1, qu, qu]) (S' := [.int v1, .int zc, .ref 4]) (H' := (c0 :: bk0 zf A21 zi zk zb zs zt zr zg zh zo zl zz zv zw zaa zab zq zc zd zp zu ze zy zx zm zj zn po)) rfl ?_
  obtain ⟨A22, hA22, h⟩ := bnd h
  refine OEnds.plain hm_13 rfl rfl (x_iastore rfl (Nat.le_of_ble_eq_true rfl) hA22) ?_
  refine OEnds.adv hm_13 9 (pc' := 82) (L' := [qr 1, qi v1, qu, qu]) (S' := []) (H' := (c0 :: bk0 zf A21 A22 zk zb zs zt zr zg zh zo zl zz zv zw zaa zab zq (zc + (1 : Int32)) 0 zp zu ze zy zx zm zj zn po)) rfl ?_
  cases h
  exact OEnds.vret hm_13 rfl rfl
theorem ok_storePending_10 {zk zb zs zt zr zg zh zo zl zz zv zw : List Int32} {zaa zab zq zp zu ze zy zx zm zj zn : Int32} {c0 : ACell} {po : List ACell} {k44 : List Int32 → List Int32 → List Int32 → Int32 → Int32 → Int32 → Option (List Int32 × List Int32 × List Int32 × Int32 × Int32)} (hk44 : ∀ {zf za zi : List Int32} {zc zd v1 : Int32} {d2 d3 : Slot} {w_o_kwChars w_o_kwLen w_o_kwRepl : List Int32} {w_o_count : Int32} {w_o_pendLen : Int32}, k44 zf za zi zc zd v1 = some (w_o_kwChars, w_o_kwLen, w_o_kwRepl, w_o_count, w_o_pendLen) → OEnds own_P 13 44 [qr 1, qi v1, d2, d3] [] (c0 :: bk0 zf za zi zk zb zs zt zr zg zh zo zl zz zv zw zaa zab zq zc zd zp zu ze zy zx zm zj zn po) (none, (c0 :: bk0 w_o_kwChars w_o_kwLen w_o_kwRepl zk zb zs zt zr zg zh zo zl zz zv zw zaa zab zq w_o_count w_o_pendLen zp zu ze zy zx zm zj zn po), 0, 0)) : ∀ (n : Nat), ∀ {zf za zi : List Int32} {zc zd v1 v2 v3 : Int32} {w_o_kwChars w_o_kwLen w_o_kwRepl : List Int32} {w_o_count : Int32} {w_o_pendLen : Int32}, f_storePending_10 k44 zk n zf za zi zc zd v1 v2 v3 = some (w_o_kwChars, w_o_kwLen, w_o_kwRepl, w_o_count, w_o_pendLen) → OEnds own_P 13 10 [qr 1, qi v1, qi v2, qi v3] [] (c0 :: bk0 zf za zi zk zb zs zt zr zg zh zo zl zz zv zw zaa zab zq zc zd zp zu ze zy zx zm zj zn po) (none, (c0 :: bk0 w_o_kwChars w_o_kwLen w_o_kwRepl zk zb zs zt zr zg zh zo zl zz zv zw zaa zab zq w_o_count w_o_pendLen zp zu ze zy zx zm zj zn po), 0, 0) := by
  intro n
  induction n with
  | zero => intro zf za zi zc zd v1 v2 v3 w_o_kwChars w_o_kwLen w_o_kwRepl w_o_count w_o_pendLen h; cases h
  | succ n ih =>
    intro zf za zi zc zd v1 v2 v3 w_o_kwChars w_o_kwLen w_o_kwRepl w_o_count w_o_pendLen h
    unfold f_storePending_10 at h
    refine OEnds.adv hm_13 3 (pc' := 15) (L' := [qr 1, qi v1, qi v2, qi v3]) (S' := [.int zd, .int v3]) (H' := (c0 :: bk0 zf za zi zk zb zs zt zr zg zh zo zl zz zv zw zaa zab zq zc zd zp zu ze zy zx zm zj zn po)) rfl ?_
    by_cases hc34 : v3 < zd
    · simp only [if_pos hc34] at h
      refine OEnds.icmpF hm_13 rfl ((tlt hc34).2.1) ?_
      refine OEnds.adv hm_13 2 (pc' := 21) (L' := [qr 1, qi v1, qi v2, qi v3]) (S' := [.int 8, .int v3]) (H' := (c0 :: bk0 zf za zi zk zb zs zt zr zg zh zo zl zz zv zw zaa zab zq zc zd zp zu ze zy zx zm zj zn po)) rfl ?_
      by_cases hc35 : v3 < (8 : Int32)
      · simp only [if_pos hc35] at h
        refine OEnds.icmpF hm_13 rfl ((tlt hc35).2.1) ?_
        refine OEnds.adv hm_13 8 (pc' := 36) (L' := [qr 1, qi v1, qi v2, qi v3]) (S' := [.int v3, .ref 5, .int (v2 + v3), .ref 2]) (H' := (c0 :: bk0 zf za zi zk zb zs zt zr zg zh zo zl zz zv zw zaa zab zq zc zd zp zu ze zy zx zm zj zn po)) rfl ?_
        obtain ⟨x19, hx19, h⟩ := bnd h
        refine OEnds.plain hm_13 rfl rfl (x_iaload rfl hx19) ?_
        show OEnds own_P 13 37 [qr 1, qi v1, qi v2, qi v3] [.int x19, .int (v2 + v3), .ref 2] (c0 :: bk0 zf za zi zk zb zs zt zr zg zh zo zl zz zv zw zaa zab zq zc zd zp zu ze zy zx zm zj zn po) _
        obtain ⟨A20, hA20, h⟩ := bnd h
        refine OEnds.plain hm_13 rfl rfl (x_iastore rfl (Nat.le_of_ble_eq_true rfl) hA20) ?_
        refine OEnds.adv hm_13 2 (pc' := 10) (L' := [qr 1, qi v1, qi v2, qi (v3 + (1 : Int32))]) (S' := []) (H' := (c0 :: bk0 A20 za zi zk zb zs zt zr zg zh zo zl zz zv zw zaa zab zq zc zd zp zu ze zy zx zm zj zn po)) rfl ?_
        exact ih h
      · simp only [if_neg hc35] at h
        refine OEnds.icmpT hm_13 rfl (q := 44) rfl ((flt hc35).2.1) ?_
        show OEnds own_P 13 44 [qr 1, qi v1, qi v2, qi v3] [] (c0 :: bk0 zf za zi zk zb zs zt zr zg zh zo zl zz zv zw zaa zab zq zc zd zp zu ze zy zx zm zj zn po) _
        exact hk44 h
    · simp only [if_neg hc34] at h
      refine OEnds.icmpT hm_13 rfl (q := 44) rfl ((flt hc34).2.1) ?_
      show OEnds own_P 13 44 [qr 1, qi v1, qi v2, qi v3] [] (c0 :: bk0 zf za zi zk zb zs zt zr zg zh zo zl zz zv zw zaa zab zq zc zd zp zu ze zy zx zm zj zn po) _
      exact hk44 h
theorem ok_storePending {zk zb zs zt zr zg zh zo zl zz zv zw : List Int32} {zaa zab zq zp zu ze zy zx zm zj zn : Int32} {c0 : ACell} {po : List ACell} {zf za zi : List Int32} {zc zd v1 : Int32} {w_o_kwChars w_o_kwLen w_o_kwRepl : List Int32} {w_o_count w_o_pendLen : Int32} (h : f_storePending zk zf za zi zc zd v1 = some (w_o_kwChars, w_o_kwLen, w_o_kwRepl, w_o_count, w_o_pendLen)) : OEnds own_P 13 0 [qr 1, qi v1, qu, qu] [] (c0 :: bk0 zf za zi zk zb zs zt zr zg zh zo zl zz zv zw zaa zab zq zc zd zp zu ze zy zx zm zj zn po) (none, (c0 :: bk0 w_o_kwChars w_o_kwLen w_o_kwRepl zk zb zs zt zr zg zh zo zl zz zv zw zaa zab zq w_o_count w_o_pendLen zp zu ze zy zx zm zj zn po), 0, 0) := by
  unfold f_storePending at h
  refine OEnds.adv hm_13 7 (pc' := 10) (L' := [qr 1, qi v1, qi (zc * (8 : Int32)), qi 0]) (S' := []) (H' := (c0 :: bk0 zf za zi zk zb zs zt zr zg zh zo zl zz zv zw zaa zab zq zc zd zp zu ze zy zx zm zj zn po)) rfl ?_
  exact ok_storePending_10 (k44 := f_storePending_44 zk) ok_storePending_44 100000 h
theorem ok_endKeyword {zk zb zs zt zr zg zh zo zl zz zv zw : List Int32} {zaa zab zq zp zu ze zy zx zm zj zn : Int32} {c0 : ACell} {po : List ACell} {zf za zi : List Int32} {zc zd v1 res : Int32} {w_o_kwChars w_o_kwLen w_o_kwRepl : List Int32} {w_o_count w_o_pendLen : Int32} (h : f_endKeyword zk zq zf za zi zc zd v1 = some (res, w_o_kwChars, w_o_kwLen, w_o_kwRepl, w_o_count, w_o_pendLen)) : OEnds own_P 10 0 [qr 1, qi v1] [] (c0 :: bk0 zf za zi zk zb zs zt zr zg zh zo zl zz zv zw zaa zab zq zc zd zp zu ze zy zx zm zj zn po) (some (.int res), (c0 :: bk0 w_o_kwChars w_o_kwLen w_o_kwRepl zk zb zs zt zr zg zh zo zl zz zv zw zaa zab zq w_o_count w_o_pendLen zp zu ze zy zx zm zj zn po), 0, 0) := by
  unfold f_endKeyword at h
  refine OEnds.adv hm_10 2 (pc' := 4) (L' := [qr 1, qi v1]) (S' := [.int zq]) (H' := (c0 :: bk0 zf za zi zk zb zs zt zr zg zh zo zl zz zv zw zaa zab zq zc zd zp zu ze zy zx zm zj zn po)) rfl ?_
  by_cases hc36 : zq = (0 : Int32)
  · simp only [if_pos hc36] at h
    refine OEnds.ifT hm_10 rfl (q := 9) rfl ((teq hc36).1) ?_
    refine OEnds.adv hm_10 2 (pc' := 13) (L' := [qr 1, qi v1]) (S' := [.int zd]) (H' := (c0 :: bk0 zf za zi zk zb zs zt zr zg zh zo zl zz zv zw zaa zab zq zc zd zp zu ze zy zx zm zj zn po)) rfl ?_
    by_cases hc37 : zd = (0 : Int32)
    · simp only [if_pos hc37] at h
      refine OEnds.ifF hm_10 rfl ((teq hc37).2) ?_
      refine OEnds.adv hm_10 1 (pc' := 18) (L' := [qr 1, qi v1]) (S' := [.int (-4)]) (H' := (c0 :: bk0 zf za zi zk zb zs zt zr zg zh zo zl zz zv zw zaa zab zq zc zd zp zu ze zy zx zm zj zn po)) rfl ?_
      cases h
      exact OEnds.iret hm_10 rfl rfl
    · simp only [if_neg hc37] at h
      refine OEnds.ifT hm_10 rfl (q := 19) rfl ((feq hc37).2) ?_
      refine OEnds.adv hm_10 2 (pc' := 21) (L' := [qr 1, qi v1]) (S' := [.int v1, .ref 1]) (H' := (c0 :: bk0 zf za zi zk zb zs zt zr zg zh zo zl zz zv zw zaa zab zq zc zd zp zu ze zy zx zm zj zn po)) rfl ?_
      obtain ⟨r23, hq38, h⟩ := bnd h
      refine OEnds.call0 hm_10 rfl rfl (by decide) rfl (as := [.ref 1, .int v1]) (rest := []) rfl rfl (ok_isPrintable hq38) ?_
      show OEnds own_P 10 24 [qr 1, qi v1] [.int r23] (c0 :: bk0 zf za zi zk zb zs zt zr zg zh zo zl zz zv zw zaa zab zq zc zd zp zu ze zy zx zm zj zn po) _
      by_cases hc39 : r23 = (0 : Int32)
      · simp only [if_pos hc39] at h
        refine OEnds.ifF hm_10 rfl ((teq hc39).2) ?_
        refine OEnds.adv hm_10 1 (pc' := 29) (L' := [qr 1, qi v1]) (S' := [.int (-6)]) (H' := (c0 :: bk0 zf za zi zk zb zs zt zr zg zh zo zl zz zv zw zaa zab zq zc zd zp zu ze zy zx zm zj zn po)) rfl ?_
        cases h
        exact OEnds.iret hm_10 rfl rfl
      · simp only [if_neg hc39] at h
        refine OEnds.ifT hm_10 rfl (q := 30) rfl ((feq hc39).2) ?_
        refine OEnds.adv hm_10 1 (pc' := 31) (L' := [qr 1, qi v1]) (S' := [.ref 1]) (H' := (c0 :: bk0 zf za zi zk zb zs zt zr zg zh zo zl zz zv zw zaa zab zq zc zd zp zu ze zy zx zm zj zn po)) rfl ?_
        obtain ⟨r24, hq40, h⟩ := bnd h
        refine OEnds.call0 hm_10 rfl rfl (by decide) rfl (as := [.ref 1]) (rest := []) rfl rfl (ok_pendingIsDuplicate hq40) ?_
        show OEnds own_P 10 34 [qr 1, qi v1] [.int r24] (c0 :: bk0 zf za zi zk zb zs zt zr zg zh zo zl zz zv zw zaa zab zq zc zd zp zu ze zy zx zm zj zn po) _
        by_cases hc41 : r24 = (0 : Int32)
        · simp only [if_pos hc41] at h
          refine OEnds.ifT hm_10 rfl (q := 40) rfl ((teq hc41).1) ?_
          refine OEnds.adv hm_10 3 (pc' := 46) (L' := [qr 1, qi v1]) (S' := [.int 16, .int zc]) (H' := (c0 :: bk0 zf za zi zk zb zs zt zr zg zh zo zl zz zv zw zaa zab zq zc zd zp zu ze zy zx zm zj zn po)) rfl ?_
          by_cases hc42 : zc < (16 : Int32)
          · simp only [if_pos hc42] at h
            refine OEnds.icmpT hm_10 rfl (q := 52) rfl ((tlt hc42).1) ?_
            refine OEnds.adv hm_10 2 (pc' := 54) (L' := [qr 1, qi v1]) (S' := [.int v1, .ref 1]) (H' := (c0 :: bk0 zf za zi zk zb zs zt zr zg zh zo zl zz zv zw zaa zab zq zc zd zp zu ze zy zx zm zj zn po)) rfl ?_
            obtain ⟨⟨s25, s26, s27, s28, s29⟩, hq43, h⟩ := bnd h
            refine OEnds.call0 hm_10 rfl rfl (by decide) rfl (as := [.ref 1, .int v1]) (rest := []) rfl rfl (ok_storePending hq43) ?_
            refine OEnds.adv hm_10 4 (pc' := 63) (L' := [qr 1, qi v1]) (S' := [.int (s28 - (1 : Int32))]) (H' := (c0 :: bk0 s25 s26 s27 zk zb zs zt zr zg zh zo zl zz zv zw zaa zab zq s28 s29 zp zu ze zy zx zm zj zn po)) rfl ?_
            cases h
            exact OEnds.iret hm_10 rfl rfl
          · simp only [if_neg hc42] at h
            refine OEnds.icmpF hm_10 rfl ((flt hc42).1) ?_
            refine OEnds.adv hm_10 1 (pc' := 51) (L' := [qr 1, qi v1]) (S' := [.int (-3)]) (H' := (c0 :: bk0 zf za zi zk zb zs zt zr zg zh zo zl zz zv zw zaa zab zq zc zd zp zu ze zy zx zm zj zn po)) rfl ?_
            cases h
            exact OEnds.iret hm_10 rfl rfl
        · simp only [if_neg hc41] at h
          refine OEnds.ifF hm_10 rfl ((feq hc41).1) ?_
          refine OEnds.adv hm_10 1 (pc' := 39) (L' := [qr 1, qi v1]) (S' := [.int (-5)]) (H' := (c0 :: bk0 zf za zi zk zb zs zt zr zg zh zo zl zz zv zw zaa zab zq zc zd zp zu ze zy zx zm zj zn po)) rfl ?_
          cases h
          exact OEnds.iret hm_10 rfl rfl
  · simp only [if_neg hc36] at h
    refine OEnds.ifF hm_10 rfl ((feq hc36).1) ?_
    refine OEnds.adv hm_10 1 (pc' := 8) (L' := [qr 1, qi v1]) (S' := [.int (-1)]) (H' := (c0 :: bk0 zf za zi zk zb zs zt zr zg zh zo zl zz zv zw zaa zab zq zc zd zp zu ze zy zx zm zj zn po)) rfl ?_
    cases h
    exact OEnds.iret hm_10 rfl rfl
theorem ok_isLetter {zf za zi zk zb zs zt zr zg zh zo zl zz zv zw : List Int32} {zaa zab zq zc zd zp zu ze zy zx zm zj zn : Int32} {c0 : ACell} {po : List ACell} {v1 res : Int32} (h : f_isLetter v1 = some res) : OEnds own_P 9 0 [qr 1, qi v1] [] (c0 :: bk0 zf za zi zk zb zs zt zr zg zh zo zl zz zv zw zaa zab zq zc zd zp zu ze zy zx zm zj zn po) (some (.int res), (c0 :: bk0 zf za zi zk zb zs zt zr zg zh zo zl zz zv zw zaa zab zq zc zd zp zu ze zy zx zm zj zn po), 0, 0) := by
  unfold f_isLetter at h
  refine OEnds.adv hm_9 2 (pc' := 3) (L' := [qr 1, qi v1]) (S' := [.int 97, .int v1]) (H' := (c0 :: bk0 zf za zi zk zb zs zt zr zg zh zo zl zz zv zw zaa zab zq zc zd zp zu ze zy zx zm zj zn po)) rfl ?_
  by_cases hc44 : v1 < (97 : Int32)
  · simp only [if_pos hc44] at h
    refine OEnds.icmpT hm_9 rfl (q := 16) rfl ((tlt hc44).1) ?_
    refine OEnds.adv hm_9 1 (pc' := 17) (L' := [qr 1, qi v1]) (S' := [.int 0]) (H' := (c0 :: bk0 zf za zi zk zb zs zt zr zg zh zo zl zz zv zw zaa zab zq zc zd zp zu ze zy zx zm zj zn po)) rfl ?_
    cases h
    exact OEnds.iret hm_9 rfl rfl
  · simp only [if_neg hc44] at h
    refine OEnds.icmpF hm_9 rfl ((flt hc44).1) ?_
    refine OEnds.adv hm_9 2 (pc' := 9) (L' := [qr 1, qi v1]) (S' := [.int 122, .int v1]) (H' := (c0 :: bk0 zf za zi zk zb zs zt zr zg zh zo zl zz zv zw zaa zab zq zc zd zp zu ze zy zx zm zj zn po)) rfl ?_
    by_cases hc45 : (122 : Int32) < v1
    · simp only [if_pos hc45] at h
      refine OEnds.icmpT hm_9 rfl (q := 16) rfl ((tlt hc45).2.2.1) ?_
      refine OEnds.adv hm_9 1 (pc' := 17) (L' := [qr 1, qi v1]) (S' := [.int 0]) (H' := (c0 :: bk0 zf za zi zk zb zs zt zr zg zh zo zl zz zv zw zaa zab zq zc zd zp zu ze zy zx zm zj zn po)) rfl ?_
      cases h
      exact OEnds.iret hm_9 rfl rfl
    · simp only [if_neg hc45] at h
      refine OEnds.icmpF hm_9 rfl ((flt hc45).2.2.1) ?_
      refine OEnds.adv hm_9 2 (pc' := 17) (L' := [qr 1, qi v1]) (S' := [.int 1]) (H' := (c0 :: bk0 zf za zi zk zb zs zt zr zg zh zo zl zz zv zw zaa zab zq zc zd zp zu ze zy zx zm zj zn po)) rfl ?_
      cases h
      exact OEnds.iret hm_9 rfl rfl
theorem ok_addChar {zf za zi zb zs zt zr zg zh zo zl zz zv zw : List Int32} {zaa zab zq zc zp zu ze zy zx zm zj zn : Int32} {c0 : ACell} {po : List ACell} {zk : List Int32} {zd v1 res : Int32} {w_o_pend : List Int32} {w_o_pendLen : Int32} (h : f_addChar zaa zab zq zc zk zd v1 = some (res, w_o_pend, w_o_pendLen)) : OEnds own_P 8 0 [qr 1, qi v1] [] (c0 :: bk0 zf za zi zk zb zs zt zr zg zh zo zl zz zv zw zaa zab zq zc zd zp zu ze zy zx zm zj zn po) (some (.int res), (c0 :: bk0 zf za zi w_o_pend zb zs zt zr zg zh zo zl zz zv zw zaa zab zq zc w_o_pendLen zp zu ze zy zx zm zj zn po), 0, 0) := by
  unfold f_addChar at h
  refine OEnds.adv hm_8 2 (pc' := 4) (L' := [qr 1, qi v1]) (S' := [.int zq]) (H' := (c0 :: bk0 zf za zi zk zb zs zt zr zg zh zo zl zz zv zw zaa zab zq zc zd zp zu ze zy zx zm zj zn po)) rfl ?_
  by_cases hc46 : zq = (0 : Int32)
  · simp only [if_pos hc46] at h
    refine OEnds.ifT hm_8 rfl (q := 9) rfl ((teq hc46).1) ?_
    refine OEnds.adv hm_8 2 (pc' := 11) (L' := [qr 1, qi v1]) (S' := [.int v1, .ref 1]) (H' := (c0 :: bk0 zf za zi zk zb zs zt zr zg zh zo zl zz zv zw zaa zab zq zc zd zp zu ze zy zx zm zj zn po)) rfl ?_
    obtain ⟨r30, hq47, h⟩ := bnd h
    refine OEnds.call0 hm_8 rfl rfl (by decide) rfl (as := [.ref 1, .int v1]) (rest := []) rfl rfl (ok_isLetter hq47) ?_
    show OEnds own_P 8 14 [qr 1, qi v1] [.int r30] (c0 :: bk0 zf za zi zk zb zs zt zr zg zh zo zl zz zv zw zaa zab zq zc zd zp zu ze zy zx zm zj zn po) _
    by_cases hc48 : r30 = (0 : Int32)
    · simp only [if_pos hc48] at h
      refine OEnds.ifF hm_8 rfl ((teq hc48).2) ?_
      refine OEnds.adv hm_8 1 (pc' := 19) (L' := [qr 1, qi v1]) (S' := [.int (-2)]) (H' := (c0 :: bk0 zf za zi zk zb zs zt zr zg zh zo zl zz zv zw zaa zab zq zc zd zp zu ze zy zx zm zj zn po)) rfl ?_
      cases h
      exact OEnds.iret hm_8 rfl rfl
    · simp only [if_neg hc48] at h
      refine OEnds.ifT hm_8 rfl (q := 20) rfl ((feq hc48).2) ?_
      refine OEnds.adv hm_8 4 (pc' := 28) (L' := [qr 1, qi v1]) (S' := [.int zaa, .int zc]) (H' := (c0 :: bk0 zf za zi zk zb zs zt zr zg zh zo zl zz zv zw zaa zab zq zc zd zp zu ze zy zx zm zj zn po)) rfl ?_
      by_cases hc49 : zc < zaa
      · simp only [if_pos hc49] at h
        refine OEnds.icmpT hm_8 rfl (q := 34) rfl ((tlt hc49).1) ?_
        refine OEnds.adv hm_8 4 (pc' := 42) (L' := [qr 1, qi v1]) (S' := [.int zab, .int zd]) (H' := (c0 :: bk0 zf za zi zk zb zs zt zr zg zh zo zl zz zv zw zaa zab zq zc zd zp zu ze zy zx zm zj zn po)) rfl ?_
        by_cases hc50 : zd < zab
        · simp only [if_pos hc50] at h
          refine OEnds.icmpF hm_8 rfl ((tlt hc50).2.1) ?_
          refine OEnds.adv hm_8 3 (pc' := 51) (L' := [qr 1, qi v1]) (S' := [.int 8, .int zd]) (H' := (c0 :: bk0 zf za zi zk zb zs zt zr zg zh zo zl zz zv zw zaa zab zq zc zd zp zu ze zy zx zm zj zn po)) rfl ?_
          by_cases hc51 : zd < (8 : Int32)
          · simp only [if_pos hc51] at h
            refine OEnds.icmpT hm_8 rfl (q := 57) rfl ((tlt hc51).1) ?_
            refine OEnds.adv hm_8 5 (pc' := 66) (L' := [qr 1, qi v1]) (S' := [.int v1, .int zd, .ref 5]) (H' := (c0 :: bk0 zf za zi zk zb zs zt zr zg zh zo zl zz zv zw zaa zab zq zc zd zp zu ze zy zx zm zj zn po)) rfl ?_
            obtain ⟨A31, hA31, h⟩ := bnd h
            refine OEnds.plain hm_8 rfl rfl (x_iastore rfl (Nat.le_of_ble_eq_true rfl) hA31) ?_
            refine OEnds.adv hm_8 8 (pc' := 81) (L' := [qr 1, qi v1]) (S' := [.int (zd + (1 : Int32))]) (H' := (c0 :: bk0 zf za zi A31 zb zs zt zr zg zh zo zl zz zv zw zaa zab zq zc (zd + (1 : Int32)) zp zu ze zy zx zm zj zn po)) rfl ?_
            cases h
            exact OEnds.iret hm_8 rfl rfl
          · simp only [if_neg hc51] at h
            refine OEnds.icmpF hm_8 rfl ((flt hc51).1) ?_
            refine OEnds.adv hm_8 1 (pc' := 56) (L' := [qr 1, qi v1]) (S' := [.int (-3)]) (H' := (c0 :: bk0 zf za zi zk zb zs zt zr zg zh zo zl zz zv zw zaa zab zq zc zd zp zu ze zy zx zm zj zn po)) rfl ?_
            cases h
            exact OEnds.iret hm_8 rfl rfl
        · simp only [if_neg hc50] at h
          refine OEnds.icmpT hm_8 rfl (q := 54) rfl ((flt hc50).2.1) ?_
          refine OEnds.adv hm_8 1 (pc' := 56) (L' := [qr 1, qi v1]) (S' := [.int (-3)]) (H' := (c0 :: bk0 zf za zi zk zb zs zt zr zg zh zo zl zz zv zw zaa zab zq zc zd zp zu ze zy zx zm zj zn po)) rfl ?_
          cases h
          exact OEnds.iret hm_8 rfl rfl
      · simp only [if_neg hc49] at h
        refine OEnds.icmpF hm_8 rfl ((flt hc49).1) ?_
        refine OEnds.adv hm_8 1 (pc' := 33) (L' := [qr 1, qi v1]) (S' := [.int (-3)]) (H' := (c0 :: bk0 zf za zi zk zb zs zt zr zg zh zo zl zz zv zw zaa zab zq zc zd zp zu ze zy zx zm zj zn po)) rfl ?_
        cases h
        exact OEnds.iret hm_8 rfl rfl
  · simp only [if_neg hc46] at h
    refine OEnds.ifF hm_8 rfl ((feq hc46).1) ?_
    refine OEnds.adv hm_8 1 (pc' := 8) (L' := [qr 1, qi v1]) (S' := [.int (-1)]) (H' := (c0 :: bk0 zf za zi zk zb zs zt zr zg zh zo zl zz zv zw zaa zab zq zc zd zp zu ze zy zx zm zj zn po)) rfl ?_
    cases h
    exact OEnds.iret hm_8 rfl rfl
theorem ok_insertKeyword_137 {zf za zi zk zs zt zo zl zz zv zw : List Int32} {zaa zab zq zc zd zu ze zy zx zm zj zn : Int32} {c0 : ACell} {po : List ACell} : ∀ {zb zr zg zh : List Int32} {zp v1 v2 : Int32} {d3 d4 d5 d6 : Slot} {w_o_child w_o_depth w_o_term w_o_outMask : List Int32} {w_o_nodeCount : Int32}, f_insertKeyword_137 zf za zb zr zg zh zp v1 v2 = some (w_o_child, w_o_depth, w_o_term, w_o_outMask, w_o_nodeCount) → OEnds own_P 16 137 [qr 1, qi v1, qi v2, d3, d4, d5, d6] [] (c0 :: bk0 zf za zi zk zb zs zt zr zg zh zo zl zz zv zw zaa zab zq zc zd zp zu ze zy zx zm zj zn po) (none, (c0 :: bk0 zf za zi zk w_o_child zs zt w_o_depth w_o_term w_o_outMask zo zl zz zv zw zaa zab zq zc zd w_o_nodeCount zu ze zy zx zm zj zn po), 0, 0) := by
  intro zb zr zg zh zp v1 v2 d3 d4 d5 d6 w_o_child w_o_depth w_o_term w_o_outMask w_o_nodeCount h
  unfold f_insertKeyword_137 at h
  refine OEnds.adv hm_16 4 (pc' := 143) (L' := [qr 1, qi v1, qi v2, qu, qu, qu, qu]) (S' := [.int v1, .int v2, .ref 10]) (H' := (c0 :: bk0 zf za zi zk zb zs zt zr zg zh zo zl zz zv zw zaa zab zq zc zd zp zu ze zy zx zm zj zn po)) rfl ?_
  obtain ⟨A39, hA39, h⟩ := bnd h
  refine OEnds.plain hm_16 rfl rfl (x_iastore rfl (Nat.le_of_ble_eq_true rfl) hA39) ?_
  refine OEnds.adv hm_16 6 (pc' := 154) (L' := [qr 1, qi v1, qi v2, qu, qu, qu, qu]) (S' := [.int v2, .ref 11, .int v2, .ref 11]) (H' := (c0 :: bk0 zf za zi zk zb zs zt zr A39 zh zo zl zz zv zw zaa zab zq zc zd zp zu ze zy zx zm zj zn po)) rfl ?_
  obtain ⟨x40, hx40, h⟩ := bnd h
  refine OEnds.plain hm_16 rfl rfl (x_iaload rfl hx40) ?_
  refine OEnds.adv hm_16 4 (pc' := 159) (L' := [qr 1, qi v1, qi v2, qu, qu, qu, qu]) (S' := [.int (x40 ||| ((1 : Int32) <<< (v1 &&& 31))), .int v2, .ref 11]) (H' := (c0 :: bk0 zf za zi zk zb zs zt zr A39 zh zo zl zz zv zw zaa zab zq zc zd zp zu ze zy zx zm zj zn po)) rfl ?_
  obtain ⟨A41, hA41, h⟩ := bnd h
  refine OEnds.plain hm_16 rfl rfl (x_iastore rfl (Nat.le_of_ble_eq_true rfl) hA41) ?_
  show OEnds own_P 16 160 [qr 1, qi v1, qi v2, qu, qu, qu, qu] [] (c0 :: bk0 zf za zi zk zb zs zt zr A39 A41 zo zl zz zv zw zaa zab zq zc zd zp zu ze zy zx zm zj zn po) _
  cases h
  exact OEnds.vret hm_16 rfl rfl
theorem ok_insertKeyword_123 {zf za zi zk zs zt zo zl zz zv zw : List Int32} {zaa zab zq zc zd zu ze zy zx zm zj zn : Int32} {c0 : ACell} {po : List ACell} {kb : List Int32 → List Int32 → List Int32 → List Int32 → Int32 → Int32 → Int32 → Int32 → Int32 → Option (List Int32 × List Int32 × List Int32 × List Int32 × Int32)} {k137 : List Int32 → List Int32 → List Int32 → List Int32 → Int32 → Int32 → Int32 → Option (List Int32 × List Int32 × List Int32 × List Int32 × Int32)} (hkb : ∀ {zb zr zg zh : List Int32} {zp v1 v2 v3 v4 : Int32} {d5 d6 : Slot} {w_o_child w_o_depth w_o_term w_o_outMask : List Int32} {w_o_nodeCount : Int32}, kb zb zr zg zh zp v1 v2 v3 v4 = some (w_o_child, w_o_depth, w_o_term, w_o_outMask, w_o_nodeCount) → OEnds own_P 16 10 [qr 1, qi v1, qi v2, qi v3, qi v4, d5, d6] [] (c0 :: bk0 zf za zi zk zb zs zt zr zg zh zo zl zz zv zw zaa zab zq zc zd zp zu ze zy zx zm zj zn po) (none, (c0 :: bk0 zf za zi zk w_o_child zs zt w_o_depth w_o_term w_o_outMask zo zl zz zv zw zaa zab zq zc zd w_o_nodeCount zu ze zy zx zm zj zn po), 0, 0)) (hk137 : ∀ {zb zr zg zh : List Int32} {zp v1 v2 : Int32} {d3 d4 d5 d6 : Slot} {w_o_child w_o_depth w_o_term w_o_outMask : List Int32} {w_o_nodeCount : Int32}, k137 zb zr zg zh zp v1 v2 = some (w_o_child, w_o_depth, w_o_term, w_o_outMask, w_o_nodeCount) → OEnds own_P 16 137 [qr 1, qi v1, qi v2, d3, d4, d5, d6] [] (c0 :: bk0 zf za zi zk zb zs zt zr zg zh zo zl zz zv zw zaa zab zq zc zd zp zu ze zy zx zm zj zn po) (none, (c0 :: bk0 zf za zi zk w_o_child zs zt w_o_depth w_o_term w_o_outMask zo zl zz zv zw zaa zab zq zc zd w_o_nodeCount zu ze zy zx zm zj zn po), 0, 0)) : ∀ {zb zr zg zh : List Int32} {zp v1 v3 v4 v6 : Int32} {d2 d5 : Slot} {w_o_child w_o_depth w_o_term w_o_outMask : List Int32} {w_o_nodeCount : Int32}, f_insertKeyword_123 kb k137 zf za zb zr zg zh zp v1 v3 v4 v6 = some (w_o_child, w_o_depth, w_o_term, w_o_outMask, w_o_nodeCount) → OEnds own_P 16 123 [qr 1, qi v1, d2, qi v3, qi v4, d5, qi v6] [] (c0 :: bk0 zf za zi zk zb zs zt zr zg zh zo zl zz zv zw zaa zab zq zc zd zp zu ze zy zx zm zj zn po) (none, (c0 :: bk0 zf za zi zk w_o_child zs zt w_o_depth w_o_term w_o_outMask zo zl zz zv zw zaa zab zq zc zd w_o_nodeCount zu ze zy zx zm zj zn po), 0, 0) := by
  intro zb zr zg zh zp v1 v3 v4 v6 d2 d5 w_o_child w_o_depth w_o_term w_o_outMask w_o_nodeCount h
  unfold f_insertKeyword_123 at h
  refine OEnds.adv hm_16 3 (pc' := 129) (L' := [qr 1, qi v1, qu, qi v3, qi v4, qu, qi v6]) (S' := [.int v6, .ref 6]) (H' := (c0 :: bk0 zf za zi zk zb zs zt zr zg zh zo zl zz zv zw zaa zab zq zc zd zp zu ze zy zx zm zj zn po)) rfl ?_
  obtain ⟨x38, hx38, h⟩ := bnd h
  refine OEnds.plain hm_16 rfl rfl (x_iaload rfl hx38) ?_
  refine OEnds.adv hm_16 3 (pc' := 10) (L' := [qr 1, qi v1, qi x38, qi v3, qi (v4 + (1 : Int32)), qu, qi v6]) (S' := []) (H' := (c0 :: bk0 zf za zi zk zb zs zt zr zg zh zo zl zz zv zw zaa zab zq zc zd zp zu ze zy zx zm zj zn po)) rfl ?_
  exact hkb h
theorem ok_insertKeyword_10 {zf za zi zk zs zt zo zl zz zv zw : List Int32} {zaa zab zq zc zd zu ze zy zx zm zj zn : Int32} {c0 : ACell} {po : List ACell} {k137 : List Int32 → List Int32 → List Int32 → List Int32 → Int32 → Int32 → Int32 → Option (List Int32 × List Int32 × List Int32 × List Int32 × Int32)} (hk137 : ∀ {zb zr zg zh : List Int32} {zp v1 v2 : Int32} {d3 d4 d5 d6 : Slot} {w_o_child w_o_depth w_o_term w_o_outMask : List Int32} {w_o_nodeCount : Int32}, k137 zb zr zg zh zp v1 v2 = some (w_o_child, w_o_depth, w_o_term, w_o_outMask, w_o_nodeCount) → OEnds own_P 16 137 [qr 1, qi v1, qi v2, d3, d4, d5, d6] [] (c0 :: bk0 zf za zi zk zb zs zt zr zg zh zo zl zz zv zw zaa zab zq zc zd zp zu ze zy zx zm zj zn po) (none, (c0 :: bk0 zf za zi zk w_o_child zs zt w_o_depth w_o_term w_o_outMask zo zl zz zv zw zaa zab zq zc zd w_o_nodeCount zu ze zy zx zm zj zn po), 0, 0)) : ∀ (n : Nat), ∀ {zb zr zg zh : List Int32} {zp v1 v2 v3 v4 : Int32} {d5 d6 : Slot} {w_o_child w_o_depth w_o_term w_o_outMask : List Int32} {w_o_nodeCount : Int32}, f_insertKeyword_10 k137 zf za n zb zr zg zh zp v1 v2 v3 v4 = some (w_o_child, w_o_depth, w_o_term, w_o_outMask, w_o_nodeCount) → OEnds own_P 16 10 [qr 1, qi v1, qi v2, qi v3, qi v4, d5, d6] [] (c0 :: bk0 zf za zi zk zb zs zt zr zg zh zo zl zz zv zw zaa zab zq zc zd zp zu ze zy zx zm zj zn po) (none, (c0 :: bk0 zf za zi zk w_o_child zs zt w_o_depth w_o_term w_o_outMask zo zl zz zv zw zaa zab zq zc zd w_o_nodeCount zu ze zy zx zm zj zn po), 0, 0) := by
  intro n
  induction n with
  | zero => intro zb zr zg zh zp v1 v2 v3 v4 d5 d6 w_o_child w_o_depth w_o_term w_o_outMask w_o_nodeCount h; cases h
  | succ n ih =>
    intro zb zr zg zh zp v1 v2 v3 v4 d5 d6 w_o_child w_o_depth w_o_term w_o_outMask w_o_nodeCount h
    unfold f_insertKeyword_10 at h
    refine OEnds.adv hm_16 4 (pc' := 17) (L' := [qr 1, qi v1, qi v2, qi v3, qi v4, qu, qu]) (S' := [.int v1, .ref 3, .int v4]) (H' := (c0 :: bk0 zf za zi zk zb zs zt zr zg zh zo zl zz zv zw zaa zab zq zc zd zp zu ze zy zx zm zj zn po)) rfl ?_
    obtain ⟨x32, hx32, h⟩ := bnd h
    refine OEnds.plain hm_16 rfl rfl (x_iaload rfl hx32) ?_
    show OEnds own_P 16 18 [qr 1, qi v1, qi v2, qi v3, qi v4, qu, qu] [.int x32, .int v4] (c0 :: bk0 zf za zi zk zb zs zt zr zg zh zo zl zz zv zw zaa zab zq zc zd zp zu ze zy zx zm zj zn po) _
    by_cases hc52 : v4 < x32
    · simp only [if_pos hc52] at h
      refine OEnds.icmpF hm_16 rfl ((tlt hc52).2.1) ?_
      refine OEnds.adv hm_16 2 (pc' := 25) (L' := [qr 1, qi v1, qi v2, qi v3, qi v4, qu, qu]) (S' := [.int 8, .int v4]) (H' := (c0 :: bk0 zf za zi zk zb zs zt zr zg zh zo zl zz zv zw zaa zab zq zc zd zp zu ze zy zx zm zj zn po)) rfl ?_
      by_cases hc53 : v4 < (8 : Int32)
      · simp only [if_pos hc53] at h
        refine OEnds.icmpF hm_16 rfl ((tlt hc53).2.1) ?_
        refine OEnds.adv hm_16 5 (pc' := 36) (L' := [qr 1, qi v1, qi v2, qi v3, qi v4, qu, qu]) (S' := [.int (v3 + v4), .ref 2]) (H' := (c0 :: bk0 zf za zi zk zb zs zt zr zg zh zo zl zz zv zw zaa zab zq zc zd zp zu ze zy zx zm zj zn po)) rfl ?_
        obtain ⟨x33, hx33, h⟩ := bnd h
        refine OEnds.plain hm_16 rfl rfl (x_iaload rfl hx33) ?_
        refine OEnds.adv hm_16 4 (pc' := 44) (L' := [qr 1, qi v1, qi v2, qi v3, qi v4, qi (x33 - (97 : Int32)), qu]) (S' := [.int (x33 - (97 : Int32))]) (H' := (c0 :: bk0 zf za zi zk zb zs zt zr zg zh zo zl zz zv zw zaa zab zq zc zd zp zu ze zy zx zm zj zn po)) rfl ?_
        by_cases hc54 : (x33 - (97 : Int32)) < (0 : Int32)
        · simp only [if_pos hc54] at h
          refine OEnds.ifT hm_16 rfl (q := 54) rfl ((tlt hc54).1) ?_
          show OEnds own_P 16 54 [qr 1, qi v1, qi v2, qi v3, qi v4, qi (x33 - (97 : Int32)), qu] [] (c0 :: bk0 zf za zi zk zb zs zt zr zg zh zo zl zz zv zw zaa zab zq zc zd zp zu ze zy zx zm zj zn po) _
          cases h
          exact OEnds.vret hm_16 rfl rfl
        · simp only [if_neg hc54] at h
          refine OEnds.ifF hm_16 rfl ((flt hc54).1) ?_
          refine OEnds.adv hm_16 2 (pc' := 51) (L' := [qr 1, qi v1, qi v2, qi v3, qi v4, qi (x33 - (97 : Int32)), qu]) (S' := [.int 26, .int (x33 - (97 : Int32))]) (H' := (c0 :: bk0 zf za zi zk zb zs zt zr zg zh zo zl zz zv zw zaa zab zq zc zd zp zu ze zy zx zm zj zn po)) rfl ?_
          by_cases hc55 : (x33 - (97 : Int32)) < (26 : Int32)
          · simp only [if_pos hc55] at h
            refine OEnds.icmpT hm_16 rfl (q := 55) rfl ((tlt hc55).1) ?_
            refine OEnds.adv hm_16 9 (pc' := 70) (L' := [qr 1, qi v1, qi v2, qi v3, qi v4, qi (x33 - (97 : Int32)), qi ((v2 * (26 : Int32)) + (x33 - (97 : Int32)))]) (S' := [.int ((v2 * (26 : Int32)) + (x33 - (97 : Int32))), .ref 6]) (H' := (c0 :: bk0 zf za zi zk zb zs zt zr zg zh zo zl zz zv zw zaa zab zq zc zd zp zu ze zy zx zm zj zn po)) rfl ?_
            obtain ⟨x34, hx34, h⟩ := bnd h
            refine OEnds.plain hm_16 rfl rfl (x_iaload rfl hx34) ?_
            show OEnds own_P 16 71 [qr 1, qi v1, qi v2, qi v3, qi v4, qi (x33 - (97 : Int32)), qi ((v2 * (26 : Int32)) + (x33 - (97 : Int32)))] [.int x34] (c0 :: bk0 zf za zi zk zb zs zt zr zg zh zo zl zz zv zw zaa zab zq zc zd zp zu ze zy zx zm zj zn po) _
            by_cases hc56 : x34 = (0 : Int32)
            · simp only [if_pos hc56] at h
              refine OEnds.ifF hm_16 rfl ((teq hc56).2) ?_
              refine OEnds.adv hm_16 3 (pc' := 81) (L' := [qr 1, qi v1, qi v2, qi v3, qi v4, qi (x33 - (97 : Int32)), qi ((v2 * (26 : Int32)) + (x33 - (97 : Int32)))]) (S' := [.int 129, .int zp]) (H' := (c0 :: bk0 zf za zi zk zb zs zt zr zg zh zo zl zz zv zw zaa zab zq zc zd zp zu ze zy zx zm zj zn po)) rfl ?_
              by_cases hc57 : zp < (129 : Int32)
              · simp only [if_pos hc57] at h
                refine OEnds.icmpT hm_16 rfl (q := 85) rfl ((tlt hc57).1) ?_
                refine OEnds.adv hm_16 5 (pc' := 95) (L' := [qr 1, qi v1, qi v2, qi v3, qi v4, qi (x33 - (97 : Int32)), qi ((v2 * (26 : Int32)) + (x33 - (97 : Int32)))]) (S' := [.int zp, .int ((v2 * (26 : Int32)) + (x33 - (97 : Int32))), .ref 6]) (H' := (c0 :: bk0 zf za zi zk zb zs zt zr zg zh zo zl zz zv zw zaa zab zq zc zd zp zu ze zy zx zm zj zn po)) rfl ?_
                obtain ⟨A35, hA35, h⟩ := bnd h
                refine OEnds.plain hm_16 rfl rfl (x_iastore rfl (Nat.le_of_ble_eq_true rfl) hA35) ?_
                refine OEnds.adv hm_16 7 (pc' := 109) (L' := [qr 1, qi v1, qi v2, qi v3, qi v4, qi (x33 - (97 : Int32)), qi ((v2 * (26 : Int32)) + (x33 - (97 : Int32)))]) (S' := [.int v2, .ref 9, .int zp, .ref 9]) (H' := (c0 :: bk0 zf za zi zk A35 zs zt zr zg zh zo zl zz zv zw zaa zab zq zc zd zp zu ze zy zx zm zj zn po)) rfl ?_
                obtain ⟨x36, hx36, h⟩ := bnd h
                refine OEnds.plain hm_16 rfl rfl (x_iaload rfl hx36) ?_
                refine OEnds.adv hm_16 2 (pc' := 112) (L' := [qr 1, qi v1, qi v2, qi v3, qi v4, qi (x33 - (97 : Int32)), qi ((v2 * (26 : Int32)) + (x33 - (97 : Int32)))]) (S' := [.int (x36 + (1 : Int32)), .int zp, .ref 9]) (H' := (c0 :: bk0 zf za zi zk A35 zs zt zr zg zh zo zl zz zv zw zaa zab zq zc zd zp zu ze zy zx zm zj zn po)) rfl ?_
                obtain ⟨A37, hA37, h⟩ := bnd h
                refine OEnds.plain hm_16 rfl rfl (x_iastore rfl (Nat.le_of_ble_eq_true rfl) hA37) ?_
                refine OEnds.adv hm_16 6 (pc' := 123) (L' := [qr 1, qi v1, qi v2, qi v3, qi v4, qi (x33 - (97 : Int32)), qi ((v2 * (26 : Int32)) + (x33 - (97 : Int32)))]) (S' := []) (H' := (c0 :: bk0 zf za zi zk A35 zs zt A37 zg zh zo zl zz zv zw zaa zab zq zc zd (zp + (1 : Int32)) zu ze zy zx zm zj zn po)) rfl ?_
                exact ok_insertKeyword_123 ih hk137 h
              · simp only [if_neg hc57] at h
                refine OEnds.icmpF hm_16 rfl ((flt hc57).1) ?_
                show OEnds own_P 16 84 [qr 1, qi v1, qi v2, qi v3, qi v4, qi (x33 - (97 : Int32)), qi ((v2 * (26 : Int32)) + (x33 - (97 : Int32)))] [] (c0 :: bk0 zf za zi zk zb zs zt zr zg zh zo zl zz zv zw zaa zab zq zc zd zp zu ze zy zx zm zj zn po) _
                cases h
                exact OEnds.vret hm_16 rfl rfl
            · simp only [if_neg hc56] at h
              refine OEnds.ifT hm_16 rfl (q := 123) rfl ((feq hc56).2) ?_
              show OEnds own_P 16 123 [qr 1, qi v1, qi v2, qi v3, qi v4, qi (x33 - (97 : Int32)), qi ((v2 * (26 : Int32)) + (x33 - (97 : Int32)))] [] (c0 :: bk0 zf za zi zk zb zs zt zr zg zh zo zl zz zv zw zaa zab zq zc zd zp zu ze zy zx zm zj zn po) _
              exact ok_insertKeyword_123 ih hk137 h
          · simp only [if_neg hc55] at h
            refine OEnds.icmpF hm_16 rfl ((flt hc55).1) ?_
            show OEnds own_P 16 54 [qr 1, qi v1, qi v2, qi v3, qi v4, qi (x33 - (97 : Int32)), qu] [] (c0 :: bk0 zf za zi zk zb zs zt zr zg zh zo zl zz zv zw zaa zab zq zc zd zp zu ze zy zx zm zj zn po) _
            cases h
            exact OEnds.vret hm_16 rfl rfl
      · simp only [if_neg hc53] at h
        refine OEnds.icmpT hm_16 rfl (q := 137) rfl ((flt hc53).2.1) ?_
        show OEnds own_P 16 137 [qr 1, qi v1, qi v2, qi v3, qi v4, qu, qu] [] (c0 :: bk0 zf za zi zk zb zs zt zr zg zh zo zl zz zv zw zaa zab zq zc zd zp zu ze zy zx zm zj zn po) _
        exact hk137 h
    · simp only [if_neg hc52] at h
      refine OEnds.icmpT hm_16 rfl (q := 137) rfl ((flt hc52).2.1) ?_
      show OEnds own_P 16 137 [qr 1, qi v1, qi v2, qi v3, qi v4, qu, qu] [] (c0 :: bk0 zf za zi zk zb zs zt zr zg zh zo zl zz zv zw zaa zab zq zc zd zp zu ze zy zx zm zj zn po) _
      exact hk137 h
theorem ok_insertKeyword {zf za zi zk zs zt zo zl zz zv zw : List Int32} {zaa zab zq zc zd zu ze zy zx zm zj zn : Int32} {c0 : ACell} {po : List ACell} {zb zr zg zh : List Int32} {zp v1 : Int32} {w_o_child w_o_depth w_o_term w_o_outMask : List Int32} {w_o_nodeCount : Int32} (h : f_insertKeyword zf za zb zr zg zh zp v1 = some (w_o_child, w_o_depth, w_o_term, w_o_outMask, w_o_nodeCount)) : OEnds own_P 16 0 [qr 1, qi v1, qu, qu, qu, qu, qu] [] (c0 :: bk0 zf za zi zk zb zs zt zr zg zh zo zl zz zv zw zaa zab zq zc zd zp zu ze zy zx zm zj zn po) (none, (c0 :: bk0 zf za zi zk w_o_child zs zt w_o_depth w_o_term w_o_outMask zo zl zz zv zw zaa zab zq zc zd w_o_nodeCount zu ze zy zx zm zj zn po), 0, 0) := by
  unfold f_insertKeyword at h
  refine OEnds.adv hm_16 8 (pc' := 10) (L' := [qr 1, qi v1, qi 0, qi (v1 * (8 : Int32)), qi 0, qu, qu]) (S' := []) (H' := (c0 :: bk0 zf za zi zk zb zs zt zr zg zh zo zl zz zv zw zaa zab zq zc zd zp zu ze zy zx zm zj zn po)) rfl ?_
  exact ok_insertKeyword_10 (k137 := f_insertKeyword_137 zf za) ok_insertKeyword_137 100000 h
theorem ok_buildTrie_12 {zf za zi zk zs zt zo zl zz zv zw : List Int32} {zaa zab zq zc zd ze zy zx zm zj zn : Int32} {c0 : ACell} {po : List ACell} : ∀ (n : Nat), ∀ {zb zr zg zh : List Int32} {zp zu v1 : Int32} {w_o_child w_o_depth w_o_term w_o_outMask : List Int32} {w_o_nodeCount : Int32} {w_o_longestKw : Int32}, f_buildTrie_12 zf za zc n zb zr zg zh zp zu v1 = some (w_o_child, w_o_depth, w_o_term, w_o_outMask, w_o_nodeCount, w_o_longestKw) → OEnds own_P 15 12 [qr 1, qi v1] [] (c0 :: bk0 zf za zi zk zb zs zt zr zg zh zo zl zz zv zw zaa zab zq zc zd zp zu ze zy zx zm zj zn po) (none, (c0 :: bk0 zf za zi zk w_o_child zs zt w_o_depth w_o_term w_o_outMask zo zl zz zv zw zaa zab zq zc zd w_o_nodeCount w_o_longestKw ze zy zx zm zj zn po), 0, 0) := by
  intro n
  induction n with
  | zero => intro zb zr zg zh zp zu v1 w_o_child w_o_depth w_o_term w_o_outMask w_o_nodeCount w_o_longestKw h; cases h
  | succ n ih =>
    intro zb zr zg zh zp zu v1 w_o_child w_o_depth w_o_term w_o_outMask w_o_nodeCount w_o_longestKw h
    unfold f_buildTrie_12 at h
    refine OEnds.adv hm_15 3 (pc' := 17) (L' := [qr 1, qi v1]) (S' := [.int zc, .int v1]) (H' := (c0 :: bk0 zf za zi zk zb zs zt zr zg zh zo zl zz zv zw zaa zab zq zc zd zp zu ze zy zx zm zj zn po)) rfl ?_
    by_cases hc58 : v1 < zc
    · simp only [if_pos hc58] at h
      refine OEnds.icmpF hm_15 rfl ((tlt hc58).2.1) ?_
      refine OEnds.adv hm_15 2 (pc' := 23) (L' := [qr 1, qi v1]) (S' := [.int 16, .int v1]) (H' := (c0 :: bk0 zf za zi zk zb zs zt zr zg zh zo zl zz zv zw zaa zab zq zc zd zp zu ze zy zx zm zj zn po)) rfl ?_
      by_cases hc59 : v1 < (16 : Int32)
      · simp only [if_pos hc59] at h
        refine OEnds.icmpF hm_15 rfl ((tlt hc59).2.1) ?_
        refine OEnds.adv hm_15 2 (pc' := 28) (L' := [qr 1, qi v1]) (S' := [.int v1, .ref 1]) (H' := (c0 :: bk0 zf za zi zk zb zs zt zr zg zh zo zl zz zv zw zaa zab zq zc zd zp zu ze zy zx zm zj zn po)) rfl ?_
        obtain ⟨⟨s42, s43, s44, s45, s46⟩, hq60, h⟩ := bnd h
        refine OEnds.call0 hm_15 rfl rfl (by decide) rfl (as := [.ref 1, .int v1]) (rest := []) rfl rfl (ok_insertKeyword hq60) ?_
        refine OEnds.adv hm_15 3 (pc' := 36) (L' := [qr 1, qi v1]) (S' := [.int v1, .ref 3]) (H' := (c0 :: bk0 zf za zi zk s42 zs zt s43 s44 s45 zo zl zz zv zw zaa zab zq zc zd s46 zu ze zy zx zm zj zn po)) rfl ?_
        obtain ⟨x47, hx47, h⟩ := bnd h
        refine OEnds.plain hm_15 rfl rfl (x_iaload rfl hx47) ?_
        refine OEnds.adv hm_15 2 (pc' := 41) (L' := [qr 1, qi v1]) (S' := [.int zu, .int x47]) (H' := (c0 :: bk0 zf za zi zk s42 zs zt s43 s44 s45 zo zl zz zv zw zaa zab zq zc zd s46 zu ze zy zx zm zj zn po)) rfl ?_
        by_cases hc61 : zu < x47
        · simp only [if_pos hc61] at h
          refine OEnds.icmpF hm_15 rfl ((tlt hc61).2.2.2) ?_
          refine OEnds.adv hm_15 4 (pc' := 50) (L' := [qr 1, qi v1]) (S' := [.int v1, .ref 3, .ref 1]) (H' := (c0 :: bk0 zf za zi zk s42 zs zt s43 s44 s45 zo zl zz zv zw zaa zab zq zc zd s46 zu ze zy zx zm zj zn po)) rfl ?_
          obtain ⟨x48, hx48, h⟩ := bnd h
          refine OEnds.plain hm_15 rfl rfl (x_iaload rfl hx48) ?_
          refine OEnds.adv hm_15 3 (pc' := 12) (L' := [qr 1, qi (v1 + (1 : Int32))]) (S' := []) (H' := (c0 :: bk0 zf za zi zk s42 zs zt s43 s44 s45 zo zl zz zv zw zaa zab zq zc zd s46 x48 ze zy zx zm zj zn po)) rfl ?_
          exact ih h
        · simp only [if_neg hc61] at h
          refine OEnds.icmpT hm_15 rfl (q := 54) rfl ((flt hc61).2.2.2) ?_
          refine OEnds.adv hm_15 2 (pc' := 12) (L' := [qr 1, qi (v1 + (1 : Int32))]) (S' := []) (H' := (c0 :: bk0 zf za zi zk s42 zs zt s43 s44 s45 zo zl zz zv zw zaa zab zq zc zd s46 zu ze zy zx zm zj zn po)) rfl ?_
          exact ih h
      · simp only [if_neg hc59] at h
        refine OEnds.icmpT hm_15 rfl (q := 60) rfl ((flt hc59).2.1) ?_
        show OEnds own_P 15 60 [qr 1, qi v1] [] (c0 :: bk0 zf za zi zk zb zs zt zr zg zh zo zl zz zv zw zaa zab zq zc zd zp zu ze zy zx zm zj zn po) _
        cases h
        exact OEnds.vret hm_15 rfl rfl
    · simp only [if_neg hc58] at h
      refine OEnds.icmpT hm_15 rfl (q := 60) rfl ((flt hc58).2.1) ?_
      show OEnds own_P 15 60 [qr 1, qi v1] [] (c0 :: bk0 zf za zi zk zb zs zt zr zg zh zo zl zz zv zw zaa zab zq zc zd zp zu ze zy zx zm zj zn po) _
      cases h
      exact OEnds.vret hm_15 rfl rfl
theorem ok_buildTrie {zf za zi zk zs zt zo zl zz zv zw : List Int32} {zaa zab zq zc zd ze zy zx zm zj zn : Int32} {c0 : ACell} {po : List ACell} {zb zr zg zh : List Int32} {zp zu : Int32} {w_o_child w_o_depth w_o_term w_o_outMask : List Int32} {w_o_nodeCount w_o_longestKw : Int32} (h : f_buildTrie zf za zc zb zr zg zh zp zu = some (w_o_child, w_o_depth, w_o_term, w_o_outMask, w_o_nodeCount, w_o_longestKw)) : OEnds own_P 15 0 [qr 1, qu] [] (c0 :: bk0 zf za zi zk zb zs zt zr zg zh zo zl zz zv zw zaa zab zq zc zd zp zu ze zy zx zm zj zn po) (none, (c0 :: bk0 zf za zi zk w_o_child zs zt w_o_depth w_o_term w_o_outMask zo zl zz zv zw zaa zab zq zc zd w_o_nodeCount w_o_longestKw ze zy zx zm zj zn po), 0, 0) := by
  unfold f_buildTrie at h
  refine OEnds.adv hm_15 8 (pc' := 12) (L' := [qr 1, qi 0]) (S' := []) (H' := (c0 :: bk0 zf za zi zk zb zs zt zr zg zh zo zl zz zv zw zaa zab zq zc zd 1 1 ze zy zx zm zj zn po)) rfl ?_
  exact ok_buildTrie_12 100000 h
theorem ok_expandNode_58 {zf za zi zk zb zr zg zl zz zv zw : List Int32} {zaa zab zq zc zd zp zu ze zy zx zm zj zn : Int32} {c0 : ACell} {po : List ACell} : ∀ (n : Nat), ∀ {zs zt zh zo : List Int32} {v1 v3 v4 v5 : Int32} {d2 d6 d7 : Slot} {res : Int32} {w_o_delta w_o_fail w_o_outMask : List Int32} {w_o_queue : List Int32}, f_expandNode_58 zb n zs zt zh zo v1 v3 v4 v5 = some (res, w_o_delta, w_o_fail, w_o_outMask, w_o_queue) → OEnds own_P 18 58 [qr 1, qi v1, d2, qi v3, qi v4, qi v5, d6, d7] [] (c0 :: bk0 zf za zi zk zb zs zt zr zg zh zo zl zz zv zw zaa zab zq zc zd zp zu ze zy zx zm zj zn po) (some (.int res), (c0 :: bk0 zf za zi zk zb w_o_delta w_o_fail zr zg w_o_outMask w_o_queue zl zz zv zw zaa zab zq zc zd zp zu ze zy zx zm zj zn po), 0, 0) := by
  intro n
  induction n with
  | zero => intro zs zt zh zo v1 v3 v4 v5 d2 d6 d7 res w_o_delta w_o_fail w_o_outMask w_o_queue h; cases h
  | succ n ih =>
    intro zs zt zh zo v1 v3 v4 v5 d2 d6 d7 res w_o_delta w_o_fail w_o_outMask w_o_queue h
    unfold f_expandNode_58 at h
    refine OEnds.adv hm_18 2 (pc' := 62) (L' := [qr 1, qi v1, qu, qi v3, qi v4, qi v5, qu, qu]) (S' := [.int 26, .int v5]) (H' := (c0 :: bk0 zf za zi zk zb zs zt zr zg zh zo zl zz zv zw zaa zab zq zc zd zp zu ze zy zx zm zj zn po)) rfl ?_
    by_cases hc62 : v5 < (26 : Int32)
    · simp only [if_pos hc62] at h
      refine OEnds.icmpF hm_18 rfl ((tlt hc62).2.1) ?_
      refine OEnds.adv hm_18 7 (pc' := 76) (L' := [qr 1, qi v1, qu, qi v3, qi v4, qi v5, qu, qu]) (S' := [.int ((v1 * (26 : Int32)) + v5), .ref 6]) (H' := (c0 :: bk0 zf za zi zk zb zs zt zr zg zh zo zl zz zv zw zaa zab zq zc zd zp zu ze zy zx zm zj zn po)) rfl ?_
      obtain ⟨x53, hx53, h⟩ := bnd h
      refine OEnds.plain hm_18 rfl rfl (x_iaload rfl hx53) ?_
      refine OEnds.adv hm_18 8 (pc' := 90) (L' := [qr 1, qi v1, qu, qi v3, qi v4, qi v5, qi x53, qu]) (S' := [.int ((v3 * (26 : Int32)) + v5), .ref 7]) (H' := (c0 :: bk0 zf za zi zk zb zs zt zr zg zh zo zl zz zv zw zaa zab zq zc zd zp zu ze zy zx zm zj zn po)) rfl ?_
      obtain ⟨x54, hx54, h⟩ := bnd h
      refine OEnds.plain hm_18 rfl rfl (x_iaload rfl hx54) ?_
      refine OEnds.adv hm_18 2 (pc' := 95) (L' := [qr 1, qi v1, qu, qi v3, qi v4, qi v5, qi x53, qi x54]) (S' := [.int x53]) (H' := (c0 :: bk0 zf za zi zk zb zs zt zr zg zh zo zl zz zv zw zaa zab zq zc zd zp zu ze zy zx zm zj zn po)) rfl ?_
      by_cases hc63 : x53 = (0 : Int32)
      · simp only [if_pos hc63] at h
        refine OEnds.ifT hm_18 rfl (q := 144) rfl ((teq hc63).1) ?_
        refine OEnds.adv hm_18 8 (pc' := 157) (L' := [qr 1, qi v1, qu, qi v3, qi v4, qi v5, qi x53, qi x54]) (S' := [.int x54, .int ((v1 * (26 : Int32)) + v5), .ref 7]) (H' := (c0 :: bk0 zf za zi zk zb zs zt zr zg zh zo zl zz zv zw zaa zab zq zc zd zp zu ze zy zx zm zj zn po)) rfl ?_
        obtain ⟨A55, hA55, h⟩ := bnd h
        refine OEnds.plain hm_18 rfl rfl (x_iastore rfl (Nat.le_of_ble_eq_true rfl) hA55) ?_
        refine OEnds.adv hm_18 2 (pc' := 58) (L' := [qr 1, qi v1, qu, qi v3, qi v4, qi (v5 + (1 : Int32)), qi x53, qi x54]) (S' := []) (H' := (c0 :: bk0 zf za zi zk zb A55 zt zr zg zh zo zl zz zv zw zaa zab zq zc zd zp zu ze zy zx zm zj zn po)) rfl ?_
        exact ih h
      · simp only [if_neg hc63] at h
        refine OEnds.ifF hm_18 rfl ((feq hc63).1) ?_
        refine OEnds.adv hm_18 4 (pc' := 106) (L' := [qr 1, qi v1, qu, qi v3, qi v4, qi v5, qi x53, qi x54]) (S' := [.int x54, .int x53, .ref 8]) (H' := (c0 :: bk0 zf za zi zk zb zs zt zr zg zh zo zl zz zv zw zaa zab zq zc zd zp zu ze zy zx zm zj zn po)) rfl ?_
        obtain ⟨A56, hA56, h⟩ := bnd h
        refine OEnds.plain hm_18 rfl rfl (x_iastore rfl (Nat.le_of_ble_eq_true rfl) hA56) ?_
        refine OEnds.adv hm_18 8 (pc' := 120) (L' := [qr 1, qi v1, qu, qi v3, qi v4, qi v5, qi x53, qi x54]) (S' := [.int x53, .int ((v1 * (26 : Int32)) + v5), .ref 7]) (H' := (c0 :: bk0 zf za zi zk zb zs A56 zr zg zh zo zl zz zv zw zaa zab zq zc zd zp zu ze zy zx zm zj zn po)) rfl ?_
        obtain ⟨A57, hA57, h⟩ := bnd h
        refine OEnds.plain hm_18 rfl rfl (x_iastore rfl (Nat.le_of_ble_eq_true rfl) hA57) ?_
        refine OEnds.adv hm_18 2 (pc' := 126) (L' := [qr 1, qi v1, qu, qi v3, qi v4, qi v5, qi x53, qi x54]) (S' := [.int 129, .int v4]) (H' := (c0 :: bk0 zf za zi zk zb A57 A56 zr zg zh zo zl zz zv zw zaa zab zq zc zd zp zu ze zy zx zm zj zn po)) rfl ?_
        by_cases hc64 : v4 < (129 : Int32)
        · simp only [if_pos hc64] at h
          refine OEnds.icmpF hm_18 rfl ((tlt hc64).2.1) ?_
          refine OEnds.adv hm_18 4 (pc' := 137) (L' := [qr 1, qi v1, qu, qi v3, qi v4, qi v5, qi x53, qi x54]) (S' := [.int x53, .int v4, .ref 12]) (H' := (c0 :: bk0 zf za zi zk zb A57 A56 zr zg zh zo zl zz zv zw zaa zab zq zc zd zp zu ze zy zx zm zj zn po)) rfl ?_
          obtain ⟨A58, hA58, h⟩ := bnd h
          refine OEnds.plain hm_18 rfl rfl (x_iastore rfl (Nat.le_of_ble_eq_true rfl) hA58) ?_
          refine OEnds.adv hm_18 4 (pc' := 58) (L' := [qr 1, qi v1, qu, qi v3, qi (v4 + (1 : Int32)), qi (v5 + (1 : Int32)), qi x53, qi x54]) (S' := []) (H' := (c0 :: bk0 zf za zi zk zb A57 A56 zr zg zh A58 zl zz zv zw zaa zab zq zc zd zp zu ze zy zx zm zj zn po)) rfl ?_
          exact ih h
        · simp only [if_neg hc64] at h
          refine OEnds.icmpT hm_18 rfl (q := 158) rfl ((flt hc64).2.1) ?_
          refine OEnds.adv hm_18 2 (pc' := 58) (L' := [qr 1, qi v1, qu, qi v3, qi v4, qi (v5 + (1 : Int32)), qi x53, qi x54]) (S' := []) (H' := (c0 :: bk0 zf za zi zk zb A57 A56 zr zg zh zo zl zz zv zw zaa zab zq zc zd zp zu ze zy zx zm zj zn po)) rfl ?_
          exact ih h
    · simp only [if_neg hc62] at h
      refine OEnds.icmpT hm_18 rfl (q := 164) rfl ((flt hc62).2.1) ?_
      refine OEnds.adv hm_18 1 (pc' := 166) (L' := [qr 1, qi v1, qu, qi v3, qi v4, qi v5, qu, qu]) (S' := [.int v4]) (H' := (c0 :: bk0 zf za zi zk zb zs zt zr zg zh zo zl zz zv zw zaa zab zq zc zd zp zu ze zy zx zm zj zn po)) rfl ?_
      cases h
      exact OEnds.iret hm_18 rfl rfl
theorem ok_expandNode_33 {zf za zi zk zb zr zg zl zz zv zw : List Int32} {zaa zab zq zc zd zp zu ze zy zx zm zj zn : Int32} {c0 : ACell} {po : List ACell} : ∀ {zs zt zh zo : List Int32} {v1 v2 v3 : Int32} {d4 d5 d6 d7 : Slot} {res : Int32} {w_o_delta w_o_fail w_o_outMask : List Int32} {w_o_queue : List Int32}, f_expandNode_33 zb zs zt zh zo v1 v2 v3 = some (res, w_o_delta, w_o_fail, w_o_outMask, w_o_queue) → OEnds own_P 18 33 [qr 1, qi v1, qi v2, qi v3, d4, d5, d6, d7] [] (c0 :: bk0 zf za zi zk zb zs zt zr zg zh zo zl zz zv zw zaa zab zq zc zd zp zu ze zy zx zm zj zn po) (some (.int res), (c0 :: bk0 zf za zi zk zb w_o_delta w_o_fail zr zg w_o_outMask w_o_queue zl zz zv zw zaa zab zq zc zd zp zu ze zy zx zm zj zn po), 0, 0) := by
  intro zs zt zh zo v1 v2 v3 d4 d5 d6 d7 res w_o_delta w_o_fail w_o_outMask w_o_queue h
  unfold f_expandNode_33 at h
  refine OEnds.adv hm_18 6 (pc' := 43) (L' := [qr 1, qi v1, qi v2, qi v3, qu, qu, qu, qu]) (S' := [.int v1, .ref 11, .int v1, .ref 11]) (H' := (c0 :: bk0 zf za zi zk zb zs zt zr zg zh zo zl zz zv zw zaa zab zq zc zd zp zu ze zy zx zm zj zn po)) rfl ?_
  obtain ⟨x50, hx50, h⟩ := bnd h
  refine OEnds.plain hm_18 rfl rfl (x_iaload rfl hx50) ?_
  refine OEnds.adv hm_18 3 (pc' := 49) (L' := [qr 1, qi v1, qi v2, qi v3, qu, qu, qu, qu]) (S' := [.int v3, .ref 11, .int x50, .int v1, .ref 11]) (H' := (c0 :: bk0 zf za zi zk zb zs zt zr zg zh zo zl zz zv zw zaa zab zq zc zd zp zu ze zy zx zm zj zn po)) rfl ?_
  obtain ⟨x51, hx51, h⟩ := bnd h
  refine OEnds.plain hm_18 rfl rfl (x_iaload rfl hx51) ?_
  refine OEnds.adv hm_18 1 (pc' := 51) (L' := [qr 1, qi v1, qi v2, qi v3, qu, qu, qu, qu]) (S' := [.int (x50 ||| x51), .int v1, .ref 11]) (H' := (c0 :: bk0 zf za zi zk zb zs zt zr zg zh zo zl zz zv zw zaa zab zq zc zd zp zu ze zy zx zm zj zn po)) rfl ?_
  obtain ⟨A52, hA52, h⟩ := bnd h
  refine OEnds.plain hm_18 rfl rfl (x_iastore rfl (Nat.le_of_ble_eq_true rfl) hA52) ?_
  refine OEnds.adv hm_18 4 (pc' := 58) (L' := [qr 1, qi v1, qi v2, qi v3, qi v2, qi 0, qu, qu]) (S' := []) (H' := (c0 :: bk0 zf za zi zk zb zs zt zr zg A52 zo zl zz zv zw zaa zab zq zc zd zp zu ze zy zx zm zj zn po)) rfl ?_
  exact ok_expandNode_58 100000 h
theorem ok_expandNode {zf za zi zk zb zr zg zl zz zv zw : List Int32} {zaa zab zq zc zd zp zu ze zy zx zm zj zn : Int32} {c0 : ACell} {po : List ACell} {zs zt zh zo : List Int32} {v1 v2 res : Int32} {w_o_delta w_o_fail w_o_outMask w_o_queue : List Int32} (h : f_expandNode zb zs zt zh zo v1 v2 = some (res, w_o_delta, w_o_fail, w_o_outMask, w_o_queue)) : OEnds own_P 18 0 [qr 1, qi v1, qi v2, qu, qu, qu, qu, qu] [] (c0 :: bk0 zf za zi zk zb zs zt zr zg zh zo zl zz zv zw zaa zab zq zc zd zp zu ze zy zx zm zj zn po) (some (.int res), (c0 :: bk0 zf za zi zk zb w_o_delta w_o_fail zr zg w_o_outMask w_o_queue zl zz zv zw zaa zab zq zc zd zp zu ze zy zx zm zj zn po), 0, 0) := by
  unfold f_expandNode at h
  refine OEnds.adv hm_18 1 (pc' := 1) (L' := [qr 1, qi v1, qi v2, qu, qu, qu, qu, qu]) (S' := [.int v1]) (H' := (c0 :: bk0 zf za zi zk zb zs zt zr zg zh zo zl zz zv zw zaa zab zq zc zd zp zu ze zy zx zm zj zn po)) rfl ?_
  by_cases hc65 : (0 : Int32) < v1
  · simp only [if_pos hc65] at h
    refine OEnds.ifF hm_18 rfl ((tlt hc65).2.2.2) ?_
    refine OEnds.adv hm_18 2 (pc' := 8) (L' := [qr 1, qi v1, qi v2, qu, qu, qu, qu, qu]) (S' := [.int 129, .int v1]) (H' := (c0 :: bk0 zf za zi zk zb zs zt zr zg zh zo zl zz zv zw zaa zab zq zc zd zp zu ze zy zx zm zj zn po)) rfl ?_
    by_cases hc66 : v1 < (129 : Int32)
    · simp only [if_pos hc66] at h
      refine OEnds.icmpT hm_18 rfl (q := 13) rfl ((tlt hc66).1) ?_
      refine OEnds.adv hm_18 3 (pc' := 18) (L' := [qr 1, qi v1, qi v2, qu, qu, qu, qu, qu]) (S' := [.int v1, .ref 8]) (H' := (c0 :: bk0 zf za zi zk zb zs zt zr zg zh zo zl zz zv zw zaa zab zq zc zd zp zu ze zy zx zm zj zn po)) rfl ?_
      obtain ⟨x49, hx49, h⟩ := bnd h
      refine OEnds.plain hm_18 rfl rfl (x_iaload rfl hx49) ?_
      refine OEnds.adv hm_18 2 (pc' := 21) (L' := [qr 1, qi v1, qi v2, qi x49, qu, qu, qu, qu]) (S' := [.int x49]) (H' := (c0 :: bk0 zf za zi zk zb zs zt zr zg zh zo zl zz zv zw zaa zab zq zc zd zp zu ze zy zx zm zj zn po)) rfl ?_
      by_cases hc67 : x49 < (0 : Int32)
      · simp only [if_pos hc67] at h
        refine OEnds.ifT hm_18 rfl (q := 31) rfl ((tlt hc67).1) ?_
        refine OEnds.adv hm_18 2 (pc' := 33) (L' := [qr 1, qi v1, qi v2, qi 0, qu, qu, qu, qu]) (S' := []) (H' := (c0 :: bk0 zf za zi zk zb zs zt zr zg zh zo zl zz zv zw zaa zab zq zc zd zp zu ze zy zx zm zj zn po)) rfl ?_
        exact ok_expandNode_33 h
      · simp only [if_neg hc67] at h
        refine OEnds.ifF hm_18 rfl ((flt hc67).1) ?_
        refine OEnds.adv hm_18 2 (pc' := 28) (L' := [qr 1, qi v1, qi v2, qi x49, qu, qu, qu, qu]) (S' := [.int 129, .int x49]) (H' := (c0 :: bk0 zf za zi zk zb zs zt zr zg zh zo zl zz zv zw zaa zab zq zc zd zp zu ze zy zx zm zj zn po)) rfl ?_
        by_cases hc68 : x49 < (129 : Int32)
        · simp only [if_pos hc68] at h
          refine OEnds.icmpT hm_18 rfl (q := 33) rfl ((tlt hc68).1) ?_
          show OEnds own_P 18 33 [qr 1, qi v1, qi v2, qi x49, qu, qu, qu, qu] [] (c0 :: bk0 zf za zi zk zb zs zt zr zg zh zo zl zz zv zw zaa zab zq zc zd zp zu ze zy zx zm zj zn po) _
          exact ok_expandNode_33 h
        · simp only [if_neg hc68] at h
          refine OEnds.icmpF hm_18 rfl ((flt hc68).1) ?_
          refine OEnds.adv hm_18 2 (pc' := 33) (L' := [qr 1, qi v1, qi v2, qi 0, qu, qu, qu, qu]) (S' := []) (H' := (c0 :: bk0 zf za zi zk zb zs zt zr zg zh zo zl zz zv zw zaa zab zq zc zd zp zu ze zy zx zm zj zn po)) rfl ?_
          exact ok_expandNode_33 h
    · simp only [if_neg hc66] at h
      refine OEnds.icmpF hm_18 rfl ((flt hc66).1) ?_
      refine OEnds.adv hm_18 1 (pc' := 12) (L' := [qr 1, qi v1, qi v2, qu, qu, qu, qu, qu]) (S' := [.int v2]) (H' := (c0 :: bk0 zf za zi zk zb zs zt zr zg zh zo zl zz zv zw zaa zab zq zc zd zp zu ze zy zx zm zj zn po)) rfl ?_
      cases h
      exact OEnds.iret hm_18 rfl rfl
  · simp only [if_neg hc65] at h
    refine OEnds.ifT hm_18 rfl (q := 11) rfl ((flt hc65).2.2.2) ?_
    refine OEnds.adv hm_18 1 (pc' := 12) (L' := [qr 1, qi v1, qi v2, qu, qu, qu, qu, qu]) (S' := [.int v2]) (H' := (c0 :: bk0 zf za zi zk zb zs zt zr zg zh zo zl zz zv zw zaa zab zq zc zd zp zu ze zy zx zm zj zn po)) rfl ?_
    cases h
    exact OEnds.iret hm_18 rfl rfl
theorem ok_computeLinks_74 {zf za zi zk zb zr zg zl zz zv zw : List Int32} {zaa zab zq zc zd zp zu ze zy zx zm zj zn : Int32} {c0 : ACell} {po : List ACell} : ∀ (n : Nat), ∀ {zs zt zh zo : List Int32} {v1 v2 v3 : Int32} {d4 : Slot} {w_o_delta w_o_fail w_o_outMask : List Int32} {w_o_queue : List Int32}, f_computeLinks_74 zb n zs zt zh zo v1 v2 v3 = some (w_o_delta, w_o_fail, w_o_outMask, w_o_queue) → OEnds own_P 17 74 [qr 1, qi v1, qi v2, qi v3, d4] [] (c0 :: bk0 zf za zi zk zb zs zt zr zg zh zo zl zz zv zw zaa zab zq zc zd zp zu ze zy zx zm zj zn po) (none, (c0 :: bk0 zf za zi zk zb w_o_delta w_o_fail zr zg w_o_outMask w_o_queue zl zz zv zw zaa zab zq zc zd zp zu ze zy zx zm zj zn po), 0, 0) := by
  intro n
  induction n with
  | zero => intro zs zt zh zo v1 v2 v3 d4 w_o_delta w_o_fail w_o_outMask w_o_queue h; cases h
  | succ n ih =>
    intro zs zt zh zo v1 v2 v3 d4 w_o_delta w_o_fail w_o_outMask w_o_queue h
    unfold f_computeLinks_74 at h
    refine OEnds.adv hm_17 2 (pc' := 78) (L' := [qr 1, qi v1, qi v2, qi v3, qu]) (S' := [.int 129, .int v3]) (H' := (c0 :: bk0 zf za zi zk zb zs zt zr zg zh zo zl zz zv zw zaa zab zq zc zd zp zu ze zy zx zm zj zn po)) rfl ?_
    by_cases hc69 : v3 < (129 : Int32)
    · simp only [if_pos hc69] at h
      refine OEnds.icmpF hm_17 rfl ((tlt hc69).2.1) ?_
      refine OEnds.adv hm_17 2 (pc' := 83) (L' := [qr 1, qi v1, qi v2, qi v3, qu]) (S' := [.int v2, .int v1]) (H' := (c0 :: bk0 zf za zi zk zb zs zt zr zg zh zo zl zz zv zw zaa zab zq zc zd zp zu ze zy zx zm zj zn po)) rfl ?_
      by_cases hc70 : v1 < v2
      · simp only [if_pos hc70] at h
        refine OEnds.icmpT hm_17 rfl (q := 87) rfl ((tlt hc70).1) ?_
        refine OEnds.adv hm_17 3 (pc' := 92) (L' := [qr 1, qi v1, qi v2, qi v3, qu]) (S' := [.int v1, .ref 12]) (H' := (c0 :: bk0 zf za zi zk zb zs zt zr zg zh zo zl zz zv zw zaa zab zq zc zd zp zu ze zy zx zm zj zn po)) rfl ?_
        obtain ⟨x64, hx64, h⟩ := bnd h
        refine OEnds.plain hm_17 rfl rfl (x_iaload rfl hx64) ?_
        refine OEnds.adv hm_17 5 (pc' := 102) (L' := [qr 1, qi (v1 + (1 : Int32)), qi v2, qi v3, qi x64]) (S' := [.int v2, .int x64, .ref 1]) (H' := (c0 :: bk0 zf za zi zk zb zs zt zr zg zh zo zl zz zv zw zaa zab zq zc zd zp zu ze zy zx zm zj zn po)) rfl ?_
        obtain ⟨⟨r65, s66, s67, s68, s69⟩, hq71, h⟩ := bnd h
        refine OEnds.call0 hm_17 rfl rfl (by decide) rfl (as := [.ref 1, .int x64, .int v2]) (rest := []) rfl rfl (ok_expandNode hq71) ?_
        refine OEnds.adv hm_17 3 (pc' := 74) (L' := [qr 1, qi (v1 + (1 : Int32)), qi r65, qi (v3 + (1 : Int32)), qi x64]) (S' := []) (H' := (c0 :: bk0 zf za zi zk zb s66 s67 zr zg s68 s69 zl zz zv zw zaa zab zq zc zd zp zu ze zy zx zm zj zn po)) rfl ?_
        exact ih h
      · simp only [if_neg hc70] at h
        refine OEnds.icmpF hm_17 rfl ((flt hc70).1) ?_
        show OEnds own_P 17 86 [qr 1, qi v1, qi v2, qi v3, qu] [] (c0 :: bk0 zf za zi zk zb zs zt zr zg zh zo zl zz zv zw zaa zab zq zc zd zp zu ze zy zx zm zj zn po) _
        cases h
        exact OEnds.vret hm_17 rfl rfl
    · simp only [if_neg hc69] at h
      refine OEnds.icmpT hm_17 rfl (q := 112) rfl ((flt hc69).2.1) ?_
      show OEnds own_P 17 112 [qr 1, qi v1, qi v2, qi v3, qu] [] (c0 :: bk0 zf za zi zk zb zs zt zr zg zh zo zl zz zv zw zaa zab zq zc zd zp zu ze zy zx zm zj zn po) _
      cases h
      exact OEnds.vret hm_17 rfl rfl
theorem ok_computeLinks_13 {zf za zi zk zb zr zg zl zz zv zw : List Int32} {zaa zab zq zc zd zp zu ze zy zx zm zj zn : Int32} {c0 : ACell} {po : List ACell} {k74 : List Int32 → List Int32 → List Int32 → List Int32 → Int32 → Int32 → Int32 → Option (List Int32 × List Int32 × List Int32 × List Int32)} (hk74 : ∀ {zs zt zh zo : List Int32} {v1 v2 v3 : Int32} {d4 : Slot} {w_o_delta w_o_fail w_o_outMask : List Int32} {w_o_queue : List Int32}, k74 zs zt zh zo v1 v2 v3 = some (w_o_delta, w_o_fail, w_o_outMask, w_o_queue) → OEnds own_P 17 74 [qr 1, qi v1, qi v2, qi v3, d4] [] (c0 :: bk0 zf za zi zk zb zs zt zr zg zh zo zl zz zv zw zaa zab zq zc zd zp zu ze zy zx zm zj zn po) (none, (c0 :: bk0 zf za zi zk zb w_o_delta w_o_fail zr zg w_o_outMask w_o_queue zl zz zv zw zaa zab zq zc zd zp zu ze zy zx zm zj zn po), 0, 0)) : ∀ (n : Nat), ∀ {zs zt zh zo : List Int32} {v1 v2 v3 : Int32} {d4 : Slot} {w_o_delta w_o_fail w_o_outMask : List Int32} {w_o_queue : List Int32}, f_computeLinks_13 k74 zb n zs zt zh zo v1 v2 v3 = some (w_o_delta, w_o_fail, w_o_outMask, w_o_queue) → OEnds own_P 17 13 [qr 1, qi v1, qi v2, qi v3, d4] [] (c0 :: bk0 zf za zi zk zb zs zt zr zg zh zo zl zz zv zw zaa zab zq zc zd zp zu ze zy zx zm zj zn po) (none, (c0 :: bk0 zf za zi zk zb w_o_delta w_o_fail zr zg w_o_outMask w_o_queue zl zz zv zw zaa zab zq zc zd zp zu ze zy zx zm zj zn po), 0, 0) := by
  intro n
  induction n with
  | zero => intro zs zt zh zo v1 v2 v3 d4 w_o_delta w_o_fail w_o_outMask w_o_queue h; cases h
  | succ n ih =>
    intro zs zt zh zo v1 v2 v3 d4 w_o_delta w_o_fail w_o_outMask w_o_queue h
    unfold f_computeLinks_13 at h
    refine OEnds.adv hm_17 2 (pc' := 16) (L' := [qr 1, qi v1, qi v2, qi v3, qu]) (S' := [.int 26, .int v3]) (H' := (c0 :: bk0 zf za zi zk zb zs zt zr zg zh zo zl zz zv zw zaa zab zq zc zd zp zu ze zy zx zm zj zn po)) rfl ?_
    by_cases hc72 : v3 < (26 : Int32)
    · simp only [if_pos hc72] at h
      refine OEnds.icmpF hm_17 rfl ((tlt hc72).2.1) ?_
      refine OEnds.adv hm_17 3 (pc' := 24) (L' := [qr 1, qi v1, qi v2, qi v3, qu]) (S' := [.int v3, .ref 6]) (H' := (c0 :: bk0 zf za zi zk zb zs zt zr zg zh zo zl zz zv zw zaa zab zq zc zd zp zu ze zy zx zm zj zn po)) rfl ?_
      obtain ⟨x60, hx60, h⟩ := bnd h
      refine OEnds.plain hm_17 rfl rfl (x_iaload rfl hx60) ?_
      refine OEnds.adv hm_17 5 (pc' := 34) (L' := [qr 1, qi v1, qi v2, qi v3, qi x60]) (S' := [.int x60, .int v3, .ref 7]) (H' := (c0 :: bk0 zf za zi zk zb zs zt zr zg zh zo zl zz zv zw zaa zab zq zc zd zp zu ze zy zx zm zj zn po)) rfl ?_
      obtain ⟨A61, hA61, h⟩ := bnd h
      refine OEnds.plain hm_17 rfl rfl (x_iastore rfl (Nat.le_of_ble_eq_true rfl) hA61) ?_
      refine OEnds.adv hm_17 1 (pc' := 37) (L' := [qr 1, qi v1, qi v2, qi v3, qi x60]) (S' := [.int x60]) (H' := (c0 :: bk0 zf za zi zk zb A61 zt zr zg zh zo zl zz zv zw zaa zab zq zc zd zp zu ze zy zx zm zj zn po)) rfl ?_
      by_cases hc73 : x60 = (0 : Int32)
      · simp only [if_pos hc73] at h
        refine OEnds.ifT hm_17 rfl (q := 66) rfl ((teq hc73).1) ?_
        refine OEnds.adv hm_17 2 (pc' := 13) (L' := [qr 1, qi v1, qi v2, qi (v3 + (1 : Int32)), qi x60]) (S' := []) (H' := (c0 :: bk0 zf za zi zk zb A61 zt zr zg zh zo zl zz zv zw zaa zab zq zc zd zp zu ze zy zx zm zj zn po)) rfl ?_
        exact ih h
      · simp only [if_neg hc73] at h
        refine OEnds.ifF hm_17 rfl ((feq hc73).1) ?_
        refine OEnds.adv hm_17 2 (pc' := 44) (L' := [qr 1, qi v1, qi v2, qi v3, qi x60]) (S' := [.int 129, .int v2]) (H' := (c0 :: bk0 zf za zi zk zb A61 zt zr zg zh zo zl zz zv zw zaa zab zq zc zd zp zu ze zy zx zm zj zn po)) rfl ?_
        by_cases hc74 : v2 < (129 : Int32)
        · simp only [if_pos hc74] at h
          refine OEnds.icmpF hm_17 rfl ((tlt hc74).2.1) ?_
          refine OEnds.adv hm_17 4 (pc' := 54) (L' := [qr 1, qi v1, qi v2, qi v3, qi x60]) (S' := [.int 0, .int x60, .ref 8]) (H' := (c0 :: bk0 zf za zi zk zb A61 zt zr zg zh zo zl zz zv zw zaa zab zq zc zd zp zu ze zy zx zm zj zn po)) rfl ?_
          obtain ⟨A62, hA62, h⟩ := bnd h
          refine OEnds.plain hm_17 rfl rfl (x_iastore rfl (Nat.le_of_ble_eq_true rfl) hA62) ?_
          refine OEnds.adv hm_17 4 (pc' := 62) (L' := [qr 1, qi v1, qi v2, qi v3, qi x60]) (S' := [.int x60, .int v2, .ref 12]) (H' := (c0 :: bk0 zf za zi zk zb A61 A62 zr zg zh zo zl zz zv zw zaa zab zq zc zd zp zu ze zy zx zm zj zn po)) rfl ?_
          obtain ⟨A63, hA63, h⟩ := bnd h
          refine OEnds.plain hm_17 rfl rfl (x_iastore rfl (Nat.le_of_ble_eq_true rfl) hA63) ?_
          refine OEnds.adv hm_17 3 (pc' := 13) (L' := [qr 1, qi v1, qi (v2 + (1 : Int32)), qi (v3 + (1 : Int32)), qi x60]) (S' := []) (H' := (c0 :: bk0 zf za zi zk zb A61 A62 zr zg zh A63 zl zz zv zw zaa zab zq zc zd zp zu ze zy zx zm zj zn po)) rfl ?_
          exact ih h
        · simp only [if_neg hc74] at h
          refine OEnds.icmpT hm_17 rfl (q := 66) rfl ((flt hc74).2.1) ?_
          refine OEnds.adv hm_17 2 (pc' := 13) (L' := [qr 1, qi v1, qi v2, qi (v3 + (1 : Int32)), qi x60]) (S' := []) (H' := (c0 :: bk0 zf za zi zk zb A61 zt zr zg zh zo zl zz zv zw zaa zab zq zc zd zp zu ze zy zx zm zj zn po)) rfl ?_
          exact ih h
    · simp only [if_neg hc72] at h
      refine OEnds.icmpT hm_17 rfl (q := 72) rfl ((flt hc72).2.1) ?_
      refine OEnds.adv hm_17 2 (pc' := 74) (L' := [qr 1, qi v1, qi v2, qi 0, qu]) (S' := []) (H' := (c0 :: bk0 zf za zi zk zb zs zt zr zg zh zo zl zz zv zw zaa zab zq zc zd zp zu ze zy zx zm zj zn po)) rfl ?_
      exact hk74 h
theorem ok_computeLinks {zf za zi zk zb zr zg zl zz zv zw : List Int32} {zaa zab zq zc zd zp zu ze zy zx zm zj zn : Int32} {c0 : ACell} {po : List ACell} {zs zt zh zo w_o_delta w_o_fail w_o_outMask w_o_queue : List Int32} (h : f_computeLinks zb zs zt zh zo = some (w_o_delta, w_o_fail, w_o_outMask, w_o_queue)) : OEnds own_P 17 0 [qr 1, qu, qu, qu, qu] [] (c0 :: bk0 zf za zi zk zb zs zt zr zg zh zo zl zz zv zw zaa zab zq zc zd zp zu ze zy zx zm zj zn po) (none, (c0 :: bk0 zf za zi zk zb w_o_delta w_o_fail zr zg w_o_outMask w_o_queue zl zz zv zw zaa zab zq zc zd zp zu ze zy zx zm zj zn po), 0, 0) := by
  unfold f_computeLinks at h
  refine OEnds.adv hm_17 8 (pc' := 10) (L' := [qr 1, qi 0, qi 0, qu, qu]) (S' := [.int 0, .int 0, .ref 8]) (H' := (c0 :: bk0 zf za zi zk zb zs zt zr zg zh zo zl zz zv zw zaa zab zq zc zd zp zu ze zy zx zm zj zn po)) rfl ?_
  obtain ⟨A59, hA59, h⟩ := bnd h
  refine OEnds.plain hm_17 rfl rfl (x_iastore rfl (Nat.le_of_ble_eq_true rfl) hA59) ?_
  refine OEnds.adv hm_17 2 (pc' := 13) (L' := [qr 1, qi 0, qi 0, qi 0, qu]) (S' := []) (H' := (c0 :: bk0 zf za zi zk zb zs A59 zr zg zh zo zl zz zv zw zaa zab zq zc zd zp zu ze zy zx zm zj zn po)) rfl ?_
  exact ok_computeLinks_13 (k74 := f_computeLinks_74 zb 100000) (ok_computeLinks_74 100000) 100000 h
theorem ok_build {zf za zi zk zl zz zv zw : List Int32} {zaa zab zc zd : Int32} {c0 : ACell} {po : List ACell} {zb zs zt zr zg zh zo : List Int32} {zq zp zu ze zy zx zm zj zn res : Int32} {w_o_child w_o_delta w_o_fail w_o_depth w_o_term w_o_outMask w_o_queue : List Int32} {w_o_phaseNow w_o_nodeCount w_o_longestKw w_o_n w_o_state w_o_total w_o_outLen w_o_commitPos w_o_tailLen : Int32} (h : f_build zf za zc zd zb zs zt zr zg zh zo zq zp zu ze zy zx zm zj zn = some (res, w_o_child, w_o_delta, w_o_fail, w_o_depth, w_o_term, w_o_outMask, w_o_queue, w_o_phaseNow, w_o_nodeCount, w_o_longestKw, w_o_n, w_o_state, w_o_total, w_o_outLen, w_o_commitPos, w_o_tailLen)) : OEnds own_P 14 0 [qr 1] [] (c0 :: bk0 zf za zi zk zb zs zt zr zg zh zo zl zz zv zw zaa zab zq zc zd zp zu ze zy zx zm zj zn po) (some (.int res), (c0 :: bk0 zf za zi zk w_o_child w_o_delta w_o_fail w_o_depth w_o_term w_o_outMask w_o_queue zl zz zv zw zaa zab w_o_phaseNow zc zd w_o_nodeCount w_o_longestKw w_o_n w_o_state w_o_total w_o_outLen w_o_commitPos w_o_tailLen po), 0, 0) := by
  unfold f_build at h
  refine OEnds.adv hm_14 2 (pc' := 4) (L' := [qr 1]) (S' := [.int zq]) (H' := (c0 :: bk0 zf za zi zk zb zs zt zr zg zh zo zl zz zv zw zaa zab zq zc zd zp zu ze zy zx zm zj zn po)) rfl ?_
  by_cases hc75 : zq = (0 : Int32)
  · simp only [if_pos hc75] at h
    refine OEnds.ifT hm_14 rfl (q := 9) rfl ((teq hc75).1) ?_
    refine OEnds.adv hm_14 2 (pc' := 13) (L' := [qr 1]) (S' := [.int zd]) (H' := (c0 :: bk0 zf za zi zk zb zs zt zr zg zh zo zl zz zv zw zaa zab zq zc zd zp zu ze zy zx zm zj zn po)) rfl ?_
    by_cases hc76 : zd = (0 : Int32)
    · simp only [if_pos hc76] at h
      refine OEnds.ifT hm_14 rfl (q := 19) rfl ((teq hc76).1) ?_
      refine OEnds.adv hm_14 2 (pc' := 23) (L' := [qr 1]) (S' := [.int zc]) (H' := (c0 :: bk0 zf za zi zk zb zs zt zr zg zh zo zl zz zv zw zaa zab zq zc zd zp zu ze zy zx zm zj zn po)) rfl ?_
      by_cases hc77 : zc = (0 : Int32)
      · simp only [if_pos hc77] at h
        refine OEnds.ifF hm_14 rfl ((teq hc77).2) ?_
        refine OEnds.adv hm_14 1 (pc' := 28) (L' := [qr 1]) (S' := [.int (-4)]) (H' := (c0 :: bk0 zf za zi zk zb zs zt zr zg zh zo zl zz zv zw zaa zab zq zc zd zp zu ze zy zx zm zj zn po)) rfl ?_
        cases h
        exact OEnds.iret hm_14 rfl rfl
      · simp only [if_neg hc77] at h
        refine OEnds.ifT hm_14 rfl (q := 29) rfl ((feq hc77).2) ?_
        refine OEnds.adv hm_14 1 (pc' := 30) (L' := [qr 1]) (S' := [.ref 1]) (H' := (c0 :: bk0 zf za zi zk zb zs zt zr zg zh zo zl zz zv zw zaa zab zq zc zd zp zu ze zy zx zm zj zn po)) rfl ?_
        obtain ⟨⟨s70, s71, s72, s73, s74, s75⟩, hq78, h⟩ := bnd h
        refine OEnds.call0 hm_14 rfl rfl (by decide) rfl (as := [.ref 1]) (rest := []) rfl rfl (ok_buildTrie hq78) ?_
        refine OEnds.adv hm_14 1 (pc' := 34) (L' := [qr 1]) (S' := [.ref 1]) (H' := (c0 :: bk0 zf za zi zk s70 zs zt s71 s72 s73 zo zl zz zv zw zaa zab zq zc zd s74 s75 ze zy zx zm zj zn po)) rfl ?_
        obtain ⟨⟨s76, s77, s78, s79⟩, hq79, h⟩ := bnd h
        refine OEnds.call0 hm_14 rfl rfl (by decide) rfl (as := [.ref 1]) (rest := []) rfl rfl (ok_computeLinks hq79) ?_
        refine OEnds.adv hm_14 4 (pc' := 43) (L' := [qr 1]) (S' := [.ref 1]) (H' := (c0 :: bk0 zf za zi zk s70 s76 s77 s71 s72 s78 s79 zl zz zv zw zaa zab 1 zc zd s74 s75 ze zy zx zm zj zn po)) rfl ?_
        obtain ⟨⟨s80, s81, s82, s83, s84, s85⟩, hq80, h⟩ := bnd h
        refine OEnds.call0 hm_14 rfl rfl (by decide) rfl (as := [.ref 1]) (rest := []) rfl rfl (ok_clearText hq80) ?_
        refine OEnds.adv hm_14 1 (pc' := 47) (L' := [qr 1]) (S' := [.int 0]) (H' := (c0 :: bk0 zf za zi zk s70 s76 s77 s71 s72 s78 s79 zl zz zv zw zaa zab 1 zc zd s74 s75 s80 s81 s82 s83 s84 s85 po)) rfl ?_
        cases h
        exact OEnds.iret hm_14 rfl rfl
    · simp only [if_neg hc76] at h
      refine OEnds.ifF hm_14 rfl ((feq hc76).1) ?_
      refine OEnds.adv hm_14 1 (pc' := 18) (L' := [qr 1]) (S' := [.int (-7)]) (H' := (c0 :: bk0 zf za zi zk zb zs zt zr zg zh zo zl zz zv zw zaa zab zq zc zd zp zu ze zy zx zm zj zn po)) rfl ?_
      cases h
      exact OEnds.iret hm_14 rfl rfl
  · simp only [if_neg hc75] at h
    refine OEnds.ifF hm_14 rfl ((feq hc75).1) ?_
    refine OEnds.adv hm_14 1 (pc' := 8) (L' := [qr 1]) (S' := [.int (-1)]) (H' := (c0 :: bk0 zf za zi zk zb zs zt zr zg zh zo zl zz zv zw zaa zab zq zc zd zp zu ze zy zx zm zj zn po)) rfl ?_
    cases h
    exact OEnds.iret hm_14 rfl rfl
theorem ok_phase {zf za zi zk zb zs zt zr zg zh zo zl zz zv zw : List Int32} {zaa zab zq zc zd zp zu ze zy zx zm zj zn : Int32} {c0 : ACell} {po : List ACell} {res : Int32} (h : f_phase zq = some res) : OEnds own_P 19 0 [qr 1] [] (c0 :: bk0 zf za zi zk zb zs zt zr zg zh zo zl zz zv zw zaa zab zq zc zd zp zu ze zy zx zm zj zn po) (some (.int res), (c0 :: bk0 zf za zi zk zb zs zt zr zg zh zo zl zz zv zw zaa zab zq zc zd zp zu ze zy zx zm zj zn po), 0, 0) := by
  unfold f_phase at h
  refine OEnds.adv hm_19 2 (pc' := 4) (L' := [qr 1]) (S' := [.int zq]) (H' := (c0 :: bk0 zf za zi zk zb zs zt zr zg zh zo zl zz zv zw zaa zab zq zc zd zp zu ze zy zx zm zj zn po)) rfl ?_
  cases h
  exact OEnds.iret hm_19 rfl rfl
theorem ok_resetText {zf za zi zk zb zs zt zr zg zh zo zl zz zv zw : List Int32} {zaa zab zq zc zd zp zu : Int32} {c0 : ACell} {po : List ACell} {ze zy zx zm zj zn res w_o_n w_o_state w_o_total w_o_outLen w_o_commitPos w_o_tailLen : Int32} (h : f_resetText zq ze zy zx zm zj zn = some (res, w_o_n, w_o_state, w_o_total, w_o_outLen, w_o_commitPos, w_o_tailLen)) : OEnds own_P 34 0 [qr 1] [] (c0 :: bk0 zf za zi zk zb zs zt zr zg zh zo zl zz zv zw zaa zab zq zc zd zp zu ze zy zx zm zj zn po) (some (.int res), (c0 :: bk0 zf za zi zk zb zs zt zr zg zh zo zl zz zv zw zaa zab zq zc zd zp zu w_o_n w_o_state w_o_total w_o_outLen w_o_commitPos w_o_tailLen po), 0, 0) := by
  unfold f_resetText at h
  refine OEnds.adv hm_34 3 (pc' := 5) (L' := [qr 1]) (S' := [.int 1, .int zq]) (H' := (c0 :: bk0 zf za zi zk zb zs zt zr zg zh zo zl zz zv zw zaa zab zq zc zd zp zu ze zy zx zm zj zn po)) rfl ?_
  by_cases hc81 : zq = (1 : Int32)
  · simp only [if_pos hc81] at h
    refine OEnds.icmpT hm_34 rfl (q := 10) rfl ((teq hc81).1) ?_
    refine OEnds.adv hm_34 1 (pc' := 11) (L' := [qr 1]) (S' := [.ref 1]) (H' := (c0 :: bk0 zf za zi zk zb zs zt zr zg zh zo zl zz zv zw zaa zab zq zc zd zp zu ze zy zx zm zj zn po)) rfl ?_
    obtain ⟨⟨s86, s87, s88, s89, s90, s91⟩, hq82, h⟩ := bnd h
    refine OEnds.call0 hm_34 rfl rfl (by decide) rfl (as := [.ref 1]) (rest := []) rfl rfl (ok_clearText hq82) ?_
    refine OEnds.adv hm_34 1 (pc' := 15) (L' := [qr 1]) (S' := [.int 0]) (H' := (c0 :: bk0 zf za zi zk zb zs zt zr zg zh zo zl zz zv zw zaa zab zq zc zd zp zu s86 s87 s88 s89 s90 s91 po)) rfl ?_
    cases h
    exact OEnds.iret hm_34 rfl rfl
  · simp only [if_neg hc81] at h
    refine OEnds.icmpF hm_34 rfl ((feq hc81).1) ?_
    refine OEnds.adv hm_34 1 (pc' := 9) (L' := [qr 1]) (S' := [.int (-1)]) (H' := (c0 :: bk0 zf za zi zk zb zs zt zr zg zh zo zl zz zv zw zaa zab zq zc zd zp zu ze zy zx zm zj zn po)) rfl ?_
    cases h
    exact OEnds.iret hm_34 rfl rfl
theorem ok_textLength {zf za zi zk zb zs zt zr zg zh zo zl zz zv zw : List Int32} {zaa zab zq zc zd zp zu ze zy zx zm zj zn : Int32} {c0 : ACell} {po : List ACell} {res : Int32} (h : f_textLength ze = some res) : OEnds own_P 20 0 [qr 1] [] (c0 :: bk0 zf za zi zk zb zs zt zr zg zh zo zl zz zv zw zaa zab zq zc zd zp zu ze zy zx zm zj zn po) (some (.int res), (c0 :: bk0 zf za zi zk zb zs zt zr zg zh zo zl zz zv zw zaa zab zq zc zd zp zu ze zy zx zm zj zn po), 0, 0) := by
  unfold f_textLength at h
  refine OEnds.adv hm_20 2 (pc' := 4) (L' := [qr 1]) (S' := [.int ze]) (H' := (c0 :: bk0 zf za zi zk zb zs zt zr zg zh zo zl zz zv zw zaa zab zq zc zd zp zu ze zy zx zm zj zn po)) rfl ?_
  cases h
  exact OEnds.iret hm_20 rfl rfl
theorem ok_occurrenceMask {zf za zi zk zb zs zt zr zg zh zo zl zz zv zw : List Int32} {zaa zab zq zc zd zp zu ze zy zx zm zj zn : Int32} {c0 : ACell} {po : List ACell} {v1 res : Int32} (h : f_occurrenceMask zz ze v1 = some res) : OEnds own_P 28 0 [qr 1, qi v1] [] (c0 :: bk0 zf za zi zk zb zs zt zr zg zh zo zl zz zv zw zaa zab zq zc zd zp zu ze zy zx zm zj zn po) (some (.int res), (c0 :: bk0 zf za zi zk zb zs zt zr zg zh zo zl zz zv zw zaa zab zq zc zd zp zu ze zy zx zm zj zn po), 0, 0) := by
  unfold f_occurrenceMask at h
  refine OEnds.adv hm_28 1 (pc' := 1) (L' := [qr 1, qi v1]) (S' := [.int v1]) (H' := (c0 :: bk0 zf za zi zk zb zs zt zr zg zh zo zl zz zv zw zaa zab zq zc zd zp zu ze zy zx zm zj zn po)) rfl ?_
  by_cases hc83 : v1 < (0 : Int32)
  · simp only [if_pos hc83] at h
    refine OEnds.ifT hm_28 rfl (q := 12) rfl ((tlt hc83).1) ?_
    refine OEnds.adv hm_28 1 (pc' := 13) (L' := [qr 1, qi v1]) (S' := [.int (-1)]) (H' := (c0 :: bk0 zf za zi zk zb zs zt zr zg zh zo zl zz zv zw zaa zab zq zc zd zp zu ze zy zx zm zj zn po)) rfl ?_
    cases h
    exact OEnds.iret hm_28 rfl rfl
  · simp only [if_neg hc83] at h
    refine OEnds.ifF hm_28 rfl ((flt hc83).1) ?_
    refine OEnds.adv hm_28 3 (pc' := 9) (L' := [qr 1, qi v1]) (S' := [.int ze, .int v1]) (H' := (c0 :: bk0 zf za zi zk zb zs zt zr zg zh zo zl zz zv zw zaa zab zq zc zd zp zu ze zy zx zm zj zn po)) rfl ?_
    by_cases hc84 : v1 < ze
    · simp only [if_pos hc84] at h
      refine OEnds.icmpT hm_28 rfl (q := 14) rfl ((tlt hc84).1) ?_
      refine OEnds.adv hm_28 3 (pc' := 19) (L' := [qr 1, qi v1]) (S' := [.int v1, .ref 14]) (H' := (c0 :: bk0 zf za zi zk zb zs zt zr zg zh zo zl zz zv zw zaa zab zq zc zd zp zu ze zy zx zm zj zn po)) rfl ?_
      obtain ⟨x125, hx125, h⟩ := bnd h
      refine OEnds.plain hm_28 rfl rfl (x_iaload rfl hx125) ?_
      show OEnds own_P 28 20 [qr 1, qi v1] [.int x125] (c0 :: bk0 zf za zi zk zb zs zt zr zg zh zo zl zz zv zw zaa zab zq zc zd zp zu ze zy zx zm zj zn po) _
      cases h
      exact OEnds.iret hm_28 rfl rfl
    · simp only [if_neg hc84] at h
      refine OEnds.icmpF hm_28 rfl ((flt hc84).1) ?_
      refine OEnds.adv hm_28 1 (pc' := 13) (L' := [qr 1, qi v1]) (S' := [.int (-1)]) (H' := (c0 :: bk0 zf za zi zk zb zs zt zr zg zh zo zl zz zv zw zaa zab zq zc zd zp zu ze zy zx zm zj zn po)) rfl ?_
      cases h
      exact OEnds.iret hm_28 rfl rfl
theorem ok_textChar {zf za zi zk zb zs zt zr zg zh zo zl zz zv zw : List Int32} {zaa zab zq zc zd zp zu ze zy zx zm zj zn : Int32} {c0 : ACell} {po : List ACell} {v1 res : Int32} (h : f_textChar zl ze v1 = some res) : OEnds own_P 30 0 [qr 1, qi v1] [] (c0 :: bk0 zf za zi zk zb zs zt zr zg zh zo zl zz zv zw zaa zab zq zc zd zp zu ze zy zx zm zj zn po) (some (.int res), (c0 :: bk0 zf za zi zk zb zs zt zr zg zh zo zl zz zv zw zaa zab zq zc zd zp zu ze zy zx zm zj zn po), 0, 0) := by
  unfold f_textChar at h
  refine OEnds.adv hm_30 1 (pc' := 1) (L' := [qr 1, qi v1]) (S' := [.int v1]) (H' := (c0 :: bk0 zf za zi zk zb zs zt zr zg zh zo zl zz zv zw zaa zab zq zc zd zp zu ze zy zx zm zj zn po)) rfl ?_
  by_cases hc85 : v1 < (0 : Int32)
  · simp only [if_pos hc85] at h
    refine OEnds.ifT hm_30 rfl (q := 12) rfl ((tlt hc85).1) ?_
    refine OEnds.adv hm_30 1 (pc' := 13) (L' := [qr 1, qi v1]) (S' := [.int (-1)]) (H' := (c0 :: bk0 zf za zi zk zb zs zt zr zg zh zo zl zz zv zw zaa zab zq zc zd zp zu ze zy zx zm zj zn po)) rfl ?_
    cases h
    exact OEnds.iret hm_30 rfl rfl
  · simp only [if_neg hc85] at h
    refine OEnds.ifF hm_30 rfl ((flt hc85).1) ?_
    refine OEnds.adv hm_30 3 (pc' := 9) (L' := [qr 1, qi v1]) (S' := [.int ze, .int v1]) (H' := (c0 :: bk0 zf za zi zk zb zs zt zr zg zh zo zl zz zv zw zaa zab zq zc zd zp zu ze zy zx zm zj zn po)) rfl ?_
    by_cases hc86 : v1 < ze
    · simp only [if_pos hc86] at h
      refine OEnds.icmpT hm_30 rfl (q := 14) rfl ((tlt hc86).1) ?_
      refine OEnds.adv hm_30 3 (pc' := 19) (L' := [qr 1, qi v1]) (S' := [.int v1, .ref 13]) (H' := (c0 :: bk0 zf za zi zk zb zs zt zr zg zh zo zl zz zv zw zaa zab zq zc zd zp zu ze zy zx zm zj zn po)) rfl ?_
      obtain ⟨x126, hx126, h⟩ := bnd h
      refine OEnds.plain hm_30 rfl rfl (x_iaload rfl hx126) ?_
      show OEnds own_P 30 20 [qr 1, qi v1] [.int x126] (c0 :: bk0 zf za zi zk zb zs zt zr zg zh zo zl zz zv zw zaa zab zq zc zd zp zu ze zy zx zm zj zn po) _
      cases h
      exact OEnds.iret hm_30 rfl rfl
    · simp only [if_neg hc86] at h
      refine OEnds.icmpF hm_30 rfl ((flt hc86).1) ?_
      refine OEnds.adv hm_30 1 (pc' := 13) (L' := [qr 1, qi v1]) (S' := [.int (-1)]) (H' := (c0 :: bk0 zf za zi zk zb zs zt zr zg zh zo zl zz zv zw zaa zab zq zc zd zp zu ze zy zx zm zj zn po)) rfl ?_
      cases h
      exact OEnds.iret hm_30 rfl rfl
theorem ok_L_pop_4 {c0 : ACell} {po : List ACell} : ∀ (n : Nat), ∀ {v0 v1 v2 : Int32} {res : Int32}, f_L_pop_4 n v0 v1 v2 = some res → OEnds own_P 29 4 [qi v0, qi v1, qi v2] [] (c0 :: po) (some (.int res), (c0 :: po), 0, 0) := by
  intro n
  induction n with
  | zero => intro v0 v1 v2 res h; cases h
  | succ n ih =>
    intro v0 v1 v2 res h
    unfold f_L_pop_4 at h
    refine OEnds.adv hm_29 2 (pc' := 7) (L' := [qi v0, qi v1, qi v2]) (S' := [.int 32, .int v2]) (H' := (c0 :: po)) rfl ?_
    by_cases hc87 : v2 < (32 : Int32)
    · simp only [if_pos hc87] at h
      refine OEnds.icmpF hm_29 rfl ((tlt hc87).2.1) ?_
      refine OEnds.adv hm_29 10 (pc' := 4) (L' := [qi v0, qi (v1 + ((XT.ushr v0 v2) &&& (1 : Int32))), qi (v2 + (1 : Int32))]) (S' := []) (H' := (c0 :: po)) rfl ?_
      exact ih h
    · simp only [if_neg hc87] at h
      refine OEnds.icmpT hm_29 rfl (q := 24) rfl ((flt hc87).2.1) ?_
      refine OEnds.adv hm_29 1 (pc' := 25) (L' := [qi v0, qi v1, qi v2]) (S' := [.int v1]) (H' := (c0 :: po)) rfl ?_
      cases h
      exact OEnds.iret hm_29 rfl rfl
theorem ok_L_pop {c0 : ACell} {po : List ACell} {v0 res : Int32} (h : f_L_pop v0 = some res) : OEnds own_P 29 0 [qi v0, qu, qu] [] (c0 :: po) (some (.int res), (c0 :: po), 0, 0) := by
  unfold f_L_pop at h
  refine OEnds.adv hm_29 4 (pc' := 4) (L' := [qi v0, qi 0, qi 0]) (S' := []) (H' := (c0 :: po)) rfl ?_
  exact ok_L_pop_4 100000 h
theorem ok_totalOccurrences {zf za zi zk zb zs zt zr zg zh zo zl zz zv zw : List Int32} {zaa zab zq zc zd zp zu ze zy zx zm zj zn : Int32} {c0 : ACell} {po : List ACell} {res : Int32} (h : f_totalOccurrences zx = some res) : OEnds own_P 33 0 [qr 1] [] (c0 :: bk0 zf za zi zk zb zs zt zr zg zh zo zl zz zv zw zaa zab zq zc zd zp zu ze zy zx zm zj zn po) (some (.int res), (c0 :: bk0 zf za zi zk zb zs zt zr zg zh zo zl zz zv zw zaa zab zq zc zd zp zu ze zy zx zm zj zn po), 0, 0) := by
  unfold f_totalOccurrences at h
  refine OEnds.adv hm_33 2 (pc' := 4) (L' := [qr 1]) (S' := [.int zx]) (H' := (c0 :: bk0 zf za zi zk zb zs zt zr zg zh zo zl zz zv zw zaa zab zq zc zd zp zu ze zy zx zm zj zn po)) rfl ?_
  cases h
  exact OEnds.iret hm_33 rfl rfl
theorem ok_nextState {zf za zi zk zb zs zt zr zg zh zo zl zz zv zw : List Int32} {zaa zab zq zc zd zp zu ze zy zx zm zj zn : Int32} {c0 : ACell} {po : List ACell} {v1 v2 res : Int32} (h : f_nextState zs v1 v2 = some res) : OEnds own_P 22 0 [qr 1, qi v1, qi v2] [] (c0 :: bk0 zf za zi zk zb zs zt zr zg zh zo zl zz zv zw zaa zab zq zc zd zp zu ze zy zx zm zj zn po) (some (.int res), (c0 :: bk0 zf za zi zk zb zs zt zr zg zh zo zl zz zv zw zaa zab zq zc zd zp zu ze zy zx zm zj zn po), 0, 0) := by
  unfold f_nextState at h
  refine OEnds.adv hm_22 2 (pc' := 2) (L' := [qr 1, qi v1, qi v2]) (S' := [.int v2, .ref 1]) (H' := (c0 :: bk0 zf za zi zk zb zs zt zr zg zh zo zl zz zv zw zaa zab zq zc zd zp zu ze zy zx zm zj zn po)) rfl ?_
  obtain ⟨r92, hq88, h⟩ := bnd h
  refine OEnds.call0 hm_22 rfl rfl (by decide) rfl (as := [.ref 1, .int v2]) (rest := []) rfl rfl (ok_isLetter hq88) ?_
  show OEnds own_P 22 5 [qr 1, qi v1, qi v2] [.int r92] (c0 :: bk0 zf za zi zk zb zs zt zr zg zh zo zl zz zv zw zaa zab zq zc zd zp zu ze zy zx zm zj zn po) _
  by_cases hc89 : r92 = (0 : Int32)
  · simp only [if_pos hc89] at h
    refine OEnds.ifF hm_22 rfl ((teq hc89).2) ?_
    refine OEnds.adv hm_22 1 (pc' := 9) (L' := [qr 1, qi v1, qi v2]) (S' := [.int 0]) (H' := (c0 :: bk0 zf za zi zk zb zs zt zr zg zh zo zl zz zv zw zaa zab zq zc zd zp zu ze zy zx zm zj zn po)) rfl ?_
    cases h
    exact OEnds.iret hm_22 rfl rfl
  · simp only [if_neg hc89] at h
    refine OEnds.ifT hm_22 rfl (q := 10) rfl ((feq hc89).2) ?_
    refine OEnds.adv hm_22 1 (pc' := 11) (L' := [qr 1, qi v1, qi v2]) (S' := [.int v1]) (H' := (c0 :: bk0 zf za zi zk zb zs zt zr zg zh zo zl zz zv zw zaa zab zq zc zd zp zu ze zy zx zm zj zn po)) rfl ?_
    by_cases hc90 : v1 < (0 : Int32)
    · simp only [if_pos hc90] at h
      refine OEnds.ifT hm_22 rfl (q := 21) rfl ((tlt hc90).1) ?_
      refine OEnds.adv hm_22 1 (pc' := 22) (L' := [qr 1, qi v1, qi v2]) (S' := [.int 0]) (H' := (c0 :: bk0 zf za zi zk zb zs zt zr zg zh zo zl zz zv zw zaa zab zq zc zd zp zu ze zy zx zm zj zn po)) rfl ?_
      cases h
      exact OEnds.iret hm_22 rfl rfl
    · simp only [if_neg hc90] at h
      refine OEnds.ifF hm_22 rfl ((flt hc90).1) ?_
      refine OEnds.adv hm_22 2 (pc' := 18) (L' := [qr 1, qi v1, qi v2]) (S' := [.int 129, .int v1]) (H' := (c0 :: bk0 zf za zi zk zb zs zt zr zg zh zo zl zz zv zw zaa zab zq zc zd zp zu ze zy zx zm zj zn po)) rfl ?_
      by_cases hc91 : v1 < (129 : Int32)
      · simp only [if_pos hc91] at h
        refine OEnds.icmpT hm_22 rfl (q := 23) rfl ((tlt hc91).1) ?_
        refine OEnds.adv hm_22 9 (pc' := 36) (L' := [qr 1, qi v1, qi v2]) (S' := [.int ((v1 * (26 : Int32)) + (v2 - (97 : Int32))), .ref 7]) (H' := (c0 :: bk0 zf za zi zk zb zs zt zr zg zh zo zl zz zv zw zaa zab zq zc zd zp zu ze zy zx zm zj zn po)) rfl ?_
        obtain ⟨x93, hx93, h⟩ := bnd h
        refine OEnds.plain hm_22 rfl rfl (x_iaload rfl hx93) ?_
        show OEnds own_P 22 37 [qr 1, qi v1, qi v2] [.int x93] (c0 :: bk0 zf za zi zk zb zs zt zr zg zh zo zl zz zv zw zaa zab zq zc zd zp zu ze zy zx zm zj zn po) _
        cases h
        exact OEnds.iret hm_22 rfl rfl
      · simp only [if_neg hc91] at h
        refine OEnds.icmpF hm_22 rfl ((flt hc91).1) ?_
        refine OEnds.adv hm_22 1 (pc' := 22) (L' := [qr 1, qi v1, qi v2]) (S' := [.int 0]) (H' := (c0 :: bk0 zf za zi zk zb zs zt zr zg zh zo zl zz zv zw zaa zab zq zc zd zp zu ze zy zx zm zj zn po)) rfl ?_
        cases h
        exact OEnds.iret hm_22 rfl rfl
theorem ok_popCount_4 {zf za zi zk zb zs zt zr zg zh zo zl zz zv zw : List Int32} {zaa zab zq zc zd zp zu ze zy zx zm zj zn : Int32} {c0 : ACell} {po : List ACell} : ∀ (n : Nat), ∀ {v1 v2 v3 : Int32} {d0 : Slot} {res : Int32}, f_popCount_4 n v1 v2 v3 = some res → OEnds own_P 23 4 [d0, qi v1, qi v2, qi v3] [] (c0 :: bk0 zf za zi zk zb zs zt zr zg zh zo zl zz zv zw zaa zab zq zc zd zp zu ze zy zx zm zj zn po) (some (.int res), (c0 :: bk0 zf za zi zk zb zs zt zr zg zh zo zl zz zv zw zaa zab zq zc zd zp zu ze zy zx zm zj zn po), 0, 0) := by
  intro n
  induction n with
  | zero => intro v1 v2 v3 d0 res h; cases h
  | succ n ih =>
    intro v1 v2 v3 d0 res h
    unfold f_popCount_4 at h
    refine OEnds.adv hm_23 2 (pc' := 7) (L' := [qu, qi v1, qi v2, qi v3]) (S' := [.int 16, .int v3]) (H' := (c0 :: bk0 zf za zi zk zb zs zt zr zg zh zo zl zz zv zw zaa zab zq zc zd zp zu ze zy zx zm zj zn po)) rfl ?_
    by_cases hc92 : v3 < (16 : Int32)
    · simp only [if_pos hc92] at h
      refine OEnds.icmpF hm_23 rfl ((tlt hc92).2.1) ?_
      refine OEnds.adv hm_23 5 (pc' := 15) (L' := [qu, qi v1, qi v2, qi v3]) (S' := [.int ((v1 >>> (v3 &&& 31)) &&& (1 : Int32))]) (H' := (c0 :: bk0 zf za zi zk zb zs zt zr zg zh zo zl zz zv zw zaa zab zq zc zd zp zu ze zy zx zm zj zn po)) rfl ?_
      by_cases hc93 : ((v1 >>> (v3 &&& 31)) &&& (1 : Int32)) = (0 : Int32)
      · simp only [if_pos hc93] at h
        refine OEnds.ifT hm_23 rfl (q := 21) rfl ((teq hc93).1) ?_
        refine OEnds.adv hm_23 2 (pc' := 4) (L' := [qu, qi v1, qi v2, qi (v3 + (1 : Int32))]) (S' := []) (H' := (c0 :: bk0 zf za zi zk zb zs zt zr zg zh zo zl zz zv zw zaa zab zq zc zd zp zu ze zy zx zm zj zn po)) rfl ?_
        exact ih h
      · simp only [if_neg hc93] at h
        refine OEnds.ifF hm_23 rfl ((feq hc93).1) ?_
        refine OEnds.adv hm_23 3 (pc' := 4) (L' := [qu, qi v1, qi (v2 + (1 : Int32)), qi (v3 + (1 : Int32))]) (S' := []) (H' := (c0 :: bk0 zf za zi zk zb zs zt zr zg zh zo zl zz zv zw zaa zab zq zc zd zp zu ze zy zx zm zj zn po)) rfl ?_
        exact ih h
    · simp only [if_neg hc92] at h
      refine OEnds.icmpT hm_23 rfl (q := 27) rfl ((flt hc92).2.1) ?_
      refine OEnds.adv hm_23 1 (pc' := 28) (L' := [qu, qi v1, qi v2, qi v3]) (S' := [.int v2]) (H' := (c0 :: bk0 zf za zi zk zb zs zt zr zg zh zo zl zz zv zw zaa zab zq zc zd zp zu ze zy zx zm zj zn po)) rfl ?_
      cases h
      exact OEnds.iret hm_23 rfl rfl
theorem ok_popCount {zf za zi zk zb zs zt zr zg zh zo zl zz zv zw : List Int32} {zaa zab zq zc zd zp zu ze zy zx zm zj zn : Int32} {c0 : ACell} {po : List ACell} {v1 res : Int32} (h : f_popCount v1 = some res) : OEnds own_P 23 0 [qr 1, qi v1, qu, qu] [] (c0 :: bk0 zf za zi zk zb zs zt zr zg zh zo zl zz zv zw zaa zab zq zc zd zp zu ze zy zx zm zj zn po) (some (.int res), (c0 :: bk0 zf za zi zk zb zs zt zr zg zh zo zl zz zv zw zaa zab zq zc zd zp zu ze zy zx zm zj zn po), 0, 0) := by
  unfold f_popCount at h
  refine OEnds.adv hm_23 4 (pc' := 4) (L' := [qr 1, qi v1, qi 0, qi 0]) (S' := []) (H' := (c0 :: bk0 zf za zi zk zb zs zt zr zg zh zo zl zz zv zw zaa zab zq zc zd zp zu ze zy zx zm zj zn po)) rfl ?_
  exact ok_popCount_4 100000 h
theorem ok_longestAt_7 {zf za zi zk zb zs zt zr zg zh zo zl zz zv zw : List Int32} {zaa zab zq zc zd zp zu ze zy zx zm zj zn : Int32} {c0 : ACell} {po : List ACell} : ∀ (n : Nat), ∀ {v1 v2 v3 v4 : Int32} {d5 d6 d7 : Slot} {res : Int32}, f_longestAt_7 zb zg zl ze n v1 v2 v3 v4 = some res → OEnds own_P 26 7 [qr 1, qi v1, qi v2, qi v3, qi v4, d5, d6, d7] [] (c0 :: bk0 zf za zi zk zb zs zt zr zg zh zo zl zz zv zw zaa zab zq zc zd zp zu ze zy zx zm zj zn po) (some (.int res), (c0 :: bk0 zf za zi zk zb zs zt zr zg zh zo zl zz zv zw zaa zab zq zc zd zp zu ze zy zx zm zj zn po), 0, 0) := by
  intro n
  induction n with
  | zero => intro v1 v2 v3 v4 d5 d6 d7 res h; cases h
  | succ n ih =>
    intro v1 v2 v3 v4 d5 d6 d7 res h
    unfold f_longestAt_7 at h
    refine OEnds.adv hm_26 2 (pc' := 11) (L' := [qr 1, qi v1, qi v2, qi v3, qi v4, qu, qu, qu]) (S' := [.int 8, .int v4]) (H' := (c0 :: bk0 zf za zi zk zb zs zt zr zg zh zo zl zz zv zw zaa zab zq zc zd zp zu ze zy zx zm zj zn po)) rfl ?_
    by_cases hc94 : v4 < (8 : Int32)
    · simp only [if_pos hc94] at h
      refine OEnds.icmpF hm_26 rfl ((tlt hc94).2.1) ?_
      refine OEnds.adv hm_26 5 (pc' := 22) (L' := [qr 1, qi v1, qi v2, qi v3, qi v4, qi (v1 + v4), qu, qu]) (S' := [.int (v1 + v4)]) (H' := (c0 :: bk0 zf za zi zk zb zs zt zr zg zh zo zl zz zv zw zaa zab zq zc zd zp zu ze zy zx zm zj zn po)) rfl ?_
      by_cases hc95 : (v1 + v4) < (0 : Int32)
      · simp only [if_pos hc95] at h
        refine OEnds.ifT hm_26 rfl (q := 34) rfl ((tlt hc95).1) ?_
        refine OEnds.adv hm_26 1 (pc' := 35) (L' := [qr 1, qi v1, qi v2, qi v3, qi v4, qi (v1 + v4), qu, qu]) (S' := [.int v2]) (H' := (c0 :: bk0 zf za zi zk zb zs zt zr zg zh zo zl zz zv zw zaa zab zq zc zd zp zu ze zy zx zm zj zn po)) rfl ?_
        cases h
        exact OEnds.iret hm_26 rfl rfl
      · simp only [if_neg hc95] at h
        refine OEnds.ifF hm_26 rfl ((flt hc95).1) ?_
        refine OEnds.adv hm_26 3 (pc' := 31) (L' := [qr 1, qi v1, qi v2, qi v3, qi v4, qi (v1 + v4), qu, qu]) (S' := [.int ze, .int (v1 + v4)]) (H' := (c0 :: bk0 zf za zi zk zb zs zt zr zg zh zo zl zz zv zw zaa zab zq zc zd zp zu ze zy zx zm zj zn po)) rfl ?_
        by_cases hc96 : (v1 + v4) < ze
        · simp only [if_pos hc96] at h
          refine OEnds.icmpT hm_26 rfl (q := 36) rfl ((tlt hc96).1) ?_
          refine OEnds.adv hm_26 3 (pc' := 42) (L' := [qr 1, qi v1, qi v2, qi v3, qi v4, qi (v1 + v4), qu, qu]) (S' := [.int (v1 + v4), .ref 13]) (H' := (c0 :: bk0 zf za zi zk zb zs zt zr zg zh zo zl zz zv zw zaa zab zq zc zd zp zu ze zy zx zm zj zn po)) rfl ?_
          obtain ⟨x94, hx94, h⟩ := bnd h
          refine OEnds.plain hm_26 rfl rfl (x_iaload rfl hx94) ?_
          refine OEnds.adv hm_26 3 (pc' := 48) (L' := [qr 1, qi v1, qi v2, qi v3, qi v4, qi (v1 + v4), qi x94, qu]) (S' := [.int x94, .ref 1]) (H' := (c0 :: bk0 zf za zi zk zb zs zt zr zg zh zo zl zz zv zw zaa zab zq zc zd zp zu ze zy zx zm zj zn po)) rfl ?_
          obtain ⟨r95, hq97, h⟩ := bnd h
          refine OEnds.call0 hm_26 rfl rfl (by decide) rfl (as := [.ref 1, .int x94]) (rest := []) rfl rfl (ok_isLetter hq97) ?_
          show OEnds own_P 26 51 [qr 1, qi v1, qi v2, qi v3, qi v4, qi (v1 + v4), qi x94, qu] [.int r95] (c0 :: bk0 zf za zi zk zb zs zt zr zg zh zo zl zz zv zw zaa zab zq zc zd zp zu ze zy zx zm zj zn po) _
          by_cases hc98 : r95 = (0 : Int32)
          · simp only [if_pos hc98] at h
            refine OEnds.ifF hm_26 rfl ((teq hc98).2) ?_
            refine OEnds.adv hm_26 1 (pc' := 55) (L' := [qr 1, qi v1, qi v2, qi v3, qi v4, qi (v1 + v4), qi x94, qu]) (S' := [.int v2]) (H' := (c0 :: bk0 zf za zi zk zb zs zt zr zg zh zo zl zz zv zw zaa zab zq zc zd zp zu ze zy zx zm zj zn po)) rfl ?_
            cases h
            exact OEnds.iret hm_26 rfl rfl
          · simp only [if_neg hc98] at h
            refine OEnds.ifT hm_26 rfl (q := 56) rfl ((feq hc98).2) ?_
            refine OEnds.adv hm_26 9 (pc' := 70) (L' := [qr 1, qi v1, qi v2, qi v3, qi v4, qi (v1 + v4), qi x94, qu]) (S' := [.int ((v3 * (26 : Int32)) + (x94 - (97 : Int32))), .ref 6]) (H' := (c0 :: bk0 zf za zi zk zb zs zt zr zg zh zo zl zz zv zw zaa zab zq zc zd zp zu ze zy zx zm zj zn po)) rfl ?_
            obtain ⟨x96, hx96, h⟩ := bnd h
            refine OEnds.plain hm_26 rfl rfl (x_iaload rfl hx96) ?_
            refine OEnds.adv hm_26 2 (pc' := 75) (L' := [qr 1, qi v1, qi v2, qi v3, qi v4, qi (v1 + v4), qi x94, qi x96]) (S' := [.int x96]) (H' := (c0 :: bk0 zf za zi zk zb zs zt zr zg zh zo zl zz zv zw zaa zab zq zc zd zp zu ze zy zx zm zj zn po)) rfl ?_
            by_cases hc99 : x96 = (0 : Int32)
            · simp only [if_pos hc99] at h
              refine OEnds.ifF hm_26 rfl ((teq hc99).2) ?_
              refine OEnds.adv hm_26 1 (pc' := 79) (L' := [qr 1, qi v1, qi v2, qi v3, qi v4, qi (v1 + v4), qi x94, qi x96]) (S' := [.int v2]) (H' := (c0 :: bk0 zf za zi zk zb zs zt zr zg zh zo zl zz zv zw zaa zab zq zc zd zp zu ze zy zx zm zj zn po)) rfl ?_
              cases h
              exact OEnds.iret hm_26 rfl rfl
            · simp only [if_neg hc99] at h
              refine OEnds.ifT hm_26 rfl (q := 80) rfl ((feq hc99).2) ?_
              refine OEnds.adv hm_26 5 (pc' := 88) (L' := [qr 1, qi v1, qi v2, qi x96, qi v4, qi (v1 + v4), qi x94, qi x96]) (S' := [.int x96, .ref 10]) (H' := (c0 :: bk0 zf za zi zk zb zs zt zr zg zh zo zl zz zv zw zaa zab zq zc zd zp zu ze zy zx zm zj zn po)) rfl ?_
              obtain ⟨x97, hx97, h⟩ := bnd h
              refine OEnds.plain hm_26 rfl rfl (x_iaload rfl hx97) ?_
              show OEnds own_P 26 89 [qr 1, qi v1, qi v2, qi x96, qi v4, qi (v1 + v4), qi x94, qi x96] [.int x97] (c0 :: bk0 zf za zi zk zb zs zt zr zg zh zo zl zz zv zw zaa zab zq zc zd zp zu ze zy zx zm zj zn po) _
              by_cases hc100 : x97 < (0 : Int32)
              · simp only [if_pos hc100] at h
                refine OEnds.ifT hm_26 rfl (q := 99) rfl ((tlt hc100).1) ?_
                refine OEnds.adv hm_26 2 (pc' := 7) (L' := [qr 1, qi v1, qi v2, qi x96, qi (v4 + (1 : Int32)), qi (v1 + v4), qi x94, qi x96]) (S' := []) (H' := (c0 :: bk0 zf za zi zk zb zs zt zr zg zh zo zl zz zv zw zaa zab zq zc zd zp zu ze zy zx zm zj zn po)) rfl ?_
                exact ih h
              · simp only [if_neg hc100] at h
                refine OEnds.ifF hm_26 rfl ((flt hc100).1) ?_
                refine OEnds.adv hm_26 3 (pc' := 97) (L' := [qr 1, qi v1, qi v2, qi x96, qi v4, qi (v1 + v4), qi x94, qi x96]) (S' := [.int x96, .ref 10]) (H' := (c0 :: bk0 zf za zi zk zb zs zt zr zg zh zo zl zz zv zw zaa zab zq zc zd zp zu ze zy zx zm zj zn po)) rfl ?_
                obtain ⟨x98, hx98, h⟩ := bnd h
                refine OEnds.plain hm_26 rfl rfl (x_iaload rfl hx98) ?_
                refine OEnds.adv hm_26 3 (pc' := 7) (L' := [qr 1, qi v1, qi x98, qi x96, qi (v4 + (1 : Int32)), qi (v1 + v4), qi x94, qi x96]) (S' := []) (H' := (c0 :: bk0 zf za zi zk zb zs zt zr zg zh zo zl zz zv zw zaa zab zq zc zd zp zu ze zy zx zm zj zn po)) rfl ?_
                exact ih h
        · simp only [if_neg hc96] at h
          refine OEnds.icmpF hm_26 rfl ((flt hc96).1) ?_
          refine OEnds.adv hm_26 1 (pc' := 35) (L' := [qr 1, qi v1, qi v2, qi v3, qi v4, qi (v1 + v4), qu, qu]) (S' := [.int v2]) (H' := (c0 :: bk0 zf za zi zk zb zs zt zr zg zh zo zl zz zv zw zaa zab zq zc zd zp zu ze zy zx zm zj zn po)) rfl ?_
          cases h
          exact OEnds.iret hm_26 rfl rfl
    · simp only [if_neg hc94] at h
      refine OEnds.icmpT hm_26 rfl (q := 105) rfl ((flt hc94).2.1) ?_
      refine OEnds.adv hm_26 1 (pc' := 106) (L' := [qr 1, qi v1, qi v2, qi v3, qi v4, qu, qu, qu]) (S' := [.int v2]) (H' := (c0 :: bk0 zf za zi zk zb zs zt zr zg zh zo zl zz zv zw zaa zab zq zc zd zp zu ze zy zx zm zj zn po)) rfl ?_
      cases h
      exact OEnds.iret hm_26 rfl rfl
theorem ok_longestAt {zf za zi zk zb zs zt zr zg zh zo zl zz zv zw : List Int32} {zaa zab zq zc zd zp zu ze zy zx zm zj zn : Int32} {c0 : ACell} {po : List ACell} {v1 res : Int32} (h : f_longestAt zb zg zl ze v1 = some res) : OEnds own_P 26 0 [qr 1, qi v1, qu, qu, qu, qu, qu, qu] [] (c0 :: bk0 zf za zi zk zb zs zt zr zg zh zo zl zz zv zw zaa zab zq zc zd zp zu ze zy zx zm zj zn po) (some (.int res), (c0 :: bk0 zf za zi zk zb zs zt zr zg zh zo zl zz zv zw zaa zab zq zc zd zp zu ze zy zx zm zj zn po), 0, 0) := by
  unfold f_longestAt at h
  refine OEnds.adv hm_26 6 (pc' := 7) (L' := [qr 1, qi v1, qi (-1), qi 0, qi 0, qu, qu, qu]) (S' := []) (H' := (c0 :: bk0 zf za zi zk zb zs zt zr zg zh zo zl zz zv zw zaa zab zq zc zd zp zu ze zy zx zm zj zn po)) rfl ?_
  exact ok_longestAt_7 100000 h
theorem ok_commitOne_74 {zf za zi zk zb zs zt zr zg zh zo zl zz zw : List Int32} {zaa zab zq zc zd zp zu ze zy zx zn : Int32} {c0 : ACell} {po : List ACell} : ∀ {zv : List Int32} {zm zj : Int32} {d1 : Slot} {w_o_out : List Int32} {w_o_outLen : Int32} {w_o_commitPos : Int32}, f_commitOne_74 za zi zb zg zl ze zv zm zj = some (w_o_out, w_o_outLen, w_o_commitPos) → OEnds own_P 25 74 [qr 1, d1] [] (c0 :: bk0 zf za zi zk zb zs zt zr zg zh zo zl zz zv zw zaa zab zq zc zd zp zu ze zy zx zm zj zn po) (none, (c0 :: bk0 zf za zi zk zb zs zt zr zg zh zo zl zz w_o_out zw zaa zab zq zc zd zp zu ze zy zx w_o_outLen w_o_commitPos zn po), 0, 0) := by
  intro zv zm zj d1 w_o_out w_o_outLen w_o_commitPos h
  unfold f_commitOne_74 at h
  refine OEnds.adv hm_25 6 (pc' := 84) (L' := [qr 1, qu]) (S' := []) (H' := (c0 :: bk0 zf za zi zk zb zs zt zr zg zh zo zl zz zv zw zaa zab zq zc zd zp zu ze zy zx (zm + (1 : Int32)) zj zn po)) rfl ?_
  cases h
  exact OEnds.vret hm_25 rfl rfl
theorem ok_commitOne {zf za zi zk zb zs zt zr zg zh zo zl zz zw : List Int32} {zaa zab zq zc zd zp zu ze zy zx zn : Int32} {c0 : ACell} {po : List ACell} {zv : List Int32} {zm zj : Int32} {w_o_out : List Int32} {w_o_outLen w_o_commitPos : Int32} (h : f_commitOne za zi zb zg zl ze zv zm zj = some (w_o_out, w_o_outLen, w_o_commitPos)) : OEnds own_P 25 0 [qr 1, qu] [] (c0 :: bk0 zf za zi zk zb zs zt zr zg zh zo zl zz zv zw zaa zab zq zc zd zp zu ze zy zx zm zj zn po) (none, (c0 :: bk0 zf za zi zk zb zs zt zr zg zh zo zl zz w_o_out zw zaa zab zq zc zd zp zu ze zy zx w_o_outLen w_o_commitPos zn po), 0, 0) := by
  unfold f_commitOne at h
  refine OEnds.adv hm_25 3 (pc' := 5) (L' := [qr 1, qu]) (S' := [.int zj, .ref 1]) (H' := (c0 :: bk0 zf za zi zk zb zs zt zr zg zh zo zl zz zv zw zaa zab zq zc zd zp zu ze zy zx zm zj zn po)) rfl ?_
  obtain ⟨r99, hq101, h⟩ := bnd h
  refine OEnds.call0 hm_25 rfl rfl (by decide) rfl (as := [.ref 1, .int zj]) (rest := []) rfl rfl (ok_longestAt hq101) ?_
  refine OEnds.adv hm_25 2 (pc' := 10) (L' := [qr 1, qi r99]) (S' := [.int r99]) (H' := (c0 :: bk0 zf za zi zk zb zs zt zr zg zh zo zl zz zv zw zaa zab zq zc zd zp zu ze zy zx zm zj zn po)) rfl ?_
  by_cases hc102 : r99 < (0 : Int32)
  · simp only [if_pos hc102] at h
    refine OEnds.ifT hm_25 rfl (q := 46) rfl ((tlt hc102).1) ?_
    refine OEnds.adv hm_25 8 (pc' := 62) (L' := [qr 1, qi r99]) (S' := [.int zj, .ref 13, .int zm, .ref 15]) (H' := (c0 :: bk0 zf za zi zk zb zs zt zr zg zh zo zl zz zv zw zaa zab zq zc zd zp zu ze zy zx zm zj zn po)) rfl ?_
    obtain ⟨x100, hx100, h⟩ := bnd h
    refine OEnds.plain hm_25 rfl rfl (x_iaload rfl hx100) ?_
    show OEnds own_P 25 63 [qr 1, qi r99] [.int x100, .int zm, .ref 15] (c0 :: bk0 zf za zi zk zb zs zt zr zg zh zo zl zz zv zw zaa zab zq zc zd zp zu ze zy zx zm zj zn po) _
    obtain ⟨A101, hA101, h⟩ := bnd h
    refine OEnds.plain hm_25 rfl rfl (x_iastore rfl (Nat.le_of_ble_eq_true rfl) hA101) ?_
    refine OEnds.adv hm_25 6 (pc' := 74) (L' := [qr 1, qi r99]) (S' := []) (H' := (c0 :: bk0 zf za zi zk zb zs zt zr zg zh zo zl zz A101 zw zaa zab zq zc zd zp zu ze zy zx zm (zj + (1 : Int32)) zn po)) rfl ?_
    exact ok_commitOne_74 h
  · simp only [if_neg hc102] at h
    refine OEnds.ifF hm_25 rfl ((flt hc102).1) ?_
    refine OEnds.adv hm_25 7 (pc' := 26) (L' := [qr 1, qi r99]) (S' := [.int r99, .ref 4, .int zm, .ref 15]) (H' := (c0 :: bk0 zf za zi zk zb zs zt zr zg zh zo zl zz zv zw zaa zab zq zc zd zp zu ze zy zx zm zj zn po)) rfl ?_
    obtain ⟨x102, hx102, h⟩ := bnd h
    refine OEnds.plain hm_25 rfl rfl (x_iaload rfl hx102) ?_
    show OEnds own_P 25 27 [qr 1, qi r99] [.int x102, .int zm, .ref 15] (c0 :: bk0 zf za zi zk zb zs zt zr zg zh zo zl zz zv zw zaa zab zq zc zd zp zu ze zy zx zm zj zn po) _
    obtain ⟨A103, hA103, h⟩ := bnd h
    refine OEnds.plain hm_25 rfl rfl (x_iastore rfl (Nat.le_of_ble_eq_true rfl) hA103) ?_
    refine OEnds.adv hm_25 6 (pc' := 38) (L' := [qr 1, qi r99]) (S' := [.int r99, .ref 3, .int zj, .ref 1]) (H' := (c0 :: bk0 zf za zi zk zb zs zt zr zg zh zo zl zz A103 zw zaa zab zq zc zd zp zu ze zy zx zm zj zn po)) rfl ?_
    obtain ⟨x104, hx104, h⟩ := bnd h
    refine OEnds.plain hm_25 rfl rfl (x_iaload rfl hx104) ?_
    refine OEnds.adv hm_25 3 (pc' := 74) (L' := [qr 1, qi r99]) (S' := []) (H' := (c0 :: bk0 zf za zi zk zb zs zt zr zg zh zo zl zz A103 zw zaa zab zq zc zd zp zu ze zy zx zm (zj + x104) zn po)) rfl ?_
    exact ok_commitOne_74 h
theorem ok_commitReady_2 {zf za zi zk zb zs zt zr zg zh zo zl zz zw : List Int32} {zaa zab zq zc zd zp zu ze zy zx zn : Int32} {c0 : ACell} {po : List ACell} : ∀ (n : Nat), ∀ {zv : List Int32} {zm zj v1 : Int32} {w_o_out : List Int32} {w_o_outLen : Int32} {w_o_commitPos : Int32}, f_commitReady_2 za zi zb zg zl zu ze n zv zm zj v1 = some (w_o_out, w_o_outLen, w_o_commitPos) → OEnds own_P 24 2 [qr 1, qi v1] [] (c0 :: bk0 zf za zi zk zb zs zt zr zg zh zo zl zz zv zw zaa zab zq zc zd zp zu ze zy zx zm zj zn po) (none, (c0 :: bk0 zf za zi zk zb zs zt zr zg zh zo zl zz w_o_out zw zaa zab zq zc zd zp zu ze zy zx w_o_outLen w_o_commitPos zn po), 0, 0) := by
  intro n
  induction n with
  | zero => intro zv zm zj v1 w_o_out w_o_outLen w_o_commitPos h; cases h
  | succ n ih =>
    intro zv zm zj v1 w_o_out w_o_outLen w_o_commitPos h
    unfold f_commitReady_2 at h
    refine OEnds.adv hm_24 2 (pc' := 6) (L' := [qr 1, qi v1]) (S' := [.int 240, .int v1]) (H' := (c0 :: bk0 zf za zi zk zb zs zt zr zg zh zo zl zz zv zw zaa zab zq zc zd zp zu ze zy zx zm zj zn po)) rfl ?_
    by_cases hc103 : v1 < (240 : Int32)
    · simp only [if_pos hc103] at h
      refine OEnds.icmpF hm_24 rfl ((tlt hc103).2.1) ?_
      refine OEnds.adv hm_24 2 (pc' := 13) (L' := [qr 1, qi v1]) (S' := [.int zj]) (H' := (c0 :: bk0 zf za zi zk zb zs zt zr zg zh zo zl zz zv zw zaa zab zq zc zd zp zu ze zy zx zm zj zn po)) rfl ?_
      by_cases hc104 : zj < (0 : Int32)
      · simp only [if_pos hc104] at h
        refine OEnds.ifT hm_24 rfl (q := 43) rfl ((tlt hc104).1) ?_
        show OEnds own_P 24 43 [qr 1, qi v1] [] (c0 :: bk0 zf za zi zk zb zs zt zr zg zh zo zl zz zv zw zaa zab zq zc zd zp zu ze zy zx zm zj zn po) _
        cases h
        exact OEnds.vret hm_24 rfl rfl
      · simp only [if_neg hc104] at h
        refine OEnds.ifF hm_24 rfl ((flt hc104).1) ?_
        refine OEnds.adv hm_24 4 (pc' := 24) (L' := [qr 1, qi v1]) (S' := [.int ze, .int zj]) (H' := (c0 :: bk0 zf za zi zk zb zs zt zr zg zh zo zl zz zv zw zaa zab zq zc zd zp zu ze zy zx zm zj zn po)) rfl ?_
        by_cases hc105 : zj < ze
        · simp only [if_pos hc105] at h
          refine OEnds.icmpF hm_24 rfl ((tlt hc105).2.1) ?_
          refine OEnds.adv hm_24 7 (pc' := 40) (L' := [qr 1, qi v1]) (S' := [.int ze, .int (zj + zu)]) (H' := (c0 :: bk0 zf za zi zk zb zs zt zr zg zh zo zl zz zv zw zaa zab zq zc zd zp zu ze zy zx zm zj zn po)) rfl ?_
          by_cases hc106 : ze < (zj + zu)
          · simp only [if_pos hc106] at h
            refine OEnds.icmpF hm_24 rfl ((tlt hc106).2.2.2) ?_
            show OEnds own_P 24 43 [qr 1, qi v1] [] (c0 :: bk0 zf za zi zk zb zs zt zr zg zh zo zl zz zv zw zaa zab zq zc zd zp zu ze zy zx zm zj zn po) _
            cases h
            exact OEnds.vret hm_24 rfl rfl
          · simp only [if_neg hc106] at h
            refine OEnds.icmpT hm_24 rfl (q := 44) rfl ((flt hc106).2.2.2) ?_
            refine OEnds.adv hm_24 3 (pc' := 51) (L' := [qr 1, qi v1]) (S' := [.int 240, .int zm]) (H' := (c0 :: bk0 zf za zi zk zb zs zt zr zg zh zo zl zz zv zw zaa zab zq zc zd zp zu ze zy zx zm zj zn po)) rfl ?_
            by_cases hc107 : zm < (240 : Int32)
            · simp only [if_pos hc107] at h
              refine OEnds.icmpT hm_24 rfl (q := 55) rfl ((tlt hc107).1) ?_
              refine OEnds.adv hm_24 1 (pc' := 56) (L' := [qr 1, qi v1]) (S' := [.ref 1]) (H' := (c0 :: bk0 zf za zi zk zb zs zt zr zg zh zo zl zz zv zw zaa zab zq zc zd zp zu ze zy zx zm zj zn po)) rfl ?_
              obtain ⟨⟨s105, s106, s107⟩, hq108, h⟩ := bnd h
              refine OEnds.call0 hm_24 rfl rfl (by decide) rfl (as := [.ref 1]) (rest := []) rfl rfl (ok_commitOne hq108) ?_
              refine OEnds.adv hm_24 2 (pc' := 2) (L' := [qr 1, qi (v1 + (1 : Int32))]) (S' := []) (H' := (c0 :: bk0 zf za zi zk zb zs zt zr zg zh zo zl zz s105 zw zaa zab zq zc zd zp zu ze zy zx s106 s107 zn po)) rfl ?_
              exact ih h
            · simp only [if_neg hc107] at h
              refine OEnds.icmpF hm_24 rfl ((flt hc107).1) ?_
              show OEnds own_P 24 54 [qr 1, qi v1] [] (c0 :: bk0 zf za zi zk zb zs zt zr zg zh zo zl zz zv zw zaa zab zq zc zd zp zu ze zy zx zm zj zn po) _
              cases h
              exact OEnds.vret hm_24 rfl rfl
        · simp only [if_neg hc105] at h
          refine OEnds.icmpT hm_24 rfl (q := 43) rfl ((flt hc105).2.1) ?_
          show OEnds own_P 24 43 [qr 1, qi v1] [] (c0 :: bk0 zf za zi zk zb zs zt zr zg zh zo zl zz zv zw zaa zab zq zc zd zp zu ze zy zx zm zj zn po) _
          cases h
          exact OEnds.vret hm_24 rfl rfl
    · simp only [if_neg hc103] at h
      refine OEnds.icmpT hm_24 rfl (q := 65) rfl ((flt hc103).2.1) ?_
      show OEnds own_P 24 65 [qr 1, qi v1] [] (c0 :: bk0 zf za zi zk zb zs zt zr zg zh zo zl zz zv zw zaa zab zq zc zd zp zu ze zy zx zm zj zn po) _
      cases h
      exact OEnds.vret hm_24 rfl rfl
theorem ok_commitReady {zf za zi zk zb zs zt zr zg zh zo zl zz zw : List Int32} {zaa zab zq zc zd zp zu ze zy zx zn : Int32} {c0 : ACell} {po : List ACell} {zv : List Int32} {zm zj : Int32} {w_o_out : List Int32} {w_o_outLen w_o_commitPos : Int32} (h : f_commitReady za zi zb zg zl zu ze zv zm zj = some (w_o_out, w_o_outLen, w_o_commitPos)) : OEnds own_P 24 0 [qr 1, qu] [] (c0 :: bk0 zf za zi zk zb zs zt zr zg zh zo zl zz zv zw zaa zab zq zc zd zp zu ze zy zx zm zj zn po) (none, (c0 :: bk0 zf za zi zk zb zs zt zr zg zh zo zl zz w_o_out zw zaa zab zq zc zd zp zu ze zy zx w_o_outLen w_o_commitPos zn po), 0, 0) := by
  unfold f_commitReady at h
  refine OEnds.adv hm_24 2 (pc' := 2) (L' := [qr 1, qi 0]) (S' := []) (H' := (c0 :: bk0 zf za zi zk zb zs zt zr zg zh zo zl zz zv zw zaa zab zq zc zd zp zu ze zy zx zm zj zn po)) rfl ?_
  exact ok_commitReady_2 100000 h
theorem ok_rebuildTail_95 {zf za zi zk zb zs zt zr zg zh zo zl zz zv : List Int32} {zaa zab zq zc zd zp zu ze zy zx zm zj : Int32} {c0 : ACell} {po : List ACell} {kb : List Int32 → Int32 → Int32 → Int32 → Option (List Int32 × Int32)} (hkb : ∀ {zw : List Int32} {zn v1 v2 : Int32} {d3 : Slot} {w_o_tail : List Int32} {w_o_tailLen : Int32}, kb zw zn v1 v2 = some (w_o_tail, w_o_tailLen) → OEnds own_P 27 12 [qr 1, qi v1, qi v2, d3] [] (c0 :: bk0 zf za zi zk zb zs zt zr zg zh zo zl zz zv zw zaa zab zq zc zd zp zu ze zy zx zm zj zn po) (none, (c0 :: bk0 zf za zi zk zb zs zt zr zg zh zo zl zz zv w_o_tail zaa zab zq zc zd zp zu ze zy zx zm zj w_o_tailLen po), 0, 0)) : ∀ {zw : List Int32} {zn v1 v2 : Int32} {d3 : Slot} {w_o_tail : List Int32} {w_o_tailLen : Int32}, f_rebuildTail_95 kb za zi zb zg zl ze zj zw zn v1 v2 = some (w_o_tail, w_o_tailLen) → OEnds own_P 27 95 [qr 1, qi v1, qi v2, d3] [] (c0 :: bk0 zf za zi zk zb zs zt zr zg zh zo zl zz zv zw zaa zab zq zc zd zp zu ze zy zx zm zj zn po) (none, (c0 :: bk0 zf za zi zk zb zs zt zr zg zh zo zl zz zv w_o_tail zaa zab zq zc zd zp zu ze zy zx zm zj w_o_tailLen po), 0, 0) := by
  intro zw zn v1 v2 d3 w_o_tail w_o_tailLen h
  unfold f_rebuildTail_95 at h
  refine OEnds.adv hm_27 8 (pc' := 12) (L' := [qr 1, qi v1, qi (v2 + (1 : Int32)), qu]) (S' := []) (H' := (c0 :: bk0 zf za zi zk zb zs zt zr zg zh zo zl zz zv zw zaa zab zq zc zd zp zu ze zy zx zm zj (zn + (1 : Int32)) po)) rfl ?_
  exact hkb h
theorem ok_rebuildTail_12 {zf za zi zk zb zs zt zr zg zh zo zl zz zv : List Int32} {zaa zab zq zc zd zp zu ze zy zx zm zj : Int32} {c0 : ACell} {po : List ACell} : ∀ (n : Nat), ∀ {zw : List Int32} {zn v1 v2 : Int32} {d3 : Slot} {w_o_tail : List Int32} {w_o_tailLen : Int32}, f_rebuildTail_12 za zi zb zg zl ze zj n zw zn v1 v2 = some (w_o_tail, w_o_tailLen) → OEnds own_P 27 12 [qr 1, qi v1, qi v2, d3] [] (c0 :: bk0 zf za zi zk zb zs zt zr zg zh zo zl zz zv zw zaa zab zq zc zd zp zu ze zy zx zm zj zn po) (none, (c0 :: bk0 zf za zi zk zb zs zt zr zg zh zo zl zz zv w_o_tail zaa zab zq zc zd zp zu ze zy zx zm zj w_o_tailLen po), 0, 0) := by
  intro n
  induction n with
  | zero => intro zw zn v1 v2 d3 w_o_tail w_o_tailLen h; cases h
  | succ n ih =>
    intro zw zn v1 v2 d3 w_o_tail w_o_tailLen h
    unfold f_rebuildTail_12 at h
    refine OEnds.adv hm_27 2 (pc' := 15) (L' := [qr 1, qi v1, qi v2, qu]) (S' := [.int 8, .int v2]) (H' := (c0 :: bk0 zf za zi zk zb zs zt zr zg zh zo zl zz zv zw zaa zab zq zc zd zp zu ze zy zx zm zj zn po)) rfl ?_
    by_cases hc109 : v2 < (8 : Int32)
    · simp only [if_pos hc109] at h
      refine OEnds.icmpF hm_27 rfl ((tlt hc109).2.1) ?_
      refine OEnds.adv hm_27 1 (pc' := 19) (L' := [qr 1, qi v1, qi v2, qu]) (S' := [.int v1]) (H' := (c0 :: bk0 zf za zi zk zb zs zt zr zg zh zo zl zz zv zw zaa zab zq zc zd zp zu ze zy zx zm zj zn po)) rfl ?_
      by_cases hc110 : v1 < (0 : Int32)
      · simp only [if_pos hc110] at h
        refine OEnds.ifT hm_27 rfl (q := 39) rfl ((tlt hc110).1) ?_
        show OEnds own_P 27 39 [qr 1, qi v1, qi v2, qu] [] (c0 :: bk0 zf za zi zk zb zs zt zr zg zh zo zl zz zv zw zaa zab zq zc zd zp zu ze zy zx zm zj zn po) _
        cases h
        exact OEnds.vret hm_27 rfl rfl
      · simp only [if_neg hc110] at h
        refine OEnds.ifF hm_27 rfl ((flt hc110).1) ?_
        refine OEnds.adv hm_27 3 (pc' := 27) (L' := [qr 1, qi v1, qi v2, qu]) (S' := [.int ze, .int v1]) (H' := (c0 :: bk0 zf za zi zk zb zs zt zr zg zh zo zl zz zv zw zaa zab zq zc zd zp zu ze zy zx zm zj zn po)) rfl ?_
        by_cases hc111 : v1 < ze
        · simp only [if_pos hc111] at h
          refine OEnds.icmpF hm_27 rfl ((tlt hc111).2.1) ?_
          refine OEnds.adv hm_27 3 (pc' := 36) (L' := [qr 1, qi v1, qi v2, qu]) (S' := [.int 8, .int zn]) (H' := (c0 :: bk0 zf za zi zk zb zs zt zr zg zh zo zl zz zv zw zaa zab zq zc zd zp zu ze zy zx zm zj zn po)) rfl ?_
          by_cases hc112 : zn < (8 : Int32)
          · simp only [if_pos hc112] at h
            refine OEnds.icmpT hm_27 rfl (q := 40) rfl ((tlt hc112).1) ?_
            refine OEnds.adv hm_27 2 (pc' := 42) (L' := [qr 1, qi v1, qi v2, qu]) (S' := [.int v1, .ref 1]) (H' := (c0 :: bk0 zf za zi zk zb zs zt zr zg zh zo zl zz zv zw zaa zab zq zc zd zp zu ze zy zx zm zj zn po)) rfl ?_
            obtain ⟨r108, hq113, h⟩ := bnd h
            refine OEnds.call0 hm_27 rfl rfl (by decide) rfl (as := [.ref 1, .int v1]) (rest := []) rfl rfl (ok_longestAt hq113) ?_
            refine OEnds.adv hm_27 2 (pc' := 47) (L' := [qr 1, qi v1, qi v2, qi r108]) (S' := [.int r108]) (H' := (c0 :: bk0 zf za zi zk zb zs zt zr zg zh zo zl zz zv zw zaa zab zq zc zd zp zu ze zy zx zm zj zn po)) rfl ?_
            by_cases hc114 : r108 < (0 : Int32)
            · simp only [if_pos hc114] at h
              refine OEnds.ifT hm_27 rfl (q := 77) rfl ((tlt hc114).1) ?_
              refine OEnds.adv hm_27 7 (pc' := 90) (L' := [qr 1, qi v1, qi v2, qi r108]) (S' := [.int v1, .ref 13, .int zn, .ref 16]) (H' := (c0 :: bk0 zf za zi zk zb zs zt zr zg zh zo zl zz zv zw zaa zab zq zc zd zp zu ze zy zx zm zj zn po)) rfl ?_
              obtain ⟨x109, hx109, h⟩ := bnd h
              refine OEnds.plain hm_27 rfl rfl (x_iaload rfl hx109) ?_
              show OEnds own_P 27 91 [qr 1, qi v1, qi v2, qi r108] [.int x109, .int zn, .ref 16] (c0 :: bk0 zf za zi zk zb zs zt zr zg zh zo zl zz zv zw zaa zab zq zc zd zp zu ze zy zx zm zj zn po) _
              obtain ⟨A110, hA110, h⟩ := bnd h
              refine OEnds.plain hm_27 rfl rfl (x_iastore rfl (Nat.le_of_ble_eq_true rfl) hA110) ?_
              refine OEnds.adv hm_27 1 (pc' := 95) (L' := [qr 1, qi (v1 + (1 : Int32)), qi v2, qi r108]) (S' := []) (H' := (c0 :: bk0 zf za zi zk zb zs zt zr zg zh zo zl zz zv A110 zaa zab zq zc zd zp zu ze zy zx zm zj zn po)) rfl ?_
              exact ok_rebuildTail_95 ih h
            · simp only [if_neg hc114] at h
              refine OEnds.ifF hm_27 rfl ((flt hc114).1) ?_
              refine OEnds.adv hm_27 7 (pc' := 63) (L' := [qr 1, qi v1, qi v2, qi r108]) (S' := [.int r108, .ref 4, .int zn, .ref 16]) (H' := (c0 :: bk0 zf za zi zk zb zs zt zr zg zh zo zl zz zv zw zaa zab zq zc zd zp zu ze zy zx zm zj zn po)) rfl ?_
              obtain ⟨x111, hx111, h⟩ := bnd h
              refine OEnds.plain hm_27 rfl rfl (x_iaload rfl hx111) ?_
              show OEnds own_P 27 64 [qr 1, qi v1, qi v2, qi r108] [.int x111, .int zn, .ref 16] (c0 :: bk0 zf za zi zk zb zs zt zr zg zh zo zl zz zv zw zaa zab zq zc zd zp zu ze zy zx zm zj zn po) _
              obtain ⟨A112, hA112, h⟩ := bnd h
              refine OEnds.plain hm_27 rfl rfl (x_iastore rfl (Nat.le_of_ble_eq_true rfl) hA112) ?_
              refine OEnds.adv hm_27 4 (pc' := 71) (L' := [qr 1, qi v1, qi v2, qi r108]) (S' := [.int r108, .ref 3, .int v1]) (H' := (c0 :: bk0 zf za zi zk zb zs zt zr zg zh zo zl zz zv A112 zaa zab zq zc zd zp zu ze zy zx zm zj zn po)) rfl ?_
              obtain ⟨x113, hx113, h⟩ := bnd h
              refine OEnds.plain hm_27 rfl rfl (x_iaload rfl hx113) ?_
              refine OEnds.adv hm_27 3 (pc' := 95) (L' := [qr 1, qi (v1 + x113), qi v2, qi r108]) (S' := []) (H' := (c0 :: bk0 zf za zi zk zb zs zt zr zg zh zo zl zz zv A112 zaa zab zq zc zd zp zu ze zy zx zm zj zn po)) rfl ?_
              exact ok_rebuildTail_95 ih h
          · simp only [if_neg hc112] at h
            refine OEnds.icmpF hm_27 rfl ((flt hc112).1) ?_
            show OEnds own_P 27 39 [qr 1, qi v1, qi v2, qu] [] (c0 :: bk0 zf za zi zk zb zs zt zr zg zh zo zl zz zv zw zaa zab zq zc zd zp zu ze zy zx zm zj zn po) _
            cases h
            exact OEnds.vret hm_27 rfl rfl
        · simp only [if_neg hc111] at h
          refine OEnds.icmpT hm_27 rfl (q := 39) rfl ((flt hc111).2.1) ?_
          show OEnds own_P 27 39 [qr 1, qi v1, qi v2, qu] [] (c0 :: bk0 zf za zi zk zb zs zt zr zg zh zo zl zz zv zw zaa zab zq zc zd zp zu ze zy zx zm zj zn po) _
          cases h
          exact OEnds.vret hm_27 rfl rfl
    · simp only [if_neg hc109] at h
      refine OEnds.icmpT hm_27 rfl (q := 111) rfl ((flt hc109).2.1) ?_
      show OEnds own_P 27 111 [qr 1, qi v1, qi v2, qu] [] (c0 :: bk0 zf za zi zk zb zs zt zr zg zh zo zl zz zv zw zaa zab zq zc zd zp zu ze zy zx zm zj zn po) _
      cases h
      exact OEnds.vret hm_27 rfl rfl
theorem ok_rebuildTail {zf za zi zk zb zs zt zr zg zh zo zl zz zv : List Int32} {zaa zab zq zc zd zp zu ze zy zx zm zj : Int32} {c0 : ACell} {po : List ACell} {zw : List Int32} {zn : Int32} {w_o_tail : List Int32} {w_o_tailLen : Int32} (h : f_rebuildTail za zi zb zg zl ze zj zw zn = some (w_o_tail, w_o_tailLen)) : OEnds own_P 27 0 [qr 1, qu, qu, qu] [] (c0 :: bk0 zf za zi zk zb zs zt zr zg zh zo zl zz zv zw zaa zab zq zc zd zp zu ze zy zx zm zj zn po) (none, (c0 :: bk0 zf za zi zk zb zs zt zr zg zh zo zl zz zv w_o_tail zaa zab zq zc zd zp zu ze zy zx zm zj w_o_tailLen po), 0, 0) := by
  unfold f_rebuildTail at h
  refine OEnds.adv hm_27 8 (pc' := 12) (L' := [qr 1, qi zj, qi 0, qu]) (S' := []) (H' := (c0 :: bk0 zf za zi zk zb zs zt zr zg zh zo zl zz zv zw zaa zab zq zc zd zp zu ze zy zx zm zj 0 po)) rfl ?_
  exact ok_rebuildTail_12 100000 h
theorem ok_feed {zf za zi zk zb zs zt zr zg zh zo : List Int32} {zaa zab zq zc zd zp zu : Int32} {c0 : ACell} {po : List ACell} {zl zz zv zw : List Int32} {ze zy zx zm zj zn v1 res : Int32} {w_o_text w_o_masks w_o_out w_o_tail : List Int32} {w_o_n w_o_state w_o_total w_o_outLen w_o_commitPos w_o_tailLen : Int32} (h : f_feed za zi zb zs zg zh zq zu zl zz zv zw ze zy zx zm zj zn v1 = some (res, w_o_text, w_o_masks, w_o_out, w_o_tail, w_o_n, w_o_state, w_o_total, w_o_outLen, w_o_commitPos, w_o_tailLen)) : OEnds own_P 21 0 [qr 1, qi v1, qu, qu] [] (c0 :: bk0 zf za zi zk zb zs zt zr zg zh zo zl zz zv zw zaa zab zq zc zd zp zu ze zy zx zm zj zn po) (some (.int res), (c0 :: bk0 zf za zi zk zb zs zt zr zg zh zo w_o_text w_o_masks w_o_out w_o_tail zaa zab zq zc zd zp zu w_o_n w_o_state w_o_total w_o_outLen w_o_commitPos w_o_tailLen po), 0, 0) := by
  unfold f_feed at h
  refine OEnds.adv hm_21 3 (pc' := 5) (L' := [qr 1, qi v1, qu, qu]) (S' := [.int 1, .int zq]) (H' := (c0 :: bk0 zf za zi zk zb zs zt zr zg zh zo zl zz zv zw zaa zab zq zc zd zp zu ze zy zx zm zj zn po)) rfl ?_
  by_cases hc115 : zq = (1 : Int32)
  · simp only [if_pos hc115] at h
    refine OEnds.icmpT hm_21 rfl (q := 10) rfl ((teq hc115).1) ?_
    refine OEnds.adv hm_21 2 (pc' := 12) (L' := [qr 1, qi v1, qu, qu]) (S' := [.int v1, .ref 1]) (H' := (c0 :: bk0 zf za zi zk zb zs zt zr zg zh zo zl zz zv zw zaa zab zq zc zd zp zu ze zy zx zm zj zn po)) rfl ?_
    obtain ⟨r114, hq116, h⟩ := bnd h
    refine OEnds.call0 hm_21 rfl rfl (by decide) rfl (as := [.ref 1, .int v1]) (rest := []) rfl rfl (ok_isPrintable hq116) ?_
    show OEnds own_P 21 15 [qr 1, qi v1, qu, qu] [.int r114] (c0 :: bk0 zf za zi zk zb zs zt zr zg zh zo zl zz zv zw zaa zab zq zc zd zp zu ze zy zx zm zj zn po) _
    by_cases hc117 : r114 = (0 : Int32)
    · simp only [if_pos hc117] at h
      refine OEnds.ifF hm_21 rfl ((teq hc117).2) ?_
      refine OEnds.adv hm_21 1 (pc' := 20) (L' := [qr 1, qi v1, qu, qu]) (S' := [.int (-2)]) (H' := (c0 :: bk0 zf za zi zk zb zs zt zr zg zh zo zl zz zv zw zaa zab zq zc zd zp zu ze zy zx zm zj zn po)) rfl ?_
      cases h
      exact OEnds.iret hm_21 rfl rfl
    · simp only [if_neg hc117] at h
      refine OEnds.ifT hm_21 rfl (q := 21) rfl ((feq hc117).2) ?_
      refine OEnds.adv hm_21 3 (pc' := 28) (L' := [qr 1, qi v1, qu, qu]) (S' := [.int 240, .int ze]) (H' := (c0 :: bk0 zf za zi zk zb zs zt zr zg zh zo zl zz zv zw zaa zab zq zc zd zp zu ze zy zx zm zj zn po)) rfl ?_
      by_cases hc118 : ze < (240 : Int32)
      · simp only [if_pos hc118] at h
        refine OEnds.icmpT hm_21 rfl (q := 34) rfl ((tlt hc118).1) ?_
        refine OEnds.adv hm_21 5 (pc' := 41) (L' := [qr 1, qi v1, qu, qu]) (S' := [.int v1, .int zy, .ref 1, .ref 1]) (H' := (c0 :: bk0 zf za zi zk zb zs zt zr zg zh zo zl zz zv zw zaa zab zq zc zd zp zu ze zy zx zm zj zn po)) rfl ?_
        obtain ⟨r115, hq119, h⟩ := bnd h
        refine OEnds.call0 hm_21 rfl rfl (by decide) rfl (as := [.ref 1, .int zy, .int v1]) (rest := [.ref 1]) rfl rfl (ok_nextState hq119) ?_
        refine OEnds.adv hm_21 5 (pc' := 55) (L' := [qr 1, qi v1, qu, qu]) (S' := [.int r115, .ref 11]) (H' := (c0 :: bk0 zf za zi zk zb zs zt zr zg zh zo zl zz zv zw zaa zab zq zc zd zp zu ze r115 zx zm zj zn po)) rfl ?_
        obtain ⟨x116, hx116, h⟩ := bnd h
        refine OEnds.plain hm_21 rfl rfl (x_iaload rfl hx116) ?_
        refine OEnds.adv hm_21 6 (pc' := 66) (L' := [qr 1, qi v1, qi x116, qu]) (S' := [.int v1, .int ze, .ref 13]) (H' := (c0 :: bk0 zf za zi zk zb zs zt zr zg zh zo zl zz zv zw zaa zab zq zc zd zp zu ze r115 zx zm zj zn po)) rfl ?_
        obtain ⟨A117, hA117, h⟩ := bnd h
        refine OEnds.plain hm_21 rfl rfl (x_iastore rfl (Nat.le_of_ble_eq_true rfl) hA117) ?_
        refine OEnds.adv hm_21 5 (pc' := 76) (L' := [qr 1, qi v1, qi x116, qu]) (S' := [.int x116, .int ze, .ref 14]) (H' := (c0 :: bk0 zf za zi zk zb zs zt zr zg zh zo A117 zz zv zw zaa zab zq zc zd zp zu ze r115 zx zm zj zn po)) rfl ?_
        obtain ⟨A118, hA118, h⟩ := bnd h
        refine OEnds.plain hm_21 rfl rfl (x_iastore rfl (Nat.le_of_ble_eq_true rfl) hA118) ?_
        refine OEnds.adv hm_21 8 (pc' := 89) (L' := [qr 1, qi v1, qi x116, qu]) (S' := [.int x116, .ref 1]) (H' := (c0 :: bk0 zf za zi zk zb zs zt zr zg zh zo A117 A118 zv zw zaa zab zq zc zd zp zu (ze + (1 : Int32)) r115 zx zm zj zn po)) rfl ?_
        obtain ⟨r119, hq120, h⟩ := bnd h
        refine OEnds.call0 hm_21 rfl rfl (by decide) rfl (as := [.ref 1, .int x116]) (rest := []) rfl rfl (ok_popCount hq120) ?_
        refine OEnds.adv hm_21 8 (pc' := 104) (L' := [qr 1, qi v1, qi x116, qi r119]) (S' := [.ref 1]) (H' := (c0 :: bk0 zf za zi zk zb zs zt zr zg zh zo A117 A118 zv zw zaa zab zq zc zd zp zu (ze + (1 : Int32)) r115 (zx + r119) zm zj zn po)) rfl ?_
        obtain ⟨⟨s120, s121, s122⟩, hq121, h⟩ := bnd h
        refine OEnds.call0 hm_21 rfl rfl (by decide) rfl (as := [.ref 1]) (rest := []) rfl rfl (ok_commitReady hq121) ?_
        refine OEnds.adv hm_21 1 (pc' := 108) (L' := [qr 1, qi v1, qi x116, qi r119]) (S' := [.ref 1]) (H' := (c0 :: bk0 zf za zi zk zb zs zt zr zg zh zo A117 A118 s120 zw zaa zab zq zc zd zp zu (ze + (1 : Int32)) r115 (zx + r119) s121 s122 zn po)) rfl ?_
        obtain ⟨⟨s123, s124⟩, hq122, h⟩ := bnd h
        refine OEnds.call0 hm_21 rfl rfl (by decide) rfl (as := [.ref 1]) (rest := []) rfl rfl (ok_rebuildTail hq122) ?_
        refine OEnds.adv hm_21 1 (pc' := 112) (L' := [qr 1, qi v1, qi x116, qi r119]) (S' := [.int r119]) (H' := (c0 :: bk0 zf za zi zk zb zs zt zr zg zh zo A117 A118 s120 s123 zaa zab zq zc zd zp zu (ze + (1 : Int32)) r115 (zx + r119) s121 s122 s124 po)) rfl ?_
        cases h
        exact OEnds.iret hm_21 rfl rfl
      · simp only [if_neg hc118] at h
        refine OEnds.icmpF hm_21 rfl ((flt hc118).1) ?_
        refine OEnds.adv hm_21 1 (pc' := 33) (L' := [qr 1, qi v1, qu, qu]) (S' := [.int (-3)]) (H' := (c0 :: bk0 zf za zi zk zb zs zt zr zg zh zo zl zz zv zw zaa zab zq zc zd zp zu ze zy zx zm zj zn po)) rfl ?_
        cases h
        exact OEnds.iret hm_21 rfl rfl
  · simp only [if_neg hc115] at h
    refine OEnds.icmpF hm_21 rfl ((feq hc115).1) ?_
    refine OEnds.adv hm_21 1 (pc' := 9) (L' := [qr 1, qi v1, qu, qu]) (S' := [.int (-1)]) (H' := (c0 :: bk0 zf za zi zk zb zs zt zr zg zh zo zl zz zv zw zaa zab zq zc zd zp zu ze zy zx zm zj zn po)) rfl ?_
    cases h
    exact OEnds.iret hm_21 rfl rfl
theorem ok_L_law_918 {scr : List Int32} {kb : List Int32 → List Int32 → List Int32 → List Int32 → List Int32 → List Int32 → List Int32 → List Int32 → List Int32 → List Int32 → List Int32 → List Int32 → Int32 → Int32 → Int32 → Int32 → Int32 → Int32 → Int32 → Int32 → Int32 → Int32 → Int32 → Int64 → Int32 → Option (Int32)} (hkb : ∀ {zah zad zaf zae zaj zak zal zam zao zap zaq zar : List Int32} {zag zac zai zan zas zau zat zav zaw zax v6 : Int32} {v12 : Int64} {v14 zbc zbd zbb : Int32} {zay zaz zba : List Int32} {d1 d2 d3 d4 d7 d8 d9 d10 d11 d15 d16 d17 d18 d19 d20 d21 d22 d23 d24 d25 d26 d27 : Slot} {res : Int32}, kb zah zad zaf zae zaj zak zal zam zao zap zaq zar zag zac zai zan zas zau zat zav zaw zax v6 v12 v14 = some res → OEndsQ own_P 0 575 [qr 0, d1, d2, d3, d4, qr 1, qi v6, d7, d8, d9, d10, d11, ql v12, qw, qi v14, d15, d16, d17, d18, d19, d20, d21, d22, d23, d24, d25, d26, d27] [] (qa scr :: bk0 zah zad zaf zae zaj zak zay zaz zal zam zba zao zap zaq zar zbc zbd zag zac zai zbb zan zas zau zat zav zaw zax []) (LawQ res 0 0)) : ∀ {zah zad zaf zae zaj zak zal zam zao zap zaq zar : List Int32} {zag zac zai zan zas zau zat zav zaw zax v6 : Int32} {v12 : Int64} {v14 : Int32} {v19 : Int64} {v21 zbc zbd zbb : Int32} {zay zaz zba : List Int32} {d1 d2 d3 d4 d7 d8 d9 d10 d11 d15 d16 d17 d18 d22 d23 d24 d25 d26 d27 : Slot} {res : Int32}, f_L_law_918 kb scr zah zad zaf zae zaj zak zal zam zao zap zaq zar zag zac zai zan zas zau zat zav zaw zax v6 v12 v14 v19 v21 = some res → OEndsQ own_P 0 918 [qr 0, d1, d2, d3, d4, qr 1, qi v6, d7, d8, d9, d10, d11, ql v12, qw, qi v14, d15, d16, d17, d18, ql v19, qw, qi v21, d22, d23, d24, d25, d26, d27] [] (qa scr :: bk0 zah zad zaf zae zaj zak zay zaz zal zam zba zao zap zaq zar zbc zbd zag zac zai zbb zan zas zau zat zav zaw zax []) (LawQ res 0 0) := by
  intro zah zad zaf zae zaj zak zal zam zao zap zaq zar zag zac zai zan zas zau zat zav zaw zax v6 v12 v14 v19 v21 zbc zbd zbb zay zaz zba d1 d2 d3 d4 d7 d8 d9 d10 d11 d15 d16 d17 d18 d22 d23 d24 d25 d26 d27 res h
  unfold f_L_law_918 at h
  refine OEndsQ.adv hm_0 3 (pc' := 923) (L' := [qr 0, qu, qu, qu, qu, qr 1, qi v6, qu, qu, qu, qu, qu, ql v12, qw, qi v14, qu, qu, qu, qu, ql v19, qw, qi v21, qu, qu, qu, qu, qu, qu]) (S' := [.int (XT.cmpL v19 v12)]) (H' := (qa scr :: bk0 zah zad zaf zae zaj zak zay zaz zal zam zba zao zap zaq zar zbc zbd zag zac zai zbb zan zas zau zat zav zaw zax [])) rfl ?_
  by_cases hc123 : v19 = v12
  · simp only [if_pos hc123] at h
    refine OEndsQ.ifT hm_0 rfl (q := 928) rfl ((teq (c_eq.mpr hc123)).1) ?_
    refine OEndsQ.adv hm_0 1 (pc' := 930) (L' := [qr 0, qu, qu, qu, qu, qr 1, qi v6, qu, qu, qu, qu, qu, ql v12, qw, qi v14, qu, qu, qu, qu, ql v19, qw, qi v21, qu, qu, qu, qu, qu, qu]) (S' := [.ref 1]) (H' := (qa scr :: bk0 zah zad zaf zae zaj zak zay zaz zal zam zba zao zap zaq zar zbc zbd zag zac zai zbb zan zas zau zat zav zaw zax [])) rfl ?_
    obtain ⟨r234, hq124, h⟩ := bnd h
    refine OEndsQ.call0 hm_0 rfl rfl (by decide) rfl (as := [.ref 1]) (rest := []) rfl rfl (ok_totalOccurrences hq124) ?_
    refine OEndsQ.adv hm_0 1 (pc' := 935) (L' := [qr 0, qu, qu, qu, qu, qr 1, qi v6, qu, qu, qu, qu, qu, ql v12, qw, qi v14, qu, qu, qu, qu, ql v19, qw, qi v21, qu, qu, qu, qu, qu, qu]) (S' := [.int v21, .int r234]) (H' := (qa scr :: bk0 zah zad zaf zae zaj zak zay zaz zal zam zba zao zap zaq zar zbc zbd zag zac zai zbb zan zas zau zat zav zaw zax [])) rfl ?_
    by_cases hc125 : r234 = v21
    · simp only [if_pos hc125] at h
      refine OEndsQ.icmpT hm_0 rfl (q := 940) rfl ((teq hc125).1) ?_
      refine OEndsQ.adv hm_0 2 (pc' := 575) (L' := [qr 0, qu, qu, qu, qu, qr 1, qi v6, qu, qu, qu, qu, qu, ql v12, qw, qi (v14 + (1 : Int32)), qu, qu, qu, qu, ql v19, qw, qi v21, qu, qu, qu, qu, qu, qu]) (S' := []) (H' := (qa scr :: bk0 zah zad zaf zae zaj zak zay zaz zal zam zba zao zap zaq zar zbc zbd zag zac zai zbb zan zas zau zat zav zaw zax [])) rfl ?_
      exact hkb h
    · simp only [if_neg hc125] at h
      refine OEndsQ.icmpF hm_0 rfl ((feq hc125).1) ?_
      refine OEndsQ.adv hm_0 1 (pc' := 939) (L' := [qr 0, qu, qu, qu, qu, qr 1, qi v6, qu, qu, qu, qu, qu, ql v12, qw, qi v14, qu, qu, qu, qu, ql v19, qw, qi v21, qu, qu, qu, qu, qu, qu]) (S' := [.int 0]) (H' := (qa scr :: bk0 zah zad zaf zae zaj zak zay zaz zal zam zba zao zap zaq zar zbc zbd zag zac zai zbb zan zas zau zat zav zaw zax [])) rfl ?_
      cases h
      exact OEndsQ.iret hm_0 rfl rfl
  · simp only [if_neg hc123] at h
    refine OEndsQ.ifF hm_0 rfl ((feq (mt c_eq.mp hc123)).1) ?_
    refine OEndsQ.adv hm_0 1 (pc' := 927) (L' := [qr 0, qu, qu, qu, qu, qr 1, qi v6, qu, qu, qu, qu, qu, ql v12, qw, qi v14, qu, qu, qu, qu, ql v19, qw, qi v21, qu, qu, qu, qu, qu, qu]) (S' := [.int 0]) (H' := (qa scr :: bk0 zah zad zaf zae zaj zak zay zaz zal zam zba zao zap zaq zar zbc zbd zag zac zai zbb zan zas zau zat zav zaw zax [])) rfl ?_
    cases h
    exact OEndsQ.iret hm_0 rfl rfl
theorem ok_L_law_890 {scr : List Int32} {kb : List Int32 → List Int32 → List Int32 → List Int32 → List Int32 → List Int32 → List Int32 → List Int32 → List Int32 → List Int32 → List Int32 → List Int32 → Int32 → Int32 → Int32 → Int32 → Int32 → Int32 → Int32 → Int32 → Int32 → Int32 → Int32 → Int64 → Int32 → Int32 → Int32 → Int64 → Int32 → Int32 → Option (Int32)} {k918 : List Int32 → List Int32 → List Int32 → List Int32 → List Int32 → List Int32 → List Int32 → List Int32 → List Int32 → List Int32 → List Int32 → List Int32 → Int32 → Int32 → Int32 → Int32 → Int32 → Int32 → Int32 → Int32 → Int32 → Int32 → Int32 → Int64 → Int32 → Int64 → Int32 → Option (Int32)} (hkb : ∀ {zah zad zaf zae zaj zak zal zam zao zap zaq zar : List Int32} {zag zac zai zan zas zau zat zav zaw zax v6 : Int32} {v12 : Int64} {v14 v17 v18 : Int32} {v19 : Int64} {v21 v22 zbc zbd zbb : Int32} {zay zaz zba : List Int32} {d1 d2 d3 d4 d7 d8 d9 d10 d11 d15 d16 d23 d24 d25 d26 d27 : Slot} {res : Int32}, kb zah zad zaf zae zaj zak zal zam zao zap zaq zar zag zac zai zan zas zau zat zav zaw zax v6 v12 v14 v17 v18 v19 v21 v22 = some res → OEndsQ own_P 0 750 [qr 0, d1, d2, d3, d4, qr 1, qi v6, d7, d8, d9, d10, d11, ql v12, qw, qi v14, d15, d16, qi v17, qi v18, ql v19, qw, qi v21, qi v22, d23, d24, d25, d26, d27] [] (qa scr :: bk0 zah zad zaf zae zaj zak zay zaz zal zam zba zao zap zaq zar zbc zbd zag zac zai zbb zan zas zau zat zav zaw zax []) (LawQ res 0 0)) (hk918 : ∀ {zah zad zaf zae zaj zak zal zam zao zap zaq zar : List Int32} {zag zac zai zan zas zau zat zav zaw zax v6 : Int32} {v12 : Int64} {v14 : Int32} {v19 : Int64} {v21 zbc zbd zbb : Int32} {zay zaz zba : List Int32} {d1 d2 d3 d4 d7 d8 d9 d10 d11 d15 d16 d17 d18 d22 d23 d24 d25 d26 d27 : Slot} {res : Int32}, k918 zah zad zaf zae zaj zak zal zam zao zap zaq zar zag zac zai zan zas zau zat zav zaw zax v6 v12 v14 v19 v21 = some res → OEndsQ own_P 0 918 [qr 0, d1, d2, d3, d4, qr 1, qi v6, d7, d8, d9, d10, d11, ql v12, qw, qi v14, d15, d16, d17, d18, ql v19, qw, qi v21, d22, d23, d24, d25, d26, d27] [] (qa scr :: bk0 zah zad zaf zae zaj zak zay zaz zal zam zba zao zap zaq zar zbc zbd zag zac zai zbb zan zas zau zat zav zaw zax []) (LawQ res 0 0)) : ∀ {zah zad zaf zae zaj zak zal zam zao zap zaq zar : List Int32} {zag zac zai zan zas zau zat zav zaw zax v6 : Int32} {v12 : Int64} {v14 v17 v18 : Int32} {v19 : Int64} {v21 v22 v23 zbc zbd zbb : Int32} {zay zaz zba : List Int32} {d1 d2 d3 d4 d7 d8 d9 d10 d11 d15 d16 d24 d25 d26 d27 : Slot} {res : Int32}, f_L_law_890 kb k918 scr zah zad zaf zae zaj zak zal zam zao zap zaq zar zag zac zai zan zas zau zat zav zaw zax v6 v12 v14 v17 v18 v19 v21 v22 v23 = some res → OEndsQ own_P 0 890 [qr 0, d1, d2, d3, d4, qr 1, qi v6, d7, d8, d9, d10, d11, ql v12, qw, qi v14, d15, d16, qi v17, qi v18, ql v19, qw, qi v21, qi v22, qi v23, d24, d25, d26, d27] [] (qa scr :: bk0 zah zad zaf zae zaj zak zay zaz zal zam zba zao zap zaq zar zbc zbd zag zac zai zbb zan zas zau zat zav zaw zax []) (LawQ res 0 0) := by
  intro zah zad zaf zae zaj zak zal zam zao zap zaq zar zag zac zai zan zas zau zat zav zaw zax v6 v12 v14 v17 v18 v19 v21 v22 v23 zbc zbd zbb zay zaz zba d1 d2 d3 d4 d7 d8 d9 d10 d11 d15 d16 d24 d25 d26 d27 res h
  unfold f_L_law_890 at h
  refine OEndsQ.adv hm_0 9 (pc' := 906) (L' := [qr 0, qu, qu, qu, qu, qr 1, qi v6, qu, qu, qu, qu, qu, ql v12, qw, qi v14, qu, qu, qi v17, qi v18, ql ((v19 * (1000003 : Int64)) + v23.toInt64), qw, qi v21, qi v22, qi v23, qu, qu, qu, qu]) (S' := [.int v23, .int v21]) (H' := (qa scr :: bk0 zah zad zaf zae zaj zak zay zaz zal zam zba zao zap zaq zar zbc zbd zag zac zai zbb zan zas zau zat zav zaw zax [])) rfl ?_
  obtain ⟨r233, hq126, h⟩ := bnd h
  refine OEndsQ.call0 hm_0 rfl rfl (by decide) rfl (as := [.int v23]) (rest := [.int v21]) rfl rfl (ok_L_pop hq126) ?_
  refine OEndsQ.adv hm_0 4 (pc' := 750) (L' := [qr 0, qu, qu, qu, qu, qr 1, qi v6, qu, qu, qu, qu, qu, ql v12, qw, qi v14, qu, qu, qi v17, qi v18, ql ((v19 * (1000003 : Int64)) + v23.toInt64), qw, qi (v21 + r233), qi (v22 + (1 : Int32)), qi v23, qu, qu, qu, qu]) (S' := []) (H' := (qa scr :: bk0 zah zad zaf zae zaj zak zay zaz zal zam zba zao zap zaq zar zbc zbd zag zac zai zbb zan zas zau zat zav zaw zax [])) rfl ?_
  exact hkb h
theorem ok_L_law_877 {scr : List Int32} {kb : List Int32 → List Int32 → List Int32 → List Int32 → List Int32 → List Int32 → List Int32 → List Int32 → List Int32 → List Int32 → List Int32 → List Int32 → Int32 → Int32 → Int32 → Int32 → Int32 → Int32 → Int32 → Int32 → Int32 → Int32 → Int32 → Int64 → Int32 → Int32 → Int32 → Int64 → Int32 → Int32 → Int32 → Int32 → Option (Int32)} {k890 : List Int32 → List Int32 → List Int32 → List Int32 → List Int32 → List Int32 → List Int32 → List Int32 → List Int32 → List Int32 → List Int32 → List Int32 → Int32 → Int32 → Int32 → Int32 → Int32 → Int32 → Int32 → Int32 → Int32 → Int32 → Int32 → Int64 → Int32 → Int32 → Int32 → Int64 → Int32 → Int32 → Int32 → Option (Int32)} (hkb : ∀ {zah zad zaf zae zaj zak zal zam zao zap zaq zar : List Int32} {zag zac zai zan zas zau zat zav zaw zax v6 : Int32} {v12 : Int64} {v14 v17 v18 : Int32} {v19 : Int64} {v21 v22 v23 v24 zbc zbd zbb : Int32} {zay zaz zba : List Int32} {d1 d2 d3 d4 d7 d8 d9 d10 d11 d15 d16 d25 d26 d27 : Slot} {res : Int32}, kb zah zad zaf zae zaj zak zal zam zao zap zaq zar zag zac zai zan zas zau zat zav zaw zax v6 v12 v14 v17 v18 v19 v21 v22 v23 v24 = some res → OEndsQ own_P 0 777 [qr 0, d1, d2, d3, d4, qr 1, qi v6, d7, d8, d9, d10, d11, ql v12, qw, qi v14, d15, d16, qi v17, qi v18, ql v19, qw, qi v21, qi v22, qi v23, qi v24, d25, d26, d27] [] (qa scr :: bk0 zah zad zaf zae zaj zak zay zaz zal zam zba zao zap zaq zar zbc zbd zag zac zai zbb zan zas zau zat zav zaw zax []) (LawQ res 0 0)) (hk890 : ∀ {zah zad zaf zae zaj zak zal zam zao zap zaq zar : List Int32} {zag zac zai zan zas zau zat zav zaw zax v6 : Int32} {v12 : Int64} {v14 v17 v18 : Int32} {v19 : Int64} {v21 v22 v23 zbc zbd zbb : Int32} {zay zaz zba : List Int32} {d1 d2 d3 d4 d7 d8 d9 d10 d11 d15 d16 d24 d25 d26 d27 : Slot} {res : Int32}, k890 zah zad zaf zae zaj zak zal zam zao zap zaq zar zag zac zai zan zas zau zat zav zaw zax v6 v12 v14 v17 v18 v19 v21 v22 v23 = some res → OEndsQ own_P 0 890 [qr 0, d1, d2, d3, d4, qr 1, qi v6, d7, d8, d9, d10, d11, ql v12, qw, qi v14, d15, d16, qi v17, qi v18, ql v19, qw, qi v21, qi v22, qi v23, d24, d25, d26, d27] [] (qa scr :: bk0 zah zad zaf zae zaj zak zay zaz zal zam zba zao zap zaq zar zbc zbd zag zac zai zbb zan zas zau zat zav zaw zax []) (LawQ res 0 0)) : ∀ {zah zad zaf zae zaj zak zal zam zao zap zaq zar : List Int32} {zag zac zai zan zas zau zat zav zaw zax v6 : Int32} {v12 : Int64} {v14 v17 v18 : Int32} {v19 : Int64} {v21 v22 v23 v24 v25 t0 zbc zbd zbb : Int32} {zay zaz zba : List Int32} {d1 d2 d3 d4 d7 d8 d9 d10 d11 d15 d16 d26 d27 : Slot} {res : Int32}, f_L_law_877 kb k890 scr zah zad zaf zae zaj zak zal zam zao zap zaq zar zag zac zai zan zas zau zat zav zaw zax v6 v12 v14 v17 v18 v19 v21 v22 v23 v24 v25 t0 = some res → OEndsQ own_P 0 877 [qr 0, d1, d2, d3, d4, qr 1, qi v6, d7, d8, d9, d10, d11, ql v12, qw, qi v14, d15, d16, qi v17, qi v18, ql v19, qw, qi v21, qi v22, qi v23, qi v24, qi v25, d26, d27] [.int t0] (qa scr :: bk0 zah zad zaf zae zaj zak zay zaz zal zam zba zao zap zaq zar zbc zbd zag zac zai zbb zan zas zau zat zav zaw zax []) (LawQ res 0 0) := by
  intro zah zad zaf zae zaj zak zal zam zao zap zaq zar zag zac zai zan zas zau zat zav zaw zax v6 v12 v14 v17 v18 v19 v21 v22 v23 v24 v25 t0 zbc zbd zbb zay zaz zba d1 d2 d3 d4 d7 d8 d9 d10 d11 d15 d16 d26 d27 res h
  unfold f_L_law_877 at h
  refine OEndsQ.adv hm_0 1 (pc' := 879) (L' := [qr 0, qu, qu, qu, qu, qr 1, qi v6, qu, qu, qu, qu, qu, ql v12, qw, qi v14, qu, qu, qi v17, qi v18, ql v19, qw, qi v21, qi v22, qi v23, qi v24, qi v25, qu, qu]) (S' := [.int v25, .int t0]) (H' := (qa scr :: bk0 zah zad zaf zae zaj zak zay zaz zal zam zba zao zap zaq zar zbc zbd zag zac zai zbb zan zas zau zat zav zaw zax [])) rfl ?_
  by_cases hc127 : t0 = v25
  · simp only [if_pos hc127] at h
    refine OEndsQ.icmpT hm_0 rfl (q := 884) rfl ((teq hc127).1) ?_
    refine OEndsQ.adv hm_0 2 (pc' := 777) (L' := [qr 0, qu, qu, qu, qu, qr 1, qi v6, qu, qu, qu, qu, qu, ql v12, qw, qi v14, qu, qu, qi v17, qi v18, ql v19, qw, qi v21, qi v22, qi v23, qi (v24 + (1 : Int32)), qi v25, qu, qu]) (S' := []) (H' := (qa scr :: bk0 zah zad zaf zae zaj zak zay zaz zal zam zba zao zap zaq zar zbc zbd zag zac zai zbb zan zas zau zat zav zaw zax [])) rfl ?_
    exact hkb h
  · simp only [if_neg hc127] at h
    refine OEndsQ.icmpF hm_0 rfl ((feq hc127).1) ?_
    refine OEndsQ.adv hm_0 1 (pc' := 883) (L' := [qr 0, qu, qu, qu, qu, qr 1, qi v6, qu, qu, qu, qu, qu, ql v12, qw, qi v14, qu, qu, qi v17, qi v18, ql v19, qw, qi v21, qi v22, qi v23, qi v24, qi v25, qu, qu]) (S' := [.int 0]) (H' := (qa scr :: bk0 zah zad zaf zae zaj zak zay zaz zal zam zba zao zap zaq zar zbc zbd zag zac zai zbb zan zas zau zat zav zaw zax [])) rfl ?_
    cases h
    exact OEndsQ.iret hm_0 rfl rfl
theorem ok_L_law_861 {scr : List Int32} {kb : List Int32 → List Int32 → List Int32 → List Int32 → List Int32 → List Int32 → List Int32 → List Int32 → List Int32 → List Int32 → List Int32 → List Int32 → Int32 → Int32 → Int32 → Int32 → Int32 → Int32 → Int32 → Int32 → Int32 → Int32 → Int32 → Int64 → Int32 → Int32 → Int32 → Int64 → Int32 → Int32 → Int32 → Int32 → Option (Int32)} {k890 : List Int32 → List Int32 → List Int32 → List Int32 → List Int32 → List Int32 → List Int32 → List Int32 → List Int32 → List Int32 → List Int32 → List Int32 → Int32 → Int32 → Int32 → Int32 → Int32 → Int32 → Int32 → Int32 → Int32 → Int32 → Int32 → Int64 → Int32 → Int32 → Int32 → Int64 → Int32 → Int32 → Int32 → Option (Int32)} (hkb : ∀ {zah zad zaf zae zaj zak zal zam zao zap zaq zar : List Int32} {zag zac zai zan zas zau zat zav zaw zax v6 : Int32} {v12 : Int64} {v14 v17 v18 : Int32} {v19 : Int64} {v21 v22 v23 v24 zbc zbd zbb : Int32} {zay zaz zba : List Int32} {d1 d2 d3 d4 d7 d8 d9 d10 d11 d15 d16 d25 d26 d27 : Slot} {res : Int32}, kb zah zad zaf zae zaj zak zal zam zao zap zaq zar zag zac zai zan zas zau zat zav zaw zax v6 v12 v14 v17 v18 v19 v21 v22 v23 v24 = some res → OEndsQ own_P 0 777 [qr 0, d1, d2, d3, d4, qr 1, qi v6, d7, d8, d9, d10, d11, ql v12, qw, qi v14, d15, d16, qi v17, qi v18, ql v19, qw, qi v21, qi v22, qi v23, qi v24, d25, d26, d27] [] (qa scr :: bk0 zah zad zaf zae zaj zak zay zaz zal zam zba zao zap zaq zar zbc zbd zag zac zai zbb zan zas zau zat zav zaw zax []) (LawQ res 0 0)) (hk890 : ∀ {zah zad zaf zae zaj zak zal zam zao zap zaq zar : List Int32} {zag zac zai zan zas zau zat zav zaw zax v6 : Int32} {v12 : Int64} {v14 v17 v18 : Int32} {v19 : Int64} {v21 v22 v23 zbc zbd zbb : Int32} {zay zaz zba : List Int32} {d1 d2 d3 d4 d7 d8 d9 d10 d11 d15 d16 d24 d25 d26 d27 : Slot} {res : Int32}, k890 zah zad zaf zae zaj zak zal zam zao zap zaq zar zag zac zai zan zas zau zat zav zaw zax v6 v12 v14 v17 v18 v19 v21 v22 v23 = some res → OEndsQ own_P 0 890 [qr 0, d1, d2, d3, d4, qr 1, qi v6, d7, d8, d9, d10, d11, ql v12, qw, qi v14, d15, d16, qi v17, qi v18, ql v19, qw, qi v21, qi v22, qi v23, d24, d25, d26, d27] [] (qa scr :: bk0 zah zad zaf zae zaj zak zay zaz zal zam zba zao zap zaq zar zbc zbd zag zac zai zbb zan zas zau zat zav zaw zax []) (LawQ res 0 0)) : ∀ {zah zad zaf zae zaj zak zal zam zao zap zaq zar : List Int32} {zag zac zai zan zas zau zat zav zaw zax v6 : Int32} {v12 : Int64} {v14 v17 v18 : Int32} {v19 : Int64} {v21 v22 v23 v24 v25 zbc zbd zbb : Int32} {zay zaz zba : List Int32} {d1 d2 d3 d4 d7 d8 d9 d10 d11 d15 d16 d26 d27 : Slot} {res : Int32}, f_L_law_861 kb k890 scr zah zad zaf zae zaj zak zal zam zao zap zaq zar zag zac zai zan zas zau zat zav zaw zax v6 v12 v14 v17 v18 v19 v21 v22 v23 v24 v25 = some res → OEndsQ own_P 0 861 [qr 0, d1, d2, d3, d4, qr 1, qi v6, d7, d8, d9, d10, d11, ql v12, qw, qi v14, d15, d16, qi v17, qi v18, ql v19, qw, qi v21, qi v22, qi v23, qi v24, qi v25, d26, d27] [] (qa scr :: bk0 zah zad zaf zae zaj zak zay zaz zal zam zba zao zap zaq zar zbc zbd zag zac zai zbb zan zas zau zat zav zaw zax []) (LawQ res 0 0) := by
  intro zah zad zaf zae zaj zak zal zam zao zap zaq zar zag zac zai zan zas zau zat zav zaw zax v6 v12 v14 v17 v18 v19 v21 v22 v23 v24 v25 zbc zbd zbb zay zaz zba d1 d2 d3 d4 d7 d8 d9 d10 d11 d15 d16 d26 d27 res h
  unfold f_L_law_861 at h
  refine OEndsQ.adv hm_0 6 (pc' := 869) (L' := [qr 0, qu, qu, qu, qu, qr 1, qi v6, qu, qu, qu, qu, qu, ql v12, qw, qi v14, qu, qu, qi v17, qi v18, ql v19, qw, qi v21, qi v22, qi v23, qi v24, qi v25, qu, qu]) (S' := [.int 1, .int ((v23 >>> (v24 &&& 31)) &&& (1 : Int32))]) (H' := (qa scr :: bk0 zah zad zaf zae zaj zak zay zaz zal zam zba zao zap zaq zar zbc zbd zag zac zai zbb zan zas zau zat zav zaw zax [])) rfl ?_
  by_cases hc128 : ((v23 >>> (v24 &&& 31)) &&& (1 : Int32)) = (1 : Int32)
  · simp only [if_pos hc128] at h
    refine OEndsQ.icmpF hm_0 rfl ((teq hc128).2) ?_
    refine OEndsQ.adv hm_0 2 (pc' := 877) (L' := [qr 0, qu, qu, qu, qu, qr 1, qi v6, qu, qu, qu, qu, qu, ql v12, qw, qi v14, qu, qu, qi v17, qi v18, ql v19, qw, qi v21, qi v22, qi v23, qi v24, qi v25, qu, qu]) (S' := [.int 1]) (H' := (qa scr :: bk0 zah zad zaf zae zaj zak zay zaz zal zam zba zao zap zaq zar zbc zbd zag zac zai zbb zan zas zau zat zav zaw zax [])) rfl ?_
    exact ok_L_law_877 hkb hk890 h
  · simp only [if_neg hc128] at h
    refine OEndsQ.icmpT hm_0 rfl (q := 876) rfl ((feq hc128).2) ?_
    refine OEndsQ.adv hm_0 1 (pc' := 877) (L' := [qr 0, qu, qu, qu, qu, qr 1, qi v6, qu, qu, qu, qu, qu, ql v12, qw, qi v14, qu, qu, qi v17, qi v18, ql v19, qw, qi v21, qi v22, qi v23, qi v24, qi v25, qu, qu]) (S' := [.int 0]) (H' := (qa scr :: bk0 zah zad zaf zae zaj zak zay zaz zal zam zba zao zap zaq zar zbc zbd zag zac zai zbb zan zas zau zat zav zaw zax [])) rfl ?_
    exact ok_L_law_877 hkb hk890 h
theorem ok_L_law_818 {scr : List Int32} {k861 : List Int32 → List Int32 → List Int32 → List Int32 → List Int32 → List Int32 → List Int32 → List Int32 → List Int32 → List Int32 → List Int32 → List Int32 → Int32 → Int32 → Int32 → Int32 → Int32 → Int32 → Int32 → Int32 → Int32 → Int32 → Int32 → Int64 → Int32 → Int32 → Int32 → Int64 → Int32 → Int32 → Int32 → Int32 → Int32 → Option (Int32)} (hk861 : ∀ {zah zad zaf zae zaj zak zal zam zao zap zaq zar : List Int32} {zag zac zai zan zas zau zat zav zaw zax v6 : Int32} {v12 : Int64} {v14 v17 v18 : Int32} {v19 : Int64} {v21 v22 v23 v24 v25 zbc zbd zbb : Int32} {zay zaz zba : List Int32} {d1 d2 d3 d4 d7 d8 d9 d10 d11 d15 d16 d26 d27 : Slot} {res : Int32}, k861 zah zad zaf zae zaj zak zal zam zao zap zaq zar zag zac zai zan zas zau zat zav zaw zax v6 v12 v14 v17 v18 v19 v21 v22 v23 v24 v25 = some res → OEndsQ own_P 0 861 [qr 0, d1, d2, d3, d4, qr 1, qi v6, d7, d8, d9, d10, d11, ql v12, qw, qi v14, d15, d16, qi v17, qi v18, ql v19, qw, qi v21, qi v22, qi v23, qi v24, qi v25, d26, d27] [] (qa scr :: bk0 zah zad zaf zae zaj zak zay zaz zal zam zba zao zap zaq zar zbc zbd zag zac zai zbb zan zas zau zat zav zaw zax []) (LawQ res 0 0)) : ∀ (n : Nat), ∀ {zah zad zaf zae zaj zak zal zam zao zap zaq zar : List Int32} {zag zac zai zan zas zau zat zav zaw zax v6 : Int32} {v12 : Int64} {v14 v17 v18 : Int32} {v19 : Int64} {v21 v22 v23 v24 v25 v26 v27 zbc zbd zbb : Int32} {zay zaz zba : List Int32} {d1 d2 d3 d4 d7 d8 d9 d10 d11 d15 d16 : Slot} {res : Int32}, f_L_law_818 k861 scr n zah zad zaf zae zaj zak zal zam zao zap zaq zar zag zac zai zan zas zau zat zav zaw zax v6 v12 v14 v17 v18 v19 v21 v22 v23 v24 v25 v26 v27 = some res → OEndsQ own_P 0 818 [qr 0, d1, d2, d3, d4, qr 1, qi v6, d7, d8, d9, d10, d11, ql v12, qw, qi v14, d15, d16, qi v17, qi v18, ql v19, qw, qi v21, qi v22, qi v23, qi v24, qi v25, qi v26, qi v27] [] (qa scr :: bk0 zah zad zaf zae zaj zak zay zaz zal zam zba zao zap zaq zar zbc zbd zag zac zai zbb zan zas zau zat zav zaw zax []) (LawQ res 0 0) := by
  intro n
  induction n with
  | zero => intro zah zad zaf zae zaj zak zal zam zao zap zaq zar zag zac zai zan zas zau zat zav zaw zax v6 v12 v14 v17 v18 v19 v21 v22 v23 v24 v25 v26 v27 zbc zbd zbb zay zaz zba d1 d2 d3 d4 d7 d8 d9 d10 d11 d15 d16 res h; cases h
  | succ n ih =>
    intro zah zad zaf zae zaj zak zal zam zao zap zaq zar zag zac zai zan zas zau zat zav zaw zax v6 v12 v14 v17 v18 v19 v21 v22 v23 v24 v25 v26 v27 zbc zbd zbb zay zaz zba d1 d2 d3 d4 d7 d8 d9 d10 d11 d15 d16 res h
    unfold f_L_law_818 at h
    refine OEndsQ.adv hm_0 2 (pc' := 822) (L' := [qr 0, qu, qu, qu, qu, qr 1, qi v6, qu, qu, qu, qu, qu, ql v12, qw, qi v14, qu, qu, qi v17, qi v18, ql v19, qw, qi v21, qi v22, qi v23, qi v24, qi v25, qi v26, qi v27]) (S' := [.int v26, .int v27]) (H' := (qa scr :: bk0 zah zad zaf zae zaj zak zay zaz zal zam zba zao zap zaq zar zbc zbd zag zac zai zbb zan zas zau zat zav zaw zax [])) rfl ?_
    by_cases hc129 : v27 < v26
    · simp only [if_pos hc129] at h
      refine OEndsQ.icmpF hm_0 rfl ((tlt hc129).2.1) ?_
      refine OEndsQ.adv hm_0 8 (pc' := 837) (L' := [qr 0, qu, qu, qu, qu, qr 1, qi v6, qu, qu, qu, qu, qu, ql v12, qw, qi v14, qu, qu, qi v17, qi v18, ql v19, qw, qi v21, qi v22, qi v23, qi v24, qi v25, qi v26, qi v27]) (S' := [.int (((v22 - v26) + (1 : Int32)) + v27), .ref 1]) (H' := (qa scr :: bk0 zah zad zaf zae zaj zak zay zaz zal zam zba zao zap zaq zar zbc zbd zag zac zai zbb zan zas zau zat zav zaw zax [])) rfl ?_
      obtain ⟨r231, hq130, h⟩ := bnd h
      refine OEndsQ.call0 hm_0 rfl rfl (by decide) rfl (as := [.ref 1, .int (((v22 - v26) + (1 : Int32)) + v27)]) (rest := []) rfl rfl (ok_textChar hq130) ?_
      refine OEndsQ.adv hm_0 3 (pc' := 846) (L' := [qr 0, qu, qu, qu, qu, qr 1, qi v6, qu, qu, qu, qu, qu, ql v12, qw, qi v14, qu, qu, qi v17, qi v18, ql v19, qw, qi v21, qi v22, qi v23, qi v24, qi v25, qi v26, qi v27]) (S' := [.int v27, .int v24, .ref 1, .int r231]) (H' := (qa scr :: bk0 zah zad zaf zae zaj zak zay zaz zal zam zba zao zap zaq zar zbc zbd zag zac zai zbb zan zas zau zat zav zaw zax [])) rfl ?_
      obtain ⟨r232, hq131, h⟩ := bnd h
      refine OEndsQ.call0 hm_0 rfl rfl (by decide) rfl (as := [.ref 1, .int v24, .int v27]) (rest := [.int r231]) rfl rfl (ok_keywordChar hq131) ?_
      show OEndsQ own_P 0 849 [qr 0, qu, qu, qu, qu, qr 1, qi v6, qu, qu, qu, qu, qu, ql v12, qw, qi v14, qu, qu, qi v17, qi v18, ql v19, qw, qi v21, qi v22, qi v23, qi v24, qi v25, qi v26, qi v27] [.int r232, .int r231] (qa scr :: bk0 zah zad zaf zae zaj zak zay zaz zal zam zba zao zap zaq zar zbc zbd zag zac zai zbb zan zas zau zat zav zaw zax []) _
      by_cases hc132 : r231 = r232
      · simp only [if_pos hc132] at h
        refine OEndsQ.icmpT hm_0 rfl (q := 855) rfl ((teq hc132).1) ?_
        refine OEndsQ.adv hm_0 2 (pc' := 818) (L' := [qr 0, qu, qu, qu, qu, qr 1, qi v6, qu, qu, qu, qu, qu, ql v12, qw, qi v14, qu, qu, qi v17, qi v18, ql v19, qw, qi v21, qi v22, qi v23, qi v24, qi v25, qi v26, qi (v27 + (1 : Int32))]) (S' := []) (H' := (qa scr :: bk0 zah zad zaf zae zaj zak zay zaz zal zam zba zao zap zaq zar zbc zbd zag zac zai zbb zan zas zau zat zav zaw zax [])) rfl ?_
        exact ih h
      · simp only [if_neg hc132] at h
        refine OEndsQ.icmpF hm_0 rfl ((feq hc132).1) ?_
        refine OEndsQ.adv hm_0 4 (pc' := 818) (L' := [qr 0, qu, qu, qu, qu, qr 1, qi v6, qu, qu, qu, qu, qu, ql v12, qw, qi v14, qu, qu, qi v17, qi v18, ql v19, qw, qi v21, qi v22, qi v23, qi v24, qi 0, qi v26, qi (v27 + (1 : Int32))]) (S' := []) (H' := (qa scr :: bk0 zah zad zaf zae zaj zak zay zaz zal zam zba zao zap zaq zar zbc zbd zag zac zai zbb zan zas zau zat zav zaw zax [])) rfl ?_
        exact ih h
    · simp only [if_neg hc129] at h
      refine OEndsQ.icmpT hm_0 rfl (q := 861) rfl ((flt hc129).2.1) ?_
      show OEndsQ own_P 0 861 [qr 0, qu, qu, qu, qu, qr 1, qi v6, qu, qu, qu, qu, qu, ql v12, qw, qi v14, qu, qu, qi v17, qi v18, ql v19, qw, qi v21, qi v22, qi v23, qi v24, qi v25, qi v26, qi v27] [] (qa scr :: bk0 zah zad zaf zae zaj zak zay zaz zal zam zba zao zap zaq zar zbc zbd zag zac zai zbb zan zas zau zat zav zaw zax []) _
      exact hk861 h
theorem ok_L_law_777 {scr : List Int32} {k890 : List Int32 → List Int32 → List Int32 → List Int32 → List Int32 → List Int32 → List Int32 → List Int32 → List Int32 → List Int32 → List Int32 → List Int32 → Int32 → Int32 → Int32 → Int32 → Int32 → Int32 → Int32 → Int32 → Int32 → Int32 → Int32 → Int64 → Int32 → Int32 → Int32 → Int64 → Int32 → Int32 → Int32 → Option (Int32)} (hk890 : ∀ {zah zad zaf zae zaj zak zal zam zao zap zaq zar : List Int32} {zag zac zai zan zas zau zat zav zaw zax v6 : Int32} {v12 : Int64} {v14 v17 v18 : Int32} {v19 : Int64} {v21 v22 v23 zbc zbd zbb : Int32} {zay zaz zba : List Int32} {d1 d2 d3 d4 d7 d8 d9 d10 d11 d15 d16 d24 d25 d26 d27 : Slot} {res : Int32}, k890 zah zad zaf zae zaj zak zal zam zao zap zaq zar zag zac zai zan zas zau zat zav zaw zax v6 v12 v14 v17 v18 v19 v21 v22 v23 = some res → OEndsQ own_P 0 890 [qr 0, d1, d2, d3, d4, qr 1, qi v6, d7, d8, d9, d10, d11, ql v12, qw, qi v14, d15, d16, qi v17, qi v18, ql v19, qw, qi v21, qi v22, qi v23, d24, d25, d26, d27] [] (qa scr :: bk0 zah zad zaf zae zaj zak zay zaz zal zam zba zao zap zaq zar zbc zbd zag zac zai zbb zan zas zau zat zav zaw zax []) (LawQ res 0 0)) : ∀ (n : Nat), ∀ {zah zad zaf zae zaj zak zal zam zao zap zaq zar : List Int32} {zag zac zai zan zas zau zat zav zaw zax v6 : Int32} {v12 : Int64} {v14 v17 v18 : Int32} {v19 : Int64} {v21 v22 v23 v24 zbc zbd zbb : Int32} {zay zaz zba : List Int32} {d1 d2 d3 d4 d7 d8 d9 d10 d11 d15 d16 d25 d26 d27 : Slot} {res : Int32}, f_L_law_777 k890 scr n zah zad zaf zae zaj zak zal zam zao zap zaq zar zag zac zai zan zas zau zat zav zaw zax v6 v12 v14 v17 v18 v19 v21 v22 v23 v24 = some res → OEndsQ own_P 0 777 [qr 0, d1, d2, d3, d4, qr 1, qi v6, d7, d8, d9, d10, d11, ql v12, qw, qi v14, d15, d16, qi v17, qi v18, ql v19, qw, qi v21, qi v22, qi v23, qi v24, d25, d26, d27] [] (qa scr :: bk0 zah zad zaf zae zaj zak zay zaz zal zam zba zao zap zaq zar zbc zbd zag zac zai zbb zan zas zau zat zav zaw zax []) (LawQ res 0 0) := by
  intro n
  induction n with
  | zero => intro zah zad zaf zae zaj zak zal zam zao zap zaq zar zag zac zai zan zas zau zat zav zaw zax v6 v12 v14 v17 v18 v19 v21 v22 v23 v24 zbc zbd zbb zay zaz zba d1 d2 d3 d4 d7 d8 d9 d10 d11 d15 d16 d25 d26 d27 res h; cases h
  | succ n ih =>
    intro zah zad zaf zae zaj zak zal zam zao zap zaq zar zag zac zai zan zas zau zat zav zaw zax v6 v12 v14 v17 v18 v19 v21 v22 v23 v24 zbc zbd zbb zay zaz zba d1 d2 d3 d4 d7 d8 d9 d10 d11 d15 d16 d25 d26 d27 res h
    unfold f_L_law_777 at h
    refine OEndsQ.adv hm_0 2 (pc' := 781) (L' := [qr 0, qu, qu, qu, qu, qr 1, qi v6, qu, qu, qu, qu, qu, ql v12, qw, qi v14, qu, qu, qi v17, qi v18, ql v19, qw, qi v21, qi v22, qi v23, qi v24, qu, qu, qu]) (S' := [.int 16, .int v24]) (H' := (qa scr :: bk0 zah zad zaf zae zaj zak zay zaz zal zam zba zao zap zaq zar zbc zbd zag zac zai zbb zan zas zau zat zav zaw zax [])) rfl ?_
    by_cases hc133 : v24 < (16 : Int32)
    · simp only [if_pos hc133] at h
      refine OEndsQ.icmpF hm_0 rfl ((tlt hc133).2.1) ?_
      refine OEndsQ.adv hm_0 4 (pc' := 791) (L' := [qr 0, qu, qu, qu, qu, qr 1, qi v6, qu, qu, qu, qu, qu, ql v12, qw, qi v14, qu, qu, qi v17, qi v18, ql v19, qw, qi v21, qi v22, qi v23, qi v24, qi 0, qu, qu]) (S' := [.int v18, .int v24]) (H' := (qa scr :: bk0 zah zad zaf zae zaj zak zay zaz zal zam zba zao zap zaq zar zbc zbd zag zac zai zbb zan zas zau zat zav zaw zax [])) rfl ?_
      by_cases hc134 : v24 < v18
      · simp only [if_pos hc134] at h
        refine OEndsQ.icmpF hm_0 rfl ((tlt hc134).2.1) ?_
        refine OEndsQ.adv hm_0 2 (pc' := 798) (L' := [qr 0, qu, qu, qu, qu, qr 1, qi v6, qu, qu, qu, qu, qu, ql v12, qw, qi v14, qu, qu, qi v17, qi v18, ql v19, qw, qi v21, qi v22, qi v23, qi v24, qi 0, qu, qu]) (S' := [.int v24, .ref 1]) (H' := (qa scr :: bk0 zah zad zaf zae zaj zak zay zaz zal zam zba zao zap zaq zar zbc zbd zag zac zai zbb zan zas zau zat zav zaw zax [])) rfl ?_
        obtain ⟨r230, hq135, h⟩ := bnd h
        refine OEndsQ.call0 hm_0 rfl rfl (by decide) rfl (as := [.ref 1, .int v24]) (rest := []) rfl rfl (ok_keywordLength hq135) ?_
        refine OEndsQ.adv hm_0 5 (pc' := 809) (L' := [qr 0, qu, qu, qu, qu, qr 1, qi v6, qu, qu, qu, qu, qu, ql v12, qw, qi v14, qu, qu, qi v17, qi v18, ql v19, qw, qi v21, qi v22, qi v23, qi v24, qi 0, qi r230, qu]) (S' := [.int (v22 + (1 : Int32)), .int r230]) (H' := (qa scr :: bk0 zah zad zaf zae zaj zak zay zaz zal zam zba zao zap zaq zar zbc zbd zag zac zai zbb zan zas zau zat zav zaw zax [])) rfl ?_
        by_cases hc136 : (v22 + (1 : Int32)) < r230
        · simp only [if_pos hc136] at h
          refine OEndsQ.icmpT hm_0 rfl (q := 861) rfl ((tlt hc136).2.2.1) ?_
          show OEndsQ own_P 0 861 [qr 0, qu, qu, qu, qu, qr 1, qi v6, qu, qu, qu, qu, qu, ql v12, qw, qi v14, qu, qu, qi v17, qi v18, ql v19, qw, qi v21, qi v22, qi v23, qi v24, qi 0, qi r230, qu] [] (qa scr :: bk0 zah zad zaf zae zaj zak zay zaz zal zam zba zao zap zaq zar zbc zbd zag zac zai zbb zan zas zau zat zav zaw zax []) _
          exact ok_L_law_861 ih hk890 h
        · simp only [if_neg hc136] at h
          refine OEndsQ.icmpF hm_0 rfl ((flt hc136).2.2.1) ?_
          refine OEndsQ.adv hm_0 4 (pc' := 818) (L' := [qr 0, qu, qu, qu, qu, qr 1, qi v6, qu, qu, qu, qu, qu, ql v12, qw, qi v14, qu, qu, qi v17, qi v18, ql v19, qw, qi v21, qi v22, qi v23, qi v24, qi 1, qi r230, qi 0]) (S' := []) (H' := (qa scr :: bk0 zah zad zaf zae zaj zak zay zaz zal zam zba zao zap zaq zar zbc zbd zag zac zai zbb zan zas zau zat zav zaw zax [])) rfl ?_
          exact ok_L_law_818 (k861 := f_L_law_861 (f_L_law_777 k890 scr n) k890 scr) (ok_L_law_861 ih hk890) 100000 h
      · simp only [if_neg hc134] at h
        refine OEndsQ.icmpT hm_0 rfl (q := 861) rfl ((flt hc134).2.1) ?_
        show OEndsQ own_P 0 861 [qr 0, qu, qu, qu, qu, qr 1, qi v6, qu, qu, qu, qu, qu, ql v12, qw, qi v14, qu, qu, qi v17, qi v18, ql v19, qw, qi v21, qi v22, qi v23, qi v24, qi 0, qu, qu] [] (qa scr :: bk0 zah zad zaf zae zaj zak zay zaz zal zam zba zao zap zaq zar zbc zbd zag zac zai zbb zan zas zau zat zav zaw zax []) _
        exact ok_L_law_861 ih hk890 h
    · simp only [if_neg hc133] at h
      refine OEndsQ.icmpT hm_0 rfl (q := 890) rfl ((flt hc133).2.1) ?_
      show OEndsQ own_P 0 890 [qr 0, qu, qu, qu, qu, qr 1, qi v6, qu, qu, qu, qu, qu, ql v12, qw, qi v14, qu, qu, qi v17, qi v18, ql v19, qw, qi v21, qi v22, qi v23, qi v24, qu, qu, qu] [] (qa scr :: bk0 zah zad zaf zae zaj zak zay zaz zal zam zba zao zap zaq zar zbc zbd zag zac zai zbb zan zas zau zat zav zaw zax []) _
      exact hk890 h
theorem ok_L_law_750 {scr : List Int32} {k918 : List Int32 → List Int32 → List Int32 → List Int32 → List Int32 → List Int32 → List Int32 → List Int32 → List Int32 → List Int32 → List Int32 → List Int32 → Int32 → Int32 → Int32 → Int32 → Int32 → Int32 → Int32 → Int32 → Int32 → Int32 → Int32 → Int64 → Int32 → Int64 → Int32 → Option (Int32)} (hk918 : ∀ {zah zad zaf zae zaj zak zal zam zao zap zaq zar : List Int32} {zag zac zai zan zas zau zat zav zaw zax v6 : Int32} {v12 : Int64} {v14 : Int32} {v19 : Int64} {v21 zbc zbd zbb : Int32} {zay zaz zba : List Int32} {d1 d2 d3 d4 d7 d8 d9 d10 d11 d15 d16 d17 d18 d22 d23 d24 d25 d26 d27 : Slot} {res : Int32}, k918 zah zad zaf zae zaj zak zal zam zao zap zaq zar zag zac zai zan zas zau zat zav zaw zax v6 v12 v14 v19 v21 = some res → OEndsQ own_P 0 918 [qr 0, d1, d2, d3, d4, qr 1, qi v6, d7, d8, d9, d10, d11, ql v12, qw, qi v14, d15, d16, d17, d18, ql v19, qw, qi v21, d22, d23, d24, d25, d26, d27] [] (qa scr :: bk0 zah zad zaf zae zaj zak zay zaz zal zam zba zao zap zaq zar zbc zbd zag zac zai zbb zan zas zau zat zav zaw zax []) (LawQ res 0 0)) : ∀ (n : Nat), ∀ {zah zad zaf zae zaj zak zal zam zao zap zaq zar : List Int32} {zag zac zai zan zas zau zat zav zaw zax v6 : Int32} {v12 : Int64} {v14 v17 v18 : Int32} {v19 : Int64} {v21 v22 zbc zbd zbb : Int32} {zay zaz zba : List Int32} {d1 d2 d3 d4 d7 d8 d9 d10 d11 d15 d16 d23 d24 d25 d26 d27 : Slot} {res : Int32}, f_L_law_750 k918 scr n zah zad zaf zae zaj zak zal zam zao zap zaq zar zag zac zai zan zas zau zat zav zaw zax v6 v12 v14 v17 v18 v19 v21 v22 = some res → OEndsQ own_P 0 750 [qr 0, d1, d2, d3, d4, qr 1, qi v6, d7, d8, d9, d10, d11, ql v12, qw, qi v14, d15, d16, qi v17, qi v18, ql v19, qw, qi v21, qi v22, d23, d24, d25, d26, d27] [] (qa scr :: bk0 zah zad zaf zae zaj zak zay zaz zal zam zba zao zap zaq zar zbc zbd zag zac zai zbb zan zas zau zat zav zaw zax []) (LawQ res 0 0) := by
  intro n
  induction n with
  | zero => intro zah zad zaf zae zaj zak zal zam zao zap zaq zar zag zac zai zan zas zau zat zav zaw zax v6 v12 v14 v17 v18 v19 v21 v22 zbc zbd zbb zay zaz zba d1 d2 d3 d4 d7 d8 d9 d10 d11 d15 d16 d23 d24 d25 d26 d27 res h; cases h
  | succ n ih =>
    intro zah zad zaf zae zaj zak zal zam zao zap zaq zar zag zac zai zan zas zau zat zav zaw zax v6 v12 v14 v17 v18 v19 v21 v22 zbc zbd zbb zay zaz zba d1 d2 d3 d4 d7 d8 d9 d10 d11 d15 d16 d23 d24 d25 d26 d27 res h
    unfold f_L_law_750 at h
    refine OEndsQ.adv hm_0 2 (pc' := 754) (L' := [qr 0, qu, qu, qu, qu, qr 1, qi v6, qu, qu, qu, qu, qu, ql v12, qw, qi v14, qu, qu, qi v17, qi v18, ql v19, qw, qi v21, qi v22, qu, qu, qu, qu, qu]) (S' := [.int v17, .int v22]) (H' := (qa scr :: bk0 zah zad zaf zae zaj zak zay zaz zal zam zba zao zap zaq zar zbc zbd zag zac zai zbb zan zas zau zat zav zaw zax [])) rfl ?_
    by_cases hc137 : v22 < v17
    · simp only [if_pos hc137] at h
      refine OEndsQ.icmpF hm_0 rfl ((tlt hc137).2.1) ?_
      refine OEndsQ.adv hm_0 2 (pc' := 762) (L' := [qr 0, qu, qu, qu, qu, qr 1, qi v6, qu, qu, qu, qu, qu, ql v12, qw, qi v14, qu, qu, qi v17, qi v18, ql v19, qw, qi v21, qi v22, qu, qu, qu, qu, qu]) (S' := [.int 300, .int v22]) (H' := (qa scr :: bk0 zah zad zaf zae zaj zak zay zaz zal zam zba zao zap zaq zar zbc zbd zag zac zai zbb zan zas zau zat zav zaw zax [])) rfl ?_
      by_cases hc138 : v22 < (300 : Int32)
      · simp only [if_pos hc138] at h
        refine OEndsQ.icmpF hm_0 rfl ((tlt hc138).2.1) ?_
        refine OEndsQ.adv hm_0 2 (pc' := 769) (L' := [qr 0, qu, qu, qu, qu, qr 1, qi v6, qu, qu, qu, qu, qu, ql v12, qw, qi v14, qu, qu, qi v17, qi v18, ql v19, qw, qi v21, qi v22, qu, qu, qu, qu, qu]) (S' := [.int v22, .ref 1]) (H' := (qa scr :: bk0 zah zad zaf zae zaj zak zay zaz zal zam zba zao zap zaq zar zbc zbd zag zac zai zbb zan zas zau zat zav zaw zax [])) rfl ?_
        obtain ⟨r229, hq139, h⟩ := bnd h
        refine OEndsQ.call0 hm_0 rfl rfl (by decide) rfl (as := [.ref 1, .int v22]) (rest := []) rfl rfl (ok_occurrenceMask hq139) ?_
        refine OEndsQ.adv hm_0 3 (pc' := 777) (L' := [qr 0, qu, qu, qu, qu, qr 1, qi v6, qu, qu, qu, qu, qu, ql v12, qw, qi v14, qu, qu, qi v17, qi v18, ql v19, qw, qi v21, qi v22, qi r229, qi 0, qu, qu, qu]) (S' := []) (H' := (qa scr :: bk0 zah zad zaf zae zaj zak zay zaz zal zam zba zao zap zaq zar zbc zbd zag zac zai zbb zan zas zau zat zav zaw zax [])) rfl ?_
        exact ok_L_law_777 (k890 := f_L_law_890 (f_L_law_750 k918 scr n) k918 scr) (ok_L_law_890 ih hk918) 100000 h
      · simp only [if_neg hc138] at h
        refine OEndsQ.icmpT hm_0 rfl (q := 918) rfl ((flt hc138).2.1) ?_
        show OEndsQ own_P 0 918 [qr 0, qu, qu, qu, qu, qr 1, qi v6, qu, qu, qu, qu, qu, ql v12, qw, qi v14, qu, qu, qi v17, qi v18, ql v19, qw, qi v21, qi v22, qu, qu, qu, qu, qu] [] (qa scr :: bk0 zah zad zaf zae zaj zak zay zaz zal zam zba zao zap zaq zar zbc zbd zag zac zai zbb zan zas zau zat zav zaw zax []) _
        exact hk918 h
    · simp only [if_neg hc137] at h
      refine OEndsQ.icmpT hm_0 rfl (q := 918) rfl ((flt hc137).2.1) ?_
      show OEndsQ own_P 0 918 [qr 0, qu, qu, qu, qu, qr 1, qi v6, qu, qu, qu, qu, qu, ql v12, qw, qi v14, qu, qu, qi v17, qi v18, ql v19, qw, qi v21, qi v22, qu, qu, qu, qu, qu] [] (qa scr :: bk0 zah zad zaf zae zaj zak zay zaz zal zam zba zao zap zaq zar zbc zbd zag zac zai zbb zan zas zau zat zav zaw zax []) _
      exact hk918 h
theorem ok_L_law_727 {scr : List Int32} {kb : List Int32 → List Int32 → List Int32 → List Int32 → List Int32 → List Int32 → List Int32 → List Int32 → List Int32 → List Int32 → List Int32 → List Int32 → Int32 → Int32 → Int32 → Int32 → Int32 → Int32 → Int32 → Int32 → Int32 → Int32 → Int32 → Int64 → Int32 → Option (Int32)} (hkb : ∀ {zah zad zaf zae zaj zak zal zam zao zap zaq zar : List Int32} {zag zac zai zan zas zau zat zav zaw zax v6 : Int32} {v12 : Int64} {v14 zbc zbd zbb : Int32} {zay zaz zba : List Int32} {d1 d2 d3 d4 d7 d8 d9 d10 d11 d15 d16 d17 d18 d19 d20 d21 d22 d23 d24 d25 d26 d27 : Slot} {res : Int32}, kb zah zad zaf zae zaj zak zal zam zao zap zaq zar zag zac zai zan zas zau zat zav zaw zax v6 v12 v14 = some res → OEndsQ own_P 0 575 [qr 0, d1, d2, d3, d4, qr 1, qi v6, d7, d8, d9, d10, d11, ql v12, qw, qi v14, d15, d16, d17, d18, d19, d20, d21, d22, d23, d24, d25, d26, d27] [] (qa scr :: bk0 zah zad zaf zae zaj zak zay zaz zal zam zba zao zap zaq zar zbc zbd zag zac zai zbb zan zas zau zat zav zaw zax []) (LawQ res 0 0)) : ∀ {zah zad zaf zae zaj zak zal zam zao zap zaq zar : List Int32} {zag zac zai zan zas zau zat zav zaw zax v6 : Int32} {v12 : Int64} {v14 zbc zbd zbb : Int32} {zay zaz zba : List Int32} {d1 d2 d3 d4 d7 d8 d9 d10 d11 d15 d16 d17 d18 d19 d20 d21 d22 d23 d24 d25 d26 d27 : Slot} {res : Int32}, f_L_law_727 kb scr zah zad zaf zae zaj zak zal zam zao zap zaq zar zag zac zai zan zas zau zat zav zaw zax v6 v12 v14 = some res → OEndsQ own_P 0 727 [qr 0, d1, d2, d3, d4, qr 1, qi v6, d7, d8, d9, d10, d11, ql v12, qw, qi v14, d15, d16, d17, d18, d19, d20, d21, d22, d23, d24, d25, d26, d27] [] (qa scr :: bk0 zah zad zaf zae zaj zak zay zaz zal zam zba zao zap zaq zar zbc zbd zag zac zai zbb zan zas zau zat zav zaw zax []) (LawQ res 0 0) := by
  intro zah zad zaf zae zaj zak zal zam zao zap zaq zar zag zac zai zan zas zau zat zav zaw zax v6 v12 v14 zbc zbd zbb zay zaz zba d1 d2 d3 d4 d7 d8 d9 d10 d11 d15 d16 d17 d18 d19 d20 d21 d22 d23 d24 d25 d26 d27 res h
  unfold f_L_law_727 at h
  refine OEndsQ.adv hm_0 1 (pc' := 729) (L' := [qr 0, qu, qu, qu, qu, qr 1, qi v6, qu, qu, qu, qu, qu, ql v12, qw, qi v14, qu, qu, qu, qu, qu, qu, qu, qu, qu, qu, qu, qu, qu]) (S' := [.ref 1]) (H' := (qa scr :: bk0 zah zad zaf zae zaj zak zay zaz zal zam zba zao zap zaq zar zbc zbd zag zac zai zbb zan zas zau zat zav zaw zax [])) rfl ?_
  obtain ⟨r227, hq140, h⟩ := bnd h
  refine OEndsQ.call0 hm_0 rfl rfl (by decide) rfl (as := [.ref 1]) (rest := []) rfl rfl (ok_textLength hq140) ?_
  refine OEndsQ.adv hm_0 2 (pc' := 736) (L' := [qr 0, qu, qu, qu, qu, qr 1, qi v6, qu, qu, qu, qu, qu, ql v12, qw, qi v14, qu, qu, qi r227, qu, qu, qu, qu, qu, qu, qu, qu, qu, qu]) (S' := [.ref 1]) (H' := (qa scr :: bk0 zah zad zaf zae zaj zak zay zaz zal zam zba zao zap zaq zar zbc zbd zag zac zai zbb zan zas zau zat zav zaw zax [])) rfl ?_
  obtain ⟨r228, hq141, h⟩ := bnd h
  refine OEndsQ.call0 hm_0 rfl rfl (by decide) rfl (as := [.ref 1]) (rest := []) rfl rfl (ok_keywordCount hq141) ?_
  refine OEndsQ.adv hm_0 7 (pc' := 750) (L' := [qr 0, qu, qu, qu, qu, qr 1, qi v6, qu, qu, qu, qu, qu, ql v12, qw, qi v14, qu, qu, qi r227, qi r228, ql 0, qw, qi 0, qi 0, qu, qu, qu, qu, qu]) (S' := []) (H' := (qa scr :: bk0 zah zad zaf zae zaj zak zay zaz zal zam zba zao zap zaq zar zbc zbd zag zac zai zbb zan zas zau zat zav zaw zax [])) rfl ?_
  exact ok_L_law_750 (k918 := f_L_law_918 kb scr) (ok_L_law_918 hkb) 100000 h
theorem ok_L_law_665 {scr : List Int32} {kb : List Int32 → List Int32 → List Int32 → List Int32 → List Int32 → List Int32 → List Int32 → List Int32 → List Int32 → List Int32 → List Int32 → List Int32 → Int32 → Int32 → Int32 → Int32 → Int32 → Int32 → Int32 → Int32 → Int32 → Int32 → Int32 → Int64 → Int32 → Option (Int32)} (hkb : ∀ {zah zad zaf zae zaj zak zal zam zao zap zaq zar : List Int32} {zag zac zai zan zas zau zat zav zaw zax v6 : Int32} {v12 : Int64} {v14 zbc zbd zbb : Int32} {zay zaz zba : List Int32} {d1 d2 d3 d4 d7 d8 d9 d10 d11 d15 d16 d17 d18 d19 d20 d21 d22 d23 d24 d25 d26 d27 : Slot} {res : Int32}, kb zah zad zaf zae zaj zak zal zam zao zap zaq zar zag zac zai zan zas zau zat zav zaw zax v6 v12 v14 = some res → OEndsQ own_P 0 575 [qr 0, d1, d2, d3, d4, qr 1, qi v6, d7, d8, d9, d10, d11, ql v12, qw, qi v14, d15, d16, d17, d18, d19, d20, d21, d22, d23, d24, d25, d26, d27] [] (qa scr :: bk0 zah zad zaf zae zaj zak zay zaz zal zam zba zao zap zaq zar zbc zbd zag zac zai zbb zan zas zau zat zav zaw zax []) (LawQ res 0 0)) : ∀ {zah zad zaf zae zaj zak zal zam zao zap zaq zar : List Int32} {zag zac zai zan zas zau zat zav zaw zax v6 : Int32} {v12 : Int64} {v14 v17 t0 zbc zbd zbb : Int32} {zay zaz zba : List Int32} {d1 d2 d3 d4 d7 d8 d9 d10 d11 d15 d16 d18 d19 d20 d21 d22 d23 d24 d25 d26 d27 : Slot} {res : Int32}, f_L_law_665 kb scr zah zad zaf zae zaj zak zal zam zao zap zaq zar zag zac zai zan zas zau zat zav zaw zax v6 v12 v14 v17 t0 = some res → OEndsQ own_P 0 665 [qr 0, d1, d2, d3, d4, qr 1, qi v6, d7, d8, d9, d10, d11, ql v12, qw, qi v14, d15, d16, qi v17, d18, d19, d20, d21, d22, d23, d24, d25, d26, d27] [.int t0] (qa scr :: bk0 zah zad zaf zae zaj zak zay zaz zal zam zba zao zap zaq zar zbc zbd zag zac zai zbb zan zas zau zat zav zaw zax []) (LawQ res 0 0) := by
  intro zah zad zaf zae zaj zak zal zam zao zap zaq zar zag zac zai zan zas zau zat zav zaw zax v6 v12 v14 v17 t0 zbc zbd zbb zay zaz zba d1 d2 d3 d4 d7 d8 d9 d10 d11 d15 d16 d18 d19 d20 d21 d22 d23 d24 d25 d26 d27 res h
  unfold f_L_law_665 at h
  refine OEndsQ.adv hm_0 3 (pc' := 671) (L' := [qr 0, qu, qu, qu, qu, qr 1, qi v6, qu, qu, qu, qu, qu, ql v12, qw, qi v14, qu, qu, qi v17, qi t0, qu, qu, qu, qu, qu, qu, qu, qu, qu]) (S' := [.int t0, .ref 1]) (H' := (qa scr :: bk0 zah zad zaf zae zaj zak zay zaz zal zam zba zao zap zaq zar zbc zbd zag zac zai zbb zan zas zau zat zav zaw zax [])) rfl ?_
  obtain ⟨⟨r235, s236, s237, s238, s239, s240, s241, s242, s243, s244, s245⟩, hq142, h⟩ := bnd h
  refine OEndsQ.call0 hm_0 rfl rfl (by decide) rfl (as := [.ref 1, .int t0]) (rest := []) rfl rfl (ok_feed hq142) ?_
  refine OEndsQ.adv hm_0 2 (pc' := 678) (L' := [qr 0, qu, qu, qu, qu, qr 1, qi v6, qu, qu, qu, qu, qu, ql v12, qw, qi v14, qu, qu, qi v17, qi t0, qi r235, qu, qu, qu, qu, qu, qu, qu, qu]) (S' := [.ref 1]) (H' := (qa scr :: bk0 zah zad zaf zae zaj zak zay zaz zal zam zba s236 s237 s238 s239 zbc zbd zag zac zai zbb zan s240 s241 s242 s243 s244 s245 [])) rfl ?_
  obtain ⟨r246, hq143, h⟩ := bnd h
  refine OEndsQ.call0 hm_0 rfl rfl (by decide) rfl (as := [.ref 1]) (rest := []) rfl rfl (ok_textLength hq143) ?_
  refine OEndsQ.adv hm_0 5 (pc' := 689) (L' := [qr 0, qu, qu, qu, qu, qr 1, qi v6, qu, qu, qu, qu, qu, ql v12, qw, qi v14, qu, qu, qi v17, qi t0, qi r235, qi r246, qu, qu, qu, qu, qu, qu, qu]) (S' := [.int (v17 + (1 : Int32)), .int r246]) (H' := (qa scr :: bk0 zah zad zaf zae zaj zak zay zaz zal zam zba s236 s237 s238 s239 zbc zbd zag zac zai zbb zan s240 s241 s242 s243 s244 s245 [])) rfl ?_
  by_cases hc144 : r246 = (v17 + (1 : Int32))
  · simp only [if_pos hc144] at h
    refine OEndsQ.icmpF hm_0 rfl ((teq hc144).2) ?_
    refine OEndsQ.adv hm_0 4 (pc' := 698) (L' := [qr 0, qu, qu, qu, qu, qr 1, qi v6, qu, qu, qu, qu, qu, ql v12, qw, qi v14, qu, qu, qi v17, qi t0, qi r235, qi r246, qu, qu, qu, qu, qu, qu, qu]) (S' := [.int (r246 - (1 : Int32)), .ref 1]) (H' := (qa scr :: bk0 zah zad zaf zae zaj zak zay zaz zal zam zba s236 s237 s238 s239 zbc zbd zag zac zai zbb zan s240 s241 s242 s243 s244 s245 [])) rfl ?_
    obtain ⟨r247, hq145, h⟩ := bnd h
    refine OEndsQ.call0 hm_0 rfl rfl (by decide) rfl (as := [.ref 1, .int (r246 - (1 : Int32))]) (rest := []) rfl rfl (ok_occurrenceMask hq145) ?_
    refine OEndsQ.adv hm_0 3 (pc' := 707) (L' := [qr 0, qu, qu, qu, qu, qr 1, qi v6, qu, qu, qu, qu, qu, ql v12, qw, qi v14, qu, qu, qi v17, qi t0, qi r235, qi r246, qi r247, qu, qu, qu, qu, qu, qu]) (S' := [.int r247, .int r235]) (H' := (qa scr :: bk0 zah zad zaf zae zaj zak zay zaz zal zam zba s236 s237 s238 s239 zbc zbd zag zac zai zbb zan s240 s241 s242 s243 s244 s245 [])) rfl ?_
    obtain ⟨r248, hq146, h⟩ := bnd h
    refine OEndsQ.call0 hm_0 rfl rfl (by decide) rfl (as := [.int r247]) (rest := [.int r235]) rfl rfl (ok_L_pop hq146) ?_
    show OEndsQ own_P 0 710 [qr 0, qu, qu, qu, qu, qr 1, qi v6, qu, qu, qu, qu, qu, ql v12, qw, qi v14, qu, qu, qi v17, qi t0, qi r235, qi r246, qi r247, qu, qu, qu, qu, qu, qu] [.int r248, .int r235] (qa scr :: bk0 zah zad zaf zae zaj zak zay zaz zal zam zba s236 s237 s238 s239 zbc zbd zag zac zai zbb zan s240 s241 s242 s243 s244 s245 []) _
    by_cases hc147 : r235 = r248
    · simp only [if_pos hc147] at h
      refine OEndsQ.icmpT hm_0 rfl (q := 715) rfl ((teq hc147).1) ?_
      refine OEndsQ.adv hm_0 7 (pc' := 727) (L' := [qr 0, qu, qu, qu, qu, qr 1, qi v6, qu, qu, qu, qu, qu, ql ((v12 * (1000003 : Int64)) + r247.toInt64), qw, qi v14, qu, qu, qi v17, qi t0, qi r235, qi r246, qi r247, qu, qu, qu, qu, qu, qu]) (S' := []) (H' := (qa scr :: bk0 zah zad zaf zae zaj zak zay zaz zal zam zba s236 s237 s238 s239 zbc zbd zag zac zai zbb zan s240 s241 s242 s243 s244 s245 [])) rfl ?_
      exact ok_L_law_727 hkb h
    · simp only [if_neg hc147] at h
      refine OEndsQ.icmpF hm_0 rfl ((feq hc147).1) ?_
      refine OEndsQ.adv hm_0 1 (pc' := 714) (L' := [qr 0, qu, qu, qu, qu, qr 1, qi v6, qu, qu, qu, qu, qu, ql v12, qw, qi v14, qu, qu, qi v17, qi t0, qi r235, qi r246, qi r247, qu, qu, qu, qu, qu, qu]) (S' := [.int 0]) (H' := (qa scr :: bk0 zah zad zaf zae zaj zak zay zaz zal zam zba s236 s237 s238 s239 zbc zbd zag zac zai zbb zan s240 s241 s242 s243 s244 s245 [])) rfl ?_
      cases h
      exact OEndsQ.iret hm_0 rfl rfl
  · simp only [if_neg hc144] at h
    refine OEndsQ.icmpT hm_0 rfl (q := 727) rfl ((feq hc144).2) ?_
    show OEndsQ own_P 0 727 [qr 0, qu, qu, qu, qu, qr 1, qi v6, qu, qu, qu, qu, qu, ql v12, qw, qi v14, qu, qu, qi v17, qi t0, qi r235, qi r246, qu, qu, qu, qu, qu, qu, qu] [] (qa scr :: bk0 zah zad zaf zae zaj zak zay zaz zal zam zba s236 s237 s238 s239 zbc zbd zag zac zai zbb zan s240 s241 s242 s243 s244 s245 []) _
    exact ok_L_law_727 hkb h
theorem ok_L_law_575 {scr : List Int32} : ∀ (n : Nat), ∀ {zah zad zaf zae zaj zak zal zam zao zap zaq zar : List Int32} {zag zac zai zan zas zau zat zav zaw zax v6 : Int32} {v12 : Int64} {v14 zbc zbd zbb : Int32} {zay zaz zba : List Int32} {d1 d2 d3 d4 d7 d8 d9 d10 d11 d15 d16 d17 d18 d19 d20 d21 d22 d23 d24 d25 d26 d27 : Slot} {res : Int32}, f_L_law_575 scr n zah zad zaf zae zaj zak zal zam zao zap zaq zar zag zac zai zan zas zau zat zav zaw zax v6 v12 v14 = some res → OEndsQ own_P 0 575 [qr 0, d1, d2, d3, d4, qr 1, qi v6, d7, d8, d9, d10, d11, ql v12, qw, qi v14, d15, d16, d17, d18, d19, d20, d21, d22, d23, d24, d25, d26, d27] [] (qa scr :: bk0 zah zad zaf zae zaj zak zay zaz zal zam zba zao zap zaq zar zbc zbd zag zac zai zbb zan zas zau zat zav zaw zax []) (LawQ res 0 0) := by
  intro n
  induction n with
  | zero => intro zah zad zaf zae zaj zak zal zam zao zap zaq zar zag zac zai zan zas zau zat zav zaw zax v6 v12 v14 zbc zbd zbb zay zaz zba d1 d2 d3 d4 d7 d8 d9 d10 d11 d15 d16 d17 d18 d19 d20 d21 d22 d23 d24 d25 d26 d27 res h; cases h
  | succ n ih =>
    intro zah zad zaf zae zaj zak zal zam zao zap zaq zar zag zac zai zan zas zau zat zav zaw zax v6 v12 v14 zbc zbd zbb zay zaz zba d1 d2 d3 d4 d7 d8 d9 d10 d11 d15 d16 d17 d18 d19 d20 d21 d22 d23 d24 d25 d26 d27 res h
    unfold f_L_law_575 at h
    refine OEndsQ.adv hm_0 3 (pc' := 579) (L' := [qr 0, qu, qu, qu, qu, qr 1, qi v6, qu, qu, qu, qu, qu, ql v12, qw, qi v14, qu, qu, qu, qu, qu, qu, qu, qu, qu, qu, qu, qu, qu]) (S' := [.int scr.length.toInt32, .int v14]) (H' := (qa scr :: bk0 zah zad zaf zae zaj zak zay zaz zal zam zba zao zap zaq zar zbc zbd zag zac zai zbb zan zas zau zat zav zaw zax [])) rfl ?_
    by_cases hc148 : v14 < scr.length.toInt32
    · simp only [if_pos hc148] at h
      refine OEndsQ.icmpF hm_0 rfl ((tlt hc148).2.1) ?_
      refine OEndsQ.adv hm_0 2 (pc' := 585) (L' := [qr 0, qu, qu, qu, qu, qr 1, qi v6, qu, qu, qu, qu, qu, ql v12, qw, qi v14, qu, qu, qu, qu, qu, qu, qu, qu, qu, qu, qu, qu, qu]) (S' := [.int v14, .ref 0]) (H' := (qa scr :: bk0 zah zad zaf zae zaj zak zay zaz zal zam zba zao zap zaq zar zbc zbd zag zac zai zbb zan zas zau zat zav zaw zax [])) rfl ?_
      obtain ⟨x214, hx214, h⟩ := bnd h
      refine OEndsQ.plain hm_0 rfl rfl (x_iaload rfl hx214) ?_
      refine OEndsQ.adv hm_0 3 (pc' := 592) (L' := [qr 0, qu, qu, qu, qu, qr 1, qi v6, qu, qu, qu, qu, qu, ql v12, qw, qi v14, qi x214, qu, qu, qu, qu, qu, qu, qu, qu, qu, qu, qu, qu]) (S' := [.int 16, .int x214]) (H' := (qa scr :: bk0 zah zad zaf zae zaj zak zay zaz zal zam zba zao zap zaq zar zbc zbd zag zac zai zbb zan zas zau zat zav zaw zax [])) rfl ?_
      obtain ⟨r215, hq149, h⟩ := bnd h
      refine OEndsQ.call0 hm_0 rfl rfl (by decide) rfl (as := [.int x214, .int 16]) (rest := []) rfl rfl (ok_L_mod hq149) ?_
      refine OEndsQ.adv hm_0 2 (pc' := 599) (L' := [qr 0, qu, qu, qu, qu, qr 1, qi v6, qu, qu, qu, qu, qu, ql v12, qw, qi v14, qi x214, qi r215, qu, qu, qu, qu, qu, qu, qu, qu, qu, qu, qu]) (S' := [.int r215]) (H' := (qa scr :: bk0 zah zad zaf zae zaj zak zay zaz zal zam zba zao zap zaq zar zbc zbd zag zac zai zbb zan zas zau zat zav zaw zax [])) rfl ?_
      by_cases hc150 : r215 = (0 : Int32)
      · simp only [if_pos hc150] at h
        refine OEndsQ.ifF hm_0 rfl ((teq hc150).2) ?_
        refine OEndsQ.adv hm_0 1 (pc' := 604) (L' := [qr 0, qu, qu, qu, qu, qr 1, qi v6, qu, qu, qu, qu, qu, ql v12, qw, qi v14, qi x214, qi r215, qu, qu, qu, qu, qu, qu, qu, qu, qu, qu, qu]) (S' := [.ref 1]) (H' := (qa scr :: bk0 zah zad zaf zae zaj zak zay zaz zal zam zba zao zap zaq zar zbc zbd zag zac zai zbb zan zas zau zat zav zaw zax [])) rfl ?_
        obtain ⟨⟨r219, s220, s221, s222, s223, s224, s225⟩, hq151, h⟩ := bnd h
        refine OEndsQ.call0 hm_0 rfl rfl (by decide) rfl (as := [.ref 1]) (rest := []) rfl rfl (ok_resetText hq151) ?_
        refine OEndsQ.adv hm_0 2 (pc' := 610) (L' := [qr 0, qu, qu, qu, qu, qr 1, qi v6, qu, qu, qu, qu, qu, ql v12, qw, qi v14, qi x214, qi r215, qu, qu, qu, qu, qu, qu, qu, qu, qu, qu, qu]) (S' := [.ref 1]) (H' := (qa scr :: bk0 zah zad zaf zae zaj zak zay zaz zal zam zba zao zap zaq zar zbc zbd zag zac zai zbb zan s220 s221 s222 s223 s224 s225 [])) rfl ?_
        obtain ⟨r226, hq152, h⟩ := bnd h
        refine OEndsQ.call0 hm_0 rfl rfl (by decide) rfl (as := [.ref 1]) (rest := []) rfl rfl (ok_textLength hq152) ?_
        show OEndsQ own_P 0 613 [qr 0, qu, qu, qu, qu, qr 1, qi v6, qu, qu, qu, qu, qu, ql v12, qw, qi v14, qi x214, qi r215, qu, qu, qu, qu, qu, qu, qu, qu, qu, qu, qu] [.int r226] (qa scr :: bk0 zah zad zaf zae zaj zak zay zaz zal zam zba zao zap zaq zar zbc zbd zag zac zai zbb zan s220 s221 s222 s223 s224 s225 []) _
        by_cases hc153 : r226 = (0 : Int32)
        · simp only [if_pos hc153] at h
          refine OEndsQ.ifF hm_0 rfl ((teq hc153).2) ?_
          refine OEndsQ.adv hm_0 3 (pc' := 727) (L' := [qr 0, qu, qu, qu, qu, qr 1, qi v6, qu, qu, qu, qu, qu, ql 0, qw, qi v14, qi x214, qi r215, qu, qu, qu, qu, qu, qu, qu, qu, qu, qu, qu]) (S' := []) (H' := (qa scr :: bk0 zah zad zaf zae zaj zak zay zaz zal zam zba zao zap zaq zar zbc zbd zag zac zai zbb zan s220 s221 s222 s223 s224 s225 [])) rfl ?_
          exact ok_L_law_727 ih h
        · simp only [if_neg hc153] at h
          refine OEndsQ.ifT hm_0 rfl (q := 727) rfl ((feq hc153).2) ?_
          show OEndsQ own_P 0 727 [qr 0, qu, qu, qu, qu, qr 1, qi v6, qu, qu, qu, qu, qu, ql v12, qw, qi v14, qi x214, qi r215, qu, qu, qu, qu, qu, qu, qu, qu, qu, qu, qu] [] (qa scr :: bk0 zah zad zaf zae zaj zak zay zaz zal zam zba zao zap zaq zar zbc zbd zag zac zai zbb zan s220 s221 s222 s223 s224 s225 []) _
          exact ok_L_law_727 ih h
      · simp only [if_neg hc150] at h
        refine OEndsQ.ifT hm_0 rfl (q := 622) rfl ((feq hc150).2) ?_
        refine OEndsQ.adv hm_0 1 (pc' := 624) (L' := [qr 0, qu, qu, qu, qu, qr 1, qi v6, qu, qu, qu, qu, qu, ql v12, qw, qi v14, qi x214, qi r215, qu, qu, qu, qu, qu, qu, qu, qu, qu, qu, qu]) (S' := [.ref 1]) (H' := (qa scr :: bk0 zah zad zaf zae zaj zak zay zaz zal zam zba zao zap zaq zar zbc zbd zag zac zai zbb zan zas zau zat zav zaw zax [])) rfl ?_
        obtain ⟨r216, hq154, h⟩ := bnd h
        refine OEndsQ.call0 hm_0 rfl rfl (by decide) rfl (as := [.ref 1]) (rest := []) rfl rfl (ok_textLength hq154) ?_
        refine OEndsQ.adv hm_0 3 (pc' := 633) (L' := [qr 0, qu, qu, qu, qu, qr 1, qi v6, qu, qu, qu, qu, qu, ql v12, qw, qi v14, qi x214, qi r215, qi r216, qu, qu, qu, qu, qu, qu, qu, qu, qu, qu]) (S' := [.int 11, .int r215]) (H' := (qa scr :: bk0 zah zad zaf zae zaj zak zay zaz zal zam zba zao zap zaq zar zbc zbd zag zac zai zbb zan zas zau zat zav zaw zax [])) rfl ?_
        by_cases hc155 : (11 : Int32) < r215
        · simp only [if_pos hc155] at h
          refine OEndsQ.icmpT hm_0 rfl (q := 653) rfl ((tlt hc155).2.2.1) ?_
          refine OEndsQ.adv hm_0 5 (pc' := 661) (L' := [qr 0, qu, qu, qu, qu, qr 1, qi v6, qu, qu, qu, qu, qu, ql v12, qw, qi v14, qi x214, qi r215, qi r216, qu, qu, qu, qu, qu, qu, qu, qu, qu, qu]) (S' := [.int 95, .int (x214 >>> ((4 : Int32) &&& 31)), .int 32]) (H' := (qa scr :: bk0 zah zad zaf zae zaj zak zay zaz zal zam zba zao zap zaq zar zbc zbd zag zac zai zbb zan zas zau zat zav zaw zax [])) rfl ?_
          obtain ⟨r217, hq156, h⟩ := bnd h
          refine OEndsQ.call0 hm_0 rfl rfl (by decide) rfl (as := [.int (x214 >>> ((4 : Int32) &&& 31)), .int 95]) (rest := [.int 32]) rfl rfl (ok_L_mod hq156) ?_
          refine OEndsQ.adv hm_0 1 (pc' := 665) (L' := [qr 0, qu, qu, qu, qu, qr 1, qi v6, qu, qu, qu, qu, qu, ql v12, qw, qi v14, qi x214, qi r215, qi r216, qu, qu, qu, qu, qu, qu, qu, qu, qu, qu]) (S' := [.int ((32 : Int32) + r217)]) (H' := (qa scr :: bk0 zah zad zaf zae zaj zak zay zaz zal zam zba zao zap zaq zar zbc zbd zag zac zai zbb zan zas zau zat zav zaw zax [])) rfl ?_
          exact ok_L_law_665 ih h
        · simp only [if_neg hc155] at h
          refine OEndsQ.icmpF hm_0 rfl ((flt hc155).2.2.1) ?_
          refine OEndsQ.adv hm_0 7 (pc' := 646) (L' := [qr 0, qu, qu, qu, qu, qr 1, qi v6, qu, qu, qu, qu, qu, ql v12, qw, qi v14, qi x214, qi r215, qi r216, qu, qu, qu, qu, qu, qu, qu, qu, qu, qu]) (S' := [.int (v6 + (1 : Int32)), .int (x214 >>> ((4 : Int32) &&& 31)), .int 97]) (H' := (qa scr :: bk0 zah zad zaf zae zaj zak zay zaz zal zam zba zao zap zaq zar zbc zbd zag zac zai zbb zan zas zau zat zav zaw zax [])) rfl ?_
          obtain ⟨r218, hq157, h⟩ := bnd h
          refine OEndsQ.call0 hm_0 rfl rfl (by decide) rfl (as := [.int (x214 >>> ((4 : Int32) &&& 31)), .int (v6 + (1 : Int32))]) (rest := [.int 97]) rfl rfl (ok_L_mod hq157) ?_
          refine OEndsQ.adv hm_0 2 (pc' := 665) (L' := [qr 0, qu, qu, qu, qu, qr 1, qi v6, qu, qu, qu, qu, qu, ql v12, qw, qi v14, qi x214, qi r215, qi r216, qu, qu, qu, qu, qu, qu, qu, qu, qu, qu]) (S' := [.int ((97 : Int32) + r218)]) (H' := (qa scr :: bk0 zah zad zaf zae zaj zak zay zaz zal zam zba zao zap zaq zar zbc zbd zag zac zai zbb zan zas zau zat zav zaw zax [])) rfl ?_
          exact ok_L_law_665 ih h
    · simp only [if_neg hc148] at h
      refine OEndsQ.icmpT hm_0 rfl (q := 946) rfl ((flt hc148).2.1) ?_
      refine OEndsQ.adv hm_0 1 (pc' := 947) (L' := [qr 0, qu, qu, qu, qu, qr 1, qi v6, qu, qu, qu, qu, qu, ql v12, qw, qi v14, qu, qu, qu, qu, qu, qu, qu, qu, qu, qu, qu, qu, qu]) (S' := [.int 1]) (H' := (qa scr :: bk0 zah zad zaf zae zaj zak zay zaz zal zam zba zao zap zaq zar zbc zbd zag zac zai zbb zan zas zau zat zav zaw zax [])) rfl ?_
      cases h
      exact OEndsQ.iret hm_0 rfl rfl
theorem ok_L_law_543 {scr : List Int32} : ∀ {zah zad zaf zae zaj zak zay zaz zal zam zba zao zap zaq zar : List Int32} {zag zac zai zbb zan zas zau zat zav zaw zax v6 v11 zbc zbd : Int32} {d1 d2 d3 d4 d7 d8 d9 d10 d12 d13 d14 d15 d16 d17 d18 d19 d20 d21 d22 d23 d24 d25 d26 d27 : Slot} {res : Int32}, f_L_law_543 scr zah zad zaf zae zaj zak zay zaz zal zam zba zao zap zaq zar zag zac zai zbb zan zas zau zat zav zaw zax v6 v11 = some res → OEndsQ own_P 0 543 [qr 0, d1, d2, d3, d4, qr 1, qi v6, d7, d8, d9, d10, qi v11, d12, d13, d14, d15, d16, d17, d18, d19, d20, d21, d22, d23, d24, d25, d26, d27] [] (qa scr :: bk0 zah zad zaf zae zaj zak zay zaz zal zam zba zao zap zaq zar zbc zbd zag zac zai zbb zan zas zau zat zav zaw zax []) (LawQ res 0 0) := by
  intro zah zad zaf zae zaj zak zay zaz zal zam zba zao zap zaq zar zag zac zai zbb zan zas zau zat zav zaw zax v6 v11 zbc zbd d1 d2 d3 d4 d7 d8 d9 d10 d12 d13 d14 d15 d16 d17 d18 d19 d20 d21 d22 d23 d24 d25 d26 d27 res h
  unfold f_L_law_543 at h
  refine OEndsQ.adv hm_0 2 (pc' := 547) (L' := [qr 0, qu, qu, qu, qu, qr 1, qi v6, qu, qu, qu, qu, qi v11, qu, qu, qu, qu, qu, qu, qu, qu, qu, qu, qu, qu, qu, qu, qu, qu]) (S' := [.int 33, .ref 1]) (H' := (qa scr :: bk0 zah zad zaf zae zaj zak zay zaz zal zam zba zao zap zaq zar zbc zbd zag zac zai zbb zan zas zau zat zav zaw zax [])) rfl ?_
  obtain ⟨⟨r190, s191, s192, s193, s194, s195⟩, hq158, h⟩ := bnd h
  refine OEndsQ.call0 hm_0 rfl rfl (by decide) rfl (as := [.ref 1, .int 33]) (rest := []) rfl rfl (ok_endKeyword hq158) ?_
  refine OEndsQ.adv hm_0 2 (pc' := 553) (L' := [qr 0, qu, qu, qu, qu, qr 1, qi v6, qu, qu, qu, qu, qi v11, qu, qu, qu, qu, qu, qu, qu, qu, qu, qu, qu, qu, qu, qu, qu, qu]) (S' := [.ref 1]) (H' := (qa scr :: bk0 s191 s192 s193 zae zaj zak zay zaz zal zam zba zao zap zaq zar zbc zbd zag s194 s195 zbb zan zas zau zat zav zaw zax [])) rfl ?_
  obtain ⟨⟨r196, s197, s198, s199, s200, s201, s202, s203, s204, s205, s206, s207, s208, s209, s210, s211, s212⟩, hq159, h⟩ := bnd h
  refine OEndsQ.call0 hm_0 rfl rfl (by decide) rfl (as := [.ref 1]) (rest := []) rfl rfl (ok_build hq159) ?_
  refine OEndsQ.adv hm_0 2 (pc' := 559) (L' := [qr 0, qu, qu, qu, qu, qr 1, qi v6, qu, qu, qu, qu, qi v11, qu, qu, qu, qu, qu, qu, qu, qu, qu, qu, qu, qu, qu, qu, qu, qu]) (S' := [.ref 1]) (H' := (qa scr :: bk0 s191 s192 s193 zae s197 s198 s199 s200 s201 s202 s203 zao zap zaq zar zbc zbd s204 s194 s195 s205 s206 s207 s208 s209 s210 s211 s212 [])) rfl ?_
  obtain ⟨r213, hq160, h⟩ := bnd h
  refine OEndsQ.call0 hm_0 rfl rfl (by decide) rfl (as := [.ref 1]) (rest := []) rfl rfl (ok_phase hq160) ?_
  refine OEndsQ.adv hm_0 1 (pc' := 563) (L' := [qr 0, qu, qu, qu, qu, qr 1, qi v6, qu, qu, qu, qu, qi v11, qu, qu, qu, qu, qu, qu, qu, qu, qu, qu, qu, qu, qu, qu, qu, qu]) (S' := [.int 1, .int r213]) (H' := (qa scr :: bk0 s191 s192 s193 zae s197 s198 s199 s200 s201 s202 s203 zao zap zaq zar zbc zbd s204 s194 s195 s205 s206 s207 s208 s209 s210 s211 s212 [])) rfl ?_
  by_cases hc161 : r213 = (1 : Int32)
  · simp only [if_pos hc161] at h
    refine OEndsQ.icmpT hm_0 rfl (q := 568) rfl ((teq hc161).1) ?_
    refine OEndsQ.adv hm_0 4 (pc' := 575) (L' := [qr 0, qu, qu, qu, qu, qr 1, qi v6, qu, qu, qu, qu, qi v11, ql 0, qw, qi v11, qu, qu, qu, qu, qu, qu, qu, qu, qu, qu, qu, qu, qu]) (S' := []) (H' := (qa scr :: bk0 s191 s192 s193 zae s197 s198 s199 s200 s201 s202 s203 zao zap zaq zar zbc zbd s204 s194 s195 s205 s206 s207 s208 s209 s210 s211 s212 [])) rfl ?_
    exact ok_L_law_575 100000 h
  · simp only [if_neg hc161] at h
    refine OEndsQ.icmpF hm_0 rfl ((feq hc161).1) ?_
    refine OEndsQ.adv hm_0 1 (pc' := 567) (L' := [qr 0, qu, qu, qu, qu, qr 1, qi v6, qu, qu, qu, qu, qi v11, qu, qu, qu, qu, qu, qu, qu, qu, qu, qu, qu, qu, qu, qu, qu, qu]) (S' := [.int 1]) (H' := (qa scr :: bk0 s191 s192 s193 zae s197 s198 s199 s200 s201 s202 s203 zao zap zaq zar zbc zbd s204 s194 s195 s205 s206 s207 s208 s209 s210 s211 s212 [])) rfl ?_
    cases h
    exact OEndsQ.iret hm_0 rfl rfl
theorem ok_L_law_518 {scr : List Int32} {kb : List Int32 → List Int32 → List Int32 → List Int32 → List Int32 → List Int32 → List Int32 → List Int32 → List Int32 → List Int32 → List Int32 → List Int32 → List Int32 → List Int32 → List Int32 → Int32 → Int32 → Int32 → Int32 → Int32 → Int32 → Int32 → Int32 → Int32 → Int32 → Int32 → Int32 → Int32 → Int32 → Int32 → Int32 → Int32 → Int32 → Int32 → Int32 → Option (Int32)} {k151 : List Int32 → List Int32 → List Int32 → List Int32 → List Int32 → List Int32 → List Int32 → List Int32 → List Int32 → List Int32 → List Int32 → List Int32 → List Int32 → List Int32 → List Int32 → Int32 → Int32 → Int32 → Int32 → Int32 → Int32 → Int32 → Int32 → Int32 → Int32 → Int32 → Int32 → Int32 → Int32 → Int32 → Int32 → Int32 → Int32 → Option (Int32)} {k308 : List Int32 → List Int32 → List Int32 → List Int32 → List Int32 → List Int32 → List Int32 → List Int32 → List Int32 → List Int32 → List Int32 → List Int32 → List Int32 → List Int32 → List Int32 → Int32 → Int32 → Int32 → Int32 → Int32 → Int32 → Int32 → Int32 → Int32 → Int32 → Int32 → Int32 → Int32 → Int32 → Int32 → Int32 → Int32 → Int32 → Option (Int32)} (hkb : ∀ {zah zad zaf zae zaj zak zay zaz zal zam zba zao zap zaq zar : List Int32} {zbc zbd zag zac zai zbb zan zas zau zat zav zaw zax v4 v6 v10 v11 v12 v13 v14 : Int32} {d1 d2 d3 d7 d8 d9 d15 d16 d17 d18 d19 d20 d21 d22 d23 d24 d25 d26 d27 : Slot} {res : Int32}, kb zah zad zaf zae zaj zak zay zaz zal zam zba zao zap zaq zar zbc zbd zag zac zai zbb zan zas zau zat zav zaw zax v4 v6 v10 v11 v12 v13 v14 = some res → OEndsQ own_P 0 179 [qr 0, d1, d2, d3, qi v4, qr 1, qi v6, d7, d8, d9, qi v10, qi v11, qi v12, qi v13, qi v14, d15, d16, d17, d18, d19, d20, d21, d22, d23, d24, d25, d26, d27] [] (qa scr :: bk0 zah zad zaf zae zaj zak zay zaz zal zam zba zao zap zaq zar zbc zbd zag zac zai zbb zan zas zau zat zav zaw zax []) (LawQ res 0 0)) (hk151 : ∀ {zah zad zaf zae zaj zak zay zaz zal zam zba zao zap zaq zar : List Int32} {zbc zbd zag zac zai zbb zan zas zau zat zav zaw zax v4 v6 v10 v11 v12 : Int32} {d1 d2 d3 d7 d8 d9 d13 d14 d15 d16 d17 d18 d19 d20 d21 d22 d23 d24 d25 d26 d27 : Slot} {res : Int32}, k151 zah zad zaf zae zaj zak zay zaz zal zam zba zao zap zaq zar zbc zbd zag zac zai zbb zan zas zau zat zav zaw zax v4 v6 v10 v11 v12 = some res → OEndsQ own_P 0 151 [qr 0, d1, d2, d3, qi v4, qr 1, qi v6, d7, d8, d9, qi v10, qi v11, qi v12, d13, d14, d15, d16, d17, d18, d19, d20, d21, d22, d23, d24, d25, d26, d27] [] (qa scr :: bk0 zah zad zaf zae zaj zak zay zaz zal zam zba zao zap zaq zar zbc zbd zag zac zai zbb zan zas zau zat zav zaw zax []) (LawQ res 0 0)) (hk308 : ∀ {zah zad zaf zae zaj zak zay zaz zal zam zba zao zap zaq zar : List Int32} {zbc zbd zag zac zai zbb zan zas zau zat zav zaw zax v4 v6 v10 v11 v12 : Int32} {d1 d2 d3 d7 d8 d9 d13 d14 d15 d16 d17 d18 d19 d20 d21 d22 d23 d24 d25 d26 d27 : Slot} {res : Int32}, k308 zah zad zaf zae zaj zak zay zaz zal zam zba zao zap zaq zar zbc zbd zag zac zai zbb zan zas zau zat zav zaw zax v4 v6 v10 v11 v12 = some res → OEndsQ own_P 0 308 [qr 0, d1, d2, d3, qi v4, qr 1, qi v6, d7, d8, d9, qi v10, qi v11, qi v12, d13, d14, d15, d16, d17, d18, d19, d20, d21, d22, d23, d24, d25, d26, d27] [] (qa scr :: bk0 zah zad zaf zae zaj zak zay zaz zal zam zba zao zap zaq zar zbc zbd zag zac zai zbb zan zas zau zat zav zaw zax []) (LawQ res 0 0)) : ∀ {zah zad zaf zae zaj zak zay zaz zal zam zba zao zap zaq zar : List Int32} {zbc zbd zag zac zai zbb zan zas zau zat zav zaw zax v4 v6 v10 v11 v12 v13 v14 v18 : Int32} {d1 d2 d3 d7 d8 d9 d15 d16 d17 d19 d20 d21 d22 d23 d24 d25 d26 d27 : Slot} {res : Int32}, f_L_law_518 kb k151 k308 scr zah zad zaf zae zaj zak zay zaz zal zam zba zao zap zaq zar zbc zbd zag zac zai zbb zan zas zau zat zav zaw zax v4 v6 v10 v11 v12 v13 v14 v18 = some res → OEndsQ own_P 0 518 [qr 0, d1, d2, d3, qi v4, qr 1, qi v6, d7, d8, d9, qi v10, qi v11, qi v12, qi v13, qi v14, d15, d16, d17, qi v18, d19, d20, d21, d22, d23, d24, d25, d26, d27] [] (qa scr :: bk0 zah zad zaf zae zaj zak zay zaz zal zam zba zao zap zaq zar zbc zbd zag zac zai zbb zan zas zau zat zav zaw zax []) (LawQ res 0 0) := by
  intro zah zad zaf zae zaj zak zay zaz zal zam zba zao zap zaq zar zbc zbd zag zac zai zbb zan zas zau zat zav zaw zax v4 v6 v10 v11 v12 v13 v14 v18 d1 d2 d3 d7 d8 d9 d15 d16 d17 d19 d20 d21 d22 d23 d24 d25 d26 d27 res h
  unfold f_L_law_518 at h
  refine OEndsQ.adv hm_0 2 (pc' := 522) (L' := [qr 0, qu, qu, qu, qi v4, qr 1, qi v6, qu, qu, qu, qi v10, qi v11, qi v12, qi v13, qi v14, qu, qu, qu, qi v18, qu, qu, qu, qu, qu, qu, qu, qu, qu]) (S' := [.int v18, .ref 1]) (H' := (qa scr :: bk0 zah zad zaf zae zaj zak zay zaz zal zam zba zao zap zaq zar zbc zbd zag zac zai zbb zan zas zau zat zav zaw zax [])) rfl ?_
  obtain ⟨⟨r187, s188, s189⟩, hq162, h⟩ := bnd h
  refine OEndsQ.call0 hm_0 rfl rfl (by decide) rfl (as := [.ref 1, .int v18]) (rest := []) rfl rfl (ok_addChar hq162) ?_
  show OEndsQ own_P 0 525 [qr 0, qu, qu, qu, qi v4, qr 1, qi v6, qu, qu, qu, qi v10, qi v11, qi v12, qi v13, qi v14, qu, qu, qu, qi v18, qu, qu, qu, qu, qu, qu, qu, qu, qu] [.int r187] (qa scr :: bk0 zah zad zaf s188 zaj zak zay zaz zal zam zba zao zap zaq zar zbc zbd zag zac s189 zbb zan zas zau zat zav zaw zax []) _
  by_cases hc163 : r187 < (0 : Int32)
  · simp only [if_pos hc163] at h
    refine OEndsQ.ifF hm_0 rfl ((tlt hc163).2.1) ?_
    refine OEndsQ.adv hm_0 3 (pc' := 151) (L' := [qr 0, qu, qu, qu, qi v4, qr 1, qi v6, qu, qu, qu, qi v10, qi v11, qi (v12 + (1 : Int32)), qi v13, qi v14, qu, qu, qu, qi v18, qu, qu, qu, qu, qu, qu, qu, qu, qu]) (S' := []) (H' := (qa scr :: bk0 zah zad zaf s188 zaj zak zay zaz zal zam zba zao zap zaq zar zbc zbd zag zac s189 zbb zan zas zau zat zav zaw zax [])) rfl ?_
    exact hk151 h
  · simp only [if_neg hc163] at h
    refine OEndsQ.ifT hm_0 rfl (q := 531) rfl ((flt hc163).2.1) ?_
    refine OEndsQ.adv hm_0 2 (pc' := 179) (L' := [qr 0, qu, qu, qu, qi v4, qr 1, qi v6, qu, qu, qu, qi v10, qi v11, qi v12, qi v13, qi (v14 + (1 : Int32)), qu, qu, qu, qi v18, qu, qu, qu, qu, qu, qu, qu, qu, qu]) (S' := []) (H' := (qa scr :: bk0 zah zad zaf s188 zaj zak zay zaz zal zam zba zao zap zaq zar zbc zbd zag zac s189 zbb zan zas zau zat zav zaw zax [])) rfl ?_
    exact hkb h
theorem ok_L_law_500 {scr : List Int32} {kb : List Int32 → List Int32 → List Int32 → List Int32 → List Int32 → List Int32 → List Int32 → List Int32 → List Int32 → List Int32 → List Int32 → List Int32 → List Int32 → List Int32 → List Int32 → Int32 → Int32 → Int32 → Int32 → Int32 → Int32 → Int32 → Int32 → Int32 → Int32 → Int32 → Int32 → Int32 → Int32 → Int32 → Int32 → Int32 → Int32 → Int32 → Int32 → Int32 → Int32 → Int32 → Int32 → Int32 → Option (Int32)} {k518 : List Int32 → List Int32 → List Int32 → List Int32 → List Int32 → List Int32 → List Int32 → List Int32 → List Int32 → List Int32 → List Int32 → List Int32 → List Int32 → List Int32 → List Int32 → Int32 → Int32 → Int32 → Int32 → Int32 → Int32 → Int32 → Int32 → Int32 → Int32 → Int32 → Int32 → Int32 → Int32 → Int32 → Int32 → Int32 → Int32 → Int32 → Int32 → Int32 → Option (Int32)} (hkb : ∀ {zah zad zaf zae zaj zak zay zaz zal zam zba zao zap zaq zar : List Int32} {zbc zbd zag zac zai zbb zan zas zau zat zav zaw zax v4 v6 v10 v11 v12 v13 v14 v15 v16 v17 v18 v19 : Int32} {d1 d2 d3 d7 d8 d9 d20 d21 d22 d23 d24 d25 d26 d27 : Slot} {res : Int32}, kb zah zad zaf zae zaj zak zay zaz zal zam zba zao zap zaq zar zbc zbd zag zac zai zbb zan zas zau zat zav zaw zax v4 v6 v10 v11 v12 v13 v14 v15 v16 v17 v18 v19 = some res → OEndsQ own_P 0 369 [qr 0, d1, d2, d3, qi v4, qr 1, qi v6, d7, d8, d9, qi v10, qi v11, qi v12, qi v13, qi v14, qi v15, qi v16, qi v17, qi v18, qi v19, d20, d21, d22, d23, d24, d25, d26, d27] [] (qa scr :: bk0 zah zad zaf zae zaj zak zay zaz zal zam zba zao zap zaq zar zbc zbd zag zac zai zbb zan zas zau zat zav zaw zax []) (LawQ res 0 0)) (hk518 : ∀ {zah zad zaf zae zaj zak zay zaz zal zam zba zao zap zaq zar : List Int32} {zbc zbd zag zac zai zbb zan zas zau zat zav zaw zax v4 v6 v10 v11 v12 v13 v14 v18 : Int32} {d1 d2 d3 d7 d8 d9 d15 d16 d17 d19 d20 d21 d22 d23 d24 d25 d26 d27 : Slot} {res : Int32}, k518 zah zad zaf zae zaj zak zay zaz zal zam zba zao zap zaq zar zbc zbd zag zac zai zbb zan zas zau zat zav zaw zax v4 v6 v10 v11 v12 v13 v14 v18 = some res → OEndsQ own_P 0 518 [qr 0, d1, d2, d3, qi v4, qr 1, qi v6, d7, d8, d9, qi v10, qi v11, qi v12, qi v13, qi v14, d15, d16, d17, qi v18, d19, d20, d21, d22, d23, d24, d25, d26, d27] [] (qa scr :: bk0 zah zad zaf zae zaj zak zay zaz zal zam zba zao zap zaq zar zbc zbd zag zac zai zbb zan zas zau zat zav zaw zax []) (LawQ res 0 0)) : ∀ {zah zad zaf zae zaj zak zay zaz zal zam zba zao zap zaq zar : List Int32} {zbc zbd zag zac zai zbb zan zas zau zat zav zaw zax v4 v6 v10 v11 v12 v13 v14 v15 v16 v17 v18 v19 v20 v21 : Int32} {d1 d2 d3 d7 d8 d9 d22 d23 d24 d25 d26 d27 : Slot} {res : Int32}, f_L_law_500 kb k518 scr zah zad zaf zae zaj zak zay zaz zal zam zba zao zap zaq zar zbc zbd zag zac zai zbb zan zas zau zat zav zaw zax v4 v6 v10 v11 v12 v13 v14 v15 v16 v17 v18 v19 v20 v21 = some res → OEndsQ own_P 0 500 [qr 0, d1, d2, d3, qi v4, qr 1, qi v6, d7, d8, d9, qi v10, qi v11, qi v12, qi v13, qi v14, qi v15, qi v16, qi v17, qi v18, qi v19, qi v20, qi v21, d22, d23, d24, d25, d26, d27] [] (qa scr :: bk0 zah zad zaf zae zaj zak zay zaz zal zam zba zao zap zaq zar zbc zbd zag zac zai zbb zan zas zau zat zav zaw zax []) (LawQ res 0 0) := by
  intro zah zad zaf zae zaj zak zay zaz zal zam zba zao zap zaq zar zbc zbd zag zac zai zbb zan zas zau zat zav zaw zax v4 v6 v10 v11 v12 v13 v14 v15 v16 v17 v18 v19 v20 v21 d1 d2 d3 d7 d8 d9 d22 d23 d24 d25 d26 d27 res h
  unfold f_L_law_500 at h
  refine OEndsQ.adv hm_0 1 (pc' := 502) (L' := [qr 0, qu, qu, qu, qi v4, qr 1, qi v6, qu, qu, qu, qi v10, qi v11, qi v12, qi v13, qi v14, qi v15, qi v16, qi v17, qi v18, qi v19, qi v20, qi v21, qu, qu, qu, qu, qu, qu]) (S' := [.int v21]) (H' := (qa scr :: bk0 zah zad zaf zae zaj zak zay zaz zal zam zba zao zap zaq zar zbc zbd zag zac zai zbb zan zas zau zat zav zaw zax [])) rfl ?_
  by_cases hc164 : v21 = (0 : Int32)
  · simp only [if_pos hc164] at h
    refine OEndsQ.ifF hm_0 rfl ((teq hc164).2) ?_
    refine OEndsQ.adv hm_0 3 (pc' := 518) (L' := [qr 0, qu, qu, qu, qi v4, qr 1, qi v6, qu, qu, qu, qi v10, qi v11, qi v12, qi v13, qi v14, qi v15, qi v16, qi v17, qi v20, qi v19, qi v20, qi v21, qu, qu, qu, qu, qu, qu]) (S' := []) (H' := (qa scr :: bk0 zah zad zaf zae zaj zak zay zaz zal zam zba zao zap zaq zar zbc zbd zag zac zai zbb zan zas zau zat zav zaw zax [])) rfl ?_
    exact hk518 h
  · simp only [if_neg hc164] at h
    refine OEndsQ.ifT hm_0 rfl (q := 512) rfl ((feq hc164).2) ?_
    refine OEndsQ.adv hm_0 2 (pc' := 369) (L' := [qr 0, qu, qu, qu, qi v4, qr 1, qi v6, qu, qu, qu, qi v10, qi v11, qi v12, qi v13, qi v14, qi v15, qi v16, qi v17, qi v18, qi (v19 + (1 : Int32)), qi v20, qi v21, qu, qu, qu, qu, qu, qu]) (S' := []) (H' := (qa scr :: bk0 zah zad zaf zae zaj zak zay zaz zal zam zba zao zap zaq zar zbc zbd zag zac zai zbb zan zas zau zat zav zaw zax [])) rfl ?_
    exact hkb h
theorem ok_L_law_486 {scr : List Int32} {kb : List Int32 → List Int32 → List Int32 → List Int32 → List Int32 → List Int32 → List Int32 → List Int32 → List Int32 → List Int32 → List Int32 → List Int32 → List Int32 → List Int32 → List Int32 → Int32 → Int32 → Int32 → Int32 → Int32 → Int32 → Int32 → Int32 → Int32 → Int32 → Int32 → Int32 → Int32 → Int32 → Int32 → Int32 → Int32 → Int32 → Int32 → Int32 → Int32 → Int32 → Int32 → Int32 → Int32 → Int32 → Int32 → Int32 → Option (Int32)} {k500 : List Int32 → List Int32 → List Int32 → List Int32 → List Int32 → List Int32 → List Int32 → List Int32 → List Int32 → List Int32 → List Int32 → List Int32 → List Int32 → List Int32 → List Int32 → Int32 → Int32 → Int32 → Int32 → Int32 → Int32 → Int32 → Int32 → Int32 → Int32 → Int32 → Int32 → Int32 → Int32 → Int32 → Int32 → Int32 → Int32 → Int32 → Int32 → Int32 → Int32 → Int32 → Int32 → Int32 → Int32 → Int32 → Option (Int32)} (hkb : ∀ {zah zad zaf zae zaj zak zay zaz zal zam zba zao zap zaq zar : List Int32} {zbc zbd zag zac zai zbb zan zas zau zat zav zaw zax v4 v6 v10 v11 v12 v13 v14 v15 v16 v17 v18 v19 v20 v21 v22 : Int32} {d1 d2 d3 d7 d8 d9 d23 d24 d25 d26 d27 : Slot} {res : Int32}, kb zah zad zaf zae zaj zak zay zaz zal zam zba zao zap zaq zar zbc zbd zag zac zai zbb zan zas zau zat zav zaw zax v4 v6 v10 v11 v12 v13 v14 v15 v16 v17 v18 v19 v20 v21 v22 = some res → OEndsQ own_P 0 397 [qr 0, d1, d2, d3, qi v4, qr 1, qi v6, d7, d8, d9, qi v10, qi v11, qi v12, qi v13, qi v14, qi v15, qi v16, qi v17, qi v18, qi v19, qi v20, qi v21, qi v22, d23, d24, d25, d26, d27] [] (qa scr :: bk0 zah zad zaf zae zaj zak zay zaz zal zam zba zao zap zaq zar zbc zbd zag zac zai zbb zan zas zau zat zav zaw zax []) (LawQ res 0 0)) (hk500 : ∀ {zah zad zaf zae zaj zak zay zaz zal zam zba zao zap zaq zar : List Int32} {zbc zbd zag zac zai zbb zan zas zau zat zav zaw zax v4 v6 v10 v11 v12 v13 v14 v15 v16 v17 v18 v19 v20 v21 : Int32} {d1 d2 d3 d7 d8 d9 d22 d23 d24 d25 d26 d27 : Slot} {res : Int32}, k500 zah zad zaf zae zaj zak zay zaz zal zam zba zao zap zaq zar zbc zbd zag zac zai zbb zan zas zau zat zav zaw zax v4 v6 v10 v11 v12 v13 v14 v15 v16 v17 v18 v19 v20 v21 = some res → OEndsQ own_P 0 500 [qr 0, d1, d2, d3, qi v4, qr 1, qi v6, d7, d8, d9, qi v10, qi v11, qi v12, qi v13, qi v14, qi v15, qi v16, qi v17, qi v18, qi v19, qi v20, qi v21, d22, d23, d24, d25, d26, d27] [] (qa scr :: bk0 zah zad zaf zae zaj zak zay zaz zal zam zba zao zap zaq zar zbc zbd zag zac zai zbb zan zas zau zat zav zaw zax []) (LawQ res 0 0)) : ∀ {zah zad zaf zae zaj zak zay zaz zal zam zba zao zap zaq zar : List Int32} {zbc zbd zag zac zai zbb zan zas zau zat zav zaw zax v4 v6 v10 v11 v12 v13 v14 v15 v16 v17 v18 v19 v20 v21 v22 v23 : Int32} {d1 d2 d3 d7 d8 d9 d24 d25 d26 d27 : Slot} {res : Int32}, f_L_law_486 kb k500 scr zah zad zaf zae zaj zak zay zaz zal zam zba zao zap zaq zar zbc zbd zag zac zai zbb zan zas zau zat zav zaw zax v4 v6 v10 v11 v12 v13 v14 v15 v16 v17 v18 v19 v20 v21 v22 v23 = some res → OEndsQ own_P 0 486 [qr 0, d1, d2, d3, qi v4, qr 1, qi v6, d7, d8, d9, qi v10, qi v11, qi v12, qi v13, qi v14, qi v15, qi v16, qi v17, qi v18, qi v19, qi v20, qi v21, qi v22, qi v23, d24, d25, d26, d27] [] (qa scr :: bk0 zah zad zaf zae zaj zak zay zaz zal zam zba zao zap zaq zar zbc zbd zag zac zai zbb zan zas zau zat zav zaw zax []) (LawQ res 0 0) := by
  intro zah zad zaf zae zaj zak zay zaz zal zam zba zao zap zaq zar zbc zbd zag zac zai zbb zan zas zau zat zav zaw zax v4 v6 v10 v11 v12 v13 v14 v15 v16 v17 v18 v19 v20 v21 v22 v23 d1 d2 d3 d7 d8 d9 d24 d25 d26 d27 res h
  unfold f_L_law_486 at h
  refine OEndsQ.adv hm_0 1 (pc' := 488) (L' := [qr 0, qu, qu, qu, qi v4, qr 1, qi v6, qu, qu, qu, qi v10, qi v11, qi v12, qi v13, qi v14, qi v15, qi v16, qi v17, qi v18, qi v19, qi v20, qi v21, qi v22, qi v23, qu, qu, qu, qu]) (S' := [.int v23]) (H' := (qa scr :: bk0 zah zad zaf zae zaj zak zay zaz zal zam zba zao zap zaq zar zbc zbd zag zac zai zbb zan zas zau zat zav zaw zax [])) rfl ?_
  by_cases hc165 : v23 = (0 : Int32)
  · simp only [if_pos hc165] at h
    refine OEndsQ.ifT hm_0 rfl (q := 494) rfl ((teq hc165).1) ?_
    refine OEndsQ.adv hm_0 2 (pc' := 397) (L' := [qr 0, qu, qu, qu, qi v4, qr 1, qi v6, qu, qu, qu, qi v10, qi v11, qi v12, qi v13, qi v14, qi v15, qi v16, qi v17, qi v18, qi v19, qi v20, qi v21, qi (v22 + (1 : Int32)), qi v23, qu, qu, qu, qu]) (S' := []) (H' := (qa scr :: bk0 zah zad zaf zae zaj zak zay zaz zal zam zba zao zap zaq zar zbc zbd zag zac zai zbb zan zas zau zat zav zaw zax [])) rfl ?_
    exact hkb h
  · simp only [if_neg hc165] at h
    refine OEndsQ.ifF hm_0 rfl ((feq hc165).1) ?_
    refine OEndsQ.adv hm_0 4 (pc' := 397) (L' := [qr 0, qu, qu, qu, qi v4, qr 1, qi v6, qu, qu, qu, qi v10, qi v11, qi v12, qi v13, qi v14, qi v15, qi v16, qi v17, qi v18, qi v19, qi v20, qi 1, qi (v22 + (1 : Int32)), qi v23, qu, qu, qu, qu]) (S' := []) (H' := (qa scr :: bk0 zah zad zaf zae zaj zak zay zaz zal zam zba zao zap zaq zar zbc zbd zag zac zai zbb zan zas zau zat zav zaw zax [])) rfl ?_
    exact hkb h
theorem ok_L_law_442 {scr : List Int32} {k486 : List Int32 → List Int32 → List Int32 → List Int32 → List Int32 → List Int32 → List Int32 → List Int32 → List Int32 → List Int32 → List Int32 → List Int32 → List Int32 → List Int32 → List Int32 → Int32 → Int32 → Int32 → Int32 → Int32 → Int32 → Int32 → Int32 → Int32 → Int32 → Int32 → Int32 → Int32 → Int32 → Int32 → Int32 → Int32 → Int32 → Int32 → Int32 → Int32 → Int32 → Int32 → Int32 → Int32 → Int32 → Int32 → Int32 → Int32 → Option (Int32)} (hk486 : ∀ {zah zad zaf zae zaj zak zay zaz zal zam zba zao zap zaq zar : List Int32} {zbc zbd zag zac zai zbb zan zas zau zat zav zaw zax v4 v6 v10 v11 v12 v13 v14 v15 v16 v17 v18 v19 v20 v21 v22 v23 : Int32} {d1 d2 d3 d7 d8 d9 d24 d25 d26 d27 : Slot} {res : Int32}, k486 zah zad zaf zae zaj zak zay zaz zal zam zba zao zap zaq zar zbc zbd zag zac zai zbb zan zas zau zat zav zaw zax v4 v6 v10 v11 v12 v13 v14 v15 v16 v17 v18 v19 v20 v21 v22 v23 = some res → OEndsQ own_P 0 486 [qr 0, d1, d2, d3, qi v4, qr 1, qi v6, d7, d8, d9, qi v10, qi v11, qi v12, qi v13, qi v14, qi v15, qi v16, qi v17, qi v18, qi v19, qi v20, qi v21, qi v22, qi v23, d24, d25, d26, d27] [] (qa scr :: bk0 zah zad zaf zae zaj zak zay zaz zal zam zba zao zap zaq zar zbc zbd zag zac zai zbb zan zas zau zat zav zaw zax []) (LawQ res 0 0)) : ∀ (n : Nat), ∀ {zah zad zaf zae zaj zak zay zaz zal zam zba zao zap zaq zar : List Int32} {zbc zbd zag zac zai zbb zan zas zau zat zav zaw zax v4 v6 v10 v11 v12 v13 v14 v15 v16 v17 v18 v19 v20 v21 v22 v23 v24 : Int32} {d1 d2 d3 d7 d8 d9 d25 d26 d27 : Slot} {res : Int32}, f_L_law_442 k486 scr n zah zad zaf zae zaj zak zay zaz zal zam zba zao zap zaq zar zbc zbd zag zac zai zbb zan zas zau zat zav zaw zax v4 v6 v10 v11 v12 v13 v14 v15 v16 v17 v18 v19 v20 v21 v22 v23 v24 = some res → OEndsQ own_P 0 442 [qr 0, d1, d2, d3, qi v4, qr 1, qi v6, d7, d8, d9, qi v10, qi v11, qi v12, qi v13, qi v14, qi v15, qi v16, qi v17, qi v18, qi v19, qi v20, qi v21, qi v22, qi v23, qi v24, d25, d26, d27] [] (qa scr :: bk0 zah zad zaf zae zaj zak zay zaz zal zam zba zao zap zaq zar zbc zbd zag zac zai zbb zan zas zau zat zav zaw zax []) (LawQ res 0 0) := by
  intro n
  induction n with
  | zero => intro zah zad zaf zae zaj zak zay zaz zal zam zba zao zap zaq zar zbc zbd zag zac zai zbb zan zas zau zat zav zaw zax v4 v6 v10 v11 v12 v13 v14 v15 v16 v17 v18 v19 v20 v21 v22 v23 v24 d1 d2 d3 d7 d8 d9 d25 d26 d27 res h; cases h
  | succ n ih =>
    intro zah zad zaf zae zaj zak zay zaz zal zam zba zao zap zaq zar zbc zbd zag zac zai zbb zan zas zau zat zav zaw zax v4 v6 v10 v11 v12 v13 v14 v15 v16 v17 v18 v19 v20 v21 v22 v23 v24 d1 d2 d3 d7 d8 d9 d25 d26 d27 res h
    unfold f_L_law_442 at h
    refine OEndsQ.adv hm_0 2 (pc' := 446) (L' := [qr 0, qu, qu, qu, qi v4, qr 1, qi v6, qu, qu, qu, qi v10, qi v11, qi v12, qi v13, qi v14, qi v15, qi v16, qi v17, qi v18, qi v19, qi v20, qi v21, qi v22, qi v23, qi v24, qu, qu, qu]) (S' := [.int v16, .int v24]) (H' := (qa scr :: bk0 zah zad zaf zae zaj zak zay zaz zal zam zba zao zap zaq zar zbc zbd zag zac zai zbb zan zas zau zat zav zaw zax [])) rfl ?_
    by_cases hc166 : v24 < v16
    · simp only [if_pos hc166] at h
      refine OEndsQ.icmpF hm_0 rfl ((tlt hc166).2.1) ?_
      refine OEndsQ.adv hm_0 2 (pc' := 453) (L' := [qr 0, qu, qu, qu, qi v4, qr 1, qi v6, qu, qu, qu, qi v10, qi v11, qi v12, qi v13, qi v14, qi v15, qi v16, qi v17, qi v18, qi v19, qi v20, qi v21, qi v22, qi v23, qi v24, qu, qu, qu]) (S' := [.int 8, .int v24]) (H' := (qa scr :: bk0 zah zad zaf zae zaj zak zay zaz zal zam zba zao zap zaq zar zbc zbd zag zac zai zbb zan zas zau zat zav zaw zax [])) rfl ?_
      by_cases hc167 : v24 < (8 : Int32)
      · simp only [if_pos hc167] at h
        refine OEndsQ.icmpF hm_0 rfl ((tlt hc167).2.1) ?_
        refine OEndsQ.adv hm_0 3 (pc' := 462) (L' := [qr 0, qu, qu, qu, qi v4, qr 1, qi v6, qu, qu, qu, qi v10, qi v11, qi v12, qi v13, qi v14, qi v15, qi v16, qi v17, qi v18, qi v19, qi v20, qi v21, qi v22, qi v23, qi v24, qu, qu, qu]) (S' := [.int v24, .int v22, .ref 1]) (H' := (qa scr :: bk0 zah zad zaf zae zaj zak zay zaz zal zam zba zao zap zaq zar zbc zbd zag zac zai zbb zan zas zau zat zav zaw zax [])) rfl ?_
        obtain ⟨r185, hq168, h⟩ := bnd h
        refine OEndsQ.call0 hm_0 rfl rfl (by decide) rfl (as := [.ref 1, .int v22, .int v24]) (rest := []) rfl rfl (ok_keywordChar hq168) ?_
        refine OEndsQ.adv hm_0 3 (pc' := 471) (L' := [qr 0, qu, qu, qu, qi v4, qr 1, qi v6, qu, qu, qu, qi v10, qi v11, qi v12, qi v13, qi v14, qi v15, qi v16, qi v17, qi v18, qi v19, qi v20, qi v21, qi v22, qi v23, qi v24, qu, qu, qu]) (S' := [.int v24, .int v15, .ref 1, .int r185]) (H' := (qa scr :: bk0 zah zad zaf zae zaj zak zay zaz zal zam zba zao zap zaq zar zbc zbd zag zac zai zbb zan zas zau zat zav zaw zax [])) rfl ?_
        obtain ⟨r186, hq169, h⟩ := bnd h
        refine OEndsQ.call0 hm_0 rfl rfl (by decide) rfl (as := [.ref 1, .int v15, .int v24]) (rest := [.int r185]) rfl rfl (ok_keywordChar hq169) ?_
        show OEndsQ own_P 0 474 [qr 0, qu, qu, qu, qi v4, qr 1, qi v6, qu, qu, qu, qi v10, qi v11, qi v12, qi v13, qi v14, qi v15, qi v16, qi v17, qi v18, qi v19, qi v20, qi v21, qi v22, qi v23, qi v24, qu, qu, qu] [.int r186, .int r185] (qa scr :: bk0 zah zad zaf zae zaj zak zay zaz zal zam zba zao zap zaq zar zbc zbd zag zac zai zbb zan zas zau zat zav zaw zax []) _
        by_cases hc170 : r185 = r186
        · simp only [if_pos hc170] at h
          refine OEndsQ.icmpT hm_0 rfl (q := 480) rfl ((teq hc170).1) ?_
          refine OEndsQ.adv hm_0 2 (pc' := 442) (L' := [qr 0, qu, qu, qu, qi v4, qr 1, qi v6, qu, qu, qu, qi v10, qi v11, qi v12, qi v13, qi v14, qi v15, qi v16, qi v17, qi v18, qi v19, qi v20, qi v21, qi v22, qi v23, qi (v24 + (1 : Int32)), qu, qu, qu]) (S' := []) (H' := (qa scr :: bk0 zah zad zaf zae zaj zak zay zaz zal zam zba zao zap zaq zar zbc zbd zag zac zai zbb zan zas zau zat zav zaw zax [])) rfl ?_
          exact ih h
        · simp only [if_neg hc170] at h
          refine OEndsQ.icmpF hm_0 rfl ((feq hc170).1) ?_
          refine OEndsQ.adv hm_0 4 (pc' := 442) (L' := [qr 0, qu, qu, qu, qi v4, qr 1, qi v6, qu, qu, qu, qi v10, qi v11, qi v12, qi v13, qi v14, qi v15, qi v16, qi v17, qi v18, qi v19, qi v20, qi v21, qi v22, qi 0, qi (v24 + (1 : Int32)), qu, qu, qu]) (S' := []) (H' := (qa scr :: bk0 zah zad zaf zae zaj zak zay zaz zal zam zba zao zap zaq zar zbc zbd zag zac zai zbb zan zas zau zat zav zaw zax [])) rfl ?_
          exact ih h
      · simp only [if_neg hc167] at h
        refine OEndsQ.icmpT hm_0 rfl (q := 486) rfl ((flt hc167).2.1) ?_
        show OEndsQ own_P 0 486 [qr 0, qu, qu, qu, qi v4, qr 1, qi v6, qu, qu, qu, qi v10, qi v11, qi v12, qi v13, qi v14, qi v15, qi v16, qi v17, qi v18, qi v19, qi v20, qi v21, qi v22, qi v23, qi v24, qu, qu, qu] [] (qa scr :: bk0 zah zad zaf zae zaj zak zay zaz zal zam zba zao zap zaq zar zbc zbd zag zac zai zbb zan zas zau zat zav zaw zax []) _
        exact hk486 h
    · simp only [if_neg hc166] at h
      refine OEndsQ.icmpT hm_0 rfl (q := 486) rfl ((flt hc166).2.1) ?_
      show OEndsQ own_P 0 486 [qr 0, qu, qu, qu, qi v4, qr 1, qi v6, qu, qu, qu, qi v10, qi v11, qi v12, qi v13, qi v14, qi v15, qi v16, qi v17, qi v18, qi v19, qi v20, qi v21, qi v22, qi v23, qi v24, qu, qu, qu] [] (qa scr :: bk0 zah zad zaf zae zaj zak zay zaz zal zam zba zao zap zaq zar zbc zbd zag zac zai zbb zan zas zau zat zav zaw zax []) _
      exact hk486 h
theorem ok_L_law_397 {scr : List Int32} {k500 : List Int32 → List Int32 → List Int32 → List Int32 → List Int32 → List Int32 → List Int32 → List Int32 → List Int32 → List Int32 → List Int32 → List Int32 → List Int32 → List Int32 → List Int32 → Int32 → Int32 → Int32 → Int32 → Int32 → Int32 → Int32 → Int32 → Int32 → Int32 → Int32 → Int32 → Int32 → Int32 → Int32 → Int32 → Int32 → Int32 → Int32 → Int32 → Int32 → Int32 → Int32 → Int32 → Int32 → Int32 → Int32 → Option (Int32)} (hk500 : ∀ {zah zad zaf zae zaj zak zay zaz zal zam zba zao zap zaq zar : List Int32} {zbc zbd zag zac zai zbb zan zas zau zat zav zaw zax v4 v6 v10 v11 v12 v13 v14 v15 v16 v17 v18 v19 v20 v21 : Int32} {d1 d2 d3 d7 d8 d9 d22 d23 d24 d25 d26 d27 : Slot} {res : Int32}, k500 zah zad zaf zae zaj zak zay zaz zal zam zba zao zap zaq zar zbc zbd zag zac zai zbb zan zas zau zat zav zaw zax v4 v6 v10 v11 v12 v13 v14 v15 v16 v17 v18 v19 v20 v21 = some res → OEndsQ own_P 0 500 [qr 0, d1, d2, d3, qi v4, qr 1, qi v6, d7, d8, d9, qi v10, qi v11, qi v12, qi v13, qi v14, qi v15, qi v16, qi v17, qi v18, qi v19, qi v20, qi v21, d22, d23, d24, d25, d26, d27] [] (qa scr :: bk0 zah zad zaf zae zaj zak zay zaz zal zam zba zao zap zaq zar zbc zbd zag zac zai zbb zan zas zau zat zav zaw zax []) (LawQ res 0 0)) : ∀ (n : Nat), ∀ {zah zad zaf zae zaj zak zay zaz zal zam zba zao zap zaq zar : List Int32} {zbc zbd zag zac zai zbb zan zas zau zat zav zaw zax v4 v6 v10 v11 v12 v13 v14 v15 v16 v17 v18 v19 v20 v21 v22 : Int32} {d1 d2 d3 d7 d8 d9 d23 d24 d25 d26 d27 : Slot} {res : Int32}, f_L_law_397 k500 scr n zah zad zaf zae zaj zak zay zaz zal zam zba zao zap zaq zar zbc zbd zag zac zai zbb zan zas zau zat zav zaw zax v4 v6 v10 v11 v12 v13 v14 v15 v16 v17 v18 v19 v20 v21 v22 = some res → OEndsQ own_P 0 397 [qr 0, d1, d2, d3, qi v4, qr 1, qi v6, d7, d8, d9, qi v10, qi v11, qi v12, qi v13, qi v14, qi v15, qi v16, qi v17, qi v18, qi v19, qi v20, qi v21, qi v22, d23, d24, d25, d26, d27] [] (qa scr :: bk0 zah zad zaf zae zaj zak zay zaz zal zam zba zao zap zaq zar zbc zbd zag zac zai zbb zan zas zau zat zav zaw zax []) (LawQ res 0 0) := by
  intro n
  induction n with
  | zero => intro zah zad zaf zae zaj zak zay zaz zal zam zba zao zap zaq zar zbc zbd zag zac zai zbb zan zas zau zat zav zaw zax v4 v6 v10 v11 v12 v13 v14 v15 v16 v17 v18 v19 v20 v21 v22 d1 d2 d3 d7 d8 d9 d23 d24 d25 d26 d27 res h; cases h
  | succ n ih =>
    intro zah zad zaf zae zaj zak zay zaz zal zam zba zao zap zaq zar zbc zbd zag zac zai zbb zan zas zau zat zav zaw zax v4 v6 v10 v11 v12 v13 v14 v15 v16 v17 v18 v19 v20 v21 v22 d1 d2 d3 d7 d8 d9 d23 d24 d25 d26 d27 res h
    unfold f_L_law_397 at h
    refine OEndsQ.adv hm_0 2 (pc' := 401) (L' := [qr 0, qu, qu, qu, qi v4, qr 1, qi v6, qu, qu, qu, qi v10, qi v11, qi v12, qi v13, qi v14, qi v15, qi v16, qi v17, qi v18, qi v19, qi v20, qi v21, qi v22, qu, qu, qu, qu, qu]) (S' := [.int v15, .int v22]) (H' := (qa scr :: bk0 zah zad zaf zae zaj zak zay zaz zal zam zba zao zap zaq zar zbc zbd zag zac zai zbb zan zas zau zat zav zaw zax [])) rfl ?_
    by_cases hc171 : v22 < v15
    · simp only [if_pos hc171] at h
      refine OEndsQ.icmpF hm_0 rfl ((tlt hc171).2.1) ?_
      refine OEndsQ.adv hm_0 2 (pc' := 408) (L' := [qr 0, qu, qu, qu, qi v4, qr 1, qi v6, qu, qu, qu, qi v10, qi v11, qi v12, qi v13, qi v14, qi v15, qi v16, qi v17, qi v18, qi v19, qi v20, qi v21, qi v22, qu, qu, qu, qu, qu]) (S' := [.int v22, .ref 1]) (H' := (qa scr :: bk0 zah zad zaf zae zaj zak zay zaz zal zam zba zao zap zaq zar zbc zbd zag zac zai zbb zan zas zau zat zav zaw zax [])) rfl ?_
      obtain ⟨r183, hq172, h⟩ := bnd h
      refine OEndsQ.call0 hm_0 rfl rfl (by decide) rfl (as := [.ref 1, .int v22]) (rest := []) rfl rfl (ok_keywordLength hq172) ?_
      refine OEndsQ.adv hm_0 3 (pc' := 415) (L' := [qr 0, qu, qu, qu, qi v4, qr 1, qi v6, qu, qu, qu, qi v10, qi v11, qi v12, qi v13, qi v14, qi v15, qi v16, qi v17, qi v18, qi v19, qi v20, qi v21, qi v22, qu, qu, qu, qu, qu]) (S' := [.int (v16 + (1 : Int32)), .int r183]) (H' := (qa scr :: bk0 zah zad zaf zae zaj zak zay zaz zal zam zba zao zap zaq zar zbc zbd zag zac zai zbb zan zas zau zat zav zaw zax [])) rfl ?_
      by_cases hc173 : r183 = (v16 + (1 : Int32))
      · simp only [if_pos hc173] at h
        refine OEndsQ.icmpF hm_0 rfl ((teq hc173).2) ?_
        refine OEndsQ.adv hm_0 3 (pc' := 424) (L' := [qr 0, qu, qu, qu, qi v4, qr 1, qi v6, qu, qu, qu, qi v10, qi v11, qi v12, qi v13, qi v14, qi v15, qi v16, qi v17, qi v18, qi v19, qi v20, qi v21, qi v22, qu, qu, qu, qu, qu]) (S' := [.int v16, .int v22, .ref 1]) (H' := (qa scr :: bk0 zah zad zaf zae zaj zak zay zaz zal zam zba zao zap zaq zar zbc zbd zag zac zai zbb zan zas zau zat zav zaw zax [])) rfl ?_
        obtain ⟨r184, hq174, h⟩ := bnd h
        refine OEndsQ.call0 hm_0 rfl rfl (by decide) rfl (as := [.ref 1, .int v22, .int v16]) (rest := []) rfl rfl (ok_keywordChar hq174) ?_
        refine OEndsQ.adv hm_0 1 (pc' := 429) (L' := [qr 0, qu, qu, qu, qi v4, qr 1, qi v6, qu, qu, qu, qi v10, qi v11, qi v12, qi v13, qi v14, qi v15, qi v16, qi v17, qi v18, qi v19, qi v20, qi v21, qi v22, qu, qu, qu, qu, qu]) (S' := [.int v20, .int r184]) (H' := (qa scr :: bk0 zah zad zaf zae zaj zak zay zaz zal zam zba zao zap zaq zar zbc zbd zag zac zai zbb zan zas zau zat zav zaw zax [])) rfl ?_
        by_cases hc175 : r184 = v20
        · simp only [if_pos hc175] at h
          refine OEndsQ.icmpF hm_0 rfl ((teq hc175).2) ?_
          refine OEndsQ.adv hm_0 5 (pc' := 442) (L' := [qr 0, qu, qu, qu, qi v4, qr 1, qi v6, qu, qu, qu, qi v10, qi v11, qi v12, qi v13, qi v14, qi v15, qi v16, qi v17, qi v18, qi v19, qi v20, qi v21, qi v22, qi 1, qi 0, qu, qu, qu]) (S' := []) (H' := (qa scr :: bk0 zah zad zaf zae zaj zak zay zaz zal zam zba zao zap zaq zar zbc zbd zag zac zai zbb zan zas zau zat zav zaw zax [])) rfl ?_
          exact ok_L_law_442 (k486 := f_L_law_486 (f_L_law_397 k500 scr n) k500 scr) (ok_L_law_486 ih hk500) 100000 h
        · simp only [if_neg hc175] at h
          refine OEndsQ.icmpT hm_0 rfl (q := 436) rfl ((feq hc175).2) ?_
          refine OEndsQ.adv hm_0 4 (pc' := 442) (L' := [qr 0, qu, qu, qu, qi v4, qr 1, qi v6, qu, qu, qu, qi v10, qi v11, qi v12, qi v13, qi v14, qi v15, qi v16, qi v17, qi v18, qi v19, qi v20, qi v21, qi v22, qi 0, qi 0, qu, qu, qu]) (S' := []) (H' := (qa scr :: bk0 zah zad zaf zae zaj zak zay zaz zal zam zba zao zap zaq zar zbc zbd zag zac zai zbb zan zas zau zat zav zaw zax [])) rfl ?_
          exact ok_L_law_442 (k486 := f_L_law_486 (f_L_law_397 k500 scr n) k500 scr) (ok_L_law_486 ih hk500) 100000 h
      · simp only [if_neg hc173] at h
        refine OEndsQ.icmpT hm_0 rfl (q := 494) rfl ((feq hc173).2) ?_
        refine OEndsQ.adv hm_0 2 (pc' := 397) (L' := [qr 0, qu, qu, qu, qi v4, qr 1, qi v6, qu, qu, qu, qi v10, qi v11, qi v12, qi v13, qi v14, qi v15, qi v16, qi v17, qi v18, qi v19, qi v20, qi v21, qi (v22 + (1 : Int32)), qu, qu, qu, qu, qu]) (S' := []) (H' := (qa scr :: bk0 zah zad zaf zae zaj zak zay zaz zal zam zba zao zap zaq zar zbc zbd zag zac zai zbb zan zas zau zat zav zaw zax [])) rfl ?_
        exact ih h
    · simp only [if_neg hc171] at h
      refine OEndsQ.icmpT hm_0 rfl (q := 500) rfl ((flt hc171).2.1) ?_
      show OEndsQ own_P 0 500 [qr 0, qu, qu, qu, qi v4, qr 1, qi v6, qu, qu, qu, qi v10, qi v11, qi v12, qi v13, qi v14, qi v15, qi v16, qi v17, qi v18, qi v19, qi v20, qi v21, qi v22, qu, qu, qu, qu, qu] [] (qa scr :: bk0 zah zad zaf zae zaj zak zay zaz zal zam zba zao zap zaq zar zbc zbd zag zac zai zbb zan zas zau zat zav zaw zax []) _
      exact hk500 h
theorem ok_L_law_369 {scr : List Int32} {k518 : List Int32 → List Int32 → List Int32 → List Int32 → List Int32 → List Int32 → List Int32 → List Int32 → List Int32 → List Int32 → List Int32 → List Int32 → List Int32 → List Int32 → List Int32 → Int32 → Int32 → Int32 → Int32 → Int32 → Int32 → Int32 → Int32 → Int32 → Int32 → Int32 → Int32 → Int32 → Int32 → Int32 → Int32 → Int32 → Int32 → Int32 → Int32 → Int32 → Option (Int32)} (hk518 : ∀ {zah zad zaf zae zaj zak zay zaz zal zam zba zao zap zaq zar : List Int32} {zbc zbd zag zac zai zbb zan zas zau zat zav zaw zax v4 v6 v10 v11 v12 v13 v14 v18 : Int32} {d1 d2 d3 d7 d8 d9 d15 d16 d17 d19 d20 d21 d22 d23 d24 d25 d26 d27 : Slot} {res : Int32}, k518 zah zad zaf zae zaj zak zay zaz zal zam zba zao zap zaq zar zbc zbd zag zac zai zbb zan zas zau zat zav zaw zax v4 v6 v10 v11 v12 v13 v14 v18 = some res → OEndsQ own_P 0 518 [qr 0, d1, d2, d3, qi v4, qr 1, qi v6, d7, d8, d9, qi v10, qi v11, qi v12, qi v13, qi v14, d15, d16, d17, qi v18, d19, d20, d21, d22, d23, d24, d25, d26, d27] [] (qa scr :: bk0 zah zad zaf zae zaj zak zay zaz zal zam zba zao zap zaq zar zbc zbd zag zac zai zbb zan zas zau zat zav zaw zax []) (LawQ res 0 0)) : ∀ (n : Nat), ∀ {zah zad zaf zae zaj zak zay zaz zal zam zba zao zap zaq zar : List Int32} {zbc zbd zag zac zai zbb zan zas zau zat zav zaw zax v4 v6 v10 v11 v12 v13 v14 v15 v16 v17 v18 v19 : Int32} {d1 d2 d3 d7 d8 d9 d20 d21 d22 d23 d24 d25 d26 d27 : Slot} {res : Int32}, f_L_law_369 k518 scr n zah zad zaf zae zaj zak zay zaz zal zam zba zao zap zaq zar zbc zbd zag zac zai zbb zan zas zau zat zav zaw zax v4 v6 v10 v11 v12 v13 v14 v15 v16 v17 v18 v19 = some res → OEndsQ own_P 0 369 [qr 0, d1, d2, d3, qi v4, qr 1, qi v6, d7, d8, d9, qi v10, qi v11, qi v12, qi v13, qi v14, qi v15, qi v16, qi v17, qi v18, qi v19, d20, d21, d22, d23, d24, d25, d26, d27] [] (qa scr :: bk0 zah zad zaf zae zaj zak zay zaz zal zam zba zao zap zaq zar zbc zbd zag zac zai zbb zan zas zau zat zav zaw zax []) (LawQ res 0 0) := by
  intro n
  induction n with
  | zero => intro zah zad zaf zae zaj zak zay zaz zal zam zba zao zap zaq zar zbc zbd zag zac zai zbb zan zas zau zat zav zaw zax v4 v6 v10 v11 v12 v13 v14 v15 v16 v17 v18 v19 d1 d2 d3 d7 d8 d9 d20 d21 d22 d23 d24 d25 d26 d27 res h; cases h
  | succ n ih =>
    intro zah zad zaf zae zaj zak zay zaz zal zam zba zao zap zaq zar zbc zbd zag zac zai zbb zan zas zau zat zav zaw zax v4 v6 v10 v11 v12 v13 v14 v15 v16 v17 v18 v19 d1 d2 d3 d7 d8 d9 d20 d21 d22 d23 d24 d25 d26 d27 res h
    unfold f_L_law_369 at h
    refine OEndsQ.adv hm_0 2 (pc' := 373) (L' := [qr 0, qu, qu, qu, qi v4, qr 1, qi v6, qu, qu, qu, qi v10, qi v11, qi v12, qi v13, qi v14, qi v15, qi v16, qi v17, qi v18, qi v19, qu, qu, qu, qu, qu, qu, qu, qu]) (S' := [.int v6, .int v19]) (H' := (qa scr :: bk0 zah zad zaf zae zaj zak zay zaz zal zam zba zao zap zaq zar zbc zbd zag zac zai zbb zan zas zau zat zav zaw zax [])) rfl ?_
    by_cases hc176 : v19 < v6
    · simp only [if_pos hc176] at h
      refine OEndsQ.icmpF hm_0 rfl ((tlt hc176).2.1) ?_
      refine OEndsQ.adv hm_0 5 (pc' := 385) (L' := [qr 0, qu, qu, qu, qi v4, qr 1, qi v6, qu, qu, qu, qi v10, qi v11, qi v12, qi v13, qi v14, qi v15, qi v16, qi v17, qi v18, qi v19, qu, qu, qu, qu, qu, qu, qu, qu]) (S' := [.int v6, .int (v17 + v19), .int 97]) (H' := (qa scr :: bk0 zah zad zaf zae zaj zak zay zaz zal zam zba zao zap zaq zar zbc zbd zag zac zai zbb zan zas zau zat zav zaw zax [])) rfl ?_
      obtain ⟨r182, hq177, h⟩ := bnd h
      refine OEndsQ.call0 hm_0 rfl rfl (by decide) rfl (as := [.int (v17 + v19), .int v6]) (rest := [.int 97]) rfl rfl (ok_L_mod hq177) ?_
      refine OEndsQ.adv hm_0 6 (pc' := 397) (L' := [qr 0, qu, qu, qu, qi v4, qr 1, qi v6, qu, qu, qu, qi v10, qi v11, qi v12, qi v13, qi v14, qi v15, qi v16, qi v17, qi v18, qi v19, qi ((97 : Int32) + r182), qi 0, qi 0, qu, qu, qu, qu, qu]) (S' := []) (H' := (qa scr :: bk0 zah zad zaf zae zaj zak zay zaz zal zam zba zao zap zaq zar zbc zbd zag zac zai zbb zan zas zau zat zav zaw zax [])) rfl ?_
      exact ok_L_law_397 (k500 := f_L_law_500 (f_L_law_369 k518 scr n) k518 scr) (ok_L_law_500 ih hk518) 100000 h
    · simp only [if_neg hc176] at h
      refine OEndsQ.icmpT hm_0 rfl (q := 518) rfl ((flt hc176).2.1) ?_
      show OEndsQ own_P 0 518 [qr 0, qu, qu, qu, qi v4, qr 1, qi v6, qu, qu, qu, qi v10, qi v11, qi v12, qi v13, qi v14, qi v15, qi v16, qi v17, qi v18, qi v19, qu, qu, qu, qu, qu, qu, qu, qu] [] (qa scr :: bk0 zah zad zaf zae zaj zak zay zaz zal zam zba zao zap zaq zar zbc zbd zag zac zai zbb zan zas zau zat zav zaw zax []) _
      exact hk518 h
theorem ok_L_law_334 {scr : List Int32} {kb : List Int32 → List Int32 → List Int32 → List Int32 → List Int32 → List Int32 → List Int32 → List Int32 → List Int32 → List Int32 → List Int32 → List Int32 → List Int32 → List Int32 → List Int32 → Int32 → Int32 → Int32 → Int32 → Int32 → Int32 → Int32 → Int32 → Int32 → Int32 → Int32 → Int32 → Int32 → Int32 → Int32 → Int32 → Int32 → Int32 → Int32 → Int32 → Option (Int32)} {k151 : List Int32 → List Int32 → List Int32 → List Int32 → List Int32 → List Int32 → List Int32 → List Int32 → List Int32 → List Int32 → List Int32 → List Int32 → List Int32 → List Int32 → List Int32 → Int32 → Int32 → Int32 → Int32 → Int32 → Int32 → Int32 → Int32 → Int32 → Int32 → Int32 → Int32 → Int32 → Int32 → Int32 → Int32 → Int32 → Int32 → Option (Int32)} {k308 : List Int32 → List Int32 → List Int32 → List Int32 → List Int32 → List Int32 → List Int32 → List Int32 → List Int32 → List Int32 → List Int32 → List Int32 → List Int32 → List Int32 → List Int32 → Int32 → Int32 → Int32 → Int32 → Int32 → Int32 → Int32 → Int32 → Int32 → Int32 → Int32 → Int32 → Int32 → Int32 → Int32 → Int32 → Int32 → Int32 → Option (Int32)} (hkb : ∀ {zah zad zaf zae zaj zak zay zaz zal zam zba zao zap zaq zar : List Int32} {zbc zbd zag zac zai zbb zan zas zau zat zav zaw zax v4 v6 v10 v11 v12 v13 v14 : Int32} {d1 d2 d3 d7 d8 d9 d15 d16 d17 d18 d19 d20 d21 d22 d23 d24 d25 d26 d27 : Slot} {res : Int32}, kb zah zad zaf zae zaj zak zay zaz zal zam zba zao zap zaq zar zbc zbd zag zac zai zbb zan zas zau zat zav zaw zax v4 v6 v10 v11 v12 v13 v14 = some res → OEndsQ own_P 0 179 [qr 0, d1, d2, d3, qi v4, qr 1, qi v6, d7, d8, d9, qi v10, qi v11, qi v12, qi v13, qi v14, d15, d16, d17, d18, d19, d20, d21, d22, d23, d24, d25, d26, d27] [] (qa scr :: bk0 zah zad zaf zae zaj zak zay zaz zal zam zba zao zap zaq zar zbc zbd zag zac zai zbb zan zas zau zat zav zaw zax []) (LawQ res 0 0)) (hk151 : ∀ {zah zad zaf zae zaj zak zay zaz zal zam zba zao zap zaq zar : List Int32} {zbc zbd zag zac zai zbb zan zas zau zat zav zaw zax v4 v6 v10 v11 v12 : Int32} {d1 d2 d3 d7 d8 d9 d13 d14 d15 d16 d17 d18 d19 d20 d21 d22 d23 d24 d25 d26 d27 : Slot} {res : Int32}, k151 zah zad zaf zae zaj zak zay zaz zal zam zba zao zap zaq zar zbc zbd zag zac zai zbb zan zas zau zat zav zaw zax v4 v6 v10 v11 v12 = some res → OEndsQ own_P 0 151 [qr 0, d1, d2, d3, qi v4, qr 1, qi v6, d7, d8, d9, qi v10, qi v11, qi v12, d13, d14, d15, d16, d17, d18, d19, d20, d21, d22, d23, d24, d25, d26, d27] [] (qa scr :: bk0 zah zad zaf zae zaj zak zay zaz zal zam zba zao zap zaq zar zbc zbd zag zac zai zbb zan zas zau zat zav zaw zax []) (LawQ res 0 0)) (hk308 : ∀ {zah zad zaf zae zaj zak zay zaz zal zam zba zao zap zaq zar : List Int32} {zbc zbd zag zac zai zbb zan zas zau zat zav zaw zax v4 v6 v10 v11 v12 : Int32} {d1 d2 d3 d7 d8 d9 d13 d14 d15 d16 d17 d18 d19 d20 d21 d22 d23 d24 d25 d26 d27 : Slot} {res : Int32}, k308 zah zad zaf zae zaj zak zay zaz zal zam zba zao zap zaq zar zbc zbd zag zac zai zbb zan zas zau zat zav zaw zax v4 v6 v10 v11 v12 = some res → OEndsQ own_P 0 308 [qr 0, d1, d2, d3, qi v4, qr 1, qi v6, d7, d8, d9, qi v10, qi v11, qi v12, d13, d14, d15, d16, d17, d18, d19, d20, d21, d22, d23, d24, d25, d26, d27] [] (qa scr :: bk0 zah zad zaf zae zaj zak zay zaz zal zam zba zao zap zaq zar zbc zbd zag zac zai zbb zan zas zau zat zav zaw zax []) (LawQ res 0 0)) : ∀ {zah zad zaf zae zaj zak zay zaz zal zam zba zao zap zaq zar : List Int32} {zbc zbd zag zac zai zbb zan zas zau zat zav zaw zax v4 v6 v10 v11 v12 v13 v14 v15 v16 : Int32} {d1 d2 d3 d7 d8 d9 d17 d18 d19 d20 d21 d22 d23 d24 d25 d26 d27 : Slot} {res : Int32}, f_L_law_334 kb k151 k308 scr zah zad zaf zae zaj zak zay zaz zal zam zba zao zap zaq zar zbc zbd zag zac zai zbb zan zas zau zat zav zaw zax v4 v6 v10 v11 v12 v13 v14 v15 v16 = some res → OEndsQ own_P 0 334 [qr 0, d1, d2, d3, qi v4, qr 1, qi v6, d7, d8, d9, qi v10, qi v11, qi v12, qi v13, qi v14, qi v15, qi v16, d17, d18, d19, d20, d21, d22, d23, d24, d25, d26, d27] [] (qa scr :: bk0 zah zad zaf zae zaj zak zay zaz zal zam zba zao zap zaq zar zbc zbd zag zac zai zbb zan zas zau zat zav zaw zax []) (LawQ res 0 0) := by
  intro zah zad zaf zae zaj zak zay zaz zal zam zba zao zap zaq zar zbc zbd zag zac zai zbb zan zas zau zat zav zaw zax v4 v6 v10 v11 v12 v13 v14 v15 v16 d1 d2 d3 d7 d8 d9 d17 d18 d19 d20 d21 d22 d23 d24 d25 d26 d27 res h
  unfold f_L_law_334 at h
  refine OEndsQ.adv hm_0 3 (pc' := 340) (L' := [qr 0, qu, qu, qu, qi v4, qr 1, qi v6, qu, qu, qu, qi v10, qi (v11 + (1 : Int32)), qi v12, qi v13, qi v14, qi v15, qi v16, qu, qu, qu, qu, qu, qu, qu, qu, qu, qu, qu]) (S' := [.int v11, .ref 0]) (H' := (qa scr :: bk0 zah zad zaf zae zaj zak zay zaz zal zam zba zao zap zaq zar zbc zbd zag zac zai zbb zan zas zau zat zav zaw zax [])) rfl ?_
  obtain ⟨r180, hq178, h⟩ := bnd h
  refine OEndsQ.call0 hm_0 rfl rfl (by decide) rfl (as := [.ref 0, .int v11]) (rest := []) rfl rfl (ok_L_cell hq178) ?_
  refine OEndsQ.adv hm_0 1 (pc' := 345) (L' := [qr 0, qu, qu, qu, qi v4, qr 1, qi v6, qu, qu, qu, qi v10, qi (v11 + (1 : Int32)), qi v12, qi v13, qi v14, qi v15, qi v16, qu, qu, qu, qu, qu, qu, qu, qu, qu, qu, qu]) (S' := [.int v6, .int r180]) (H' := (qa scr :: bk0 zah zad zaf zae zaj zak zay zaz zal zam zba zao zap zaq zar zbc zbd zag zac zai zbb zan zas zau zat zav zaw zax [])) rfl ?_
  obtain ⟨r181, hq179, h⟩ := bnd h
  refine OEndsQ.call0 hm_0 rfl rfl (by decide) rfl (as := [.int r180, .int v6]) (rest := []) rfl rfl (ok_L_mod hq179) ?_
  refine OEndsQ.adv hm_0 9 (pc' := 363) (L' := [qr 0, qu, qu, qu, qi v4, qr 1, qi v6, qu, qu, qu, qi v10, qi (v11 + (1 : Int32)), qi v12, qi v13, qi v14, qi v15, qi v16, qi r181, qi ((97 : Int32) + r181), qu, qu, qu, qu, qu, qu, qu, qu, qu]) (S' := [.int v4, .int (v16 + (1 : Int32))]) (H' := (qa scr :: bk0 zah zad zaf zae zaj zak zay zaz zal zam zba zao zap zaq zar zbc zbd zag zac zai zbb zan zas zau zat zav zaw zax [])) rfl ?_
  by_cases hc180 : (v16 + (1 : Int32)) = v4
  · simp only [if_pos hc180] at h
    refine OEndsQ.icmpF hm_0 rfl ((teq hc180).2) ?_
    refine OEndsQ.adv hm_0 2 (pc' := 369) (L' := [qr 0, qu, qu, qu, qi v4, qr 1, qi v6, qu, qu, qu, qi v10, qi (v11 + (1 : Int32)), qi v12, qi v13, qi v14, qi v15, qi v16, qi r181, qi ((97 : Int32) + r181), qi 0, qu, qu, qu, qu, qu, qu, qu, qu]) (S' := []) (H' := (qa scr :: bk0 zah zad zaf zae zaj zak zay zaz zal zam zba zao zap zaq zar zbc zbd zag zac zai zbb zan zas zau zat zav zaw zax [])) rfl ?_
    exact ok_L_law_369 (k518 := f_L_law_518 kb k151 k308 scr) (ok_L_law_518 hkb hk151 hk308) 100000 h
  · simp only [if_neg hc180] at h
    refine OEndsQ.icmpT hm_0 rfl (q := 518) rfl ((feq hc180).2) ?_
    show OEndsQ own_P 0 518 [qr 0, qu, qu, qu, qi v4, qr 1, qi v6, qu, qu, qu, qi v10, qi (v11 + (1 : Int32)), qi v12, qi v13, qi v14, qi v15, qi v16, qi r181, qi ((97 : Int32) + r181), qu, qu, qu, qu, qu, qu, qu, qu, qu] [] (qa scr :: bk0 zah zad zaf zae zaj zak zay zaz zal zam zba zao zap zaq zar zbc zbd zag zac zai zbb zan zas zau zat zav zaw zax []) _
    exact ok_L_law_518 hkb hk151 hk308 h
theorem ok_L_law_308 {scr : List Int32} {kb : List Int32 → List Int32 → List Int32 → List Int32 → List Int32 → List Int32 → List Int32 → List Int32 → List Int32 → List Int32 → List Int32 → List Int32 → List Int32 → List Int32 → List Int32 → Int32 → Int32 → Int32 → Int32 → Int32 → Int32 → Int32 → Int32 → Int32 → Int32 → Int32 → Int32 → Int32 → Int32 → Int32 → Int32 → Int32 → Int32 → Option (Int32)} {k543 : List Int32 → List Int32 → List Int32 → List Int32 → List Int32 → List Int32 → List Int32 → List Int32 → List Int32 → List Int32 → List Int32 → List Int32 → List Int32 → List Int32 → List Int32 → Int32 → Int32 → Int32 → Int32 → Int32 → Int32 → Int32 → Int32 → Int32 → Int32 → Int32 → Int32 → Int32 → Option (Int32)} (hkb : ∀ {zah zad zaf zae zaj zak zay zaz zal zam zba zao zap zaq zar : List Int32} {zbc zbd zag zac zai zbb zan zas zau zat zav zaw zax v4 v6 v10 v11 v12 : Int32} {d1 d2 d3 d7 d8 d9 d13 d14 d15 d16 d17 d18 d19 d20 d21 d22 d23 d24 d25 d26 d27 : Slot} {res : Int32}, kb zah zad zaf zae zaj zak zay zaz zal zam zba zao zap zaq zar zbc zbd zag zac zai zbb zan zas zau zat zav zaw zax v4 v6 v10 v11 v12 = some res → OEndsQ own_P 0 151 [qr 0, d1, d2, d3, qi v4, qr 1, qi v6, d7, d8, d9, qi v10, qi v11, qi v12, d13, d14, d15, d16, d17, d18, d19, d20, d21, d22, d23, d24, d25, d26, d27] [] (qa scr :: bk0 zah zad zaf zae zaj zak zay zaz zal zam zba zao zap zaq zar zbc zbd zag zac zai zbb zan zas zau zat zav zaw zax []) (LawQ res 0 0)) (hk543 : ∀ {zah zad zaf zae zaj zak zay zaz zal zam zba zao zap zaq zar : List Int32} {zag zac zai zbb zan zas zau zat zav zaw zax v6 v11 zbc zbd : Int32} {d1 d2 d3 d4 d7 d8 d9 d10 d12 d13 d14 d15 d16 d17 d18 d19 d20 d21 d22 d23 d24 d25 d26 d27 : Slot} {res : Int32}, k543 zah zad zaf zae zaj zak zay zaz zal zam zba zao zap zaq zar zag zac zai zbb zan zas zau zat zav zaw zax v6 v11 = some res → OEndsQ own_P 0 543 [qr 0, d1, d2, d3, d4, qr 1, qi v6, d7, d8, d9, d10, qi v11, d12, d13, d14, d15, d16, d17, d18, d19, d20, d21, d22, d23, d24, d25, d26, d27] [] (qa scr :: bk0 zah zad zaf zae zaj zak zay zaz zal zam zba zao zap zaq zar zbc zbd zag zac zai zbb zan zas zau zat zav zaw zax []) (LawQ res 0 0)) : ∀ {zah zad zaf zae zaj zak zay zaz zal zam zba zao zap zaq zar : List Int32} {zbc zbd zag zac zai zbb zan zas zau zat zav zaw zax v4 v6 v10 v11 v12 : Int32} {d1 d2 d3 d7 d8 d9 d13 d14 d15 d16 d17 d18 d19 d20 d21 d22 d23 d24 d25 d26 d27 : Slot} {res : Int32}, f_L_law_308 kb k543 scr zah zad zaf zae zaj zak zay zaz zal zam zba zao zap zaq zar zbc zbd zag zac zai zbb zan zas zau zat zav zaw zax v4 v6 v10 v11 v12 = some res → OEndsQ own_P 0 308 [qr 0, d1, d2, d3, qi v4, qr 1, qi v6, d7, d8, d9, qi v10, qi v11, qi v12, d13, d14, d15, d16, d17, d18, d19, d20, d21, d22, d23, d24, d25, d26, d27] [] (qa scr :: bk0 zah zad zaf zae zaj zak zay zaz zal zam zba zao zap zaq zar zbc zbd zag zac zai zbb zan zas zau zat zav zaw zax []) (LawQ res 0 0) := by
  intro zah zad zaf zae zaj zak zay zaz zal zam zba zao zap zaq zar zbc zbd zag zac zai zbb zan zas zau zat zav zaw zax v4 v6 v10 v11 v12 d1 d2 d3 d7 d8 d9 d13 d14 d15 d16 d17 d18 d19 d20 d21 d22 d23 d24 d25 d26 d27 res h
  unfold f_L_law_308 at h
  refine OEndsQ.adv hm_0 5 (pc' := 318) (L' := [qr 0, qu, qu, qu, qi v4, qr 1, qi v6, qu, qu, qu, qi v10, qi (v11 + (1 : Int32)), qi v12, qu, qu, qu, qu, qu, qu, qu, qu, qu, qu, qu, qu, qu, qu, qu]) (S' := [.int v11, .ref 0, .int 32, .ref 1]) (H' := (qa scr :: bk0 zah zad zaf zae zaj zak zay zaz zal zam zba zao zap zaq zar zbc zbd zag zac zai zbb zan zas zau zat zav zaw zax [])) rfl ?_
  obtain ⟨r172, hq181, h⟩ := bnd h
  refine OEndsQ.call0 hm_0 rfl rfl (by decide) rfl (as := [.ref 0, .int v11]) (rest := [.int 32, .ref 1]) rfl rfl (ok_L_cell hq181) ?_
  refine OEndsQ.adv hm_0 1 (pc' := 323) (L' := [qr 0, qu, qu, qu, qi v4, qr 1, qi v6, qu, qu, qu, qi v10, qi (v11 + (1 : Int32)), qi v12, qu, qu, qu, qu, qu, qu, qu, qu, qu, qu, qu, qu, qu, qu, qu]) (S' := [.int 95, .int r172, .int 32, .ref 1]) (H' := (qa scr :: bk0 zah zad zaf zae zaj zak zay zaz zal zam zba zao zap zaq zar zbc zbd zag zac zai zbb zan zas zau zat zav zaw zax [])) rfl ?_
  obtain ⟨r173, hq182, h⟩ := bnd h
  refine OEndsQ.call0 hm_0 rfl rfl (by decide) rfl (as := [.int r172, .int 95]) (rest := [.int 32, .ref 1]) rfl rfl (ok_L_mod hq182) ?_
  refine OEndsQ.adv hm_0 1 (pc' := 327) (L' := [qr 0, qu, qu, qu, qi v4, qr 1, qi v6, qu, qu, qu, qi v10, qi (v11 + (1 : Int32)), qi v12, qu, qu, qu, qu, qu, qu, qu, qu, qu, qu, qu, qu, qu, qu, qu]) (S' := [.int ((32 : Int32) + r173), .ref 1]) (H' := (qa scr :: bk0 zah zad zaf zae zaj zak zay zaz zal zam zba zao zap zaq zar zbc zbd zag zac zai zbb zan zas zau zat zav zaw zax [])) rfl ?_
  obtain ⟨⟨r174, s175, s176, s177, s178, s179⟩, hq183, h⟩ := bnd h
  refine OEndsQ.call0 hm_0 rfl rfl (by decide) rfl (as := [.ref 1, .int ((32 : Int32) + r173)]) (rest := []) rfl rfl (ok_endKeyword hq183) ?_
  refine OEndsQ.adv hm_0 4 (pc' := 151) (L' := [qr 0, qu, qu, qu, qi v4, qr 1, qi v6, qu, qu, qu, qi v10, qi (v11 + (1 : Int32)), qi (v12 + (1 : Int32)), qu, qu, qu, qu, qu, qu, qu, qu, qu, qu, qu, qu, qu, qu, qu]) (S' := []) (H' := (qa scr :: bk0 s175 s176 s177 zae zaj zak zay zaz zal zam zba zao zap zaq zar zbc zbd zag s178 s179 zbb zan zas zau zat zav zaw zax [])) rfl ?_
  exact hkb h
theorem ok_L_law_303 {scr : List Int32} {kb : List Int32 → List Int32 → List Int32 → List Int32 → List Int32 → List Int32 → List Int32 → List Int32 → List Int32 → List Int32 → List Int32 → List Int32 → List Int32 → List Int32 → List Int32 → Int32 → Int32 → Int32 → Int32 → Int32 → Int32 → Int32 → Int32 → Int32 → Int32 → Int32 → Int32 → Int32 → Int32 → Int32 → Int32 → Int32 → Int32 → Int32 → Int32 → Option (Int32)} {k151 : List Int32 → List Int32 → List Int32 → List Int32 → List Int32 → List Int32 → List Int32 → List Int32 → List Int32 → List Int32 → List Int32 → List Int32 → List Int32 → List Int32 → List Int32 → Int32 → Int32 → Int32 → Int32 → Int32 → Int32 → Int32 → Int32 → Int32 → Int32 → Int32 → Int32 → Int32 → Int32 → Int32 → Int32 → Int32 → Int32 → Option (Int32)} {k308 : List Int32 → List Int32 → List Int32 → List Int32 → List Int32 → List Int32 → List Int32 → List Int32 → List Int32 → List Int32 → List Int32 → List Int32 → List Int32 → List Int32 → List Int32 → Int32 → Int32 → Int32 → Int32 → Int32 → Int32 → Int32 → Int32 → Int32 → Int32 → Int32 → Int32 → Int32 → Int32 → Int32 → Int32 → Int32 → Int32 → Option (Int32)} (hkb : ∀ {zah zad zaf zae zaj zak zay zaz zal zam zba zao zap zaq zar : List Int32} {zbc zbd zag zac zai zbb zan zas zau zat zav zaw zax v4 v6 v10 v11 v12 v13 v14 : Int32} {d1 d2 d3 d7 d8 d9 d15 d16 d17 d18 d19 d20 d21 d22 d23 d24 d25 d26 d27 : Slot} {res : Int32}, kb zah zad zaf zae zaj zak zay zaz zal zam zba zao zap zaq zar zbc zbd zag zac zai zbb zan zas zau zat zav zaw zax v4 v6 v10 v11 v12 v13 v14 = some res → OEndsQ own_P 0 179 [qr 0, d1, d2, d3, qi v4, qr 1, qi v6, d7, d8, d9, qi v10, qi v11, qi v12, qi v13, qi v14, d15, d16, d17, d18, d19, d20, d21, d22, d23, d24, d25, d26, d27] [] (qa scr :: bk0 zah zad zaf zae zaj zak zay zaz zal zam zba zao zap zaq zar zbc zbd zag zac zai zbb zan zas zau zat zav zaw zax []) (LawQ res 0 0)) (hk151 : ∀ {zah zad zaf zae zaj zak zay zaz zal zam zba zao zap zaq zar : List Int32} {zbc zbd zag zac zai zbb zan zas zau zat zav zaw zax v4 v6 v10 v11 v12 : Int32} {d1 d2 d3 d7 d8 d9 d13 d14 d15 d16 d17 d18 d19 d20 d21 d22 d23 d24 d25 d26 d27 : Slot} {res : Int32}, k151 zah zad zaf zae zaj zak zay zaz zal zam zba zao zap zaq zar zbc zbd zag zac zai zbb zan zas zau zat zav zaw zax v4 v6 v10 v11 v12 = some res → OEndsQ own_P 0 151 [qr 0, d1, d2, d3, qi v4, qr 1, qi v6, d7, d8, d9, qi v10, qi v11, qi v12, d13, d14, d15, d16, d17, d18, d19, d20, d21, d22, d23, d24, d25, d26, d27] [] (qa scr :: bk0 zah zad zaf zae zaj zak zay zaz zal zam zba zao zap zaq zar zbc zbd zag zac zai zbb zan zas zau zat zav zaw zax []) (LawQ res 0 0)) (hk308 : ∀ {zah zad zaf zae zaj zak zay zaz zal zam zba zao zap zaq zar : List Int32} {zbc zbd zag zac zai zbb zan zas zau zat zav zaw zax v4 v6 v10 v11 v12 : Int32} {d1 d2 d3 d7 d8 d9 d13 d14 d15 d16 d17 d18 d19 d20 d21 d22 d23 d24 d25 d26 d27 : Slot} {res : Int32}, k308 zah zad zaf zae zaj zak zay zaz zal zam zba zao zap zaq zar zbc zbd zag zac zai zbb zan zas zau zat zav zaw zax v4 v6 v10 v11 v12 = some res → OEndsQ own_P 0 308 [qr 0, d1, d2, d3, qi v4, qr 1, qi v6, d7, d8, d9, qi v10, qi v11, qi v12, d13, d14, d15, d16, d17, d18, d19, d20, d21, d22, d23, d24, d25, d26, d27] [] (qa scr :: bk0 zah zad zaf zae zaj zak zay zaz zal zam zba zao zap zaq zar zbc zbd zag zac zai zbb zan zas zau zat zav zaw zax []) (LawQ res 0 0)) : ∀ {zah zad zaf zae zaj zak zay zaz zal zam zba zao zap zaq zar : List Int32} {zbc zbd zag zac zai zbb zan zas zau zat zav zaw zax v4 v6 v10 v11 v12 v13 v14 v15 v16 v17 : Int32} {d1 d2 d3 d7 d8 d9 d18 d19 d20 d21 d22 d23 d24 d25 d26 d27 : Slot} {res : Int32}, f_L_law_303 kb k151 k308 scr zah zad zaf zae zaj zak zay zaz zal zam zba zao zap zaq zar zbc zbd zag zac zai zbb zan zas zau zat zav zaw zax v4 v6 v10 v11 v12 v13 v14 v15 v16 v17 = some res → OEndsQ own_P 0 303 [qr 0, d1, d2, d3, qi v4, qr 1, qi v6, d7, d8, d9, qi v10, qi v11, qi v12, qi v13, qi v14, qi v15, qi v16, qi v17, d18, d19, d20, d21, d22, d23, d24, d25, d26, d27] [] (qa scr :: bk0 zah zad zaf zae zaj zak zay zaz zal zam zba zao zap zaq zar zbc zbd zag zac zai zbb zan zas zau zat zav zaw zax []) (LawQ res 0 0) := by
  intro zah zad zaf zae zaj zak zay zaz zal zam zba zao zap zaq zar zbc zbd zag zac zai zbb zan zas zau zat zav zaw zax v4 v6 v10 v11 v12 v13 v14 v15 v16 v17 d1 d2 d3 d7 d8 d9 d18 d19 d20 d21 d22 d23 d24 d25 d26 d27 res h
  unfold f_L_law_303 at h
  refine OEndsQ.adv hm_0 1 (pc' := 305) (L' := [qr 0, qu, qu, qu, qi v4, qr 1, qi v6, qu, qu, qu, qi v10, qi v11, qi v12, qi v13, qi v14, qi v15, qi v16, qi v17, qu, qu, qu, qu, qu, qu, qu, qu, qu, qu]) (S' := [.int v17]) (H' := (qa scr :: bk0 zah zad zaf zae zaj zak zay zaz zal zam zba zao zap zaq zar zbc zbd zag zac zai zbb zan zas zau zat zav zaw zax [])) rfl ?_
  by_cases hc184 : v17 = (0 : Int32)
  · simp only [if_pos hc184] at h
    refine OEndsQ.ifF hm_0 rfl ((teq hc184).2) ?_
    show OEndsQ own_P 0 308 [qr 0, qu, qu, qu, qi v4, qr 1, qi v6, qu, qu, qu, qi v10, qi v11, qi v12, qi v13, qi v14, qi v15, qi v16, qi v17, qu, qu, qu, qu, qu, qu, qu, qu, qu, qu] [] (qa scr :: bk0 zah zad zaf zae zaj zak zay zaz zal zam zba zao zap zaq zar zbc zbd zag zac zai zbb zan zas zau zat zav zaw zax []) _
    exact hk308 h
  · simp only [if_neg hc184] at h
    refine OEndsQ.ifT hm_0 rfl (q := 334) rfl ((feq hc184).2) ?_
    show OEndsQ own_P 0 334 [qr 0, qu, qu, qu, qi v4, qr 1, qi v6, qu, qu, qu, qi v10, qi v11, qi v12, qi v13, qi v14, qi v15, qi v16, qi v17, qu, qu, qu, qu, qu, qu, qu, qu, qu, qu] [] (qa scr :: bk0 zah zad zaf zae zaj zak zay zaz zal zam zba zao zap zaq zar zbc zbd zag zac zai zbb zan zas zau zat zav zaw zax []) _
    exact ok_L_law_334 hkb hk151 hk308 h
theorem ok_L_law_289 {scr : List Int32} {kb : List Int32 → List Int32 → List Int32 → List Int32 → List Int32 → List Int32 → List Int32 → List Int32 → List Int32 → List Int32 → List Int32 → List Int32 → List Int32 → List Int32 → List Int32 → Int32 → Int32 → Int32 → Int32 → Int32 → Int32 → Int32 → Int32 → Int32 → Int32 → Int32 → Int32 → Int32 → Int32 → Int32 → Int32 → Int32 → Int32 → Int32 → Int32 → Int32 → Int32 → Int32 → Int32 → Option (Int32)} {k303 : List Int32 → List Int32 → List Int32 → List Int32 → List Int32 → List Int32 → List Int32 → List Int32 → List Int32 → List Int32 → List Int32 → List Int32 → List Int32 → List Int32 → List Int32 → Int32 → Int32 → Int32 → Int32 → Int32 → Int32 → Int32 → Int32 → Int32 → Int32 → Int32 → Int32 → Int32 → Int32 → Int32 → Int32 → Int32 → Int32 → Int32 → Int32 → Int32 → Int32 → Int32 → Option (Int32)} (hkb : ∀ {zah zad zaf zae zaj zak zay zaz zal zam zba zao zap zaq zar : List Int32} {zbc zbd zag zac zai zbb zan zas zau zat zav zaw zax v4 v6 v10 v11 v12 v13 v14 v15 v16 v17 v18 : Int32} {d1 d2 d3 d7 d8 d9 d19 d20 d21 d22 d23 d24 d25 d26 d27 : Slot} {res : Int32}, kb zah zad zaf zae zaj zak zay zaz zal zam zba zao zap zaq zar zbc zbd zag zac zai zbb zan zas zau zat zav zaw zax v4 v6 v10 v11 v12 v13 v14 v15 v16 v17 v18 = some res → OEndsQ own_P 0 215 [qr 0, d1, d2, d3, qi v4, qr 1, qi v6, d7, d8, d9, qi v10, qi v11, qi v12, qi v13, qi v14, qi v15, qi v16, qi v17, qi v18, d19, d20, d21, d22, d23, d24, d25, d26, d27] [] (qa scr :: bk0 zah zad zaf zae zaj zak zay zaz zal zam zba zao zap zaq zar zbc zbd zag zac zai zbb zan zas zau zat zav zaw zax []) (LawQ res 0 0)) (hk303 : ∀ {zah zad zaf zae zaj zak zay zaz zal zam zba zao zap zaq zar : List Int32} {zbc zbd zag zac zai zbb zan zas zau zat zav zaw zax v4 v6 v10 v11 v12 v13 v14 v15 v16 v17 : Int32} {d1 d2 d3 d7 d8 d9 d18 d19 d20 d21 d22 d23 d24 d25 d26 d27 : Slot} {res : Int32}, k303 zah zad zaf zae zaj zak zay zaz zal zam zba zao zap zaq zar zbc zbd zag zac zai zbb zan zas zau zat zav zaw zax v4 v6 v10 v11 v12 v13 v14 v15 v16 v17 = some res → OEndsQ own_P 0 303 [qr 0, d1, d2, d3, qi v4, qr 1, qi v6, d7, d8, d9, qi v10, qi v11, qi v12, qi v13, qi v14, qi v15, qi v16, qi v17, d18, d19, d20, d21, d22, d23, d24, d25, d26, d27] [] (qa scr :: bk0 zah zad zaf zae zaj zak zay zaz zal zam zba zao zap zaq zar zbc zbd zag zac zai zbb zan zas zau zat zav zaw zax []) (LawQ res 0 0)) : ∀ {zah zad zaf zae zaj zak zay zaz zal zam zba zao zap zaq zar : List Int32} {zbc zbd zag zac zai zbb zan zas zau zat zav zaw zax v4 v6 v10 v11 v12 v13 v14 v15 v16 v17 v18 v19 : Int32} {d1 d2 d3 d7 d8 d9 d20 d21 d22 d23 d24 d25 d26 d27 : Slot} {res : Int32}, f_L_law_289 kb k303 scr zah zad zaf zae zaj zak zay zaz zal zam zba zao zap zaq zar zbc zbd zag zac zai zbb zan zas zau zat zav zaw zax v4 v6 v10 v11 v12 v13 v14 v15 v16 v17 v18 v19 = some res → OEndsQ own_P 0 289 [qr 0, d1, d2, d3, qi v4, qr 1, qi v6, d7, d8, d9, qi v10, qi v11, qi v12, qi v13, qi v14, qi v15, qi v16, qi v17, qi v18, qi v19, d20, d21, d22, d23, d24, d25, d26, d27] [] (qa scr :: bk0 zah zad zaf zae zaj zak zay zaz zal zam zba zao zap zaq zar zbc zbd zag zac zai zbb zan zas zau zat zav zaw zax []) (LawQ res 0 0) := by
  intro zah zad zaf zae zaj zak zay zaz zal zam zba zao zap zaq zar zbc zbd zag zac zai zbb zan zas zau zat zav zaw zax v4 v6 v10 v11 v12 v13 v14 v15 v16 v17 v18 v19 d1 d2 d3 d7 d8 d9 d20 d21 d22 d23 d24 d25 d26 d27 res h
  unfold f_L_law_289 at h
  refine OEndsQ.adv hm_0 1 (pc' := 291) (L' := [qr 0, qu, qu, qu, qi v4, qr 1, qi v6, qu, qu, qu, qi v10, qi v11, qi v12, qi v13, qi v14, qi v15, qi v16, qi v17, qi v18, qi v19, qu, qu, qu, qu, qu, qu, qu, qu]) (S' := [.int v19]) (H' := (qa scr :: bk0 zah zad zaf zae zaj zak zay zaz zal zam zba zao zap zaq zar zbc zbd zag zac zai zbb zan zas zau zat zav zaw zax [])) rfl ?_
  by_cases hc185 : v19 = (0 : Int32)
  · simp only [if_pos hc185] at h
    refine OEndsQ.ifT hm_0 rfl (q := 297) rfl ((teq hc185).1) ?_
    refine OEndsQ.adv hm_0 2 (pc' := 215) (L' := [qr 0, qu, qu, qu, qi v4, qr 1, qi v6, qu, qu, qu, qi v10, qi v11, qi v12, qi v13, qi v14, qi v15, qi v16, qi v17, qi (v18 + (1 : Int32)), qi v19, qu, qu, qu, qu, qu, qu, qu, qu]) (S' := []) (H' := (qa scr :: bk0 zah zad zaf zae zaj zak zay zaz zal zam zba zao zap zaq zar zbc zbd zag zac zai zbb zan zas zau zat zav zaw zax [])) rfl ?_
    exact hkb h
  · simp only [if_neg hc185] at h
    refine OEndsQ.ifF hm_0 rfl ((feq hc185).1) ?_
    refine OEndsQ.adv hm_0 4 (pc' := 215) (L' := [qr 0, qu, qu, qu, qi v4, qr 1, qi v6, qu, qu, qu, qi v10, qi v11, qi v12, qi v13, qi v14, qi v15, qi v16, qi 1, qi (v18 + (1 : Int32)), qi v19, qu, qu, qu, qu, qu, qu, qu, qu]) (S' := []) (H' := (qa scr :: bk0 zah zad zaf zae zaj zak zay zaz zal zam zba zao zap zaq zar zbc zbd zag zac zai zbb zan zas zau zat zav zaw zax [])) rfl ?_
    exact hkb h
theorem ok_L_law_245 {scr : List Int32} {k289 : List Int32 → List Int32 → List Int32 → List Int32 → List Int32 → List Int32 → List Int32 → List Int32 → List Int32 → List Int32 → List Int32 → List Int32 → List Int32 → List Int32 → List Int32 → Int32 → Int32 → Int32 → Int32 → Int32 → Int32 → Int32 → Int32 → Int32 → Int32 → Int32 → Int32 → Int32 → Int32 → Int32 → Int32 → Int32 → Int32 → Int32 → Int32 → Int32 → Int32 → Int32 → Int32 → Int32 → Option (Int32)} (hk289 : ∀ {zah zad zaf zae zaj zak zay zaz zal zam zba zao zap zaq zar : List Int32} {zbc zbd zag zac zai zbb zan zas zau zat zav zaw zax v4 v6 v10 v11 v12 v13 v14 v15 v16 v17 v18 v19 : Int32} {d1 d2 d3 d7 d8 d9 d20 d21 d22 d23 d24 d25 d26 d27 : Slot} {res : Int32}, k289 zah zad zaf zae zaj zak zay zaz zal zam zba zao zap zaq zar zbc zbd zag zac zai zbb zan zas zau zat zav zaw zax v4 v6 v10 v11 v12 v13 v14 v15 v16 v17 v18 v19 = some res → OEndsQ own_P 0 289 [qr 0, d1, d2, d3, qi v4, qr 1, qi v6, d7, d8, d9, qi v10, qi v11, qi v12, qi v13, qi v14, qi v15, qi v16, qi v17, qi v18, qi v19, d20, d21, d22, d23, d24, d25, d26, d27] [] (qa scr :: bk0 zah zad zaf zae zaj zak zay zaz zal zam zba zao zap zaq zar zbc zbd zag zac zai zbb zan zas zau zat zav zaw zax []) (LawQ res 0 0)) : ∀ (n : Nat), ∀ {zah zad zaf zae zaj zak zay zaz zal zam zba zao zap zaq zar : List Int32} {zbc zbd zag zac zai zbb zan zas zau zat zav zaw zax v4 v6 v10 v11 v12 v13 v14 v15 v16 v17 v18 v19 v20 : Int32} {d1 d2 d3 d7 d8 d9 d21 d22 d23 d24 d25 d26 d27 : Slot} {res : Int32}, f_L_law_245 k289 scr n zah zad zaf zae zaj zak zay zaz zal zam zba zao zap zaq zar zbc zbd zag zac zai zbb zan zas zau zat zav zaw zax v4 v6 v10 v11 v12 v13 v14 v15 v16 v17 v18 v19 v20 = some res → OEndsQ own_P 0 245 [qr 0, d1, d2, d3, qi v4, qr 1, qi v6, d7, d8, d9, qi v10, qi v11, qi v12, qi v13, qi v14, qi v15, qi v16, qi v17, qi v18, qi v19, qi v20, d21, d22, d23, d24, d25, d26, d27] [] (qa scr :: bk0 zah zad zaf zae zaj zak zay zaz zal zam zba zao zap zaq zar zbc zbd zag zac zai zbb zan zas zau zat zav zaw zax []) (LawQ res 0 0) := by
  intro n
  induction n with
  | zero => intro zah zad zaf zae zaj zak zay zaz zal zam zba zao zap zaq zar zbc zbd zag zac zai zbb zan zas zau zat zav zaw zax v4 v6 v10 v11 v12 v13 v14 v15 v16 v17 v18 v19 v20 d1 d2 d3 d7 d8 d9 d21 d22 d23 d24 d25 d26 d27 res h; cases h
  | succ n ih =>
    intro zah zad zaf zae zaj zak zay zaz zal zam zba zao zap zaq zar zbc zbd zag zac zai zbb zan zas zau zat zav zaw zax v4 v6 v10 v11 v12 v13 v14 v15 v16 v17 v18 v19 v20 d1 d2 d3 d7 d8 d9 d21 d22 d23 d24 d25 d26 d27 res h
    unfold f_L_law_245 at h
    refine OEndsQ.adv hm_0 2 (pc' := 249) (L' := [qr 0, qu, qu, qu, qi v4, qr 1, qi v6, qu, qu, qu, qi v10, qi v11, qi v12, qi v13, qi v14, qi v15, qi v16, qi v17, qi v18, qi v19, qi v20, qu, qu, qu, qu, qu, qu, qu]) (S' := [.int v16, .int v20]) (H' := (qa scr :: bk0 zah zad zaf zae zaj zak zay zaz zal zam zba zao zap zaq zar zbc zbd zag zac zai zbb zan zas zau zat zav zaw zax [])) rfl ?_
    by_cases hc186 : v20 < v16
    · simp only [if_pos hc186] at h
      refine OEndsQ.icmpF hm_0 rfl ((tlt hc186).2.1) ?_
      refine OEndsQ.adv hm_0 2 (pc' := 256) (L' := [qr 0, qu, qu, qu, qi v4, qr 1, qi v6, qu, qu, qu, qi v10, qi v11, qi v12, qi v13, qi v14, qi v15, qi v16, qi v17, qi v18, qi v19, qi v20, qu, qu, qu, qu, qu, qu, qu]) (S' := [.int 8, .int v20]) (H' := (qa scr :: bk0 zah zad zaf zae zaj zak zay zaz zal zam zba zao zap zaq zar zbc zbd zag zac zai zbb zan zas zau zat zav zaw zax [])) rfl ?_
      by_cases hc187 : v20 < (8 : Int32)
      · simp only [if_pos hc187] at h
        refine OEndsQ.icmpF hm_0 rfl ((tlt hc187).2.1) ?_
        refine OEndsQ.adv hm_0 3 (pc' := 265) (L' := [qr 0, qu, qu, qu, qi v4, qr 1, qi v6, qu, qu, qu, qi v10, qi v11, qi v12, qi v13, qi v14, qi v15, qi v16, qi v17, qi v18, qi v19, qi v20, qu, qu, qu, qu, qu, qu, qu]) (S' := [.int v20, .int v18, .ref 1]) (H' := (qa scr :: bk0 zah zad zaf zae zaj zak zay zaz zal zam zba zao zap zaq zar zbc zbd zag zac zai zbb zan zas zau zat zav zaw zax [])) rfl ?_
        obtain ⟨r170, hq188, h⟩ := bnd h
        refine OEndsQ.call0 hm_0 rfl rfl (by decide) rfl (as := [.ref 1, .int v18, .int v20]) (rest := []) rfl rfl (ok_keywordChar hq188) ?_
        refine OEndsQ.adv hm_0 3 (pc' := 274) (L' := [qr 0, qu, qu, qu, qi v4, qr 1, qi v6, qu, qu, qu, qi v10, qi v11, qi v12, qi v13, qi v14, qi v15, qi v16, qi v17, qi v18, qi v19, qi v20, qu, qu, qu, qu, qu, qu, qu]) (S' := [.int v20, .int v15, .ref 1, .int r170]) (H' := (qa scr :: bk0 zah zad zaf zae zaj zak zay zaz zal zam zba zao zap zaq zar zbc zbd zag zac zai zbb zan zas zau zat zav zaw zax [])) rfl ?_
        obtain ⟨r171, hq189, h⟩ := bnd h
        refine OEndsQ.call0 hm_0 rfl rfl (by decide) rfl (as := [.ref 1, .int v15, .int v20]) (rest := [.int r170]) rfl rfl (ok_keywordChar hq189) ?_
        show OEndsQ own_P 0 277 [qr 0, qu, qu, qu, qi v4, qr 1, qi v6, qu, qu, qu, qi v10, qi v11, qi v12, qi v13, qi v14, qi v15, qi v16, qi v17, qi v18, qi v19, qi v20, qu, qu, qu, qu, qu, qu, qu] [.int r171, .int r170] (qa scr :: bk0 zah zad zaf zae zaj zak zay zaz zal zam zba zao zap zaq zar zbc zbd zag zac zai zbb zan zas zau zat zav zaw zax []) _
        by_cases hc190 : r170 = r171
        · simp only [if_pos hc190] at h
          refine OEndsQ.icmpT hm_0 rfl (q := 283) rfl ((teq hc190).1) ?_
          refine OEndsQ.adv hm_0 2 (pc' := 245) (L' := [qr 0, qu, qu, qu, qi v4, qr 1, qi v6, qu, qu, qu, qi v10, qi v11, qi v12, qi v13, qi v14, qi v15, qi v16, qi v17, qi v18, qi v19, qi (v20 + (1 : Int32)), qu, qu, qu, qu, qu, qu, qu]) (S' := []) (H' := (qa scr :: bk0 zah zad zaf zae zaj zak zay zaz zal zam zba zao zap zaq zar zbc zbd zag zac zai zbb zan zas zau zat zav zaw zax [])) rfl ?_
          exact ih h
        · simp only [if_neg hc190] at h
          refine OEndsQ.icmpF hm_0 rfl ((feq hc190).1) ?_
          refine OEndsQ.adv hm_0 4 (pc' := 245) (L' := [qr 0, qu, qu, qu, qi v4, qr 1, qi v6, qu, qu, qu, qi v10, qi v11, qi v12, qi v13, qi v14, qi v15, qi v16, qi v17, qi v18, qi 0, qi (v20 + (1 : Int32)), qu, qu, qu, qu, qu, qu, qu]) (S' := []) (H' := (qa scr :: bk0 zah zad zaf zae zaj zak zay zaz zal zam zba zao zap zaq zar zbc zbd zag zac zai zbb zan zas zau zat zav zaw zax [])) rfl ?_
          exact ih h
      · simp only [if_neg hc187] at h
        refine OEndsQ.icmpT hm_0 rfl (q := 289) rfl ((flt hc187).2.1) ?_
        show OEndsQ own_P 0 289 [qr 0, qu, qu, qu, qi v4, qr 1, qi v6, qu, qu, qu, qi v10, qi v11, qi v12, qi v13, qi v14, qi v15, qi v16, qi v17, qi v18, qi v19, qi v20, qu, qu, qu, qu, qu, qu, qu] [] (qa scr :: bk0 zah zad zaf zae zaj zak zay zaz zal zam zba zao zap zaq zar zbc zbd zag zac zai zbb zan zas zau zat zav zaw zax []) _
        exact hk289 h
    · simp only [if_neg hc186] at h
      refine OEndsQ.icmpT hm_0 rfl (q := 289) rfl ((flt hc186).2.1) ?_
      show OEndsQ own_P 0 289 [qr 0, qu, qu, qu, qi v4, qr 1, qi v6, qu, qu, qu, qi v10, qi v11, qi v12, qi v13, qi v14, qi v15, qi v16, qi v17, qi v18, qi v19, qi v20, qu, qu, qu, qu, qu, qu, qu] [] (qa scr :: bk0 zah zad zaf zae zaj zak zay zaz zal zam zba zao zap zaq zar zbc zbd zag zac zai zbb zan zas zau zat zav zaw zax []) _
      exact hk289 h
theorem ok_L_law_215 {scr : List Int32} {k303 : List Int32 → List Int32 → List Int32 → List Int32 → List Int32 → List Int32 → List Int32 → List Int32 → List Int32 → List Int32 → List Int32 → List Int32 → List Int32 → List Int32 → List Int32 → Int32 → Int32 → Int32 → Int32 → Int32 → Int32 → Int32 → Int32 → Int32 → Int32 → Int32 → Int32 → Int32 → Int32 → Int32 → Int32 → Int32 → Int32 → Int32 → Int32 → Int32 → Int32 → Int32 → Option (Int32)} (hk303 : ∀ {zah zad zaf zae zaj zak zay zaz zal zam zba zao zap zaq zar : List Int32} {zbc zbd zag zac zai zbb zan zas zau zat zav zaw zax v4 v6 v10 v11 v12 v13 v14 v15 v16 v17 : Int32} {d1 d2 d3 d7 d8 d9 d18 d19 d20 d21 d22 d23 d24 d25 d26 d27 : Slot} {res : Int32}, k303 zah zad zaf zae zaj zak zay zaz zal zam zba zao zap zaq zar zbc zbd zag zac zai zbb zan zas zau zat zav zaw zax v4 v6 v10 v11 v12 v13 v14 v15 v16 v17 = some res → OEndsQ own_P 0 303 [qr 0, d1, d2, d3, qi v4, qr 1, qi v6, d7, d8, d9, qi v10, qi v11, qi v12, qi v13, qi v14, qi v15, qi v16, qi v17, d18, d19, d20, d21, d22, d23, d24, d25, d26, d27] [] (qa scr :: bk0 zah zad zaf zae zaj zak zay zaz zal zam zba zao zap zaq zar zbc zbd zag zac zai zbb zan zas zau zat zav zaw zax []) (LawQ res 0 0)) : ∀ (n : Nat), ∀ {zah zad zaf zae zaj zak zay zaz zal zam zba zao zap zaq zar : List Int32} {zbc zbd zag zac zai zbb zan zas zau zat zav zaw zax v4 v6 v10 v11 v12 v13 v14 v15 v16 v17 v18 : Int32} {d1 d2 d3 d7 d8 d9 d19 d20 d21 d22 d23 d24 d25 d26 d27 : Slot} {res : Int32}, f_L_law_215 k303 scr n zah zad zaf zae zaj zak zay zaz zal zam zba zao zap zaq zar zbc zbd zag zac zai zbb zan zas zau zat zav zaw zax v4 v6 v10 v11 v12 v13 v14 v15 v16 v17 v18 = some res → OEndsQ own_P 0 215 [qr 0, d1, d2, d3, qi v4, qr 1, qi v6, d7, d8, d9, qi v10, qi v11, qi v12, qi v13, qi v14, qi v15, qi v16, qi v17, qi v18, d19, d20, d21, d22, d23, d24, d25, d26, d27] [] (qa scr :: bk0 zah zad zaf zae zaj zak zay zaz zal zam zba zao zap zaq zar zbc zbd zag zac zai zbb zan zas zau zat zav zaw zax []) (LawQ res 0 0) := by
  intro n
  induction n with
  | zero => intro zah zad zaf zae zaj zak zay zaz zal zam zba zao zap zaq zar zbc zbd zag zac zai zbb zan zas zau zat zav zaw zax v4 v6 v10 v11 v12 v13 v14 v15 v16 v17 v18 d1 d2 d3 d7 d8 d9 d19 d20 d21 d22 d23 d24 d25 d26 d27 res h; cases h
  | succ n ih =>
    intro zah zad zaf zae zaj zak zay zaz zal zam zba zao zap zaq zar zbc zbd zag zac zai zbb zan zas zau zat zav zaw zax v4 v6 v10 v11 v12 v13 v14 v15 v16 v17 v18 d1 d2 d3 d7 d8 d9 d19 d20 d21 d22 d23 d24 d25 d26 d27 res h
    unfold f_L_law_215 at h
    refine OEndsQ.adv hm_0 2 (pc' := 219) (L' := [qr 0, qu, qu, qu, qi v4, qr 1, qi v6, qu, qu, qu, qi v10, qi v11, qi v12, qi v13, qi v14, qi v15, qi v16, qi v17, qi v18, qu, qu, qu, qu, qu, qu, qu, qu, qu]) (S' := [.int v15, .int v18]) (H' := (qa scr :: bk0 zah zad zaf zae zaj zak zay zaz zal zam zba zao zap zaq zar zbc zbd zag zac zai zbb zan zas zau zat zav zaw zax [])) rfl ?_
    by_cases hc191 : v18 < v15
    · simp only [if_pos hc191] at h
      refine OEndsQ.icmpF hm_0 rfl ((tlt hc191).2.1) ?_
      refine OEndsQ.adv hm_0 1 (pc' := 224) (L' := [qr 0, qu, qu, qu, qi v4, qr 1, qi v6, qu, qu, qu, qi v10, qi v11, qi v12, qi v13, qi v14, qi v15, qi v16, qi v17, qi v18, qu, qu, qu, qu, qu, qu, qu, qu, qu]) (S' := [.int v17]) (H' := (qa scr :: bk0 zah zad zaf zae zaj zak zay zaz zal zam zba zao zap zaq zar zbc zbd zag zac zai zbb zan zas zau zat zav zaw zax [])) rfl ?_
      by_cases hc192 : v17 = (0 : Int32)
      · simp only [if_pos hc192] at h
        refine OEndsQ.ifF hm_0 rfl ((teq hc192).2) ?_
        refine OEndsQ.adv hm_0 2 (pc' := 231) (L' := [qr 0, qu, qu, qu, qi v4, qr 1, qi v6, qu, qu, qu, qi v10, qi v11, qi v12, qi v13, qi v14, qi v15, qi v16, qi v17, qi v18, qu, qu, qu, qu, qu, qu, qu, qu, qu]) (S' := [.int v18, .ref 1]) (H' := (qa scr :: bk0 zah zad zaf zae zaj zak zay zaz zal zam zba zao zap zaq zar zbc zbd zag zac zai zbb zan zas zau zat zav zaw zax [])) rfl ?_
        obtain ⟨r169, hq193, h⟩ := bnd h
        refine OEndsQ.call0 hm_0 rfl rfl (by decide) rfl (as := [.ref 1, .int v18]) (rest := []) rfl rfl (ok_keywordLength hq193) ?_
        refine OEndsQ.adv hm_0 1 (pc' := 236) (L' := [qr 0, qu, qu, qu, qi v4, qr 1, qi v6, qu, qu, qu, qi v10, qi v11, qi v12, qi v13, qi v14, qi v15, qi v16, qi v17, qi v18, qu, qu, qu, qu, qu, qu, qu, qu, qu]) (S' := [.int v16, .int r169]) (H' := (qa scr :: bk0 zah zad zaf zae zaj zak zay zaz zal zam zba zao zap zaq zar zbc zbd zag zac zai zbb zan zas zau zat zav zaw zax [])) rfl ?_
        by_cases hc194 : r169 = v16
        · simp only [if_pos hc194] at h
          refine OEndsQ.icmpF hm_0 rfl ((teq hc194).2) ?_
          refine OEndsQ.adv hm_0 4 (pc' := 245) (L' := [qr 0, qu, qu, qu, qi v4, qr 1, qi v6, qu, qu, qu, qi v10, qi v11, qi v12, qi v13, qi v14, qi v15, qi v16, qi v17, qi v18, qi 1, qi 0, qu, qu, qu, qu, qu, qu, qu]) (S' := []) (H' := (qa scr :: bk0 zah zad zaf zae zaj zak zay zaz zal zam zba zao zap zaq zar zbc zbd zag zac zai zbb zan zas zau zat zav zaw zax [])) rfl ?_
          exact ok_L_law_245 (k289 := f_L_law_289 (f_L_law_215 k303 scr n) k303 scr) (ok_L_law_289 ih hk303) 100000 h
        · simp only [if_neg hc194] at h
          refine OEndsQ.icmpT hm_0 rfl (q := 297) rfl ((feq hc194).2) ?_
          refine OEndsQ.adv hm_0 2 (pc' := 215) (L' := [qr 0, qu, qu, qu, qi v4, qr 1, qi v6, qu, qu, qu, qi v10, qi v11, qi v12, qi v13, qi v14, qi v15, qi v16, qi v17, qi (v18 + (1 : Int32)), qu, qu, qu, qu, qu, qu, qu, qu, qu]) (S' := []) (H' := (qa scr :: bk0 zah zad zaf zae zaj zak zay zaz zal zam zba zao zap zaq zar zbc zbd zag zac zai zbb zan zas zau zat zav zaw zax [])) rfl ?_
          exact ih h
      · simp only [if_neg hc192] at h
        refine OEndsQ.ifT hm_0 rfl (q := 303) rfl ((feq hc192).2) ?_
        show OEndsQ own_P 0 303 [qr 0, qu, qu, qu, qi v4, qr 1, qi v6, qu, qu, qu, qi v10, qi v11, qi v12, qi v13, qi v14, qi v15, qi v16, qi v17, qi v18, qu, qu, qu, qu, qu, qu, qu, qu, qu] [] (qa scr :: bk0 zah zad zaf zae zaj zak zay zaz zal zam zba zao zap zaq zar zbc zbd zag zac zai zbb zan zas zau zat zav zaw zax []) _
        exact hk303 h
    · simp only [if_neg hc191] at h
      refine OEndsQ.icmpT hm_0 rfl (q := 303) rfl ((flt hc191).2.1) ?_
      show OEndsQ own_P 0 303 [qr 0, qu, qu, qu, qi v4, qr 1, qi v6, qu, qu, qu, qi v10, qi v11, qi v12, qi v13, qi v14, qi v15, qi v16, qi v17, qi v18, qu, qu, qu, qu, qu, qu, qu, qu, qu] [] (qa scr :: bk0 zah zad zaf zae zaj zak zay zaz zal zam zba zao zap zaq zar zbc zbd zag zac zai zbb zan zas zau zat zav zaw zax []) _
      exact hk303 h
theorem ok_L_law_179 {scr : List Int32} {k151 : List Int32 → List Int32 → List Int32 → List Int32 → List Int32 → List Int32 → List Int32 → List Int32 → List Int32 → List Int32 → List Int32 → List Int32 → List Int32 → List Int32 → List Int32 → Int32 → Int32 → Int32 → Int32 → Int32 → Int32 → Int32 → Int32 → Int32 → Int32 → Int32 → Int32 → Int32 → Int32 → Int32 → Int32 → Int32 → Int32 → Option (Int32)} {k308 : List Int32 → List Int32 → List Int32 → List Int32 → List Int32 → List Int32 → List Int32 → List Int32 → List Int32 → List Int32 → List Int32 → List Int32 → List Int32 → List Int32 → List Int32 → Int32 → Int32 → Int32 → Int32 → Int32 → Int32 → Int32 → Int32 → Int32 → Int32 → Int32 → Int32 → Int32 → Int32 → Int32 → Int32 → Int32 → Int32 → Option (Int32)} (hk151 : ∀ {zah zad zaf zae zaj zak zay zaz zal zam zba zao zap zaq zar : List Int32} {zbc zbd zag zac zai zbb zan zas zau zat zav zaw zax v4 v6 v10 v11 v12 : Int32} {d1 d2 d3 d7 d8 d9 d13 d14 d15 d16 d17 d18 d19 d20 d21 d22 d23 d24 d25 d26 d27 : Slot} {res : Int32}, k151 zah zad zaf zae zaj zak zay zaz zal zam zba zao zap zaq zar zbc zbd zag zac zai zbb zan zas zau zat zav zaw zax v4 v6 v10 v11 v12 = some res → OEndsQ own_P 0 151 [qr 0, d1, d2, d3, qi v4, qr 1, qi v6, d7, d8, d9, qi v10, qi v11, qi v12, d13, d14, d15, d16, d17, d18, d19, d20, d21, d22, d23, d24, d25, d26, d27] [] (qa scr :: bk0 zah zad zaf zae zaj zak zay zaz zal zam zba zao zap zaq zar zbc zbd zag zac zai zbb zan zas zau zat zav zaw zax []) (LawQ res 0 0)) (hk308 : ∀ {zah zad zaf zae zaj zak zay zaz zal zam zba zao zap zaq zar : List Int32} {zbc zbd zag zac zai zbb zan zas zau zat zav zaw zax v4 v6 v10 v11 v12 : Int32} {d1 d2 d3 d7 d8 d9 d13 d14 d15 d16 d17 d18 d19 d20 d21 d22 d23 d24 d25 d26 d27 : Slot} {res : Int32}, k308 zah zad zaf zae zaj zak zay zaz zal zam zba zao zap zaq zar zbc zbd zag zac zai zbb zan zas zau zat zav zaw zax v4 v6 v10 v11 v12 = some res → OEndsQ own_P 0 308 [qr 0, d1, d2, d3, qi v4, qr 1, qi v6, d7, d8, d9, qi v10, qi v11, qi v12, d13, d14, d15, d16, d17, d18, d19, d20, d21, d22, d23, d24, d25, d26, d27] [] (qa scr :: bk0 zah zad zaf zae zaj zak zay zaz zal zam zba zao zap zaq zar zbc zbd zag zac zai zbb zan zas zau zat zav zaw zax []) (LawQ res 0 0)) : ∀ (n : Nat), ∀ {zah zad zaf zae zaj zak zay zaz zal zam zba zao zap zaq zar : List Int32} {zbc zbd zag zac zai zbb zan zas zau zat zav zaw zax v4 v6 v10 v11 v12 v13 v14 : Int32} {d1 d2 d3 d7 d8 d9 d15 d16 d17 d18 d19 d20 d21 d22 d23 d24 d25 d26 d27 : Slot} {res : Int32}, f_L_law_179 k151 k308 scr n zah zad zaf zae zaj zak zay zaz zal zam zba zao zap zaq zar zbc zbd zag zac zai zbb zan zas zau zat zav zaw zax v4 v6 v10 v11 v12 v13 v14 = some res → OEndsQ own_P 0 179 [qr 0, d1, d2, d3, qi v4, qr 1, qi v6, d7, d8, d9, qi v10, qi v11, qi v12, qi v13, qi v14, d15, d16, d17, d18, d19, d20, d21, d22, d23, d24, d25, d26, d27] [] (qa scr :: bk0 zah zad zaf zae zaj zak zay zaz zal zam zba zao zap zaq zar zbc zbd zag zac zai zbb zan zas zau zat zav zaw zax []) (LawQ res 0 0) := by
  intro n
  induction n with
  | zero => intro zah zad zaf zae zaj zak zay zaz zal zam zba zao zap zaq zar zbc zbd zag zac zai zbb zan zas zau zat zav zaw zax v4 v6 v10 v11 v12 v13 v14 d1 d2 d3 d7 d8 d9 d15 d16 d17 d18 d19 d20 d21 d22 d23 d24 d25 d26 d27 res h; cases h
  | succ n ih =>
    intro zah zad zaf zae zaj zak zay zaz zal zam zba zao zap zaq zar zbc zbd zag zac zai zbb zan zas zau zat zav zaw zax v4 v6 v10 v11 v12 v13 v14 d1 d2 d3 d7 d8 d9 d15 d16 d17 d18 d19 d20 d21 d22 d23 d24 d25 d26 d27 res h
    unfold f_L_law_179 at h
    refine OEndsQ.adv hm_0 2 (pc' := 183) (L' := [qr 0, qu, qu, qu, qi v4, qr 1, qi v6, qu, qu, qu, qi v10, qi v11, qi v12, qi v13, qi v14, qu, qu, qu, qu, qu, qu, qu, qu, qu, qu, qu, qu, qu]) (S' := [.int v4, .int v14]) (H' := (qa scr :: bk0 zah zad zaf zae zaj zak zay zaz zal zam zba zao zap zaq zar zbc zbd zag zac zai zbb zan zas zau zat zav zaw zax [])) rfl ?_
    by_cases hc195 : v4 < v14
    · simp only [if_pos hc195] at h
      refine OEndsQ.icmpT hm_0 rfl (q := 537) rfl ((tlt hc195).2.2.1) ?_
      refine OEndsQ.adv hm_0 2 (pc' := 151) (L' := [qr 0, qu, qu, qu, qi v4, qr 1, qi v6, qu, qu, qu, qi v10, qi v11, qi (v12 + (1 : Int32)), qi v13, qi v14, qu, qu, qu, qu, qu, qu, qu, qu, qu, qu, qu, qu, qu]) (S' := []) (H' := (qa scr :: bk0 zah zad zaf zae zaj zak zay zaz zal zam zba zao zap zaq zar zbc zbd zag zac zai zbb zan zas zau zat zav zaw zax [])) rfl ?_
      exact hk151 h
    · simp only [if_neg hc195] at h
      refine OEndsQ.icmpF hm_0 rfl ((flt hc195).2.2.1) ?_
      refine OEndsQ.adv hm_0 1 (pc' := 188) (L' := [qr 0, qu, qu, qu, qi v4, qr 1, qi v6, qu, qu, qu, qi v10, qi v11, qi v12, qi v13, qi v14, qu, qu, qu, qu, qu, qu, qu, qu, qu, qu, qu, qu, qu]) (S' := [.ref 1]) (H' := (qa scr :: bk0 zah zad zaf zae zaj zak zay zaz zal zam zba zao zap zaq zar zbc zbd zag zac zai zbb zan zas zau zat zav zaw zax [])) rfl ?_
      obtain ⟨r167, hq196, h⟩ := bnd h
      refine OEndsQ.call0 hm_0 rfl rfl (by decide) rfl (as := [.ref 1]) (rest := []) rfl rfl (ok_keywordCount hq196) ?_
      refine OEndsQ.adv hm_0 3 (pc' := 197) (L' := [qr 0, qu, qu, qu, qi v4, qr 1, qi v6, qu, qu, qu, qi v10, qi v11, qi v12, qi v13, qi v14, qi r167, qu, qu, qu, qu, qu, qu, qu, qu, qu, qu, qu, qu]) (S' := [.int r167, .ref 1]) (H' := (qa scr :: bk0 zah zad zaf zae zaj zak zay zaz zal zam zba zao zap zaq zar zbc zbd zag zac zai zbb zan zas zau zat zav zaw zax [])) rfl ?_
      obtain ⟨r168, hq197, h⟩ := bnd h
      refine OEndsQ.call0 hm_0 rfl rfl (by decide) rfl (as := [.ref 1, .int r167]) (rest := []) rfl rfl (ok_keywordLength hq197) ?_
      refine OEndsQ.adv hm_0 3 (pc' := 206) (L' := [qr 0, qu, qu, qu, qi v4, qr 1, qi v6, qu, qu, qu, qi v10, qi v11, qi v12, qi v13, qi v14, qi r167, qi r168, qu, qu, qu, qu, qu, qu, qu, qu, qu, qu, qu]) (S' := [.int v13, .int r168]) (H' := (qa scr :: bk0 zah zad zaf zae zaj zak zay zaz zal zam zba zao zap zaq zar zbc zbd zag zac zai zbb zan zas zau zat zav zaw zax [])) rfl ?_
      by_cases hc198 : r168 < v13
      · simp only [if_pos hc198] at h
        refine OEndsQ.icmpT hm_0 rfl (q := 334) rfl ((tlt hc198).1) ?_
        show OEndsQ own_P 0 334 [qr 0, qu, qu, qu, qi v4, qr 1, qi v6, qu, qu, qu, qi v10, qi v11, qi v12, qi v13, qi v14, qi r167, qi r168, qu, qu, qu, qu, qu, qu, qu, qu, qu, qu, qu] [] (qa scr :: bk0 zah zad zaf zae zaj zak zay zaz zal zam zba zao zap zaq zar zbc zbd zag zac zai zbb zan zas zau zat zav zaw zax []) _
        exact ok_L_law_334 ih hk151 hk308 h
      · simp only [if_neg hc198] at h
        refine OEndsQ.icmpF hm_0 rfl ((flt hc198).1) ?_
        refine OEndsQ.adv hm_0 4 (pc' := 215) (L' := [qr 0, qu, qu, qu, qi v4, qr 1, qi v6, qu, qu, qu, qi v10, qi v11, qi v12, qi v13, qi v14, qi r167, qi r168, qi 0, qi 0, qu, qu, qu, qu, qu, qu, qu, qu, qu]) (S' := []) (H' := (qa scr :: bk0 zah zad zaf zae zaj zak zay zaz zal zam zba zao zap zaq zar zbc zbd zag zac zai zbb zan zas zau zat zav zaw zax [])) rfl ?_
        exact ok_L_law_215 (k303 := f_L_law_303 (f_L_law_179 k151 k308 scr n) k151 k308 scr) (ok_L_law_303 ih hk151 hk308) 100000 h
theorem ok_L_law_151 {scr : List Int32} {k543 : List Int32 → List Int32 → List Int32 → List Int32 → List Int32 → List Int32 → List Int32 → List Int32 → List Int32 → List Int32 → List Int32 → List Int32 → List Int32 → List Int32 → List Int32 → Int32 → Int32 → Int32 → Int32 → Int32 → Int32 → Int32 → Int32 → Int32 → Int32 → Int32 → Int32 → Int32 → Option (Int32)} (hk543 : ∀ {zah zad zaf zae zaj zak zay zaz zal zam zba zao zap zaq zar : List Int32} {zag zac zai zbb zan zas zau zat zav zaw zax v6 v11 zbc zbd : Int32} {d1 d2 d3 d4 d7 d8 d9 d10 d12 d13 d14 d15 d16 d17 d18 d19 d20 d21 d22 d23 d24 d25 d26 d27 : Slot} {res : Int32}, k543 zah zad zaf zae zaj zak zay zaz zal zam zba zao zap zaq zar zag zac zai zbb zan zas zau zat zav zaw zax v6 v11 = some res → OEndsQ own_P 0 543 [qr 0, d1, d2, d3, d4, qr 1, qi v6, d7, d8, d9, d10, qi v11, d12, d13, d14, d15, d16, d17, d18, d19, d20, d21, d22, d23, d24, d25, d26, d27] [] (qa scr :: bk0 zah zad zaf zae zaj zak zay zaz zal zam zba zao zap zaq zar zbc zbd zag zac zai zbb zan zas zau zat zav zaw zax []) (LawQ res 0 0)) : ∀ (n : Nat), ∀ {zah zad zaf zae zaj zak zay zaz zal zam zba zao zap zaq zar : List Int32} {zbc zbd zag zac zai zbb zan zas zau zat zav zaw zax v4 v6 v10 v11 v12 : Int32} {d1 d2 d3 d7 d8 d9 d13 d14 d15 d16 d17 d18 d19 d20 d21 d22 d23 d24 d25 d26 d27 : Slot} {res : Int32}, f_L_law_151 k543 scr n zah zad zaf zae zaj zak zay zaz zal zam zba zao zap zaq zar zbc zbd zag zac zai zbb zan zas zau zat zav zaw zax v4 v6 v10 v11 v12 = some res → OEndsQ own_P 0 151 [qr 0, d1, d2, d3, qi v4, qr 1, qi v6, d7, d8, d9, qi v10, qi v11, qi v12, d13, d14, d15, d16, d17, d18, d19, d20, d21, d22, d23, d24, d25, d26, d27] [] (qa scr :: bk0 zah zad zaf zae zaj zak zay zaz zal zam zba zao zap zaq zar zbc zbd zag zac zai zbb zan zas zau zat zav zaw zax []) (LawQ res 0 0) := by
  intro n
  induction n with
  | zero => intro zah zad zaf zae zaj zak zay zaz zal zam zba zao zap zaq zar zbc zbd zag zac zai zbb zan zas zau zat zav zaw zax v4 v6 v10 v11 v12 d1 d2 d3 d7 d8 d9 d13 d14 d15 d16 d17 d18 d19 d20 d21 d22 d23 d24 d25 d26 d27 res h; cases h
  | succ n ih =>
    intro zah zad zaf zae zaj zak zay zaz zal zam zba zao zap zaq zar zbc zbd zag zac zai zbb zan zas zau zat zav zaw zax v4 v6 v10 v11 v12 d1 d2 d3 d7 d8 d9 d13 d14 d15 d16 d17 d18 d19 d20 d21 d22 d23 d24 d25 d26 d27 res h
    unfold f_L_law_151 at h
    refine OEndsQ.adv hm_0 2 (pc' := 155) (L' := [qr 0, qu, qu, qu, qi v4, qr 1, qi v6, qu, qu, qu, qi v10, qi v11, qi v12, qu, qu, qu, qu, qu, qu, qu, qu, qu, qu, qu, qu, qu, qu, qu]) (S' := [.int v10, .int v12]) (H' := (qa scr :: bk0 zah zad zaf zae zaj zak zay zaz zal zam zba zao zap zaq zar zbc zbd zag zac zai zbb zan zas zau zat zav zaw zax [])) rfl ?_
    by_cases hc199 : v12 < v10
    · simp only [if_pos hc199] at h
      refine OEndsQ.icmpF hm_0 rfl ((tlt hc199).2.1) ?_
      refine OEndsQ.adv hm_0 4 (pc' := 165) (L' := [qr 0, qu, qu, qu, qi v4, qr 1, qi v6, qu, qu, qu, qi v10, qi (v11 + (1 : Int32)), qi v12, qu, qu, qu, qu, qu, qu, qu, qu, qu, qu, qu, qu, qu, qu, qu]) (S' := [.int v11, .ref 0, .int 1]) (H' := (qa scr :: bk0 zah zad zaf zae zaj zak zay zaz zal zam zba zao zap zaq zar zbc zbd zag zac zai zbb zan zas zau zat zav zaw zax [])) rfl ?_
      obtain ⟨r165, hq200, h⟩ := bnd h
      refine OEndsQ.call0 hm_0 rfl rfl (by decide) rfl (as := [.ref 0, .int v11]) (rest := [.int 1]) rfl rfl (ok_L_cell hq200) ?_
      refine OEndsQ.adv hm_0 1 (pc' := 170) (L' := [qr 0, qu, qu, qu, qi v4, qr 1, qi v6, qu, qu, qu, qi v10, qi (v11 + (1 : Int32)), qi v12, qu, qu, qu, qu, qu, qu, qu, qu, qu, qu, qu, qu, qu, qu, qu]) (S' := [.int v4, .int r165, .int 1]) (H' := (qa scr :: bk0 zah zad zaf zae zaj zak zay zaz zal zam zba zao zap zaq zar zbc zbd zag zac zai zbb zan zas zau zat zav zaw zax [])) rfl ?_
      obtain ⟨r166, hq201, h⟩ := bnd h
      refine OEndsQ.call0 hm_0 rfl rfl (by decide) rfl (as := [.int r165, .int v4]) (rest := [.int 1]) rfl rfl (ok_L_mod hq201) ?_
      refine OEndsQ.adv hm_0 4 (pc' := 179) (L' := [qr 0, qu, qu, qu, qi v4, qr 1, qi v6, qu, qu, qu, qi v10, qi (v11 + (1 : Int32)), qi v12, qi ((1 : Int32) + r166), qi 0, qu, qu, qu, qu, qu, qu, qu, qu, qu, qu, qu, qu, qu]) (S' := []) (H' := (qa scr :: bk0 zah zad zaf zae zaj zak zay zaz zal zam zba zao zap zaq zar zbc zbd zag zac zai zbb zan zas zau zat zav zaw zax [])) rfl ?_
      exact ok_L_law_179 (k151 := f_L_law_151 k543 scr n) (k308 := f_L_law_308 (f_L_law_151 k543 scr n) k543 scr) ih (ok_L_law_308 ih hk543) 100000 h
    · simp only [if_neg hc199] at h
      refine OEndsQ.icmpT hm_0 rfl (q := 543) rfl ((flt hc199).2.1) ?_
      show OEndsQ own_P 0 543 [qr 0, qu, qu, qu, qi v4, qr 1, qi v6, qu, qu, qu, qi v10, qi v11, qi v12, qu, qu, qu, qu, qu, qu, qu, qu, qu, qu, qu, qu, qu, qu, qu] [] (qa scr :: bk0 zah zad zaf zae zaj zak zay zaz zal zam zba zao zap zaq zar zbc zbd zag zac zai zbb zan zas zau zat zav zaw zax []) _
      exact hk543 h
theorem ok_L_law_129 {scr : List Int32} : ∀ {zah zad zaf zae zaj zak zay zaz zal zam zba zao zap zaq zar : List Int32} {zbc zbd zag zac zai zbb zan zas zau zat zav zaw zax v4 v6 t0 : Int32} {d1 d2 d3 d7 d8 d9 d10 d11 d12 d13 d14 d15 d16 d17 d18 d19 d20 d21 d22 d23 d24 d25 d26 d27 : Slot} {res : Int32}, f_L_law_129 scr zah zad zaf zae zaj zak zay zaz zal zam zba zao zap zaq zar zbc zbd zag zac zai zbb zan zas zau zat zav zaw zax v4 v6 t0 = some res → OEndsQ own_P 0 129 [qr 0, d1, d2, d3, qi v4, qr 1, qi v6, d7, d8, d9, d10, d11, d12, d13, d14, d15, d16, d17, d18, d19, d20, d21, d22, d23, d24, d25, d26, d27] [.int t0] (qa scr :: bk0 zah zad zaf zae zaj zak zay zaz zal zam zba zao zap zaq zar zbc zbd zag zac zai zbb zan zas zau zat zav zaw zax []) (LawQ res 0 0) := by
  intro zah zad zaf zae zaj zak zay zaz zal zam zba zao zap zaq zar zbc zbd zag zac zai zbb zan zas zau zat zav zaw zax v4 v6 t0 d1 d2 d3 d7 d8 d9 d10 d11 d12 d13 d14 d15 d16 d17 d18 d19 d20 d21 d22 d23 d24 d25 d26 d27 res h
  unfold f_L_law_129 at h
  refine OEndsQ.adv hm_0 4 (pc' := 134) (L' := [qr 0, qu, qu, qu, qi v4, qr 1, qi v6, qu, qu, qi t0, qu, qu, qu, qu, qu, qu, qu, qu, qu, qu, qu, qu, qu, qu, qu, qu, qu, qu]) (S' := [.int 3, .ref 0, .int 1]) (H' := (qa scr :: bk0 zah zad zaf zae zaj zak zay zaz zal zam zba zao zap zaq zar zbc zbd zag zac zai zbb zan zas zau zat zav zaw zax [])) rfl ?_
  obtain ⟨r163, hq202, h⟩ := bnd h
  refine OEndsQ.call0 hm_0 rfl rfl (by decide) rfl (as := [.ref 0, .int 3]) (rest := [.int 1]) rfl rfl (ok_L_cell hq202) ?_
  refine OEndsQ.adv hm_0 1 (pc' := 139) (L' := [qr 0, qu, qu, qu, qi v4, qr 1, qi v6, qu, qu, qi t0, qu, qu, qu, qu, qu, qu, qu, qu, qu, qu, qu, qu, qu, qu, qu, qu, qu, qu]) (S' := [.int t0, .int r163, .int 1]) (H' := (qa scr :: bk0 zah zad zaf zae zaj zak zay zaz zal zam zba zao zap zaq zar zbc zbd zag zac zai zbb zan zas zau zat zav zaw zax [])) rfl ?_
  obtain ⟨r164, hq203, h⟩ := bnd h
  refine OEndsQ.call0 hm_0 rfl rfl (by decide) rfl (as := [.int r163, .int t0]) (rest := [.int 1]) rfl rfl (ok_L_mod hq203) ?_
  refine OEndsQ.adv hm_0 6 (pc' := 151) (L' := [qr 0, qu, qu, qu, qi v4, qr 1, qi v6, qu, qu, qi t0, qi ((1 : Int32) + r164), qi 4, qi 0, qu, qu, qu, qu, qu, qu, qu, qu, qu, qu, qu, qu, qu, qu, qu]) (S' := []) (H' := (qa scr :: bk0 zah zad zaf zae zaj zak zay zaz zal zam zba zao zap zaq zar zbc zbd zag zac zai zbb zan zas zau zat zav zaw zax [])) rfl ?_
  exact ok_L_law_151 (k543 := f_L_law_543 scr) ok_L_law_543 100000 h
theorem ok_L_law_117 {scr : List Int32} : ∀ {zah zad zaf zae zaj zak zay zaz zal zam zba zao zap zaq zar : List Int32} {zbc zbd zag zac zai zbb zan zas zau zat zav zaw zax v3 v4 v6 v7 : Int32} {d1 d2 d8 d9 d10 d11 d12 d13 d14 d15 d16 d17 d18 d19 d20 d21 d22 d23 d24 d25 d26 d27 : Slot} {res : Int32}, f_L_law_117 scr zah zad zaf zae zaj zak zay zaz zal zam zba zao zap zaq zar zbc zbd zag zac zai zbb zan zas zau zat zav zaw zax v3 v4 v6 v7 = some res → OEndsQ own_P 0 117 [qr 0, d1, d2, qi v3, qi v4, qr 1, qi v6, qi v7, d8, d9, d10, d11, d12, d13, d14, d15, d16, d17, d18, d19, d20, d21, d22, d23, d24, d25, d26, d27] [] (qa scr :: bk0 zah zad zaf zae zaj zak zay zaz zal zam zba zao zap zaq zar zbc zbd zag zac zai zbb zan zas zau zat zav zaw zax []) (LawQ res 0 0) := by
  intro zah zad zaf zae zaj zak zay zaz zal zam zba zao zap zaq zar zbc zbd zag zac zai zbb zan zas zau zat zav zaw zax v3 v4 v6 v7 d1 d2 d8 d9 d10 d11 d12 d13 d14 d15 d16 d17 d18 d19 d20 d21 d22 d23 d24 d25 d26 d27 res h
  unfold f_L_law_117 at h
  refine OEndsQ.adv hm_0 2 (pc' := 120) (L' := [qr 0, qu, qu, qi v3, qi v4, qr 1, qi v6, qi v7, qu, qu, qu, qu, qu, qu, qu, qu, qu, qu, qu, qu, qu, qu, qu, qu, qu, qu, qu, qu]) (S' := [.int v7, .int v3]) (H' := (qa scr :: bk0 zah zad zaf zae zaj zak zay zaz zal zam zba zao zap zaq zar zbc zbd zag zac zai zbb zan zas zau zat zav zaw zax [])) rfl ?_
  by_cases hc204 : v3 < v7
  · simp only [if_pos hc204] at h
    refine OEndsQ.icmpF hm_0 rfl ((tlt hc204).2.1) ?_
    refine OEndsQ.adv hm_0 2 (pc' := 129) (L' := [qr 0, qu, qu, qi v3, qi v4, qr 1, qi v6, qi v7, qu, qu, qu, qu, qu, qu, qu, qu, qu, qu, qu, qu, qu, qu, qu, qu, qu, qu, qu, qu]) (S' := [.int v3]) (H' := (qa scr :: bk0 zah zad zaf zae zaj zak zay zaz zal zam zba zao zap zaq zar zbc zbd zag zac zai zbb zan zas zau zat zav zaw zax [])) rfl ?_
    exact ok_L_law_129 h
  · simp only [if_neg hc204] at h
    refine OEndsQ.icmpT hm_0 rfl (q := 127) rfl ((flt hc204).2.1) ?_
    refine OEndsQ.adv hm_0 1 (pc' := 129) (L' := [qr 0, qu, qu, qi v3, qi v4, qr 1, qi v6, qi v7, qu, qu, qu, qu, qu, qu, qu, qu, qu, qu, qu, qu, qu, qu, qu, qu, qu, qu, qu, qu]) (S' := [.int v7]) (H' := (qa scr :: bk0 zah zad zaf zae zaj zak zay zaz zal zam zba zao zap zaq zar zbc zbd zag zac zai zbb zan zas zau zat zav zaw zax [])) rfl ?_
    exact ok_L_law_129 h
theorem ok_L_law_76 {scr : List Int32} {k117 : List Int32 → List Int32 → List Int32 → List Int32 → List Int32 → List Int32 → List Int32 → List Int32 → List Int32 → List Int32 → List Int32 → List Int32 → List Int32 → List Int32 → List Int32 → Int32 → Int32 → Int32 → Int32 → Int32 → Int32 → Int32 → Int32 → Int32 → Int32 → Int32 → Int32 → Int32 → Int32 → Int32 → Int32 → Int32 → Option (Int32)} (hk117 : ∀ {zah zad zaf zae zaj zak zay zaz zal zam zba zao zap zaq zar : List Int32} {zbc zbd zag zac zai zbb zan zas zau zat zav zaw zax v3 v4 v6 v7 : Int32} {d1 d2 d8 d9 d10 d11 d12 d13 d14 d15 d16 d17 d18 d19 d20 d21 d22 d23 d24 d25 d26 d27 : Slot} {res : Int32}, k117 zah zad zaf zae zaj zak zay zaz zal zam zba zao zap zaq zar zbc zbd zag zac zai zbb zan zas zau zat zav zaw zax v3 v4 v6 v7 = some res → OEndsQ own_P 0 117 [qr 0, d1, d2, qi v3, qi v4, qr 1, qi v6, qi v7, d8, d9, d10, d11, d12, d13, d14, d15, d16, d17, d18, d19, d20, d21, d22, d23, d24, d25, d26, d27] [] (qa scr :: bk0 zah zad zaf zae zaj zak zay zaz zal zam zba zao zap zaq zar zbc zbd zag zac zai zbb zan zas zau zat zav zaw zax []) (LawQ res 0 0)) : ∀ (n : Nat), ∀ {zah zad zaf zae zaj zak zay zaz zal zam zba zao zap zaq zar : List Int32} {zbc zbd zag zac zai zbb zan zas zau zat zav zaw zax v3 v4 v6 v7 v8 v9 : Int32} {d1 d2 d10 d11 d12 d13 d14 d15 d16 d17 d18 d19 d20 d21 d22 d23 d24 d25 d26 d27 : Slot} {res : Int32}, f_L_law_76 k117 scr n zah zad zaf zae zaj zak zay zaz zal zam zba zao zap zaq zar zbc zbd zag zac zai zbb zan zas zau zat zav zaw zax v3 v4 v6 v7 v8 v9 = some res → OEndsQ own_P 0 76 [qr 0, d1, d2, qi v3, qi v4, qr 1, qi v6, qi v7, qi v8, qi v9, d10, d11, d12, d13, d14, d15, d16, d17, d18, d19, d20, d21, d22, d23, d24, d25, d26, d27] [] (qa scr :: bk0 zah zad zaf zae zaj zak zay zaz zal zam zba zao zap zaq zar zbc zbd zag zac zai zbb zan zas zau zat zav zaw zax []) (LawQ res 0 0) := by
  intro n
  induction n with
  | zero => intro zah zad zaf zae zaj zak zay zaz zal zam zba zao zap zaq zar zbc zbd zag zac zai zbb zan zas zau zat zav zaw zax v3 v4 v6 v7 v8 v9 d1 d2 d10 d11 d12 d13 d14 d15 d16 d17 d18 d19 d20 d21 d22 d23 d24 d25 d26 d27 res h; cases h
  | succ n ih =>
    intro zah zad zaf zae zaj zak zay zaz zal zam zba zao zap zaq zar zbc zbd zag zac zai zbb zan zas zau zat zav zaw zax v3 v4 v6 v7 v8 v9 d1 d2 d10 d11 d12 d13 d14 d15 d16 d17 d18 d19 d20 d21 d22 d23 d24 d25 d26 d27 res h
    unfold f_L_law_76 at h
    refine OEndsQ.adv hm_0 2 (pc' := 80) (L' := [qr 0, qu, qu, qi v3, qi v4, qr 1, qi v6, qi v7, qi v8, qi v9, qu, qu, qu, qu, qu, qu, qu, qu, qu, qu, qu, qu, qu, qu, qu, qu, qu, qu]) (S' := [.int v4, .int v9]) (H' := (qa scr :: bk0 zah zad zaf zae zaj zak zay zaz zal zam zba zao zap zaq zar zbc zbd zag zac zai zbb zan zas zau zat zav zaw zax [])) rfl ?_
    by_cases hc205 : v4 < v9
    · simp only [if_pos hc205] at h
      refine OEndsQ.icmpT hm_0 rfl (q := 117) rfl ((tlt hc205).2.2.1) ?_
      show OEndsQ own_P 0 117 [qr 0, qu, qu, qi v3, qi v4, qr 1, qi v6, qi v7, qi v8, qi v9, qu, qu, qu, qu, qu, qu, qu, qu, qu, qu, qu, qu, qu, qu, qu, qu, qu, qu] [] (qa scr :: bk0 zah zad zaf zae zaj zak zay zaz zal zam zba zao zap zaq zar zbc zbd zag zac zai zbb zan zas zau zat zav zaw zax []) _
      exact hk117 h
    · simp only [if_neg hc205] at h
      refine OEndsQ.icmpF hm_0 rfl ((flt hc205).2.2.1) ?_
      refine OEndsQ.adv hm_0 10 (pc' := 101) (L' := [qr 0, qu, qu, qi v3, qi v4, qr 1, qi v6, qi (v7 + (v8 * v6)), qi (v8 * v6), qi v9, qu, qu, qu, qu, qu, qu, qu, qu, qu, qu, qu, qu, qu, qu, qu, qu, qu, qu]) (S' := [.int 16, .int (v7 + (v8 * v6))]) (H' := (qa scr :: bk0 zah zad zaf zae zaj zak zay zaz zal zam zba zao zap zaq zar zbc zbd zag zac zai zbb zan zas zau zat zav zaw zax [])) rfl ?_
      by_cases hc206 : (v7 + (v8 * v6)) < (16 : Int32)
      · simp only [if_pos hc206] at h
        refine OEndsQ.icmpT hm_0 rfl (q := 111) rfl ((tlt hc206).1) ?_
        refine OEndsQ.adv hm_0 2 (pc' := 76) (L' := [qr 0, qu, qu, qi v3, qi v4, qr 1, qi v6, qi (v7 + (v8 * v6)), qi (v8 * v6), qi (v9 + (1 : Int32)), qu, qu, qu, qu, qu, qu, qu, qu, qu, qu, qu, qu, qu, qu, qu, qu, qu, qu]) (S' := []) (H' := (qa scr :: bk0 zah zad zaf zae zaj zak zay zaz zal zam zba zao zap zaq zar zbc zbd zag zac zai zbb zan zas zau zat zav zaw zax [])) rfl ?_
        exact ih h
      · simp only [if_neg hc206] at h
        refine OEndsQ.icmpF hm_0 rfl ((flt hc206).1) ?_
        refine OEndsQ.adv hm_0 3 (pc' := 117) (L' := [qr 0, qu, qu, qi v3, qi v4, qr 1, qi v6, qi 16, qi (v8 * v6), qi v9, qu, qu, qu, qu, qu, qu, qu, qu, qu, qu, qu, qu, qu, qu, qu, qu, qu, qu]) (S' := []) (H' := (qa scr :: bk0 zah zad zaf zae zaj zak zay zaz zal zam zba zao zap zaq zar zbc zbd zag zac zai zbb zan zas zau zat zav zaw zax [])) rfl ?_
        exact hk117 h
theorem ok_L_law {scr : List Int32} {res : Int32} (h : f_L_law scr = some res) : OEndsQ own_P 0 0 [qr 0, qu, qu, qu, qu, qu, qu, qu, qu, qu, qu, qu, qu, qu, qu, qu, qu, qu, qu, qu, qu, qu, qu, qu, qu, qu, qu, qu] [] (qa scr :: []) (LawQ res 16 8277) := by
  unfold f_L_law at h
  refine OEndsQ.adv hm_0 2 (pc' := 2) (L' := [qr 0, qu, qu, qu, qu, qu, qu, qu, qu, qu, qu, qu, qu, qu, qu, qu, qu, qu, qu, qu, qu, qu, qu, qu, qu, qu, qu, qu]) (S' := [.int 0, .ref 0]) (H' := (qa scr :: [])) rfl ?_
  obtain ⟨r127, hq207, h⟩ := bnd h
  refine OEndsQ.call0 hm_0 rfl rfl (by decide) rfl (as := [.ref 0, .int 0]) (rest := []) rfl rfl (ok_L_cell hq207) ?_
  refine OEndsQ.adv hm_0 1 (pc' := 7) (L' := [qr 0, qu, qu, qu, qu, qu, qu, qu, qu, qu, qu, qu, qu, qu, qu, qu, qu, qu, qu, qu, qu, qu, qu, qu, qu, qu, qu, qu]) (S' := [.int 18, .int r127]) (H' := (qa scr :: [])) rfl ?_
  obtain ⟨r128, hq208, h⟩ := bnd h
  refine OEndsQ.call0 hm_0 rfl rfl (by decide) rfl (as := [.int r127, .int 18]) (rest := []) rfl rfl (ok_L_mod hq208) ?_
  refine OEndsQ.adv hm_0 5 (pc' := 15) (L' := [qr 0, qi (r128 - (1 : Int32)), qu, qu, qu, qu, qu, qu, qu, qu, qu, qu, qu, qu, qu, qu, qu, qu, qu, qu, qu, qu, qu, qu, qu, qu, qu, qu]) (S' := [.int 1, .ref 0]) (H' := (qa scr :: [])) rfl ?_
  obtain ⟨r129, hq209, h⟩ := bnd h
  refine OEndsQ.call0 hm_0 rfl rfl (by decide) rfl (as := [.ref 0, .int 1]) (rest := []) rfl rfl (ok_L_cell hq209) ?_
  refine OEndsQ.adv hm_0 1 (pc' := 20) (L' := [qr 0, qi (r128 - (1 : Int32)), qu, qu, qu, qu, qu, qu, qu, qu, qu, qu, qu, qu, qu, qu, qu, qu, qu, qu, qu, qu, qu, qu, qu, qu, qu, qu]) (S' := [.int 10, .int r129]) (H' := (qa scr :: [])) rfl ?_
  obtain ⟨r130, hq210, h⟩ := bnd h
  refine OEndsQ.call0 hm_0 rfl rfl (by decide) rfl (as := [.int r129, .int 10]) (rest := []) rfl rfl (ok_L_mod hq210) ?_
  refine OEndsQ.adv hm_0 6 (pc' := 30) (L' := [qr 0, qi (r128 - (1 : Int32)), qi (r130 - (1 : Int32)), qu, qu, qu, qu, qu, qu, qu, qu, qu, qu, qu, qu, qu, qu, qu, qu, qu, qu, qu, qu, qu, qu, qu, qu, qu]) (S' := [.int 16, .int 1, .int (r128 - (1 : Int32))]) (H' := (qa scr :: [])) rfl ?_
  obtain ⟨r131, hq211, h⟩ := bnd h
  refine OEndsQ.call0 hm_0 rfl rfl (by decide) rfl (as := [.int (r128 - (1 : Int32)), .int 1, .int 16]) (rest := []) rfl rfl (ok_L_clamp hq211) ?_
  refine OEndsQ.adv hm_0 4 (pc' := 38) (L' := [qr 0, qi (r128 - (1 : Int32)), qi (r130 - (1 : Int32)), qi r131, qu, qu, qu, qu, qu, qu, qu, qu, qu, qu, qu, qu, qu, qu, qu, qu, qu, qu, qu, qu, qu, qu, qu, qu]) (S' := [.int 8, .int 1, .int (r130 - (1 : Int32))]) (H' := (qa scr :: [])) rfl ?_
  obtain ⟨r132, hq212, h⟩ := bnd h
  refine OEndsQ.call0 hm_0 rfl rfl (by decide) rfl (as := [.int (r130 - (1 : Int32)), .int 1, .int 8]) (rest := []) rfl rfl (ok_L_clamp hq212) ?_
  refine OEndsQ.adv hm_0 1 (pc' := 43) (L' := [qr 0, qi (r128 - (1 : Int32)), qi (r130 - (1 : Int32)), qi r131, qi r132, qu, qu, qu, qu, qu, qu, qu, qu, qu, qu, qu, qu, qu, qu, qu, qu, qu, qu, qu, qu, qu, qu, qu]) (S' := []) (H' := (qa scr :: [])) rfl ?_
  refine OEndsQ.made hm_0 rfl rfl (ks := 28) (c0 := 15) (s0 := 8249) rfl (Nat.le_of_ble_eq_true rfl) (Nat.le_of_ble_eq_true rfl) ?_
  refine OEndsQ.adv hm_0 3 (pc' := 49) (L' := [qr 0, qi (r128 - (1 : Int32)), qi (r130 - (1 : Int32)), qi r131, qi r132, qu, qu, qu, qu, qu, qu, qu, qu, qu, qu, qu, qu, qu, qu, qu, qu, qu, qu, qu, qu, qu, qu, qu]) (S' := [.int (r130 - (1 : Int32)), .int (r128 - (1 : Int32)), .ref 1, .ref 1]) (H' := (qa scr :: (.inl (0, [.null, .null, .null, .null, .null, .null, .null, .null, .null, .null, .null, .null, .null, .null, .null, .int 0, .int 0, .int 0, .int 0, .int 0, .int 0, .int 0, .int 0, .int 0, .int 0, .int 0, .int 0, .int 0]) : ACell) :: [])) rfl ?_
  obtain ⟨⟨s133, s134, s135, s136, s137, s138, s139, s140, s141, s142, s143, s144, s145, s146, s147, s148, s149, s150, s151, s152, s153, s154, s155, s156, s157, s158, s159, s160⟩, hq213, h⟩ := bnd h
  refine OEndsQ.callN hm_0 rfl rfl (by decide) rfl (as := [.ref 1, .int (r128 - (1 : Int32)), .int (r130 - (1 : Int32))]) (rest := [.ref 1]) rfl rfl (c0 := 0) (s0 := 0) (ok_init hq213) (Nat.le_of_ble_eq_true rfl) (Nat.le_of_ble_eq_true rfl) ?_
  refine OEndsQ.adv hm_0 4 (pc' := 57) (L' := [qr 0, qi (r128 - (1 : Int32)), qi (r130 - (1 : Int32)), qi r131, qi r132, qr 1, qu, qu, qu, qu, qu, qu, qu, qu, qu, qu, qu, qu, qu, qu, qu, qu, qu, qu, qu, qu, qu, qu]) (S' := [.int 2, .ref 0, .int 2]) (H' := (qa scr :: bk0 s133 s134 s135 s136 s137 s138 s139 s140 s141 s142 s143 s144 s145 s146 s147 s148 s149 s150 s151 s152 s153 s154 s155 s156 s157 s158 s159 s160 [])) rfl ?_
  obtain ⟨r161, hq214, h⟩ := bnd h
  refine OEndsQ.call0 hm_0 rfl rfl (by decide) rfl (as := [.ref 0, .int 2]) (rest := [.int 2]) rfl rfl (ok_L_cell hq214) ?_
  refine OEndsQ.adv hm_0 1 (pc' := 61) (L' := [qr 0, qi (r128 - (1 : Int32)), qi (r130 - (1 : Int32)), qi r131, qi r132, qr 1, qu, qu, qu, qu, qu, qu, qu, qu, qu, qu, qu, qu, qu, qu, qu, qu, qu, qu, qu, qu, qu, qu]) (S' := [.int 3, .int r161, .int 2]) (H' := (qa scr :: bk0 s133 s134 s135 s136 s137 s138 s139 s140 s141 s142 s143 s144 s145 s146 s147 s148 s149 s150 s151 s152 s153 s154 s155 s156 s157 s158 s159 s160 [])) rfl ?_
  obtain ⟨r162, hq215, h⟩ := bnd h
  refine OEndsQ.call0 hm_0 rfl rfl (by decide) rfl (as := [.int r161, .int 3]) (rest := [.int 2]) rfl rfl (ok_L_mod hq215) ?_
  refine OEndsQ.adv hm_0 8 (pc' := 76) (L' := [qr 0, qi (r128 - (1 : Int32)), qi (r130 - (1 : Int32)), qi r131, qi r132, qr 1, qi ((2 : Int32) + r162), qi 0, qi 1, qi 1, qu, qu, qu, qu, qu, qu, qu, qu, qu, qu, qu, qu, qu, qu, qu, qu, qu, qu]) (S' := []) (H' := (qa scr :: bk0 s133 s134 s135 s136 s137 s138 s139 s140 s141 s142 s143 s144 s145 s146 s147 s148 s149 s150 s151 s152 s153 s154 s155 s156 s157 s158 s159 s160 [])) rfl ?_
  exact ok_L_law_76 (k117 := f_L_law_117 scr) ok_L_law_117 100000 h
theorem own_iL {α : Type} {Q : α → Prop} {a b : Int32} {x y : Option α} (h1 : a.toInt < b.toInt → Tot x Q) (h2 : b.toInt ≤ a.toInt → Tot y Q) : Tot (if a < b then x else y) Q :=
  Tot.ite (fun h => h1 (ilt.mp h)) (fun h => h2 (by rw [ilt] at h; omega))
theorem own_iE {α : Type} {Q : α → Prop} {a b : Int32} {x y : Option α} (h1 : a = b → Tot x Q) (h2 : ¬ a = b → Tot y Q) : Tot (if a = b then x else y) Q :=
  Tot.ite h1 h2
theorem own_p1 {a : Int32} (h : a.toInt < 2147483647) : (a + 1).toInt = a.toInt + 1 := by
  have e1 : (1 : Int32).toInt = 1 := rfl
  have := Int32.le_toInt a
  rw [iadd_i (by omega) (by omega), e1]
def own_V (L : List Int32) (n : Nat) (lo hi : Int) : Prop := L.length = n ∧ ∀ j : Int32, 0 ≤ j.toInt → j.toInt < n → lo ≤ (gI L j).toInt ∧ (gI L j).toInt ≤ hi
theorem own_V.put {L : List Int32} {n : Nat} {lo hi : Int} (h : own_V L n lo hi) {k x : Int32} (k0 : 0 ≤ k.toInt) (k1 : k.toInt < n) (x0 : lo ≤ x.toInt) (x1 : x.toInt ≤ hi) : own_V (L.set k.toInt.toNat x) n lo hi := by
  refine ⟨by rw [List.length_set]; exact h.1, fun j j0 j1 => ?_⟩
  rw [gset k0 (by have := h.1; omega) j0]
  by_cases e : k = j
  · rw [if_pos e]; exact ⟨x0, x1⟩
  · rw [if_neg e]; exact h.2 j j0 j1
theorem own_V.rd {β : Type} {L : List Int32} {n : Nat} {lo hi : Int} (h : own_V L n lo hi) {k : Int32} {f : Int32 → Option β} {Q : β → Prop} (k0 : 0 ≤ k.toInt) (k1 : k.toInt < n) (g : ∀ x : Int32, x = gI L k → lo ≤ x.toInt → x.toInt ≤ hi → Tot (f x) Q) : Tot ((rdA L k).bind f) Q := by
  rw [rdg k0 (by have := h.1; omega), Option.bind_some]
  have r := h.2 k k0 k1
  exact g _ rfl r.1 r.2
theorem own_V.wr {β : Type} {L : List Int32} {n : Nat} {lo hi : Int} (h : own_V L n lo hi) {k x : Int32} {f : List Int32 → Option β} {Q : β → Prop} (k0 : 0 ≤ k.toInt) (k1 : k.toInt < n) (x0 : lo ≤ x.toInt) (x1 : x.toInt ≤ hi) (g : ∀ L' : List Int32, own_V L' n lo hi → Tot (f L') Q) : Tot ((wrA L k x).bind f) Q := by
  rw [wrA_in k0 (by have := h.1; omega), Option.bind_some]
  exact g _ (h.put k0 k1 x0 x1)
theorem own_ix26 {v c : Int32} (v0 : 0 ≤ v.toInt) (v1 : v.toInt ≤ 128) (c0 : 0 ≤ c.toInt) (c1 : c.toInt < 26) : (v * 26 + c).toInt = v.toInt * 26 + c.toInt := by
  have e26 : (26 : Int32).toInt = 26 := rfl
  have m : (v * 26).toInt = v.toInt * 26 := by rw [imul_i (by rw [e26]; omega) (by rw [e26]; omega), e26]
  rw [iadd_i (by omega) (by omega), m]
theorem own_let (c : Int32) : (f_isLetter c = some 0 ∧ ¬ (97 ≤ c.toInt ∧ c.toInt ≤ 122)) ∨ (f_isLetter c = some 1 ∧ 97 ≤ c.toInt ∧ c.toInt ≤ 122) := by
  have e97 : (97 : Int32).toInt = 97 := rfl
  have e122 : (122 : Int32).toInt = 122 := rfl
  unfold f_isLetter
  by_cases c1 : c < 97
  · rw [if_pos c1]; rw [ilt] at c1; exact Or.inl ⟨rfl, by omega⟩
  · by_cases c2 : 122 < c
    · rw [if_neg c1, if_pos c2]; rw [ilt] at c2; exact Or.inl ⟨rfl, by omega⟩
    · rw [if_neg c1, if_neg c2]; rw [ilt] at c1 c2; exact Or.inr ⟨rfl, by omega, by omega⟩
theorem own_pri (c : Int32) : (f_isPrintable c = some 0 ∧ ¬ (32 ≤ c.toInt ∧ c.toInt ≤ 126)) ∨ (f_isPrintable c = some 1 ∧ 32 ≤ c.toInt ∧ c.toInt ≤ 126) := by
  have e97 : (32 : Int32).toInt = 32 := rfl
  have e122 : (126 : Int32).toInt = 126 := rfl
  unfold f_isPrintable
  by_cases c1 : c < 32
  · rw [if_pos c1]; rw [ilt] at c1; exact Or.inl ⟨rfl, by omega⟩
  · by_cases c2 : 126 < c
    · rw [if_neg c1, if_pos c2]; rw [ilt] at c2; exact Or.inl ⟨rfl, by omega⟩
    · rw [if_neg c1, if_neg c2]; rw [ilt] at c1 c2; exact Or.inr ⟨rfl, by omega, by omega⟩
theorem own_pc (m : Int32) : ∃ c : Int32, f_popCount m = some c ∧ 0 ≤ c.toInt ∧ c.toInt ≤ 16 := by
  have e1 : (1 : Int32).toInt = 1 := rfl
  have e16 : (16 : Int32).toInt = 16 := rfl
  have key : ∀ (f : Nat) (v2 v3 : Int32), 0 ≤ v2.toInt → v2.toInt ≤ v3.toInt → v3.toInt ≤ 16 → 16 - v3.toInt < f → ∃ c : Int32, f_popCount_4 f m v2 v3 = some c ∧ 0 ≤ c.toInt ∧ c.toInt ≤ 16 := by
    intro f
    induction f with
    | zero => intro v2 v3 a b d c; exfalso; omega
    | succ f ih =>
      intro v2 v3 a b d c
      unfold f_popCount_4
      by_cases g : v3 < 16
      · rw [if_pos g]
        rw [ilt] at g
        have p3 := own_p1 (a := v3) (by omega)
        have p2 := own_p1 (a := v2) (by omega)
        by_cases q : (m >>> (v3 &&& 31)) &&& 1 = 0
        · rw [if_pos q]; exact ih _ _ a (by omega) (by omega) (by omega)
        · rw [if_neg q]; exact ih _ _ (by omega) (by omega) (by omega) (by omega)
      · rw [if_neg g]
        exact ⟨v2, rfl, a, by omega⟩
  unfold f_popCount
  exact key 100000 0 0 (by decide) (by decide) (by decide) (by decide)
theorem own_k8 {k : Int32} (k0 : 0 ≤ k.toInt) (k1 : k.toInt < 16) : (k * 8).toInt = k.toInt * 8 := by
  have e8 : (8 : Int32).toInt = 8 := rfl
  rw [imul_i (by rw [e8]; omega) (by rw [e8]; omega), e8]
theorem own_kx {k j : Int32} (k0 : 0 ≤ k.toInt) (k1 : k.toInt < 16) (j0 : 0 ≤ j.toInt) (j1 : j.toInt < 8) : (k * 8 + j).toInt = k.toInt * 8 + j.toInt := by
  rw [iadd_i (by rw [own_k8 k0 k1]; omega) (by rw [own_k8 k0 k1]; omega), own_k8 k0 k1]
theorem own_adc {PD : List Int32} {mk ml ct pn : Int32} (l : PD.length = 8) (p0 : 0 ≤ pn.toInt) (v : Int32) :
    (∃ e : Int32, e.toInt < 0 ∧ f_addChar mk ml 0 ct PD pn v = some (e, PD, pn)) ∨ (97 ≤ v.toInt ∧ v.toInt ≤ 122 ∧ ct.toInt < mk.toInt ∧ pn.toInt < ml.toInt ∧ pn.toInt < 8 ∧ f_addChar mk ml 0 ct PD pn v = some (pn + 1, PD.set pn.toInt.toNat v, pn + 1)) := by
  have e8 : (8 : Int32).toInt = 8 := rfl
  unfold f_addChar
  rw [if_pos rfl]
  rcases own_let v with ⟨e, -⟩ | ⟨e, h1, h2⟩
  · left
    rw [e, Option.bind_some, if_pos rfl]
    exact ⟨-2, by decide, rfl⟩
  · rw [e, Option.bind_some, if_neg (by decide)]
    by_cases c1 : ct < mk
    · by_cases c2 : pn < ml
      · by_cases c3 : pn < 8
        · right
          rw [if_pos c1, if_pos c2, if_pos c3]
          rw [ilt] at c1 c2 c3
          rw [wrA_in p0 (by omega), Option.bind_some]
          exact ⟨h1, h2, c1, c2, by omega, rfl⟩
        · left
          rw [if_pos c1, if_pos c2, if_neg c3]
          exact ⟨-3, by decide, rfl⟩
      · left
        rw [if_pos c1, if_neg c2]
        exact ⟨-3, by decide, rfl⟩
    · left
      rw [if_neg c1]
      exact ⟨-3, by decide, rfl⟩
def own_df (KC KL PD : List Int32) (pn k : Int32) : Prop := ¬ gI KL k = pn ∨ ∃ j : Int32, 0 ≤ j.toInt ∧ j.toInt < pn.toInt ∧ ¬ gI KC (k * 8 + j) = gI PD j
theorem own_pe {KC KL PD : List Int32} {pn k : Int32} (lC : KC.length = 128) (lL : KL.length = 16) (lP : PD.length = 8) (p0 : 0 ≤ pn.toInt) (p1 : pn.toInt ≤ 8) (k0 : 0 ≤ k.toInt) (k1 : k.toInt < 16) : (f_pendingEquals KC KL PD pn k = some 0 ∧ own_df KC KL PD pn k) ∨ (f_pendingEquals KC KL PD pn k = some 1 ∧ ¬ own_df KC KL PD pn k) := by
  have e8 : (8 : Int32).toInt = 8 := rfl
  unfold f_pendingEquals
  rw [rdg k0 (by omega), Option.bind_some]
  by_cases g : gI KL k = pn
  rotate_left
  · left
    rw [if_neg g]
    exact ⟨rfl, Or.inl g⟩
  rw [if_pos g]
  have key : ∀ (f : Nat) (v3 : Int32), 0 ≤ v3.toInt → v3.toInt ≤ pn.toInt → 8 - v3.toInt < f → (∀ j : Int32, 0 ≤ j.toInt → j.toInt < v3.toInt → gI KC (k * 8 + j) = gI PD j) → (f_pendingEquals_22 KC KL PD pn f (k * 8) v3 = some 0 ∧ own_df KC KL PD pn k) ∨ (f_pendingEquals_22 KC KL PD pn f (k * 8) v3 = some 1 ∧ ¬ own_df KC KL PD pn k) := by
    intro f
    induction f with
    | zero => intro v3 a b c; exfalso; omega
    | succ f ih =>
      intro v3 a b c h
      unfold f_pendingEquals_22
      by_cases g1 : v3 < pn
      · have g1' := ilt.mp g1
        have kx := own_kx (j := v3) k0 k1 a (by omega)
        have p3 := own_p1 (a := v3) (by omega)
        rw [if_pos g1, if_pos (by rw [ilt]; omega), rdg (by omega) (by omega), Option.bind_some, rdg a (by omega), Option.bind_some]
        by_cases q : gI KC (k * 8 + v3) = gI PD v3
        · rw [if_pos q]
          refine ih _ (by omega) (by omega) (by omega) (fun j j0 j1 => ?_)
          by_cases e : j = v3
          · rw [e]; exact q
          · rw [ieq] at e
            exact h j j0 (by omega)
        · rw [if_neg q]
          exact Or.inl ⟨rfl, Or.inr ⟨v3, a, g1', q⟩⟩
      · rw [if_neg g1]
        rw [ilt] at g1
        refine Or.inr ⟨rfl, ?_⟩
        rintro (z | ⟨j, j0, j1, z⟩)
        · exact z g
        · exact z (h j j0 (by omega))
  exact key 100000 0 (by decide) p0 (by decide) (fun j j0 j1 => by have e0 : (0 : Int32).toInt = 0 := rfl; omega)
theorem own_pd {KC KL PD : List Int32} {ct pn : Int32} (lC : KC.length = 128) (lL : KL.length = 16) (lP : PD.length = 8) (p0 : 0 ≤ pn.toInt) (p1 : pn.toInt ≤ 8) (c0 : 0 ≤ ct.toInt) (c1 : ct.toInt ≤ 16) : (f_pendingIsDuplicate KC KL PD ct pn = some 0 ∧ ∀ k : Int32, 0 ≤ k.toInt → k.toInt < ct.toInt → own_df KC KL PD pn k) ∨ (f_pendingIsDuplicate KC KL PD ct pn = some 1 ∧ ∃ k : Int32, 0 ≤ k.toInt ∧ k.toInt < ct.toInt ∧ ¬ own_df KC KL PD pn k) := by
  have e16 : (16 : Int32).toInt = 16 := rfl
  have e0 : (0 : Int32).toInt = 0 := rfl
  have key : ∀ (f : Nat) (v1 : Int32), 0 ≤ v1.toInt → v1.toInt ≤ ct.toInt → 16 - v1.toInt < f → (∀ k : Int32, 0 ≤ k.toInt → k.toInt < v1.toInt → own_df KC KL PD pn k) → (f_pendingIsDuplicate_2 KC KL PD ct pn f v1 = some 0 ∧ ∀ k : Int32, 0 ≤ k.toInt → k.toInt < ct.toInt → own_df KC KL PD pn k) ∨ (f_pendingIsDuplicate_2 KC KL PD ct pn f v1 = some 1 ∧ ∃ k : Int32, 0 ≤ k.toInt ∧ k.toInt < ct.toInt ∧ ¬ own_df KC KL PD pn k) := by
    intro f
    induction f with
    | zero => intro v1 a b c; exfalso; omega
    | succ f ih =>
      intro v1 a b c h
      unfold f_pendingIsDuplicate_2
      by_cases g1 : v1 < ct
      · have g1' := ilt.mp g1
        have p3 := own_p1 (a := v1) (by omega)
        rw [if_pos g1, if_pos (by rw [ilt]; omega)]
        rcases own_pe lC lL lP p0 p1 a (by omega) with ⟨q, q'⟩ | ⟨q, q'⟩
        · rw [q, Option.bind_some, if_pos rfl]
          refine ih _ (by omega) (by omega) (by omega) (fun j j0 j1 => ?_)
          by_cases e : j = v1
          · rw [e]; exact q'
          · rw [ieq] at e
            exact h j j0 (by omega)
        · rw [q, Option.bind_some, if_neg (by decide)]
          exact Or.inr ⟨rfl, v1, a, g1', q'⟩
      · rw [if_neg g1]
        rw [ilt] at g1
        exact Or.inl ⟨rfl, fun k k0 k1 => h k k0 (by omega)⟩
  exact key 100000 0 (by decide) c0 (by decide) (fun j j0 j1 => by omega)
theorem own_sp {PD KC KL KR : List Int32} {ct pn v : Int32} (lC : KC.length = 128) (lL : KL.length = 16) (lR : KR.length = 16) (lP : PD.length = 8) (p0 : 0 ≤ pn.toInt) (p1 : pn.toInt ≤ 8) (c0 : 0 ≤ ct.toInt) (c1 : ct.toInt < 16) : ∃ KC' : List Int32, f_storePending PD KC KL KR ct pn v = some (KC', KL.set ct.toInt.toNat pn, KR.set ct.toInt.toNat v, ct + 1, 0) ∧ KC'.length = 128 ∧ ∀ k j : Int32, 0 ≤ k.toInt → k.toInt < 16 → 0 ≤ j.toInt → j.toInt < 8 → gI KC' (k * 8 + j) = if k = ct ∧ j.toInt < pn.toInt then gI PD j else gI KC (k * 8 + j) := by
  have e8 : (8 : Int32).toInt = 8 := rfl
  have e0 : (0 : Int32).toInt = 0 := rfl
  have f44 : ∀ KC' : List Int32, f_storePending_44 PD KC' KL KR ct pn v = some (KC', KL.set ct.toInt.toNat pn, KR.set ct.toInt.toNat v, ct + 1, 0) := by
    intro KC'
    unfold f_storePending_44
    rw [wrA_in c0 (by omega), Option.bind_some, wrA_in c0 (by omega), Option.bind_some]
  have key : ∀ (f : Nat) (K : List Int32) (v3 : Int32), 0 ≤ v3.toInt → v3.toInt ≤ pn.toInt → 8 - v3.toInt < f → K.length = 128 → (∀ k j : Int32, 0 ≤ k.toInt → k.toInt < 16 → 0 ≤ j.toInt → j.toInt < 8 → gI K (k * 8 + j) = if k = ct ∧ j.toInt < v3.toInt then gI PD j else gI KC (k * 8 + j)) → ∃ KC' : List Int32, f_storePending_10 (f_storePending_44 PD) PD f K KL KR ct pn v (ct * 8) v3 = some (KC', KL.set ct.toInt.toNat pn, KR.set ct.toInt.toNat v, ct + 1, 0) ∧ KC'.length = 128 ∧ ∀ k j : Int32, 0 ≤ k.toInt → k.toInt < 16 → 0 ≤ j.toInt → j.toInt < 8 → gI KC' (k * 8 + j) = if k = ct ∧ j.toInt < pn.toInt then gI PD j else gI KC (k * 8 + j) := by
    intro f
    induction f with
    | zero => intro K v3 a b c; exfalso; omega
    | succ f ih =>
      intro K v3 a b c lK h
      unfold f_storePending_10
      by_cases g : v3 < pn
      · have g' := ilt.mp g
        have p3 := own_p1 (a := v3) (by omega)
        have kx := own_kx (j := v3) c0 c1 a (by omega)
        rw [if_pos g, if_pos (by rw [ilt]; omega), rdg a (by omega), Option.bind_some, wrA_in (by omega) (by omega), Option.bind_some]
        refine ih _ _ (by omega) (by omega) (by omega) (by rw [List.length_set]; exact lK) (fun k j k0 k1 j0 j1 => ?_)
        have kj := own_kx k0 k1 j0 j1
        rw [gset (by omega) (by omega) (by omega)]
        by_cases e : ct * 8 + v3 = k * 8 + j
        · rw [if_pos e]
          rw [ieq] at e
          have e1 : k = ct := by rw [ieq]; omega
          have e2 : j = v3 := by rw [ieq]; omega
          rw [if_pos ⟨e1, by rw [e2]; omega⟩, e2]
        · rw [if_neg e, h k j k0 k1 j0 j1]
          by_cases q : k = ct ∧ j.toInt < v3.toInt
          · rw [if_pos q, if_pos ⟨q.1, by omega⟩]
          · rw [if_neg q, if_neg]
            rintro ⟨q1, q2⟩
            apply e
            have : ¬ j.toInt < v3.toInt := fun z => q ⟨q1, z⟩
            rw [ieq, kx, kj, q1]
            omega
      · rw [if_neg g, f44]
        rw [ilt] at g
        have ev : v3.toInt = pn.toInt := by omega
        rw [ev] at h
        exact ⟨K, rfl, lK, h⟩
  unfold f_storePending
  exact key 100000 KC 0 (by decide) p0 (by decide) lC (fun k j _ _ j0 _ => by rw [if_neg (fun z => by omega)])
def own_nd (CH : List Int32) : List Int32 → Option Int32
  | [] => some 0
  | c :: w => (own_nd CH w).bind fun v => if gI CH (v * 26 + c) = 0 then none else some (gI CH (v * 26 + c))
def own_lt (w : List Int32) : Prop := ∀ c ∈ w, 0 ≤ c.toInt ∧ c.toInt < 26
theorem own_lt.tl {c : Int32} {w : List Int32} (h : own_lt (c :: w)) : own_lt w := fun d hd => h d (List.mem_cons_of_mem _ hd)
theorem own_lt.hd {c : Int32} {w : List Int32} (h : own_lt (c :: w)) : 0 ≤ c.toInt ∧ c.toInt < 26 := h c (List.mem_cons_self)
theorem own_lt.cons {c : Int32} {w : List Int32} (h : own_lt w) (h0 : 0 ≤ c.toInt) (h1 : c.toInt < 26) : own_lt (c :: w) := by
  intro d hd
  rcases List.mem_cons.mp hd with e | e
  · rw [e]; exact ⟨h0, h1⟩
  · exact h d e
theorem own_lt.take {w : List Int32} (h : own_lt w) (m : Nat) : own_lt (w.take m) := fun d hd => h d (List.mem_of_mem_take hd)
abbrev own_T (CH : List Int32) (nc : Int32) : Prop := (CH.length = 3354) ∧ (1 ≤ nc.toInt) ∧ (nc.toInt ≤ 129) ∧ (∀ v c : Int32, 0 ≤ v.toInt → v.toInt < 129 → 0 ≤ c.toInt → c.toInt < 26 → gI CH (v * 26 + c) = 0 ∨ (v.toInt < (gI CH (v * 26 + c)).toInt ∧ (gI CH (v * 26 + c)).toInt < nc.toInt)) ∧ (∀ v c v' c' : Int32, 0 ≤ v.toInt → v.toInt < 129 → 0 ≤ c.toInt → c.toInt < 26 → 0 ≤ v'.toInt → v'.toInt < 129 → 0 ≤ c'.toInt → c'.toInt < 26 → gI CH (v * 26 + c) = gI CH (v' * 26 + c') → ¬ gI CH (v * 26 + c) = 0 → v = v' ∧ c = c') ∧ (∀ u : Int32, 1 ≤ u.toInt → u.toInt < nc.toInt → ∃ v c : Int32, 0 ≤ v.toInt ∧ v.toInt < u.toInt ∧ 0 ≤ c.toInt ∧ c.toInt < 26 ∧ gI CH (v * 26 + c) = u)
theorem own_T.l {CH : List Int32} {nc : Int32} (self : own_T CH nc) : CH.length = 3354 := self.1
theorem own_T.n0 {CH : List Int32} {nc : Int32} (self : own_T CH nc) : 1 ≤ nc.toInt := self.2.1
theorem own_T.n1 {CH : List Int32} {nc : Int32} (self : own_T CH nc) : nc.toInt ≤ 129 := self.2.2.1
theorem own_T.b {CH : List Int32} {nc : Int32} (self : own_T CH nc) : ∀ v c : Int32, 0 ≤ v.toInt → v.toInt < 129 → 0 ≤ c.toInt → c.toInt < 26 → gI CH (v * 26 + c) = 0 ∨ (v.toInt < (gI CH (v * 26 + c)).toInt ∧ (gI CH (v * 26 + c)).toInt < nc.toInt) := self.2.2.2.1
theorem own_T.i {CH : List Int32} {nc : Int32} (self : own_T CH nc) : ∀ v c v' c' : Int32, 0 ≤ v.toInt → v.toInt < 129 → 0 ≤ c.toInt → c.toInt < 26 → 0 ≤ v'.toInt → v'.toInt < 129 → 0 ≤ c'.toInt → c'.toInt < 26 → gI CH (v * 26 + c) = gI CH (v' * 26 + c') → ¬ gI CH (v * 26 + c) = 0 → v = v' ∧ c = c' := self.2.2.2.2.1
theorem own_T.p {CH : List Int32} {nc : Int32} (self : own_T CH nc) : ∀ u : Int32, 1 ≤ u.toInt → u.toInt < nc.toInt → ∃ v c : Int32, 0 ≤ v.toInt ∧ v.toInt < u.toInt ∧ 0 ≤ c.toInt ∧ c.toInt < 26 ∧ gI CH (v * 26 + c) = u := self.2.2.2.2.2
theorem own_nd_c {CH : List Int32} {c : Int32} {w : List Int32} {u : Int32} : own_nd CH (c :: w) = some u ↔ ∃ v, own_nd CH w = some v ∧ gI CH (v * 26 + c) = u ∧ ¬ u = 0 := by
  rw [own_nd]
  rcases h : own_nd CH w with _ | v
  · simp
  · rw [Option.bind_some]
    by_cases z : gI CH (v * 26 + c) = 0
    · rw [if_pos z]
      constructor
      · intro q; exact absurd q (by simp)
      · rintro ⟨v', e, q1, q2⟩
        obtain rfl := Option.some.inj e
        exact absurd (q1.symm.trans z) q2
    · rw [if_neg z]
      constructor
      · intro q
        have q' := Option.some.inj q
        exact ⟨v, rfl, q', by rw [← q']; exact z⟩
      · rintro ⟨v', e, q1, q2⟩
        obtain rfl := Option.some.inj e
        rw [q1]
theorem own_nd_r {CH : List Int32} {nc : Int32} (T : own_T CH nc) : ∀ (w : List Int32) (v : Int32), own_lt w → own_nd CH w = some v → 0 ≤ v.toInt ∧ v.toInt < nc.toInt ∧ (¬ w = [] → 1 ≤ v.toInt) := by
  intro w
  have n0 := T.n0
  have n1 := T.n1
  induction w with
  | nil =>
    intro v _ h
    obtain rfl := Option.some.inj h
    have e0 : (0 : Int32).toInt = 0 := rfl
    exact ⟨by omega, by omega, fun q => absurd rfl q⟩
  | cons c w ih =>
    intro u hl h
    obtain ⟨v, hv, hu, nz⟩ := own_nd_c.mp h
    obtain ⟨r0, r1, -⟩ := ih v hl.tl hv
    obtain ⟨c0, c1⟩ := hl.hd
    rcases T.b v c r0 (by omega) c0 c1 with q | ⟨q1, q2⟩
    · rw [hu] at q; exact absurd q nz
    · rw [hu] at q1 q2
      exact ⟨by omega, q2, fun _ => by omega⟩
theorem own_nd_i {CH : List Int32} {nc : Int32} (T : own_T CH nc) : ∀ (w w' : List Int32) (v : Int32), own_lt w → own_lt w' → own_nd CH w = some v → own_nd CH w' = some v → w = w' := by
  intro w
  have n1 := T.n1
  have e0 : (0 : Int32).toInt = 0 := rfl
  induction w with
  | nil =>
    intro w' v _ hl' h h'
    obtain rfl := Option.some.inj h
    by_cases q : w' = []
    · exact q.symm
    · have := (own_nd_r T w' 0 hl' h').2.2 q
      omega
  | cons c w ih =>
    intro w' u hl hl' h h'
    obtain ⟨v, hv, hu, nz⟩ := own_nd_c.mp h
    rcases w' with _ | ⟨c', w'⟩
    · obtain rfl := Option.some.inj h'
      exact absurd rfl nz
    · obtain ⟨v', hv', hu', -⟩ := own_nd_c.mp h'
      obtain ⟨r0, r1, -⟩ := own_nd_r T w v hl.tl hv
      obtain ⟨r0', r1', -⟩ := own_nd_r T w' v' hl'.tl hv'
      obtain ⟨q1, q2⟩ := T.i v c v' c' r0 (by omega) hl.hd.1 hl.hd.2 r0' (by omega) hl'.hd.1 hl'.hd.2 (by rw [hu, hu']) (by rw [hu]; exact nz)
      subst q1 q2
      rw [ih w' v hl.tl hl'.tl hv hv']
theorem own_nd_e {CH : List Int32} {nc : Int32} (T : own_T CH nc) : ∀ (n : Nat) (v : Int32), v.toInt = n → v.toInt < nc.toInt → ∃ w, own_lt w ∧ own_nd CH w = some v := by
  intro n
  have n1 := T.n1
  have e0 : (0 : Int32).toInt = 0 := rfl
  induction n using Nat.strongRecOn with
  | _ n ih =>
    intro v hv hn
    by_cases z : v = 0
    · exact ⟨[], fun c hc => absurd hc (by simp), by rw [z]; rfl⟩
    · have v1 : 1 ≤ v.toInt := by rw [ieq] at z; omega
      obtain ⟨p, c, p0, p1, c0, c1, e⟩ := T.p v v1 hn
      obtain ⟨w, hl, hw⟩ := ih p.toInt.toNat (by omega) p (by omega) (by omega)
      exact ⟨c :: w, hl.cons c0 c1, own_nd_c.mpr ⟨p, hw, e, z⟩⟩
theorem own_T.add {CH : List Int32} {nc v c : Int32} (T : own_T CH nc) (hn : nc.toInt < 129) (v0 : 0 ≤ v.toInt) (v1 : v.toInt < nc.toInt) (c0 : 0 ≤ c.toInt) (c1 : c.toInt < 26) (z : gI CH (v * 26 + c) = 0) : own_T (CH.set (v * 26 + c).toInt.toNat nc) (nc + 1) ∧ (∀ (w : List Int32) (u : Int32), own_lt w → own_nd CH w = some u → own_nd (CH.set (v * 26 + c).toInt.toNat nc) w = some u) ∧ gI (CH.set (v * 26 + c).toInt.toNat nc) (v * 26 + c) = nc := by
  have l := T.l
  have n0 := T.n0
  have e0 : (0 : Int32).toInt = 0 := rfl
  have ix := own_ix26 v0 (by omega) c0 c1
  have p := own_p1 (a := nc) (by omega)
  have gs : ∀ v' c' : Int32, 0 ≤ v'.toInt → v'.toInt < 129 → 0 ≤ c'.toInt → c'.toInt < 26 → gI (CH.set (v * 26 + c).toInt.toNat nc) (v' * 26 + c') = if v = v' ∧ c = c' then nc else gI CH (v' * 26 + c') := by
    intro v' c' a0 a1 b0 b1
    have ix' := own_ix26 a0 (by omega) b0 b1
    rw [gset (by omega) (by omega) (by omega)]
    by_cases q : v = v' ∧ c = c'
    · rw [if_pos q, if_pos (by rw [q.1, q.2])]
    · rw [if_neg q, if_neg]
      intro e
      apply q
      rw [ieq] at e
      rw [ieq, ieq]
      omega
  have bd := T.b
  refine ⟨⟨by rw [List.length_set]; exact l, by omega, by omega, ?_, ?_, ?_⟩, ?_, ?_⟩
  · intro v' c' a0 a1 b0 b1
    rw [gs v' c' a0 a1 b0 b1]
    by_cases q : v = v' ∧ c = c'
    · rw [if_pos q, ← q.1]; exact Or.inr ⟨by omega, by omega⟩
    · rw [if_neg q]
      rcases bd v' c' a0 a1 b0 b1 with h | ⟨h1, h2⟩
      · exact Or.inl h
      · exact Or.inr ⟨h1, by omega⟩
  · intro a b a' b' a0 a1 b0 b1 a0' a1' b0' b1' e nz
    rw [gs a b a0 a1 b0 b1] at e nz
    rw [gs a' b' a0' a1' b0' b1'] at e
    by_cases q : v = a ∧ c = b
    · by_cases q' : v = a' ∧ c = b'
      · exact ⟨q.1.symm.trans q'.1, q.2.symm.trans q'.2⟩
      · exfalso
        rw [if_pos q, if_neg q'] at e
        rcases bd a' b' a0' a1' b0' b1' with h | ⟨-, h2⟩
        · rw [h] at e; rw [if_pos q] at nz; exact nz e
        · rw [← e] at h2; omega
    · by_cases q' : v = a' ∧ c = b'
      · exfalso
        rw [if_neg q, if_pos q'] at e
        rcases bd a b a0 a1 b0 b1 with h | ⟨-, h2⟩
        · rw [if_neg q] at nz; exact nz h
        · rw [e] at h2; omega
      · rw [if_neg q, if_neg q'] at e
        rw [if_neg q] at nz
        exact T.i a b a' b' a0 a1 b0 b1 a0' a1' b0' b1' e nz
  · intro u u1 u2
    by_cases q : u = nc
    · exact ⟨v, c, v0, by rw [q]; omega, c0, c1, by rw [gs v c v0 (by omega) c0 c1, if_pos ⟨rfl, rfl⟩, q]⟩
    · rw [ieq] at q
      obtain ⟨a, b, a0, a1, b0, b1, e⟩ := T.p u u1 (by omega)
      refine ⟨a, b, a0, a1, b0, b1, ?_⟩
      rw [gs a b a0 (by omega) b0 b1, if_neg]
      · exact e
      · rintro ⟨h1, h2⟩
        rw [h1, h2] at z
        rw [z] at e
        rw [← e] at u1
        omega
  · intro w
    induction w with
    | nil => intro u _ h; exact h
    | cons d w ih =>
      intro u hl h
      obtain ⟨x, hx, hu, nz⟩ := own_nd_c.mp h
      have rx := own_nd_r T w x hl.tl hx
      refine own_nd_c.mpr ⟨x, ih x hl.tl hx, ?_, nz⟩
      rw [gs x d rx.1 (by omega) hl.hd.1 hl.hd.2, if_neg]
      · exact hu
      · rintro ⟨h1, h2⟩
        rw [h1, h2] at z
        rw [z] at hu
        exact nz hu.symm
  · rw [gs v c v0 (by omega) c0 c1, if_pos ⟨rfl, rfl⟩]
def own_kp (KC : List Int32) (k : Int32) : Nat → List Int32
  | 0 => []
  | j + 1 => (gI KC (k * 8 + Int32.ofNat j) - 97) :: own_kp KC k j
theorem own_kp_len (KC : List Int32) (k : Int32) : ∀ j, (own_kp KC k j).length = j := by
  intro j
  induction j with
  | zero => rfl
  | succ j ih => rw [own_kp, List.length_cons, ih]
abbrev own_KG (KC KL : List Int32) (ct : Int32) : Prop := (KC.length = 128) ∧ (KL.length = 16) ∧ (0 ≤ ct.toInt) ∧ (ct.toInt ≤ 16) ∧ (∀ k : Int32, 0 ≤ k.toInt → k.toInt < ct.toInt → 1 ≤ (gI KL k).toInt ∧ (gI KL k).toInt ≤ 8) ∧ (∀ k j : Int32, 0 ≤ k.toInt → k.toInt < ct.toInt → 0 ≤ j.toInt → j.toInt < (gI KL k).toInt → 97 ≤ (gI KC (k * 8 + j)).toInt ∧ (gI KC (k * 8 + j)).toInt ≤ 122) ∧ (∀ i k : Int32, 0 ≤ i.toInt → i.toInt < k.toInt → k.toInt < ct.toInt → ¬ own_kp KC i (gI KL i).toInt.toNat = own_kp KC k (gI KL k).toInt.toNat)
theorem own_KG.lC {KC KL : List Int32} {ct : Int32} (self : own_KG KC KL ct) : KC.length = 128 := self.1
theorem own_KG.lL {KC KL : List Int32} {ct : Int32} (self : own_KG KC KL ct) : KL.length = 16 := self.2.1
theorem own_KG.c0 {KC KL : List Int32} {ct : Int32} (self : own_KG KC KL ct) : 0 ≤ ct.toInt := self.2.2.1
theorem own_KG.c1 {KC KL : List Int32} {ct : Int32} (self : own_KG KC KL ct) : ct.toInt ≤ 16 := self.2.2.2.1
theorem own_KG.n {KC KL : List Int32} {ct : Int32} (self : own_KG KC KL ct) : ∀ k : Int32, 0 ≤ k.toInt → k.toInt < ct.toInt → 1 ≤ (gI KL k).toInt ∧ (gI KL k).toInt ≤ 8 := self.2.2.2.2.1
theorem own_KG.c {KC KL : List Int32} {ct : Int32} (self : own_KG KC KL ct) : ∀ k j : Int32, 0 ≤ k.toInt → k.toInt < ct.toInt → 0 ≤ j.toInt → j.toInt < (gI KL k).toInt → 97 ≤ (gI KC (k * 8 + j)).toInt ∧ (gI KC (k * 8 + j)).toInt ≤ 122 := self.2.2.2.2.2.1
theorem own_KG.d {KC KL : List Int32} {ct : Int32} (self : own_KG KC KL ct) : ∀ i k : Int32, 0 ≤ i.toInt → i.toInt < k.toInt → k.toInt < ct.toInt → ¬ own_kp KC i (gI KL i).toInt.toNat = own_kp KC k (gI KL k).toInt.toNat := self.2.2.2.2.2.2
theorem own_KG.lt {KC KL : List Int32} {ct : Int32} (h : own_KG KC KL ct) {k : Int32} (k0 : 0 ≤ k.toInt) (k1 : k.toInt < ct.toInt) : ∀ j : Nat, (j : Int) ≤ (gI KL k).toInt → own_lt (own_kp KC k j) := by
  intro j
  have e97 : (97 : Int32).toInt = 97 := rfl
  induction j with
  | zero => intro _ c hc; exact absurd hc (by simp [own_kp])
  | succ j ih =>
    intro hj
    have n := h.n k k0 k1
    have ej : (Int32.ofNat j).toInt = j := Int32.toInt_ofNat_of_lt (by omega)
    have r := h.c k (Int32.ofNat j) k0 k1 (by omega) (by omega)
    have s : (gI KC (k * 8 + Int32.ofNat j) - 97).toInt = (gI KC (k * 8 + Int32.ofNat j)).toInt - 97 := by rw [isub_i (by omega) (by omega), e97]
    exact (ih (by omega)).cons (by omega) (by omega)
theorem own_insX {KC KL : List Int32} {ct : Int32} (h : own_KG KC KL ct) {k : Int32} (k0 : 0 ≤ k.toInt) (k1 : k.toInt < ct.toInt) {TM OM : List Int32} (lT : TM.length = 129) (lO : OM.length = 129) {CH0 : List Int32} :
    ∀ (f j : Nat) (CH DP : List Int32) (nc v2 v4 : Int32), v4.toInt = j → (j : Int) ≤ (gI KL k).toInt → 8 - j < f → DP.length = 129 → own_T CH nc → nc.toInt ≤ 1 + 8 * k.toInt + j → own_nd CH (own_kp KC k j) = some v2 → (∀ w u, own_lt w → own_nd CH0 w = some u → own_nd CH w = some u) →
    Tot (f_insertKeyword_10 (f_insertKeyword_137 KC KL) KC KL f CH DP TM OM nc k v2 (k * 8) v4) (fun (CH', DP', TM', OM', nc') => own_T CH' nc' ∧ nc'.toInt ≤ 1 + 8 * (k.toInt + 1) ∧ DP'.length = 129 ∧ (∀ w u, own_lt w → own_nd CH0 w = some u → own_nd CH' w = some u) ∧ ∃ v, own_nd CH' (own_kp KC k (gI KL k).toInt.toNat) = some v ∧ TM' = TM.set v.toInt.toNat k ∧ OM' = OM.set v.toInt.toNat (gI OM v ||| ((1 : Int32) <<< (k &&& 31)))) := by
  intro f
  have e8 : (8 : Int32).toInt = 8 := rfl
  have e0 : (0 : Int32).toInt = 0 := rfl
  have e26 : (26 : Int32).toInt = 26 := rfl
  have e97 : (97 : Int32).toInt = 97 := rfl
  have e129 : (129 : Int32).toInt = 129 := rfl
  have lL := h.lL
  have lC := h.lC
  have c1 := h.c1
  have n := h.n k k0 k1
  have b8 : (k * 8).toInt = k.toInt * 8 := by rw [imul_i (by rw [e8]; omega) (by rw [e8]; omega), e8]
  induction f with
  | zero => intro j CH DP nc v2 v4 _ a b; exfalso; omega
  | succ f ih =>
    intro j CH DP nc v2 v4 hj jl c lD T hn hv st
    have oj : Int32.ofNat j = v4 := by rw [ieq, hj, Int32.toInt_ofNat_of_lt (by omega)]
    have rv := own_nd_r T _ v2 (h.lt k0 k1 j jl) hv
    have tn1 := T.n1
    have lCH := T.l
    unfold f_insertKeyword_10
    rw [rdg k0 (by omega), Option.bind_some]
    refine own_iL (fun g1 => ?_) (fun g1 => ?_)
    rotate_left
    · -- the end
      have je : j = (gI KL k).toInt.toNat := by omega
      unfold f_insertKeyword_137
      rw [wrA_in rv.1 (by omega), Option.bind_some, rdg rv.1 (by omega), Option.bind_some, wrA_in rv.1 (by omega), Option.bind_some]
      exact Tot.mk ⟨T, by show nc.toInt ≤ _; omega, lD, st, v2, by rw [← je]; exact hv, rfl, rfl⟩
    · rw [if_pos (by rw [ilt]; omega)]
      have p4 := own_p1 (a := v4) (by omega)
      have ix : (k * 8 + v4).toInt = k.toInt * 8 + v4.toInt := by rw [iadd_i (by omega) (by omega), b8]
      have lt := h.c k v4 k0 k1 (by omega) g1
      have sc : (gI KC (k * 8 + v4) - 97).toInt = (gI KC (k * 8 + v4)).toInt - 97 := by rw [isub_i (by omega) (by omega), e97]
      rw [rdg (by omega) (by omega), Option.bind_some]
      have kp1 : own_kp KC k (j + 1) = (gI KC (k * 8 + v4) - 97) :: own_kp KC k j := by rw [own_kp, oj]
      generalize gI KC (k * 8 + v4) - 97 = ch at sc kp1
      rw [if_neg (by rw [ilt]; omega), if_pos (by rw [ilt]; omega)]
      have jx := own_ix26 (v := v2) (c := ch) rv.1 (by omega) (by omega) (by omega)
      rw [rdg (by omega) (by omega), Option.bind_some]
      refine own_iE (fun z => ?_) (fun z => ?_)
      · obtain ⟨T', st', gv⟩ := T.add (by omega) rv.1 rv.2.1 (by omega) (by omega) z
        have pn := own_p1 (a := nc) (by omega)
        have tn0 := T.n0
        rw [if_pos (by rw [ilt]; omega), wrA_in (by omega) (by omega), Option.bind_some, rdg rv.1 (by omega), Option.bind_some, wrA_in (by omega) (by omega), Option.bind_some]
        unfold f_insertKeyword_123
        rw [rdg (by omega) (by rw [List.length_set]; omega), Option.bind_some, gv]
        refine ih (j + 1) _ _ _ _ _ (by omega) (by omega) (by omega) (by rw [List.length_set]; exact lD) T' (by omega) ?_ (fun w u hl hw => st' w u hl (st w u hl hw))
        rw [kp1]
        exact own_nd_c.mpr ⟨v2, st' _ _ (h.lt k0 k1 j jl) hv, gv, by rw [ieq]; omega⟩
      · unfold f_insertKeyword_123
        rw [rdg (by omega) (by omega), Option.bind_some]
        refine ih (j + 1) _ _ _ _ _ (by omega) (by omega) (by omega) lD T (by omega) ?_ st
        rw [kp1]
        exact own_nd_c.mpr ⟨v2, hv, rfl, z⟩
def own_mb (w : Int32) (n : Nat) : Bool := w.toBitVec.getLsbD n
theorem own_shl_all : ∀ n : Fin 32, ((1 : Int32) <<< (Int32.ofNat n.val &&& 31)).toBitVec = 1#32 <<< n.val := by decide +kernel
theorem own_one {n k : Nat} (hn : n < 32) : (1#32 <<< k).getLsbD n = decide (n = k) := by
  rw [BitVec.getLsbD_shiftLeft]
  by_cases g : n = k
  · subst g
    simp [hn]
  · by_cases l : n < k
    · simp [g, l]
    · have e1 : (1#32).getLsbD (n - k) = false := by
        have q : ¬ n - k = 0 := by omega
        rw [BitVec.getLsbD_one]
        simp [q]
      simp [e1, g]
theorem own_mbo (a b : Int32) (n : Nat) : own_mb (a ||| b) n = (own_mb a n || own_mb b n) := by
  unfold own_mb
  rw [Int32.toBitVec_or, BitVec.getLsbD_or]
theorem own_mb1 {k : Int32} (k0 : 0 ≤ k.toInt) (k1 : k.toInt < 32) {n : Nat} (hn : n < 32) : own_mb ((1 : Int32) <<< (k &&& 31)) n = decide (n = k.toInt.toNat) := by
  have ok : Int32.ofNat k.toInt.toNat = k := by rw [ieq, Int32.toInt_ofNat_of_lt (by omega)]; omega
  have e := own_shl_all ⟨k.toInt.toNat, by omega⟩
  simp only at e
  rw [ok] at e
  unfold own_mb
  rw [e, own_one hn]
theorem own_mbz (n : Nat) : own_mb 0 n = false := by
  unfold own_mb
  show (0#32).getLsbD n = false
  exact BitVec.getLsbD_zero
def own_kw (KC KL : List Int32) (k : Int32) : List Int32 := own_kp KC k (gI KL k).toInt.toNat
abbrev own_TK (KC KL CH TM OM : List Int32) (nc k : Int32) : Prop := (own_T CH nc) ∧ (TM.length = 129) ∧ (OM.length = 129) ∧ (∀ i : Int32, 0 ≤ i.toInt → i.toInt < k.toInt → ∃ v, own_nd CH (own_kw KC KL i) = some v) ∧ (∀ w v, own_lt w → own_nd CH w = some v → ∀ b : Nat, b < 32 → (own_mb (gI OM v) b = true ↔ ∃ i : Int32, 0 ≤ i.toInt ∧ i.toInt < k.toInt ∧ i.toInt = b ∧ w = own_kw KC KL i)) ∧ (∀ v : Int32, nc.toInt ≤ v.toInt → v.toInt < 129 → gI OM v = 0) ∧ (∀ w v, own_lt w → own_nd CH w = some v → (gI TM v = -1 ∧ ∀ i : Int32, 0 ≤ i.toInt → i.toInt < k.toInt → ¬ w = own_kw KC KL i) ∨ ∃ i : Int32, 0 ≤ i.toInt ∧ i.toInt < k.toInt ∧ gI TM v = i ∧ w = own_kw KC KL i) ∧ (∀ v : Int32, nc.toInt ≤ v.toInt → v.toInt < 129 → gI TM v = -1)
theorem own_TK.T {KC KL CH TM OM : List Int32} {nc k : Int32} (self : own_TK KC KL CH TM OM nc k) : own_T CH nc := self.1
theorem own_TK.lT {KC KL CH TM OM : List Int32} {nc k : Int32} (self : own_TK KC KL CH TM OM nc k) : TM.length = 129 := self.2.1
theorem own_TK.lO {KC KL CH TM OM : List Int32} {nc k : Int32} (self : own_TK KC KL CH TM OM nc k) : OM.length = 129 := self.2.2.1
theorem own_TK.W {KC KL CH TM OM : List Int32} {nc k : Int32} (self : own_TK KC KL CH TM OM nc k) : ∀ i : Int32, 0 ≤ i.toInt → i.toInt < k.toInt → ∃ v, own_nd CH (own_kw KC KL i) = some v := self.2.2.2.1
theorem own_TK.O {KC KL CH TM OM : List Int32} {nc k : Int32} (self : own_TK KC KL CH TM OM nc k) : ∀ w v, own_lt w → own_nd CH w = some v → ∀ b : Nat, b < 32 → (own_mb (gI OM v) b = true ↔ ∃ i : Int32, 0 ≤ i.toInt ∧ i.toInt < k.toInt ∧ i.toInt = b ∧ w = own_kw KC KL i) := self.2.2.2.2.1
theorem own_TK.Oz {KC KL CH TM OM : List Int32} {nc k : Int32} (self : own_TK KC KL CH TM OM nc k) : ∀ v : Int32, nc.toInt ≤ v.toInt → v.toInt < 129 → gI OM v = 0 := self.2.2.2.2.2.1
theorem own_TK.M {KC KL CH TM OM : List Int32} {nc k : Int32} (self : own_TK KC KL CH TM OM nc k) : ∀ w v, own_lt w → own_nd CH w = some v → (gI TM v = -1 ∧ ∀ i : Int32, 0 ≤ i.toInt → i.toInt < k.toInt → ¬ w = own_kw KC KL i) ∨ ∃ i : Int32, 0 ≤ i.toInt ∧ i.toInt < k.toInt ∧ gI TM v = i ∧ w = own_kw KC KL i := self.2.2.2.2.2.2.1
theorem own_TK.Mz {KC KL CH TM OM : List Int32} {nc k : Int32} (self : own_TK KC KL CH TM OM nc k) : ∀ v : Int32, nc.toInt ≤ v.toInt → v.toInt < 129 → gI TM v = -1 := self.2.2.2.2.2.2.2
theorem own_KG.kl {KC KL : List Int32} {ct : Int32} (h : own_KG KC KL ct) {k : Int32} (k0 : 0 ≤ k.toInt) (k1 : k.toInt < ct.toInt) : own_lt (own_kw KC KL k) ∧ (own_kw KC KL k).length = (gI KL k).toInt.toNat ∧ ¬ own_kw KC KL k = [] := by
  have n := h.n k k0 k1
  have l := own_kp_len KC k (gI KL k).toInt.toNat
  refine ⟨h.lt k0 k1 _ (by omega), l, fun z => ?_⟩
  unfold own_kw at z
  rw [z, List.length_nil] at l
  omega
theorem own_btX {KC KL : List Int32} {ct : Int32} (h : own_KG KC KL ct) : ∀ (f : Nat) (CH DP TM OM : List Int32) (nc lk k : Int32), 0 ≤ k.toInt → k.toInt ≤ ct.toInt → 16 - k.toInt < f → DP.length = 129 → nc.toInt ≤ 1 + 8 * k.toInt → 1 ≤ lk.toInt → lk.toInt ≤ 8 → own_TK KC KL CH TM OM nc k → Tot (f_buildTrie_12 KC KL ct f CH DP TM OM nc lk k) (fun (CH', DP', TM', OM', nc', lk') => own_TK KC KL CH' TM' OM' nc' ct ∧ DP'.length = 129 ∧ 1 ≤ lk'.toInt ∧ lk'.toInt ≤ 8) := by
  intro f
  have e16 : (16 : Int32).toInt = 16 := rfl
  have e0 : (0 : Int32).toInt = 0 := rfl
  have c1 := h.c1
  have lL := h.lL
  induction f with
  | zero => intro CH DP TM OM nc lk k a b c; exfalso; omega
  | succ f ih =>
    intro CH DP TM OM nc lk k a b c lD hn l1 l2 K
    unfold f_buildTrie_12
    refine own_iL (fun g => ?_) (fun g => ?_)
    rotate_left
    · have kc : k = ct := by rw [ieq]; omega
      rw [← kc]
      exact Tot.mk ⟨K, lD, l1, l2⟩
    rw [if_pos (by rw [ilt]; omega)]
    have p := own_p1 (a := k) (by omega)
    have nl := h.n k a g
    unfold f_insertKeyword
    refine Tot.bind (own_insX (CH0 := CH) h a g K.lT K.lO 100000 0 CH DP nc 0 0 rfl (by omega) (by omega) lD K.T (by omega) rfl (fun _ _ _ q => q)) ?_
    rintro ⟨CH', DP', TM', OM', nc'⟩ ⟨T', hn', lD', st, v, hv, eT, eO⟩
    have T2 : own_T CH' nc' := T'
    have hn2 : nc'.toInt ≤ 1 + 8 * (k.toInt + 1) := hn'
    have st2 : ∀ w u, own_lt w → own_nd CH w = some u → own_nd CH' w = some u := st
    have hv2 : own_nd CH' (own_kw KC KL k) = some v := hv
    have eT2 : TM' = TM.set v.toInt.toNat k := eT
    have eO2 : OM' = OM.set v.toInt.toNat (gI OM v ||| ((1 : Int32) <<< (k &&& 31))) := eO
    have lT := K.lT
    have lO := K.lO
    have t1 := T2.n1
    have t0 := K.T.n0
    obtain ⟨klt, -, -⟩ := h.kl a g
    have rv := own_nd_r T2 _ v klt hv2
    have gO : ∀ x : Int32, 0 ≤ x.toInt → gI OM' x = if v = x then gI OM v ||| ((1 : Int32) <<< (k &&& 31)) else gI OM x := fun x x0 => by rw [eO2]; exact gset rv.1 (by omega) x0
    have gT : ∀ x : Int32, 0 ≤ x.toInt → gI TM' x = if v = x then k else gI TM x := fun x x0 => by rw [eT2]; exact gset rv.1 (by omega) x0
    have old : ∀ w x, own_lt w → own_nd CH' w = some x → x.toInt < nc.toInt → own_nd CH w = some x := by
      intro w x hl hw hx
      have rx := own_nd_r T2 w x hl hw
      obtain ⟨w0, hl0, hw0⟩ := own_nd_e K.T x.toInt.toNat x (by omega) hx
      rw [own_nd_i T2 w w0 x hl hl0 hw (st2 w0 x hl0 hw0)]
      exact hw0
    have new : ∀ w x, own_lt w → own_nd CH' w = some x → ¬ x.toInt < nc.toInt → ∀ i : Int32, 0 ≤ i.toInt → i.toInt < k.toInt → ¬ w = own_kw KC KL i := by
      intro w x hl hw hx i i0 i1 e
      obtain ⟨u, hu⟩ := K.W i i0 i1
      have hil := (h.kl i0 (by omega)).1
      have ru := own_nd_r K.T _ u hil hu
      have := st2 _ u hil hu
      rw [← e, hw] at this
      rw [Option.some.inj this] at hx
      exact hx ru.2.1
    have vx : ∀ w x, own_lt w → own_nd CH' w = some x → (v = x ↔ w = own_kw KC KL k) := by
      intro w x hl hw
      constructor
      · intro e
        rw [← e] at hw
        exact own_nd_i T2 w _ v hl klt hw hv2
      · intro e
        rw [e, hv2] at hw
        exact Option.some.inj hw
    have K2 : own_TK KC KL CH' TM' OM' nc' (k + 1) := by
      refine ⟨T2, by rw [eT2, List.length_set]; exact lT, by rw [eO2, List.length_set]; exact lO, ?_, ?_, ?_, ?_, ?_⟩
      · intro i i0 i1
        by_cases q : i = k
        · rw [q]; exact ⟨v, hv2⟩
        · rw [ieq] at q
          obtain ⟨u, hu⟩ := K.W i i0 (by omega)
          exact ⟨u, st2 _ u (h.kl i0 (by omega)).1 hu⟩
      · intro w x hl hw b hb
        have rx := own_nd_r T2 w x hl hw
        have base : own_mb (gI OM x) b = true ↔ ∃ i : Int32, 0 ≤ i.toInt ∧ i.toInt < k.toInt ∧ i.toInt = b ∧ w = own_kw KC KL i := by
          by_cases q : x.toInt < nc.toInt
          · exact K.O w x hl (old w x hl hw q) b hb
          · rw [K.Oz x (by omega) (by omega), own_mbz]
            constructor
            · intro z; exact absurd z (by simp)
            · rintro ⟨i, i0, i1, -, e⟩
              exact absurd e (new w x hl hw q i i0 i1)
        rw [gO x rx.1]
        by_cases q : v = x
        · have wk := (vx w x hl hw).mp q
          rw [if_pos q, q, own_mbo, own_mb1 a (by omega) hb, Bool.or_eq_true, base, decide_eq_true_eq]
          constructor
          · rintro (⟨i, i0, i1, i2, i3⟩ | e)
            · exact ⟨i, i0, by omega, i2, i3⟩
            · exact ⟨k, a, by omega, by omega, wk⟩
          · rintro ⟨i, i0, i1, i2, i3⟩
            by_cases z : i = k
            · right; rw [ieq] at z; omega
            · left; rw [ieq] at z; exact ⟨i, i0, by omega, i2, i3⟩
        · rw [if_neg q, base]
          constructor
          · rintro ⟨i, i0, i1, i2, i3⟩
            exact ⟨i, i0, by omega, i2, i3⟩
          · rintro ⟨i, i0, i1, i2, i3⟩
            by_cases z : i = k
            · rw [z] at i3; exact absurd ((vx w x hl hw).mpr i3) q
            · rw [ieq] at z; exact ⟨i, i0, by omega, i2, i3⟩
      · intro x x0 x1
        have m1 : nc.toInt ≤ nc'.toInt := by
          by_cases q : nc.toInt ≤ nc'.toInt
          · exact q
          · exfalso
            -- an old node is a node still
            obtain ⟨w0, hl0, hw0⟩ := own_nd_e K.T (nc.toInt - 1).toNat (nc - 1) (by have e1 : (1 : Int32).toInt = 1 := rfl; rw [isub_i (by omega) (by omega), e1]; omega) (by have e1 : (1 : Int32).toInt = 1 := rfl; rw [isub_i (by omega) (by omega), e1]; omega)
            have := (own_nd_r T2 w0 _ hl0 (st2 w0 _ hl0 hw0)).2.1
            have e1 : (1 : Int32).toInt = 1 := rfl
            rw [isub_i (by omega) (by omega), e1] at this
            omega
        have nv : ¬ v = x := fun e => by rw [← e] at x0; omega
        rw [gO x (by omega), if_neg nv]
        exact K.Oz x (by omega) x1
      · intro w x hl hw
        have rx := own_nd_r T2 w x hl hw
        rw [gT x rx.1]
        by_cases q : v = x
        · have wk := (vx w x hl hw).mp q
          rw [if_pos q]
          exact Or.inr ⟨k, a, by omega, rfl, wk⟩
        · rw [if_neg q]
          have nk : ¬ w = own_kw KC KL k := fun e => q ((vx w x hl hw).mpr e)
          by_cases z : x.toInt < nc.toInt
          · rcases K.M w x hl (old w x hl hw z) with ⟨m1, m2⟩ | ⟨i, i0, i1, m1, m2⟩
            · refine Or.inl ⟨m1, fun i i0 i1 => ?_⟩
              by_cases y : i = k
              · rw [y]; exact nk
              · rw [ieq] at y; exact m2 i i0 (by omega)
            · exact Or.inr ⟨i, i0, by omega, m1, m2⟩
          · refine Or.inl ⟨K.Mz x (by omega) (by omega), fun i i0 i1 => ?_⟩
            by_cases y : i = k
            · rw [y]; exact nk
            · rw [ieq] at y; exact new w x hl hw z i i0 (by omega)
      · intro x x0 x1
        have m1 : nc.toInt ≤ nc'.toInt := by
          by_cases q : nc.toInt ≤ nc'.toInt
          · exact q
          · exfalso
            obtain ⟨w0, hl0, hw0⟩ := own_nd_e K.T (nc.toInt - 1).toNat (nc - 1) (by have e1 : (1 : Int32).toInt = 1 := rfl; rw [isub_i (by omega) (by omega), e1]; omega) (by have e1 : (1 : Int32).toInt = 1 := rfl; rw [isub_i (by omega) (by omega), e1]; omega)
            have := (own_nd_r T2 w0 _ hl0 (st2 w0 _ hl0 hw0)).2.1
            have e1 : (1 : Int32).toInt = 1 := rfl
            rw [isub_i (by omega) (by omega), e1] at this
            omega
        have nv : ¬ v = x := fun e => by rw [← e] at x0; omega
        rw [gT x (by omega), if_neg nv]
        exact K.Mz x (by omega) x1
    show Tot ((rdA KL k).bind _) _
    rw [rdg a (by omega), Option.bind_some]
    refine own_iL (fun c3 => ?_) (fun c3 => ?_)
    · rw [Option.bind_some]
      exact ih _ _ _ _ _ _ _ (by omega) (by omega) (by omega) lD' (by omega) (by omega) (by omega) K2
    · exact ih _ _ _ _ _ _ _ (by omega) (by omega) (by omega) lD' (by omega) l1 l2 K2
theorem own_T0 {CH TM OM : List Int32} (KC KL : List Int32) (hC : own_V CH 3354 0 0) (hT : own_V TM 129 (-1) (-1)) (hO : own_V OM 129 0 0) : own_TK KC KL CH TM OM 1 0 := by
  have e0 : (0 : Int32).toInt = 0 := rfl
  have e1 : (1 : Int32).toInt = 1 := rfl
  have em : (-1 : Int32).toInt = -1 := rfl
  have zC : ∀ v c : Int32, 0 ≤ v.toInt → v.toInt < 129 → 0 ≤ c.toInt → c.toInt < 26 → gI CH (v * 26 + c) = 0 := by
    intro v c v0 v1 c0 c1
    have ix := own_ix26 v0 (by omega) c0 c1
    have := hC.2 (v * 26 + c) (by omega) (by omega)
    rw [ieq]; omega
  have zO : ∀ v : Int32, 0 ≤ v.toInt → v.toInt < 129 → gI OM v = 0 := by
    intro v v0 v1
    have := hO.2 v v0 v1
    rw [ieq]; omega
  have zT : ∀ v : Int32, 0 ≤ v.toInt → v.toInt < 129 → gI TM v = -1 := by
    intro v v0 v1
    have := hT.2 v v0 v1
    rw [ieq]; omega
  have T : own_T CH 1 := ⟨hC.1, by decide, by decide, fun v c v0 v1 c0 c1 => Or.inl (zC v c v0 v1 c0 c1), fun v c v' c' v0 v1 c0 c1 _ _ _ _ _ nz => absurd (zC v c v0 v1 c0 c1) nz, fun u u1 u2 => by omega⟩
  refine ⟨T, hT.1, hO.1, fun i i0 i1 => by omega, fun w v hl hw b hb => ?_, fun v v0 v1 => zO v (by omega) v1, fun w v hl hw => Or.inl ⟨?_, fun i i0 i1 => by omega⟩, fun v v0 v1 => zT v (by omega) v1⟩
  · have r := own_nd_r T w v hl hw
    rw [zO v r.1 (by omega), own_mbz]
    constructor
    · intro z; exact absurd z (by simp)
    · rintro ⟨i, i0, i1, -⟩; omega
  · have r := own_nd_r T w v hl hw
    exact zT v r.1 (by omega)
theorem own_pig : ∀ (M n : Nat) (g : Nat → Nat), (∀ i, i < n → g i < M) → (∀ i j, i < j → j < n → g i ≠ g j) → n ≤ M := by
  intro M
  induction M with
  | zero =>
    intro n g h _
    by_cases z : n = 0
    · omega
    · exact absurd (h 0 (by omega)) (by omega)
  | succ M ih =>
    intro n g h d
    by_cases q : ∃ i, i < n ∧ g i = M
    · obtain ⟨i0, hi, e⟩ := q
      have := ih (n - 1) (fun i => if i < i0 then g i else g (i + 1)) (by
        intro i hi'
        try dsimp only
        by_cases c : i < i0
        · rw [if_pos c]
          have a := h i (by omega)
          have b := d i i0 c hi
          omega
        · rw [if_neg c]
          have a := h (i + 1) (by omega)
          have b := d i0 (i + 1) (by omega) (by omega)
          omega) (by
        intro i j ij hj
        try dsimp only
        by_cases c : i < i0
        · by_cases c' : j < i0
          · rw [if_pos c, if_pos c']; exact d i j ij (by omega)
          · rw [if_pos c, if_neg c']; exact d i (j + 1) (by omega) (by omega)
        · rw [if_neg c, if_neg (by omega)]; exact d (i + 1) (j + 1) (by omega) (by omega))
      omega
    · have := ih n g (fun i hi => by
        have a := h i hi
        have b : g i ≠ M := fun e => q ⟨i, hi, e⟩
        omega) d
      omega
def own_isn (CH w : List Int32) : Prop := ∃ v, own_nd CH w = some v
def own_M (CH t : List Int32) (m : Nat) : Prop := m ≤ t.length ∧ own_isn CH (t.take m) ∧ ∀ m', m' ≤ t.length → own_isn CH (t.take m') → m' ≤ m
def own_Fl (CH t : List Int32) (m : Nat) : Prop := m < t.length ∧ own_isn CH (t.take m) ∧ ∀ m', m' < t.length → own_isn CH (t.take m') → m' ≤ m
theorem own_isn_tl {CH : List Int32} {c : Int32} {w : List Int32} (h : own_isn CH (c :: w)) : own_isn CH w := by
  obtain ⟨u, hu⟩ := h
  obtain ⟨v, hv, -⟩ := own_nd_c.mp hu
  exact ⟨v, hv⟩
theorem own_isn_nil (CH : List Int32) : own_isn CH [] := ⟨0, rfl⟩
theorem own_tk {c : Int32} {w : List Int32} {m k : Nat} (h : k ≤ m + 1) : (c :: w.take m).take k = (c :: w).take k := by
  rcases k with _ | k
  · rfl
  · rw [List.take_succ_cons, List.take_succ_cons, List.take_take, Nat.min_eq_left (by omega)]
theorem own_M_step {CH t : List Int32} {c : Int32} {m m2 : Nat} (h : own_M CH t m) (h2 : own_M CH (c :: t.take m) m2) : own_M CH (c :: t) m2 := by
  obtain ⟨a1, a2, a3⟩ := h
  obtain ⟨b1, b2, b3⟩ := h2
  have ll : (c :: t.take m).length = m + 1 := by rw [List.length_cons, List.length_take, Nat.min_eq_left a1]
  rw [ll] at b1 b3
  refine ⟨by rw [List.length_cons]; omega, by rw [← own_tk b1]; exact b2, fun m' h1 h3 => ?_⟩
  rcases m' with _ | k
  · omega
  · rw [List.take_succ_cons] at h3
    rw [List.length_cons] at h1
    have := a3 k (by omega) (own_isn_tl h3)
    refine b3 (k + 1) (by omega) ?_
    rw [own_tk (by omega), List.take_succ_cons]
    exact h3
theorem own_Fl_step {CH t : List Int32} {c : Int32} {m m2 : Nat} (h : own_Fl CH t m) (h2 : own_M CH (c :: t.take m) m2) : own_Fl CH (c :: t) m2 := by
  obtain ⟨a1, a2, a3⟩ := h
  obtain ⟨b1, b2, b3⟩ := h2
  have ll : (c :: t.take m).length = m + 1 := by rw [List.length_cons, List.length_take, Nat.min_eq_left (by omega)]
  rw [ll] at b1 b3
  refine ⟨by rw [List.length_cons]; omega, by rw [← own_tk b1]; exact b2, fun m' h1 h3 => ?_⟩
  rcases m' with _ | k
  · omega
  · rw [List.take_succ_cons] at h3
    rw [List.length_cons] at h1
    have := a3 k (by omega) (own_isn_tl h3)
    refine b3 (k + 1) (by omega) ?_
    rw [own_tk (by omega), List.take_succ_cons]
    exact h3
theorem own_M_full {CH t : List Int32} (h : own_isn CH t) : own_M CH t t.length := ⟨Nat.le_refl _, by rw [List.take_length]; exact h, fun m' h1 _ => h1⟩
theorem own_M_of {CH t : List Int32} {m : Nat} (h : own_Fl CH t m) (n : ¬ own_isn CH t) : own_M CH t m := by
  obtain ⟨a1, a2, a3⟩ := h
  refine ⟨by omega, a2, fun m' h1 h2 => ?_⟩
  by_cases q : m' = t.length
  · rw [q, List.take_length] at h2; exact absurd h2 n
  · exact a3 m' (by omega) h2
def own_omf (KC KL : List Int32) (ct m : Int32) (w : List Int32) : Prop := ∀ b : Nat, b < 32 → (own_mb m b = true ↔ ∃ i : Int32, 0 ≤ i.toInt ∧ i.toInt < ct.toInt ∧ i.toInt = b ∧ ∃ q, q ≤ w.length ∧ w.take q = own_kw KC KL i)
abbrev own_BG (KC KL CH OM0 DE FA OM QU : List Int32) (nc ct : Int32) (D : List Int32 → Prop) (cw : List Int32) (c : Int) (tl : Int32) : Prop := (own_V DE 3354 0 128) ∧ (own_V FA 129 0 128) ∧ (own_V QU 129 0 128) ∧ (OM.length = 129) ∧ (0 ≤ tl.toInt) ∧ (tl.toInt ≤ 128) ∧ (∀ i : Int32, 0 ≤ i.toInt → i.toInt < tl.toInt → ∃ w, own_lt w ∧ ¬ w = [] ∧ own_nd CH w = some (gI QU i) ∧ ∃ m, own_Fl CH w m ∧ own_nd CH (w.take m) = some (gI FA (gI QU i))) ∧ (∀ i j : Int32, 0 ≤ i.toInt → i.toInt < tl.toInt → 0 ≤ j.toInt → j.toInt < tl.toInt → gI QU i = gI QU j → i = j) ∧ (∀ i : Int32, 0 ≤ i.toInt → i.toInt < tl.toInt → gI FA (gI QU i) = 0 ∨ ∃ j : Int32, 0 ≤ j.toInt ∧ j.toInt < i.toInt ∧ gI QU j = gI FA (gI QU i)) ∧ (∀ w v, own_lt w → D w → own_nd CH w = some v → ∀ c' : Int32, 0 ≤ c'.toInt → c'.toInt < 26 → ∃ m, own_M CH (c' :: w) m ∧ own_nd CH ((c' :: w).take m) = some (gI DE (v * 26 + c'))) ∧ (∀ w v, own_lt w → (D w ∨ w = cw) → own_nd CH w = some v → own_omf KC KL ct (gI OM v) w) ∧ (∀ w v, own_lt w → ¬ D w → ¬ w = cw → own_nd CH w = some v → gI OM v = gI OM0 v) ∧ (∀ v, own_nd CH cw = some v → ∀ c' : Int32, 0 ≤ c'.toInt → c'.toInt < c → ∃ m, own_M CH (c' :: cw) m ∧ own_nd CH ((c' :: cw).take m) = some (gI DE (v * 26 + c'))) ∧ (∀ w (c' : Int32) u, own_lt (c' :: w) → own_nd CH (c' :: w) = some u → (D w ∨ (w = cw ∧ c'.toInt < c)) → ∃ i : Int32, 0 ≤ i.toInt ∧ i.toInt < tl.toInt ∧ gI QU i = u) ∧ (∀ i : Int32, 0 ≤ i.toInt → i.toInt < tl.toInt → ∀ w (c' : Int32), own_lt (c' :: w) → own_nd CH (c' :: w) = some (gI QU i) → (D w ∨ (w = cw ∧ c'.toInt < c))) ∧ (¬ D cw)
theorem own_BG.vD {KC KL CH OM0 DE FA OM QU : List Int32} {nc ct : Int32} {D : List Int32 → Prop} {cw : List Int32} {c : Int} {tl : Int32} (self : own_BG KC KL CH OM0 DE FA OM QU nc ct D cw c tl) : own_V DE 3354 0 128 := self.1
theorem own_BG.vF {KC KL CH OM0 DE FA OM QU : List Int32} {nc ct : Int32} {D : List Int32 → Prop} {cw : List Int32} {c : Int} {tl : Int32} (self : own_BG KC KL CH OM0 DE FA OM QU nc ct D cw c tl) : own_V FA 129 0 128 := self.2.1
theorem own_BG.vQ {KC KL CH OM0 DE FA OM QU : List Int32} {nc ct : Int32} {D : List Int32 → Prop} {cw : List Int32} {c : Int} {tl : Int32} (self : own_BG KC KL CH OM0 DE FA OM QU nc ct D cw c tl) : own_V QU 129 0 128 := self.2.2.1
theorem own_BG.lO {KC KL CH OM0 DE FA OM QU : List Int32} {nc ct : Int32} {D : List Int32 → Prop} {cw : List Int32} {c : Int} {tl : Int32} (self : own_BG KC KL CH OM0 DE FA OM QU nc ct D cw c tl) : OM.length = 129 := self.2.2.2.1
theorem own_BG.t0 {KC KL CH OM0 DE FA OM QU : List Int32} {nc ct : Int32} {D : List Int32 → Prop} {cw : List Int32} {c : Int} {tl : Int32} (self : own_BG KC KL CH OM0 DE FA OM QU nc ct D cw c tl) : 0 ≤ tl.toInt := self.2.2.2.2.1
theorem own_BG.t1 {KC KL CH OM0 DE FA OM QU : List Int32} {nc ct : Int32} {D : List Int32 → Prop} {cw : List Int32} {c : Int} {tl : Int32} (self : own_BG KC KL CH OM0 DE FA OM QU nc ct D cw c tl) : tl.toInt ≤ 128 := self.2.2.2.2.2.1
theorem own_BG.a {KC KL CH OM0 DE FA OM QU : List Int32} {nc ct : Int32} {D : List Int32 → Prop} {cw : List Int32} {c : Int} {tl : Int32} (self : own_BG KC KL CH OM0 DE FA OM QU nc ct D cw c tl) : ∀ i : Int32, 0 ≤ i.toInt → i.toInt < tl.toInt → ∃ w, own_lt w ∧ ¬ w = [] ∧ own_nd CH w = some (gI QU i) ∧ ∃ m, own_Fl CH w m ∧ own_nd CH (w.take m) = some (gI FA (gI QU i)) := self.2.2.2.2.2.2.1
theorem own_BG.d {KC KL CH OM0 DE FA OM QU : List Int32} {nc ct : Int32} {D : List Int32 → Prop} {cw : List Int32} {c : Int} {tl : Int32} (self : own_BG KC KL CH OM0 DE FA OM QU nc ct D cw c tl) : ∀ i j : Int32, 0 ≤ i.toInt → i.toInt < tl.toInt → 0 ≤ j.toInt → j.toInt < tl.toInt → gI QU i = gI QU j → i = j := self.2.2.2.2.2.2.2.1
theorem own_BG.e {KC KL CH OM0 DE FA OM QU : List Int32} {nc ct : Int32} {D : List Int32 → Prop} {cw : List Int32} {c : Int} {tl : Int32} (self : own_BG KC KL CH OM0 DE FA OM QU nc ct D cw c tl) : ∀ i : Int32, 0 ≤ i.toInt → i.toInt < tl.toInt → gI FA (gI QU i) = 0 ∨ ∃ j : Int32, 0 ≤ j.toInt ∧ j.toInt < i.toInt ∧ gI QU j = gI FA (gI QU i) := self.2.2.2.2.2.2.2.2.1
theorem own_BG.dn {KC KL CH OM0 DE FA OM QU : List Int32} {nc ct : Int32} {D : List Int32 → Prop} {cw : List Int32} {c : Int} {tl : Int32} (self : own_BG KC KL CH OM0 DE FA OM QU nc ct D cw c tl) : ∀ w v, own_lt w → D w → own_nd CH w = some v → ∀ c' : Int32, 0 ≤ c'.toInt → c'.toInt < 26 → ∃ m, own_M CH (c' :: w) m ∧ own_nd CH ((c' :: w).take m) = some (gI DE (v * 26 + c')) := self.2.2.2.2.2.2.2.2.2.1
theorem own_BG.om {KC KL CH OM0 DE FA OM QU : List Int32} {nc ct : Int32} {D : List Int32 → Prop} {cw : List Int32} {c : Int} {tl : Int32} (self : own_BG KC KL CH OM0 DE FA OM QU nc ct D cw c tl) : ∀ w v, own_lt w → (D w ∨ w = cw) → own_nd CH w = some v → own_omf KC KL ct (gI OM v) w := self.2.2.2.2.2.2.2.2.2.2.1
theorem own_BG.un {KC KL CH OM0 DE FA OM QU : List Int32} {nc ct : Int32} {D : List Int32 → Prop} {cw : List Int32} {c : Int} {tl : Int32} (self : own_BG KC KL CH OM0 DE FA OM QU nc ct D cw c tl) : ∀ w v, own_lt w → ¬ D w → ¬ w = cw → own_nd CH w = some v → gI OM v = gI OM0 v := self.2.2.2.2.2.2.2.2.2.2.2.1
theorem own_BG.row {KC KL CH OM0 DE FA OM QU : List Int32} {nc ct : Int32} {D : List Int32 → Prop} {cw : List Int32} {c : Int} {tl : Int32} (self : own_BG KC KL CH OM0 DE FA OM QU nc ct D cw c tl) : ∀ v, own_nd CH cw = some v → ∀ c' : Int32, 0 ≤ c'.toInt → c'.toInt < c → ∃ m, own_M CH (c' :: cw) m ∧ own_nd CH ((c' :: cw).take m) = some (gI DE (v * 26 + c')) := self.2.2.2.2.2.2.2.2.2.2.2.2.1
theorem own_BG.ch {KC KL CH OM0 DE FA OM QU : List Int32} {nc ct : Int32} {D : List Int32 → Prop} {cw : List Int32} {c : Int} {tl : Int32} (self : own_BG KC KL CH OM0 DE FA OM QU nc ct D cw c tl) : ∀ w (c' : Int32) u, own_lt (c' :: w) → own_nd CH (c' :: w) = some u → (D w ∨ (w = cw ∧ c'.toInt < c)) → ∃ i : Int32, 0 ≤ i.toInt ∧ i.toInt < tl.toInt ∧ gI QU i = u := self.2.2.2.2.2.2.2.2.2.2.2.2.2.1
theorem own_BG.pa {KC KL CH OM0 DE FA OM QU : List Int32} {nc ct : Int32} {D : List Int32 → Prop} {cw : List Int32} {c : Int} {tl : Int32} (self : own_BG KC KL CH OM0 DE FA OM QU nc ct D cw c tl) : ∀ i : Int32, 0 ≤ i.toInt → i.toInt < tl.toInt → ∀ w (c' : Int32), own_lt (c' :: w) → own_nd CH (c' :: w) = some (gI QU i) → (D w ∨ (w = cw ∧ c'.toInt < c)) := self.2.2.2.2.2.2.2.2.2.2.2.2.2.2.1
theorem own_BG.nD {KC KL CH OM0 DE FA OM QU : List Int32} {nc ct : Int32} {D : List Int32 → Prop} {cw : List Int32} {c : Int} {tl : Int32} (self : own_BG KC KL CH OM0 DE FA OM QU nc ct D cw c tl) : ¬ D cw := self.2.2.2.2.2.2.2.2.2.2.2.2.2.2.2
theorem own_step {KC KL CH OM0 DE FA OM QU : List Int32} {nc ct : Int32} {D : List Int32 → Prop} {cw : List Int32} {c tl v g : Int32} (T : own_T CH nc) (B : own_BG KC KL CH OM0 DE FA OM QU nc ct D cw c.toInt tl) (hl : own_lt cw) (hv : own_nd CH cw = some v) (c0 : 0 ≤ c.toInt) (c1 : c.toInt < 26) (g0 : 0 ≤ g.toInt) (g1 : g.toInt ≤ 128) (Gp : ∃ m, own_Fl CH (c :: cw) m ∧ own_nd CH ((c :: cw).take m) = some g) (Ge : g = 0 ∨ ∃ j : Int32, 0 ≤ j.toInt ∧ j.toInt < tl.toInt ∧ gI QU j = g) :
    (gI CH (v * 26 + c) = 0 → own_BG KC KL CH OM0 (DE.set (v * 26 + c).toInt.toNat g) FA OM QU nc ct D cw (c + 1).toInt tl) ∧ (¬ gI CH (v * 26 + c) = 0 → 0 ≤ (gI CH (v * 26 + c)).toInt ∧ (gI CH (v * 26 + c)).toInt ≤ 128 ∧ own_BG KC KL CH OM0 (DE.set (v * 26 + c).toInt.toNat (gI CH (v * 26 + c))) (FA.set (gI CH (v * 26 + c)).toInt.toNat g) OM (QU.set tl.toInt.toNat (gI CH (v * 26 + c))) nc ct D cw (c + 1).toInt (tl + 1)) := by
  obtain ⟨vD, vF, vQ, lO, t0, t1, a, d, e, dn, om, un, row, ch, pa, nD⟩ := B
  have n1 := T.n1
  have rv := own_nd_r T cw v hl hv
  have ix := own_ix26 rv.1 (by omega) c0 c1
  have pc := own_p1 (a := c) (by omega)
  have lD := vD.1
  have lF := vF.1
  have lQ := vQ.1
  have e0 : (0 : Int32).toInt = 0 := rfl
  have gD : ∀ (y v' c' : Int32), 0 ≤ v'.toInt → v'.toInt < 129 → 0 ≤ c'.toInt → c'.toInt < 26 → gI (DE.set (v * 26 + c).toInt.toNat y) (v' * 26 + c') = if v = v' ∧ c = c' then y else gI DE (v' * 26 + c') := by
    intro y v' c' a0 a1 b0 b1
    have ix' := own_ix26 a0 (by omega) b0 b1
    rw [gset (by omega) (by omega) (by omega)]
    by_cases q : v = v' ∧ c = c'
    · rw [if_pos q, if_pos (by rw [q.1, q.2])]
    · rw [if_neg q, if_neg]
      intro e
      apply q
      rw [ieq] at e
      rw [ieq, ieq]
      omega
  have dn' : ∀ y : Int32, ∀ w v', own_lt w → D w → own_nd CH w = some v' → ∀ c' : Int32, 0 ≤ c'.toInt → c'.toInt < 26 → ∃ m, own_M CH (c' :: w) m ∧ own_nd CH ((c' :: w).take m) = some (gI (DE.set (v * 26 + c).toInt.toNat y) (v' * 26 + c')) := by
    intro y w v' hw Dw hv' c' b0 b1
    have rv' := own_nd_r T w v' hw hv'
    have ne : ¬ (v = v' ∧ c = c') := by
      rintro ⟨q, -⟩
      rw [← q] at hv'
      have := own_nd_i T w cw v hw hl hv' hv
      rw [this] at Dw
      exact nD Dw
    rw [gD y v' c' rv'.1 (by omega) b0 b1, if_neg ne]
    exact dn w v' hw Dw hv' c' b0 b1
  have row' : ∀ y : Int32, (∃ m, own_M CH (c :: cw) m ∧ own_nd CH ((c :: cw).take m) = some y) → ∀ v', own_nd CH cw = some v' → ∀ c' : Int32, 0 ≤ c'.toInt → c'.toInt < (c + 1).toInt → ∃ m, own_M CH (c' :: cw) m ∧ own_nd CH ((c' :: cw).take m) = some (gI (DE.set (v * 26 + c).toInt.toNat y) (v' * 26 + c')) := by
    intro y hy v' hv' c' b0 b1
    rw [hv] at hv'
    obtain rfl := Option.some.inj hv'
    rw [gD y v c' rv.1 (by omega) b0 (by omega)]
    by_cases q : c = c'
    · rw [if_pos ⟨rfl, q⟩, ← q]; exact hy
    · rw [if_neg (fun z => q z.2)]
      rw [ieq] at q
      exact row v hv c' b0 (by omega)
  constructor
  · intro z
    have nin : ¬ own_isn CH (c :: cw) := by
      rintro ⟨u, hu⟩
      obtain ⟨x, hx, hu2, nz⟩ := own_nd_c.mp hu
      rw [hv] at hx
      obtain rfl := Option.some.inj hx
      exact nz (hu2.symm.trans z)
    obtain ⟨m, f1, f2⟩ := Gp
    refine ⟨vD.put (by omega) (by omega) g0 g1, vF, vQ, lO, t0, t1, a, d, e, dn' g, om, un, row' g ⟨m, own_M_of f1 nin, f2⟩, ?_, ?_, nD⟩
    · rintro w c' u hw hu (q | ⟨q1, q2⟩)
      · exact ch w c' u hw hu (Or.inl q)
      · by_cases y : c' = c
        · rw [y, q1] at hu
          exact absurd ⟨u, hu⟩ nin
        · rw [ieq] at y
          exact ch w c' u hw hu (Or.inr ⟨q1, by omega⟩)
    · intro i i0 i1 w c' hw hu
      rcases pa i i0 i1 w c' hw hu with q | ⟨q1, q2⟩
      · exact Or.inl q
      · exact Or.inr ⟨q1, by omega⟩
  · intro z
    have hu : own_nd CH (c :: cw) = some (gI CH (v * 26 + c)) := own_nd_c.mpr ⟨v, hv, rfl, z⟩
    have hlc := hl.cons c0 c1
    generalize gI CH (v * 26 + c) = u at *
    have ru := own_nd_r T (c :: cw) u hlc hu
    have u1 := ru.2.2 (by simp)
    refine ⟨ru.1, by omega, ?_⟩
    have fresh : ∀ i : Int32, 0 ≤ i.toInt → i.toInt < tl.toInt → ¬ gI QU i = u := by
      intro i i0 i1 q
      rcases pa i i0 i1 cw c hlc (by rw [q]; exact hu) with y | ⟨-, y⟩
      · exact nD y
      · omega
    have gQ : ∀ i : Int32, 0 ≤ i.toInt → gI (QU.set tl.toInt.toNat u) i = if tl = i then u else gI QU i := fun i i0 => gset t0 (by omega) i0
    have gF : ∀ x : Int32, 0 ≤ x.toInt → gI (FA.set u.toInt.toNat g) x = if u = x then g else gI FA x := fun x x0 => gset ru.1 (by omega) x0
    have pt := own_p1 (a := tl) (by omega)
    have split : ∀ i : Int32, i.toInt < (tl + 1).toInt → tl = i ∨ (¬ tl = i ∧ i.toInt < tl.toInt) := by
      intro i hi
      by_cases q : tl = i
      · exact Or.inl q
      · have q' := q
        rw [ieq] at q'
        exact Or.inr ⟨q, by omega⟩
    have qn : ∀ i : Int32, 0 ≤ i.toInt → i.toInt < tl.toInt → 1 ≤ (gI QU i).toInt ∧ (gI QU i).toInt ≤ 128 := by
      intro i i0 i1
      obtain ⟨w, hw, ne, hn, -⟩ := a i i0 i1
      have r := own_nd_r T w _ hw hn
      exact ⟨r.2.2 ne, by omega⟩
    have fq : ∀ i : Int32, 0 ≤ i.toInt → i.toInt < tl.toInt → gI (FA.set u.toInt.toNat g) (gI QU i) = gI FA (gI QU i) := by
      intro i i0 i1
      have q := qn i i0 i1
      rw [gF _ (by omega), if_neg (fun y => fresh i i0 i1 y.symm)]
    have t2 : (tl + 1).toInt ≤ 128 := by
      have pg := own_pig 128 (tl.toInt.toNat + 1) (fun i => if i = tl.toInt.toNat then (u.toInt - 1).toNat else ((gI QU (Int32.ofNat i)).toInt - 1).toNat) (by
        intro i hi
        try dsimp only
        by_cases q : i = tl.toInt.toNat
        · rw [if_pos q]; omega
        · rw [if_neg q]
          have ei : (Int32.ofNat i).toInt = i := Int32.toInt_ofNat_of_lt (by omega)
          have := qn (Int32.ofNat i) (by omega) (by omega)
          omega) (by
        intro i j ij hj
        try dsimp only
        have ei : (Int32.ofNat i).toInt = i := Int32.toInt_ofNat_of_lt (by omega)
        have qi := qn (Int32.ofNat i) (by omega) (by omega)
        rw [if_neg (by omega)]
        by_cases q : j = tl.toInt.toNat
        · rw [if_pos q]
          have fr := fresh (Int32.ofNat i) (by omega) (by omega)
          rw [ieq] at fr
          omega
        · rw [if_neg q]
          have ej : (Int32.ofNat j).toInt = j := Int32.toInt_ofNat_of_lt (by omega)
          have qj := qn (Int32.ofNat j) (by omega) (by omega)
          intro eq
          have : gI QU (Int32.ofNat i) = gI QU (Int32.ofNat j) := by rw [ieq]; omega
          have := d (Int32.ofNat i) (Int32.ofNat j) (by omega) (by omega) (by omega) (by omega) this
          rw [ieq] at this
          omega)
      omega
    refine ⟨vD.put (by omega) (by omega) ru.1 (by omega), vF.put ru.1 (by omega) g0 g1, vQ.put t0 (by omega) ru.1 (by omega), lO, by omega, t2, ?_, ?_, ?_, dn' u, om, un, row' u ⟨_, own_M_full ⟨u, hu⟩, by rw [List.take_length]; exact hu⟩, ?_, ?_, nD⟩
    · intro i i0 i1
      rw [gQ i i0]
      rcases split i i1 with q | ⟨q, q'⟩
      · rw [if_pos q]
        obtain ⟨m, f1, f2⟩ := Gp
        exact ⟨c :: cw, hlc, by simp, hu, m, f1, by rw [gF u ru.1, if_pos rfl]; exact f2⟩
      · rw [if_neg q, fq i i0 q']
        exact a i i0 q'
    · intro i j i0 i1 j0 j1 q
      rw [gQ i i0, gQ j j0] at q
      rcases split i i1 with y | ⟨y, y'⟩ <;> rcases split j j1 with x | ⟨x, x'⟩
      · rw [← y, ← x]
      · rw [if_pos y, if_neg x] at q
        exact absurd q.symm (fresh j j0 x')
      · rw [if_neg y, if_pos x] at q
        exact absurd q (fresh i i0 y')
      · rw [if_neg y, if_neg x] at q
        exact d i j i0 y' j0 x' q
    · intro i i0 i1
      rw [gQ i i0]
      rcases split i i1 with q | ⟨q, q'⟩
      · rw [if_pos q, gF u ru.1, if_pos rfl]
        rcases Ge with y | ⟨j, j0, j1, y⟩
        · exact Or.inl y
        · refine Or.inr ⟨j, j0, by rw [← q]; exact j1, ?_⟩
          rw [gQ j j0, if_neg (fun w => by rw [ieq] at w; omega)]
          exact y
      · rw [if_neg q, fq i i0 q']
        rcases e i i0 q' with y | ⟨j, j0, j1, y⟩
        · exact Or.inl y
        · refine Or.inr ⟨j, j0, j1, ?_⟩
          rw [gQ j j0, if_neg (fun w => by rw [ieq] at w; omega)]
          exact y
    · rintro w c' u' hw hu' q
      by_cases y : w = cw ∧ c' = c
      · refine ⟨tl, t0, by omega, ?_⟩
        rw [gQ tl t0, if_pos rfl]
        rw [y.1, y.2, hu] at hu'
        exact Option.some.inj hu'
      · have old : D w ∨ (w = cw ∧ c'.toInt < c.toInt) := by
          rcases q with q | ⟨q1, q2⟩
          · exact Or.inl q
          · refine Or.inr ⟨q1, ?_⟩
            have : ¬ c' = c := fun x => y ⟨q1, x⟩
            rw [ieq] at this
            omega
        obtain ⟨i, i0, i1, ei⟩ := ch w c' u' hw hu' old
        refine ⟨i, i0, by omega, ?_⟩
        rw [gQ i i0, if_neg (fun w => by rw [ieq] at w; omega)]
        exact ei
    · intro i i0 i1 w c' hw hu'
      rw [gQ i i0] at hu'
      rcases split i i1 with q | ⟨q, q'⟩
      · rw [if_pos q] at hu'
        have := own_nd_i T (c' :: w) (c :: cw) u hw hlc hu' hu
        injection this with x1 x2
        exact Or.inr ⟨x2, by rw [x1]; omega⟩
      · rw [if_neg q] at hu'
        rcases pa i i0 q' w c' hw hu' with y | ⟨y1, y2⟩
        · exact Or.inl y
        · exact Or.inr ⟨y1, by omega⟩
theorem own_E {KC KL CH OM0 DE FA OM QU : List Int32} {nc ct : Int32} {D : List Int32 → Prop} {cw : List Int32} {c : Int} {tl : Int32} (T : own_T CH nc) (B : own_BG KC KL CH OM0 DE FA OM QU nc ct D cw c tl) : ∀ (n : Nat) (i : Int32) (w : List Int32), i.toInt = n → i.toInt < tl.toInt → own_lt w → own_nd CH w = some (gI QU i) → ∀ k, k < w.length → own_isn CH (w.take k) → w.take k = [] ∨ ∃ j : Int32, 0 ≤ j.toInt ∧ j.toInt < i.toInt ∧ own_nd CH (w.take k) = some (gI QU j) := by
  intro n
  induction n using Nat.strongRecOn with
  | _ n ih =>
    intro i w hi i1 hw hn k hk hin
    obtain ⟨w', hw', ne, hn', m, fl, hf⟩ := B.a i (by omega) i1
    have ww := own_nd_i T w w' _ hw hw' hn hn'
    subst ww
    obtain ⟨f1, f2, f3⟩ := fl
    have km := f3 k hk hin
    rcases B.e i (by omega) i1 with z | ⟨j, j0, j1, ej⟩
    · rw [z] at hf
      have wm := own_nd_i T (w.take m) [] 0 (hw.take m) (fun d hd => absurd hd (by simp)) hf rfl
      left
      have l := congrArg List.length wm
      rw [List.length_take, Nat.min_eq_left (by omega), List.length_nil] at l
      have : k = 0 := by omega
      rw [this]
      rfl
    · by_cases q : k = m
      · right
        exact ⟨j, j0, j1, by rw [q, hf, ej]⟩
      · have tt2 : (w.take m).take k = w.take k := by rw [List.take_take, Nat.min_eq_left (by omega)]
        rw [← ej] at hf
        rcases ih j.toInt.toNat (by omega) j (w.take m) (by omega) (by omega) (hw.take m) hf k (by rw [List.length_take, Nat.min_eq_left (by omega)]; omega) (by rw [tt2]; exact hin) with y | ⟨j', j0', j1', y⟩
        · left; rw [← tt2]; exact y
        · right
          exact ⟨j', j0', by omega, by rw [← tt2]; exact y⟩
theorem own_58X {KC KL CH OM0 OM QU0 : List Int32} {nc ct f v tl0 : Int32} {D : List Int32 → Prop} {cw : List Int32} {m : Nat} (T : own_T CH nc) (hl : own_lt cw) (hv : own_nd CH cw = some v) (fl : own_Fl CH cw m) (hf : own_nd CH (cw.take m) = some f) (dE : ∀ k, k < cw.length → own_isn CH (cw.take k) → D (cw.take k)) : ∀ (n : Nat) (DE FA QU : List Int32) (t c : Int32), 0 ≤ c.toInt → c.toInt ≤ 26 → 26 - c.toInt < n → own_BG KC KL CH OM0 DE FA OM QU nc ct D cw c.toInt t → tl0.toInt ≤ t.toInt → (∀ i : Int32, 0 ≤ i.toInt → i.toInt < tl0.toInt → gI QU i = gI QU0 i) →
    Tot (f_expandNode_58 CH n DE FA OM QU v f t c) (fun (r, DE', FA', OM', QU') => OM' = OM ∧ own_BG KC KL CH OM0 DE' FA' OM QU' nc ct D cw 26 r ∧ tl0.toInt ≤ r.toInt ∧ (∀ i : Int32, 0 ≤ i.toInt → i.toInt < tl0.toInt → gI QU' i = gI QU0 i)) := by
  intro n
  have e26 : (26 : Int32).toInt = 26 := rfl
  have e129 : (129 : Int32).toInt = 129 := rfl
  have n1 := T.n1
  have lCH := T.l
  have rv := own_nd_r T cw v hl hv
  have rf := own_nd_r T _ f (hl.take m) hf
  induction n with
  | zero => intro DE FA QU t c a b d; exfalso; omega
  | succ n ih =>
    intro DE FA QU t c c0 c1 hn B ht hq
    unfold f_expandNode_58
    have lD := B.vD.1
    have lF := B.vF.1
    have lQ := B.vQ.1
    have t0 := B.t0
    have t1 := B.t1
    by_cases g : c < 26
    rotate_left
    · rw [if_neg g]
      rw [ilt] at g
      have c26 : c.toInt = 26 := by omega
      rw [c26] at B
      exact Tot.mk ⟨rfl, B, ht, hq⟩
    rw [if_pos g]
    rw [ilt] at g
    have pc := own_p1 (a := c) (by omega)
    have jv := own_ix26 (v := v) (c := c) rv.1 (by omega) c0 (by omega)
    have jf := own_ix26 (v := f) (c := c) rf.1 (by omega) c0 (by omega)
    rw [rdg (by omega) (by omega), Option.bind_some, rdg (by omega) (by omega), Option.bind_some]
    have ml := fl.1
    have Dw : D (cw.take m) := dE m ml ⟨f, hf⟩
    obtain ⟨m2, M2, hg⟩ := B.dn _ f (hl.take m) Dw hf c c0 (by omega)
    have ll : (c :: cw.take m).length = m + 1 := by rw [List.length_cons, List.length_take, Nat.min_eq_left (by omega)]
    have m2l : m2 ≤ m + 1 := by have := M2.1; omega
    have Fs := own_Fl_step fl M2
    have hg2 : own_nd CH ((c :: cw).take m2) = some (gI DE (f * 26 + c)) := by rw [← own_tk m2l]; exact hg
    have rg := own_nd_r T _ _ ((hl.cons c0 (by omega)).take m2) hg2
    have Ge : gI DE (f * 26 + c) = 0 ∨ ∃ j : Int32, 0 ≤ j.toInt ∧ j.toInt < t.toInt ∧ gI QU j = gI DE (f * 26 + c) := by
      rcases m2 with _ | k
      · left
        rw [List.take_zero] at hg2
        exact (Option.some.inj hg2).symm
      · right
        rw [List.take_succ_cons] at hg2
        refine B.ch (cw.take k) c _ ((hl.take k).cons c0 (by omega)) hg2 (Or.inl (dE k (by omega) (own_isn_tl ⟨_, hg2⟩)))
    obtain ⟨s1, s2⟩ := own_step (g := gI DE (f * 26 + c)) T B hl hv c0 (by omega) rg.1 (by omega) ⟨m2, Fs, hg2⟩ Ge
    refine own_iE (fun z => ?_) (fun z => ?_)
    · rw [wrA_in (by omega) (by omega), Option.bind_some]
      exact ih _ _ _ _ _ (by omega) (by omega) (by omega) (s1 z) ht hq
    · obtain ⟨u0, u1, B2⟩ := s2 z
      have pt := own_p1 (a := t) (by omega)
      rw [wrA_in u0 (by omega), Option.bind_some, wrA_in (by omega) (by omega), Option.bind_some, if_pos (by rw [ilt]; omega), wrA_in t0 (by omega), Option.bind_some]
      refine ih _ _ _ _ _ (by omega) (by omega) (by omega) B2 (by omega) (fun i i0 i1 => ?_)
      rw [gset t0 (by omega) i0, if_neg (fun y => by rw [ieq] at y; omega)]
      exact hq i i0 i1
theorem own_nextBG {KC KL CH TM OM0 DE FA OM QU : List Int32} {nc ct tl v f : Int32} {D : List Int32 → Prop} {cw cw' : List Int32} {m : Nat} (h : own_KG KC KL ct) (K : own_TK KC KL CH TM OM0 nc ct) (B : own_BG KC KL CH OM0 DE FA OM QU nc ct D cw 26 tl) (hl : own_lt cw') (hv : own_nd CH cw' = some v) (nd1 : ¬ (D cw' ∨ cw' = cw)) (fl : own_Fl CH cw' m) (hf : own_nd CH (cw'.take m) = some f) (Df : D (cw'.take m) ∨ cw'.take m = cw) : own_BG KC KL CH OM0 DE FA (OM.set v.toInt.toNat (gI OM v ||| gI OM f)) QU nc ct (fun w => D w ∨ w = cw) cw' 0 tl := by
  obtain ⟨vD, vF, vQ, lO, t0, t1, a, d, e, dn, om, un, row, ch, pa, nD⟩ := B
  have T := K.T
  have n1 := T.n1
  have rv := own_nd_r T cw' v hl hv
  have gO : ∀ x : Int32, 0 ≤ x.toInt → gI (OM.set v.toInt.toNat (gI OM v ||| gI OM f)) x = if v = x then gI OM v ||| gI OM f else gI OM x := fun x x0 => gset rv.1 (by omega) x0
  have other : ∀ w x, own_lt w → own_nd CH w = some x → ¬ w = cw' → ¬ v = x := by
    intro w x hw hx ne q
    rw [← q] at hx
    exact ne (own_nd_i T w cw' v hw hl hx hv)
  refine ⟨vD, vF, vQ, by rw [List.length_set]; exact lO, t0, t1, a, d, e, ?_, ?_, ?_, fun _ _ c' b0 b1 => by omega, ?_, ?_, nd1⟩
  · rintro w x hw (q | q) hx c' b0 b1
    · exact dn w x hw q hx c' b0 b1
    · subst q
      exact row x hx c' b0 b1
  · rintro w x hw q hx
    have rx := own_nd_r T w x hw hx
    rw [gO x rx.1]
    by_cases z : w = cw'
    · subst z
      have vx : v = x := by rw [hv] at hx; exact Option.some.inj hx
      rw [if_pos vx]
      have o1 := un w v hw (fun y => nd1 (Or.inl y)) (fun y => nd1 (Or.inr y)) hv
      have o2 := om _ f (hl.take m) Df hf
      intro b hb
      rw [own_mbo, Bool.or_eq_true, o1, K.O w v hw hv b hb, o2 b hb]
      constructor
      · rintro (⟨i, i0, i1, i2, i3⟩ | ⟨i, i0, i1, i2, k, k0, k1⟩)
        · exact ⟨i, i0, i1, i2, w.length, Nat.le_refl _, by rw [List.take_length]; exact i3⟩
        · rw [List.length_take, Nat.min_eq_left (by have := fl.1; omega)] at k0
          rw [List.take_take, Nat.min_eq_left k0] at k1
          exact ⟨i, i0, i1, i2, k, by have := fl.1; omega, k1⟩
      · rintro ⟨i, i0, i1, i2, k, k0, k1⟩
        by_cases y : k = w.length
        · left
          rw [y, List.take_length] at k1
          exact ⟨i, i0, i1, i2, k1⟩
        · right
          have hin : own_isn CH (w.take k) := by
            obtain ⟨u, hu⟩ := K.W i i0 i1
            exact ⟨u, by rw [k1]; exact hu⟩
          have km := fl.2.2 k (by omega) hin
          exact ⟨i, i0, i1, i2, k, by rw [List.length_take, Nat.min_eq_left (by have := fl.1; omega)]; exact km, by rw [List.take_take, Nat.min_eq_left km]; exact k1⟩
    · rw [if_neg (other w x hw hx z)]
      rcases q with q | q
      · exact om w x hw q hx
      · exact absurd q z
  · intro w x hw q z hx
    have rx := own_nd_r T w x hw hx
    rw [gO x rx.1, if_neg (other w x hw hx z)]
    exact un w x hw (fun y => q (Or.inl y)) (fun y => q (Or.inr y)) hx
  · rintro w c' u hw hu (q | ⟨-, q⟩)
    · refine ch w c' u hw hu ?_
      rcases q with q | q
      · exact Or.inl q
      · exact Or.inr ⟨q, hw.hd.2⟩
    · exact absurd hw.hd.1 (by omega)
  · intro i i0 i1 w c' hw hu
    rcases pa i i0 i1 w c' hw hu with q | ⟨q, -⟩
    · exact Or.inl (Or.inl q)
    · exact Or.inl (Or.inr q)
def own_AC (KC KL CH DE OM : List Int32) (ct : Int32) : Prop := ∀ w v, own_lt w → own_nd CH w = some v → (∀ c' : Int32, 0 ≤ c'.toInt → c'.toInt < 26 → ∃ m, own_M CH (c' :: w) m ∧ own_nd CH ((c' :: w).take m) = some (gI DE (v * 26 + c'))) ∧ own_omf KC KL ct (gI OM v) w
theorem own_74X {KC KL CH TM OM0 : List Int32} {nc ct : Int32} (h : own_KG KC KL ct) (K : own_TK KC KL CH TM OM0 nc ct) : ∀ (n : Nat) (DE FA OM QU : List Int32) (hd tl : Int32) (D : List Int32 → Prop) (cw : List Int32), 0 ≤ hd.toInt → hd.toInt ≤ tl.toInt → 129 - hd.toInt < n → own_BG KC KL CH OM0 DE FA OM QU nc ct D cw 26 tl → (∀ w, own_lt w → own_isn CH w → ((D w ∨ w = cw) ↔ (w = [] ∨ ∃ i : Int32, 0 ≤ i.toInt ∧ i.toInt < hd.toInt ∧ own_nd CH w = some (gI QU i)))) →
    Tot (f_computeLinks_74 CH n DE FA OM QU hd tl hd) (fun (DE', FA', OM', QU') => own_V DE' 3354 0 128 ∧ OM'.length = 129 ∧ own_AC KC KL CH DE' OM' ct) := by
  intro n
  have T := K.T
  have n1 := T.n1
  have e0 : (0 : Int32).toInt = 0 := rfl
  have e129 : (129 : Int32).toInt = 129 := rfl
  induction n with
  | zero => intro DE FA OM QU hd tl D cw a b c B; have := B.t1; exfalso; omega
  | succ n ih =>
    intro DE FA OM QU hd tl D cw h0 h1 hn B lk
    have t1 := B.t1
    have lQ := B.vQ.1
    have lF := B.vF.1
    have lO := B.lO
    unfold f_computeLinks_74
    rw [if_pos (by rw [ilt]; omega)]
    by_cases g : hd < tl
    rotate_left
    · rw [if_neg g]
      rw [ilt] at g
      have all : ∀ w, own_lt w → own_isn CH w → (D w ∨ w = cw) := by
        intro w
        induction w with
        | nil => intro hl hi; exact (lk [] hl hi).mpr (Or.inl rfl)
        | cons c w ihw =>
          intro hl hi
          obtain ⟨u, hu⟩ := hi
          have q := ihw hl.tl (own_isn_tl ⟨u, hu⟩)
          obtain ⟨i, i0, i1, ei⟩ := B.ch w c u hl hu (by
            rcases q with q | q
            · exact Or.inl q
            · exact Or.inr ⟨q, hl.hd.2⟩)
          exact (lk _ hl ⟨u, hu⟩).mpr (Or.inr ⟨i, i0, by omega, by rw [hu, ei]⟩)
      refine Tot.mk ⟨B.vD, lO, fun w v hl hv => ⟨fun c' b0 b1 => ?_, B.om w v hl (all w hl ⟨v, hv⟩) hv⟩⟩
      rcases all w hl ⟨v, hv⟩ with q | q
      · exact B.dn w v hl q hv c' b0 b1
      · subst q
        exact B.row v hv c' b0 b1
    rw [if_pos g]
    rw [ilt] at g
    have ph := own_p1 (a := hd) (by omega)
    rw [rdg h0 (by omega), Option.bind_some]
    obtain ⟨cw', hl, ne, hv, m, fl, hf⟩ := B.a hd h0 g
    have rv := own_nd_r T cw' _ hl hv
    have v1 := rv.2.2 ne
    have rf := own_nd_r T _ _ (hl.take m) hf
    have nd1 : ¬ (D cw' ∨ cw' = cw) := by
      intro q
      rcases (lk cw' hl ⟨_, hv⟩).mp q with y | ⟨i, i0, i1, y⟩
      · exact ne y
      · rw [hv] at y
        have := B.d i hd i0 (by omega) h0 g (Option.some.inj y).symm
        rw [ieq] at this
        omega
    have dE : ∀ k, k < cw'.length → own_isn CH (cw'.take k) → (D (cw'.take k) ∨ cw'.take k = cw) := by
      intro k hk hin
      refine (lk _ (hl.take k) hin).mpr ?_
      exact own_E T B hd.toInt.toNat hd cw' (by omega) g hl hv k hk hin
    have B2 := own_nextBG h K B hl hv nd1 fl hf (dE m fl.1 fl.2.1)
    have fe : (if gI FA (gI QU hd) < 0 then (0 : Int32) else (if gI FA (gI QU hd) < 129 then gI FA (gI QU hd) else 0)) = gI FA (gI QU hd) := by
      rw [if_neg (by rw [ilt]; omega), if_pos (by rw [ilt]; omega)]
    have ex : Tot (f_expandNode CH DE FA OM QU (gI QU hd) tl) (fun (r, DE', FA', OM', QU') => OM' = OM.set (gI QU hd).toInt.toNat (gI OM (gI QU hd) ||| gI OM (gI FA (gI QU hd))) ∧ own_BG KC KL CH OM0 DE' FA' (OM.set (gI QU hd).toInt.toNat (gI OM (gI QU hd) ||| gI OM (gI FA (gI QU hd)))) QU' nc ct (fun w => D w ∨ w = cw) cw' 26 r ∧ tl.toInt ≤ r.toInt ∧ (∀ i : Int32, 0 ≤ i.toInt → i.toInt < tl.toInt → gI QU' i = gI QU i)) := by
      unfold f_expandNode
      rw [if_pos (by rw [ilt]; omega), if_pos (by rw [ilt]; omega), rdg rv.1 (by omega), Option.bind_some, fe]
      unfold f_expandNode_33
      rw [rdg rv.1 (by omega), Option.bind_some, rdg rf.1 (by omega), Option.bind_some, wrA_in rv.1 (by omega), Option.bind_some]
      exact own_58X T hl hv fl hf dE 100000 DE FA QU tl 0 (by decide) (by decide) (by decide) B2 (Int.le_refl _) (fun i _ _ => rfl)
    refine Tot.bind ex ?_
    rintro ⟨r, DE', FA', OM', QU'⟩ ⟨eO, B3, r1, hq⟩
    have eO2 : OM' = OM.set (gI QU hd).toInt.toNat (gI OM (gI QU hd) ||| gI OM (gI FA (gI QU hd))) := eO
    have B4 : own_BG KC KL CH OM0 DE' FA' OM' QU' nc ct (fun w => D w ∨ w = cw) cw' 26 r := by rw [eO2]; exact B3
    have r2 : tl.toInt ≤ r.toInt := r1
    have hq2 : ∀ i : Int32, 0 ≤ i.toInt → i.toInt < tl.toInt → gI QU' i = gI QU i := hq
    refine ih DE' FA' OM' QU' (hd + 1) r _ cw' (by omega) (by omega) (by omega) B4 ?_
    intro w hw hin
    constructor
    · rintro (q | q)
      · rcases (lk w hw hin).mp q with y | ⟨i, i0, i1, y⟩
        · exact Or.inl y
        · exact Or.inr ⟨i, i0, by omega, by rw [hq2 i i0 (by omega)]; exact y⟩
      · exact Or.inr ⟨hd, h0, by omega, by rw [hq2 hd h0 g, q]; exact hv⟩
    · rintro (q | ⟨i, i0, i1, y⟩)
      · exact Or.inl ((lk w hw hin).mpr (Or.inl q))
      · rw [hq2 i i0 (by omega)] at y
        by_cases z : i = hd
        · right
          rw [z] at y
          exact own_nd_i T w cw' _ hw hl y hv
        · rw [ieq] at z
          exact Or.inl ((lk w hw hin).mpr (Or.inr ⟨i, i0, by omega, y⟩))
theorem own_13X {KC KL CH TM OM0 : List Int32} {nc ct : Int32} (h : own_KG KC KL ct) (K : own_TK KC KL CH TM OM0 nc ct) : ∀ (n : Nat) (DE FA QU : List Int32) (tl c : Int32), 0 ≤ c.toInt → c.toInt ≤ 26 → 26 - c.toInt < n → own_BG KC KL CH OM0 DE FA OM0 QU nc ct (fun _ => False) [] c.toInt tl →
    Tot (f_computeLinks_13 (f_computeLinks_74 CH 100000) CH n DE FA OM0 QU 0 tl c) (fun (DE', FA', OM', QU') => own_V DE' 3354 0 128 ∧ OM'.length = 129 ∧ own_AC KC KL CH DE' OM' ct) := by
  intro n
  have T := K.T
  have n1 := T.n1
  have lCH := T.l
  have e0 : (0 : Int32).toInt = 0 := rfl
  have e26 : (26 : Int32).toInt = 26 := rfl
  have e129 : (129 : Int32).toInt = 129 := rfl
  have ln : own_lt [] := fun d hd => absurd hd (by simp)
  induction n with
  | zero => intro DE FA QU tl c a b d; exfalso; omega
  | succ n ih =>
    intro DE FA QU tl c c0 c1 hn B
    have t0 := B.t0
    have t1 := B.t1
    have lD := B.vD.1
    have lF := B.vF.1
    have lQ := B.vQ.1
    unfold f_computeLinks_13
    by_cases g : c < 26
    rotate_left
    · rw [if_neg g]
      rw [ilt] at g
      have c26 : c.toInt = 26 := by omega
      rw [c26] at B
      refine own_74X h K 100000 DE FA OM0 QU 0 tl _ [] (by decide) t0 (by decide) B (fun w hw hin => ?_)
      constructor
      · rintro (q | q)
        · exact absurd q (by simp)
        · exact Or.inl q
      · rintro (q | ⟨i, i0, i1, -⟩)
        · exact Or.inr q
        · omega
    rw [if_pos g]
    rw [ilt] at g
    have pc := own_p1 (a := c) (by omega)
    have zc : (0 : Int32) * 26 + c = c := by rw [Int32.zero_mul, Int32.zero_add]
    have Gp : ∃ m, own_Fl CH [c] m ∧ own_nd CH (([c] : List Int32).take m) = some 0 := ⟨0, ⟨by simp, own_isn_nil CH, fun m' hm _ => by simp at hm; omega⟩, rfl⟩
    obtain ⟨s1, s2⟩ := own_step (g := 0) T B ln rfl c0 (by omega) (by decide) (by decide) Gp (Or.inl rfl)
    rw [zc] at s1 s2
    rw [rdg c0 (by omega), Option.bind_some, wrA_in c0 (by omega), Option.bind_some]
    refine own_iE (fun z => ?_) (fun z => ?_)
    · rw [z]
      exact ih _ _ _ _ _ (by omega) (by omega) (by omega) (s1 z)
    · obtain ⟨u0, u1, B2⟩ := s2 z
      have pt := own_p1 (a := tl) (by omega)
      rw [if_pos (by rw [ilt]; omega), wrA_in u0 (by omega), Option.bind_some, wrA_in t0 (by omega), Option.bind_some]
      exact ih _ _ _ _ _ (by omega) (by omega) (by omega) B2
theorem own_clX {KC KL CH TM OM0 DE FA QU : List Int32} {nc ct : Int32} (h : own_KG KC KL ct) (K : own_TK KC KL CH TM OM0 nc ct) (vD : own_V DE 3354 0 128) (vF : own_V FA 129 0 128) (vQ : own_V QU 129 0 128) : Tot (f_computeLinks CH DE FA OM0 QU) (fun (DE', FA', OM', QU') => own_V DE' 3354 0 128 ∧ OM'.length = 129 ∧ own_AC KC KL CH DE' OM' ct) := by
  have lF := vF.1
  have e0 : (0 : Int32).toInt = 0 := rfl
  unfold f_computeLinks
  rw [wrA_in (by decide) (by rw [lF]; decide), Option.bind_some]
  refine own_13X h K 100000 DE _ QU 0 0 (by decide) (by decide) (by decide) ⟨vD, vF.put (by decide) (by decide) (by decide) (by decide), vQ, K.lO, by decide, by decide, fun i i0 i1 => by omega, fun i j i0 i1 => by omega, fun i i0 i1 => by omega, fun w v _ q => absurd q (by simp), ?_, fun w v _ _ _ _ => rfl, fun v _ c' b0 b1 => by omega, ?_, fun i i0 i1 => by omega, by simp⟩
  · rintro w v hl (q | q) hv
    · exact absurd q (by simp)
    · subst q
      intro b hb
      rw [K.O [] v hl hv b hb]
      constructor
      · rintro ⟨i, i0, i1, i2, i3⟩
        exact absurd i3.symm (h.kl i0 i1).2.2
      · rintro ⟨i, i0, i1, i2, k, k0, k1⟩
        rw [List.take_nil] at k1
        exact absurd k1.symm (h.kl i0 i1).2.2
  · rintro w c' u hl hu (q | ⟨-, q⟩)
    · exact absurd q (by simp)
    · exact absurd hl.hd.1 (by omega)
theorem own_ACs {KC KL CH TM OM0 DE OM : List Int32} {nc ct st : Int32} (K : own_TK KC KL CH TM OM0 nc ct) (A : own_AC KC KL CH DE OM ct) {t : List Int32} (hl : own_lt t) {m : Nat} (hm : own_M CH t m) (hs : own_nd CH (t.take m) = some st) :
    (∀ c : Int32, 0 ≤ c.toInt → c.toInt < 26 → ∃ m', own_M CH (c :: t) m' ∧ own_nd CH ((c :: t).take m') = some (gI DE (st * 26 + c))) ∧ ∀ b : Nat, b < 32 → (own_mb (gI OM st) b = true ↔ ∃ i : Int32, 0 ≤ i.toInt ∧ i.toInt < ct.toInt ∧ i.toInt = b ∧ ∃ q, q ≤ t.length ∧ t.take q = own_kw KC KL i) := by
  obtain ⟨a1, a2⟩ := A _ st (hl.take m) hs
  refine ⟨fun c c0 c1 => ?_, fun b hb => ?_⟩
  · obtain ⟨m2, M2, h2⟩ := a1 c c0 c1
    have ml := hm.1
    have ll : (c :: t.take m).length = m + 1 := by rw [List.length_cons, List.length_take, Nat.min_eq_left ml]
    have m2l : m2 ≤ m + 1 := by have := M2.1; omega
    exact ⟨m2, own_M_step hm M2, by rw [← own_tk m2l]; exact h2⟩
  · rw [a2 b hb]
    have ml := hm.1
    constructor
    · rintro ⟨i, i0, i1, i2, q, q0, q1⟩
      rw [List.length_take, Nat.min_eq_left ml] at q0
      rw [List.take_take, Nat.min_eq_left q0] at q1
      exact ⟨i, i0, i1, i2, q, by omega, q1⟩
    · rintro ⟨i, i0, i1, i2, q, q0, q1⟩
      have hin : own_isn CH (t.take q) := by
        obtain ⟨u, hu⟩ := K.W i i0 i1
        exact ⟨u, by rw [q1]; exact hu⟩
      have qm := hm.2.2 q q0 hin
      exact ⟨i, i0, i1, i2, q, by rw [List.length_take, Nat.min_eq_left ml]; exact qm, by rw [List.take_take, Nat.min_eq_left qm]; exact q1⟩
theorem own_T.vC {CH : List Int32} {nc : Int32} (T : own_T CH nc) : own_V CH 3354 0 128 := by
  have n1 := T.n1
  refine ⟨T.l, fun x x0 x1 => ?_⟩
  have i1 : (Int32.ofNat (x.toInt.toNat / 26)).toInt = ((x.toInt.toNat / 26 : Nat) : Int) := Int32.toInt_ofNat_of_lt (by omega)
  have j1 : (Int32.ofNat (x.toInt.toNat % 26)).toInt = ((x.toInt.toNat % 26 : Nat) : Int) := Int32.toInt_ofNat_of_lt (by omega)
  generalize Int32.ofNat (x.toInt.toNat / 26) = i at i1
  generalize Int32.ofNat (x.toInt.toNat % 26) = j at j1
  have kx := own_ix26 (v := i) (c := j) (by omega) (by omega) (by omega) (by omega)
  have ex : x = i * 26 + j := by rw [ieq, kx, i1, j1]; omega
  rw [ex]
  rcases T.b i j (by omega) (by omega) (by omega) (by omega) with q | ⟨q1, q2⟩
  · rw [q]; decide
  · omega
theorem own_TK.vT {KC KL CH TM OM0 : List Int32} {nc ct : Int32} (K : own_TK KC KL CH TM OM0 nc ct) (c1 : ct.toInt ≤ 16) : own_V TM 129 (-1) 15 := by
  refine ⟨K.lT, fun x x0 x1 => ?_⟩
  by_cases q : x.toInt < nc.toInt
  · obtain ⟨w, hl, hw⟩ := own_nd_e K.T x.toInt.toNat x (by omega) q
    rcases K.M w x hl hw with ⟨e, -⟩ | ⟨i, i0, i1, e, -⟩
    · rw [e]; decide
    · rw [e]; omega
  · rw [K.Mz x (by omega) (by omega)]; decide
theorem own_la2 {KC KL CH TM OM0 TX : List Int32} {nc ct n i : Int32} (h : own_KG KC KL ct) (K : own_TK KC KL CH TM OM0 nc ct) (lX : TX.length = 240) (n1 : n.toInt ≤ 240) (i0 : 0 ≤ i.toInt) (i1 : i.toInt ≤ 300) : ∃ k : Int32, f_longestAt CH TM TX n i = some k ∧ (k = -1 ∨ (0 ≤ k.toInt ∧ k.toInt < ct.toInt ∧ i.toInt + (gI KL k).toInt ≤ n.toInt)) := by
  have e0 : (0 : Int32).toInt = 0 := rfl
  have e8 : (8 : Int32).toInt = 8 := rfl
  have e97 : (97 : Int32).toInt = 97 := rfl
  have T := K.T
  have t1 := T.n1
  have lC := T.l
  have lT := K.lT
  have key : ∀ (f j : Nat) (v2 v3 v4 : Int32) (w : List Int32), v4.toInt = j → j ≤ 8 → 8 - j < f → own_lt w → w.length = j → own_nd CH w = some v3 → (v2 = -1 ∨ (0 ≤ v2.toInt ∧ v2.toInt < ct.toInt ∧ i.toInt + (gI KL v2).toInt ≤ n.toInt)) → ∃ k : Int32, f_longestAt_7 CH TM TX n f i v2 v3 v4 = some k ∧ (k = -1 ∨ (0 ≤ k.toInt ∧ k.toInt < ct.toInt ∧ i.toInt + (gI KL k).toInt ≤ n.toInt)) := by
    intro f
    induction f with
    | zero => intro j v2 v3 v4 w a b c; exfalso; omega
    | succ f ih =>
      intro j v2 v3 v4 w hj j8 c hl hw hn hv
      have r3 := own_nd_r T w v3 hl hn
      unfold f_longestAt_7
      by_cases g : v4 < 8
      rotate_left
      · rw [if_neg g]; exact ⟨v2, rfl, hv⟩
      rw [if_pos g]
      rw [ilt] at g
      have p4 := own_p1 (a := v4) (by omega)
      have iv : (i + v4).toInt = i.toInt + v4.toInt := iadd_i (by omega) (by omega)
      rw [if_neg (by rw [ilt]; omega)]
      by_cases g2 : i + v4 < n
      rotate_left
      · rw [if_neg g2]; exact ⟨v2, rfl, hv⟩
      rw [if_pos g2]
      rw [ilt] at g2
      rw [rdg (by omega) (by omega), Option.bind_some]
      generalize gI TX (i + v4) = x
      rcases own_let x with ⟨e, -⟩ | ⟨e, h1, h2⟩
      · rw [e, Option.bind_some, if_pos rfl]; exact ⟨v2, rfl, hv⟩
      · rw [e, Option.bind_some, if_neg (by decide)]
        have sc : (x - 97).toInt = x.toInt - 97 := by rw [isub_i (by omega) (by omega), e97]
        have jx := own_ix26 (v := v3) (c := x - 97) r3.1 (by omega) (by omega) (by omega)
        rw [rdg (by omega) (by omega), Option.bind_some]
        by_cases z : gI CH (v3 * 26 + (x - 97)) = 0
        · rw [if_pos z]; exact ⟨v2, rfl, hv⟩
        · rw [if_neg z]
          have hl2 := hl.cons (c := x - 97) (by omega) (by omega)
          have hn2 : own_nd CH ((x - 97) :: w) = some (gI CH (v3 * 26 + (x - 97))) := own_nd_c.mpr ⟨v3, hn, rfl, z⟩
          have r4 := own_nd_r T _ _ hl2 hn2
          have l2 : ((x - 97) :: w).length = j + 1 := by rw [List.length_cons, hw]
          rw [rdg r4.1 (by omega)]
          simp only [Option.bind_some]
          rcases K.M _ _ hl2 hn2 with ⟨m1, -⟩ | ⟨q, q0, q1, m1, m2⟩
          · rw [m1, if_pos (by decide)]
            exact ih (j + 1) _ _ _ _ (by omega) (by omega) (by omega) hl2 l2 hn2 hv
          · rw [m1, if_neg (by rw [ilt]; omega)]
            refine ih (j + 1) _ _ _ _ (by omega) (by omega) (by omega) hl2 l2 hn2 (Or.inr ⟨q0, q1, ?_⟩)
            have kl := (h.kl q0 q1).2.1
            have nl := h.n q q0 q1
            rw [← m2, l2] at kl
            omega
  unfold f_longestAt
  exact key 100000 0 (-1) 0 0 [] rfl (by omega) (by omega) (fun d hd => absurd hd (by simp)) rfl rfl (Or.inl rfl)
theorem own_cr2 {KC KL KR CH TM OM0 TX : List Int32} {nc ct lk n : Int32} (h : own_KG KC KL ct) (K : own_TK KC KL CH TM OM0 nc ct) (lR : KR.length = 16) (lX : TX.length = 240) (n1 : n.toInt ≤ 240) : ∀ (f : Nat) (OU : List Int32) (ol cp v1 : Int32), OU.length = 240 → 0 ≤ ol.toInt → ol.toInt ≤ cp.toInt → cp.toInt ≤ n.toInt → 0 ≤ v1.toInt → v1.toInt ≤ 240 → 240 - v1.toInt < f → ∃ (OU' : List Int32) (ol' cp' : Int32), f_commitReady_2 KL KR CH TM TX lk n f OU ol cp v1 = some (OU', ol', cp') ∧ OU'.length = 240 ∧ 0 ≤ ol'.toInt ∧ ol'.toInt ≤ cp'.toInt ∧ cp'.toInt ≤ n.toInt := by
  intro f
  have e0 : (0 : Int32).toInt = 0 := rfl
  have e240 : (240 : Int32).toInt = 240 := rfl
  have em : (-1 : Int32).toInt = -1 := rfl
  have lL := h.lL
  have c16 := h.c1
  induction f with
  | zero => intro OU ol cp v1 _ _ _ _ a b c; exfalso; omega
  | succ f ih =>
    intro OU ol cp v1 l1 o0 o1 c1 d0 d1 c
    have stop : ∃ (OU' : List Int32) (ol' cp' : Int32), some (OU, ol, cp) = some (OU', ol', cp') ∧ OU'.length = 240 ∧ 0 ≤ ol'.toInt ∧ ol'.toInt ≤ cp'.toInt ∧ cp'.toInt ≤ n.toInt := ⟨OU, ol, cp, rfl, l1, o0, o1, c1⟩
    unfold f_commitReady_2
    by_cases g : v1 < 240
    rotate_left
    · rw [if_neg g]; exact stop
    rw [if_pos g]
    rw [ilt] at g
    have p1 := own_p1 (a := v1) (by omega)
    rw [if_neg (by rw [ilt]; omega)]
    by_cases g2 : cp < n
    rotate_left
    · rw [if_neg g2]; exact stop
    rw [if_pos g2]
    rw [ilt] at g2
    by_cases g3 : n < cp + lk
    · rw [if_pos g3]; exact stop
    rw [if_neg g3]
    by_cases g4 : ol < 240
    rotate_left
    · rw [if_neg g4]; exact stop
    rw [if_pos g4]
    rw [ilt] at g4
    have po := own_p1 (a := ol) (by omega)
    have pc := own_p1 (a := cp) (by omega)
    obtain ⟨k, k1, k2⟩ := own_la2 (i := cp) h K lX n1 (by omega) (by omega)
    unfold f_commitOne f_commitOne_74
    rw [k1, Option.bind_some]
    rcases k2 with q | ⟨q0, q1, q2⟩
    · rw [q, if_pos (by decide), rdg (by omega) (by omega), Option.bind_some, wrA_in o0 (by omega), Option.bind_some, Option.bind_some]
      exact ih _ _ _ _ (by rw [List.length_set]; exact l1) (by omega) (by omega) (by omega) (by omega) (by omega) (by omega)
    · have nl := h.n k q0 q1
      have ak : (cp + gI KL k).toInt = cp.toInt + (gI KL k).toInt := iadd_i (by omega) (by omega)
      rw [if_neg (by rw [ilt]; omega), rdg q0 (by omega), Option.bind_some, wrA_in o0 (by omega), Option.bind_some, rdg q0 (by omega), Option.bind_some, Option.bind_some]
      exact ih _ _ _ _ (by rw [List.length_set]; exact l1) (by omega) (by omega) (by omega) (by omega) (by omega) (by omega)
theorem own_rt2 {KC KL KR CH TM OM0 TX : List Int32} {nc ct n cp : Int32} (h : own_KG KC KL ct) (K : own_TK KC KL CH TM OM0 nc ct) (lR : KR.length = 16) (lX : TX.length = 240) (n1 : n.toInt ≤ 240) (c0 : 0 ≤ cp.toInt) : ∀ (f : Nat) (TL : List Int32) (tn v1 v2 : Int32), TL.length = 8 → 0 ≤ tn.toInt → tn.toInt ≤ v1.toInt - cp.toInt → v1.toInt ≤ n.toInt → 0 ≤ v2.toInt → v2.toInt ≤ 8 → 8 - v2.toInt < f → ∃ (TL' : List Int32) (tn' : Int32), f_rebuildTail_12 KL KR CH TM TX n cp f TL tn v1 v2 = some (TL', tn') ∧ TL'.length = 8 ∧ 0 ≤ tn'.toInt ∧ tn'.toInt ≤ n.toInt - cp.toInt := by
  intro f
  have e0 : (0 : Int32).toInt = 0 := rfl
  have e8 : (8 : Int32).toInt = 8 := rfl
  have em : (-1 : Int32).toInt = -1 := rfl
  have lL := h.lL
  have c16 := h.c1
  induction f with
  | zero => intro TL tn v1 v2 _ _ _ _ a b c; exfalso; omega
  | succ f ih =>
    intro TL tn v1 v2 l1 o0 o1 c1 d0 d1 c
    have stop : ∃ (TL' : List Int32) (tn' : Int32), some (TL, tn) = some (TL', tn') ∧ TL'.length = 8 ∧ 0 ≤ tn'.toInt ∧ tn'.toInt ≤ n.toInt - cp.toInt := ⟨TL, tn, rfl, l1, o0, by omega⟩
    unfold f_rebuildTail_12
    by_cases g : v2 < 8
    rotate_left
    · rw [if_neg g]; exact stop
    rw [if_pos g]
    rw [ilt] at g
    have p2 := own_p1 (a := v2) (by omega)
    have p1 := own_p1 (a := v1) (by omega)
    rw [if_neg (by rw [ilt]; omega)]
    by_cases g2 : v1 < n
    rotate_left
    · rw [if_neg g2]; exact stop
    rw [if_pos g2]
    rw [ilt] at g2
    by_cases g4 : tn < 8
    rotate_left
    · rw [if_neg g4]; exact stop
    rw [if_pos g4]
    rw [ilt] at g4
    have po := own_p1 (a := tn) (by omega)
    obtain ⟨k, k1, k2⟩ := own_la2 (i := v1) h K lX n1 (by omega) (by omega)
    rw [k1, Option.bind_some]
    unfold f_rebuildTail_95
    rcases k2 with q | ⟨q0, q1, q2⟩
    · rw [q, if_pos (by decide), rdg (by omega) (by omega), Option.bind_some, wrA_in o0 (by omega), Option.bind_some]
      exact ih _ _ _ _ (by rw [List.length_set]; exact l1) (by omega) (by omega) (by omega) (by omega) (by omega) (by omega)
    · have nl := h.n k q0 q1
      have ak : (v1 + gI KL k).toInt = v1.toInt + (gI KL k).toInt := iadd_i (by omega) (by omega)
      rw [if_neg (by rw [ilt]; omega), rdg q0 (by omega), Option.bind_some, wrA_in o0 (by omega), Option.bind_some, rdg q0 (by omega), Option.bind_some]
      exact ih _ _ _ _ (by rw [List.length_set]; exact l1) (by omega) (by omega) (by omega) (by omega) (by omega) (by omega)
theorem own_feedX {KC KL KR CH DE TM OM OM0 TX MS OU TL : List Int32} {nc ct lk n st to ol cp tn v s' : Int32} (h : own_KG KC KL ct) (K : own_TK KC KL CH TM OM0 nc ct) (lR : KR.length = 16) (lO : OM.length = 129) (lX : TX.length = 240) (lM : MS.length = 240) (lU : OU.length = 240) (lT : TL.length = 8) (n0 : 0 ≤ n.toInt) (n1 : n.toInt < 240) (o0 : 0 ≤ ol.toInt) (o1 : ol.toInt ≤ cp.toInt) (c1 : cp.toInt ≤ n.toInt) (v0 : 32 ≤ v.toInt) (v1 : v.toInt ≤ 126) (es : f_nextState DE st v = some s') (s0 : 0 ≤ s'.toInt) (s1 : s'.toInt ≤ 128) :
    ∃ (r : Int32) (OU' TL' : List Int32) (ol' cp' tn' : Int32), f_popCount (gI OM s') = some r ∧ f_feed KL KR CH DE TM OM 1 lk TX MS OU TL n st to ol cp tn v = some (r, TX.set n.toInt.toNat v, MS.set n.toInt.toNat (gI OM s'), OU', TL', n + 1, s', to + r, ol', cp', tn') ∧ OU'.length = 240 ∧ TL'.length = 8 ∧ 0 ≤ ol'.toInt ∧ ol'.toInt ≤ cp'.toInt ∧ cp'.toInt ≤ n.toInt + 1 ∧ 0 ≤ tn'.toInt ∧ tn'.toInt ≤ n.toInt + 1 - cp'.toInt := by
  have e240 : (240 : Int32).toInt = 240 := rfl
  have pn := own_p1 (a := n) (by omega)
  obtain ⟨r, er, -⟩ := own_pc (gI OM s')
  have lX' : (TX.set n.toInt.toNat v).length = 240 := by rw [List.length_set]; exact lX
  obtain ⟨OU', ol', cp', x1, x2, x3, x4, x5⟩ := own_cr2 (KR := KR) (lk := lk) (n := n + 1) h K lR lX' (by omega) 100000 OU ol cp 0 lU o0 o1 (by omega) (by decide) (by decide) (by decide)
  obtain ⟨TL', tn', y1, y2, y3, y4⟩ := own_rt2 (KR := KR) (n := n + 1) (cp := cp') h K lR lX' (by omega) (by omega) 100000 TL 0 cp' 0 lT (by decide) (by have e0 : (0 : Int32).toInt = 0 := rfl; omega) x5 (by decide) (by decide) (by decide)
  refine ⟨r, OU', TL', ol', cp', tn', er, ?_, x2, y2, x3, x4, by omega, y3, by omega⟩
  rcases own_pri v with ⟨-, q⟩ | ⟨q, -⟩
  · exact absurd ⟨v0, v1⟩ q
  unfold f_feed f_commitReady f_rebuildTail
  rw [if_pos rfl, q, Option.bind_some, if_neg (by decide), if_pos (by rw [ilt]; omega), es, Option.bind_some, rdg s0 (by omega), Option.bind_some, wrA_in n0 (by omega), Option.bind_some, wrA_in n0 (by omega), Option.bind_some, er, Option.bind_some, x1, Option.bind_some]
  show Option.bind (f_rebuildTail_12 KL KR CH TM (TX.set n.toInt.toNat v) (n + 1) cp' 100000 TL 0 cp' 0) _ = _
  rw [y1, Option.bind_some]
theorem own_nxt {KC KL CH TM OM0 DE OM : List Int32} {nc ct st v : Int32} (K : own_TK KC KL CH TM OM0 nc ct) (A : own_AC KC KL CH DE OM ct) (vD : own_V DE 3354 0 128) {t : List Int32} (hl : own_lt t) {m : Nat} (hm : own_M CH t m) (hs : own_nd CH (t.take m) = some st) (v0 : 97 ≤ v.toInt) (v1 : v.toInt ≤ 122) : ∃ s' m', f_nextState DE st v = some s' ∧ 0 ≤ s'.toInt ∧ s'.toInt ≤ 128 ∧ own_lt ((v - 97) :: t) ∧ own_M CH ((v - 97) :: t) m' ∧ own_nd CH (((v - 97) :: t).take m') = some s' := by
  have e0 : (0 : Int32).toInt = 0 := rfl
  have e97 : (97 : Int32).toInt = 97 := rfl
  have e129 : (129 : Int32).toInt = 129 := rfl
  have n1 := K.T.n1
  have lD := vD.1
  have rs := own_nd_r K.T _ st (hl.take m) hs
  have sc : (v - 97).toInt = v.toInt - 97 := by rw [isub_i (by omega) (by omega), e97]
  have jx := own_ix26 (v := st) (c := v - 97) rs.1 (by omega) (by omega) (by omega)
  obtain ⟨m', M', h'⟩ := (own_ACs K A hl hm hs).1 (v - 97) (by omega) (by omega)
  have hl2 := hl.cons (c := v - 97) (by omega) (by omega)
  have r2 := own_nd_r K.T _ _ (hl2.take m') h'
  refine ⟨_, m', ?_, r2.1, by omega, hl2, M', h'⟩
  unfold f_nextState
  rcases own_let v with ⟨-, q⟩ | ⟨q, -⟩
  · exact absurd ⟨v0, v1⟩ q
  rw [q, Option.bind_some, if_neg (by decide), if_neg (by rw [ilt]; omega), if_pos (by rw [ilt]; omega), rdg (by omega) (by omega), Option.bind_some]
theorem own_shn_all : ∀ n : Fin 32, (((Int32.ofNat n.val &&& 31).toUInt32.toBitVec) % 32#32).toNat = n.val := by decide +kernel
theorem own_sar_all : ∀ n : Fin 32, ((Int32.ofNat n.val &&& 31).toBitVec.smod 32#32).toNat = n.val := by decide +kernel
theorem own_b01 (x : BitVec 32) (w : Int32) (e : (w &&& 1).toBitVec = x &&& 1#32) : w &&& 1 = if x.getLsbD 0 then 1 else 0 := by
  rw [← Int32.toBitVec_inj, e]
  apply BitVec.eq_of_getLsbD_eq
  intro j hj
  rw [BitVec.getLsbD_and, BitVec.getLsbD_one]
  by_cases z : j = 0
  · subst z
    cases x.getLsbD 0 <;> simp <;> rfl
  · have : ∀ b : Bool, (if b then (1 : Int32) else 0).toBitVec.getLsbD j = false := by
      intro b
      cases b
      · exact BitVec.getLsbD_zero
      · show (1#32).getLsbD j = false
        rw [BitVec.getLsbD_one]
        simp [z]
    rw [this]
    simp [z]
theorem own_ub (w : Int32) {n : Nat} (hn : n < 32) : XT.ushr w (Int32.ofNat n) &&& 1 = if own_mb w n then 1 else 0 := by
  have k := own_shn_all ⟨n, hn⟩
  simp only at k
  have e : (XT.ushr w (Int32.ofNat n)).toBitVec = w.toBitVec >>> n := by
    show w.toBitVec >>> (((Int32.ofNat n &&& 31).toUInt32.toBitVec) % 32#32) = _
    rw [BitVec.ushiftRight_eq', k]
  have b := own_b01 (w.toBitVec >>> n) (XT.ushr w (Int32.ofNat n)) (by rw [Int32.toBitVec_and, e]; rfl)
  rw [b]
  unfold own_mb
  rw [BitVec.getLsbD_ushiftRight]
  simp
theorem own_sb (w : Int32) {n : Nat} (hn : n < 32) : (w >>> (Int32.ofNat n &&& 31)) &&& 1 = if own_mb w n then 1 else 0 := by
  have k := own_sar_all ⟨n, hn⟩
  simp only at k
  have e : (w >>> (Int32.ofNat n &&& 31)).toBitVec = w.toBitVec.sshiftRight n := by
    show w.toBitVec.sshiftRight' ((Int32.ofNat n &&& 31).toBitVec.smod 32#32) = _
    rw [BitVec.sshiftRight', k]
  have b := own_b01 (w.toBitVec.sshiftRight n) (w >>> (Int32.ofNat n &&& 31)) (by rw [Int32.toBitVec_and, e]; rfl)
  rw [b]
  unfold own_mb
  rw [BitVec.getLsbD_sshiftRight]
  simp [hn]
def own_ctm (m : Int32) : Nat → Int32
  | 0 => 0
  | n + 1 => own_ctm m n + (if own_mb m n then 1 else 0)
theorem own_pcE (m : Int32) : f_popCount m = some (own_ctm m 16) := by
  have e1 : (1 : Int32).toInt = 1 := rfl
  have e16 : (16 : Int32).toInt = 16 := rfl
  have key : ∀ (f i : Nat) (v3 : Int32), v3.toInt = i → i ≤ 16 → 16 - i < f → f_popCount_4 f m (own_ctm m i) v3 = some (own_ctm m 16) := by
    intro f
    induction f with
    | zero => intro i v3 a b c; exfalso; omega
    | succ f ih =>
      intro i v3 a b c
      unfold f_popCount_4
      by_cases g : v3 < 16
      · rw [if_pos g]
        rw [ilt] at g
        have p3 := own_p1 (a := v3) (by omega)
        have ov : Int32.ofNat i = v3 := by rw [ieq, a, Int32.toInt_ofNat_of_lt (by omega)]
        have s := own_sb m (n := i) (by omega)
        rw [ov] at s
        have st : (if (m >>> (v3 &&& 31)) &&& 1 = 0 then own_ctm m i else own_ctm m i + 1) = own_ctm m (i + 1) := by
          rw [s, own_ctm]
          cases own_mb m i
          · simp
          · simp
        rw [st]
        exact ih (i + 1) _ (by omega) (by omega) (by omega)
      · rw [if_neg g]
        rw [ilt] at g
        have : i = 16 := by omega
        rw [this]
  unfold f_popCount
  exact key 100000 0 0 rfl (by omega) (by omega)
theorem own_lpE (m : Int32) : f_L_pop m = some (own_ctm m 32) := by
  have e1 : (1 : Int32).toInt = 1 := rfl
  have e32 : (32 : Int32).toInt = 32 := rfl
  have key : ∀ (f i : Nat) (v3 : Int32), v3.toInt = i → i ≤ 32 → 32 - i < f → f_L_pop_4 f m (own_ctm m i) v3 = some (own_ctm m 32) := by
    intro f
    induction f with
    | zero => intro i v3 a b c; exfalso; omega
    | succ f ih =>
      intro i v3 a b c
      unfold f_L_pop_4
      by_cases g : v3 < 32
      · rw [if_pos g]
        rw [ilt] at g
        have p3 := own_p1 (a := v3) (by omega)
        have ov : Int32.ofNat i = v3 := by rw [ieq, a, Int32.toInt_ofNat_of_lt (by omega)]
        have s := own_ub m (n := i) (by omega)
        rw [ov] at s
        rw [s]
        exact ih (i + 1) _ (by omega) (by omega) (by omega)
      · rw [if_neg g]
        rw [ilt] at g
        have : i = 32 := by omega
        rw [this]
  unfold f_L_pop
  exact key 100000 0 0 rfl (by omega) (by omega)
theorem own_ct32 {m : Int32} (h : ∀ b, 16 ≤ b → b < 32 → own_mb m b = false) : own_ctm m 32 = own_ctm m 16 := by
  have key : ∀ k, k ≤ 16 → own_ctm m (16 + k) = own_ctm m 16 := by
    intro k
    induction k with
    | zero => intro _; rfl
    | succ k ih =>
      intro hk
      rw [← Nat.add_assoc, own_ctm, ih (by omega), h (16 + k) (by omega) (by omega)]
      simp
  exact key 16 (by omega)
def own_rt3 (TX : List Int32) : Nat → List Int32
  | 0 => []
  | p + 1 => (gI TX (Int32.ofNat p) - 97) :: own_rt3 TX p
theorem own_rtl (TX : List Int32) : ∀ p, (own_rt3 TX p).length = p := by
  intro p
  induction p with
  | zero => rfl
  | succ p ih => rw [own_rt3, List.length_cons, ih]
theorem own_rtc {TX TY : List Int32} : ∀ p : Nat, p ≤ 240 → (∀ j : Int32, 0 ≤ j.toInt → j.toInt < p → gI TX j = gI TY j) → own_rt3 TX p = own_rt3 TY p := by
  intro p
  induction p with
  | zero => intro _ _; rfl
  | succ p ih =>
    intro hp h
    have e : (Int32.ofNat p).toInt = p := Int32.toInt_ofNat_of_lt (by omega)
    rw [own_rt3, own_rt3, ih (by omega) (fun j a b => h j a (by omega)), h (Int32.ofNat p) (by omega) (by omega)]
theorem own_s97 {a b : Int32} (h : a - 97 = b - 97) : a = b := by
  have := congrArg (· + (97 : Int32)) h
  simpa using this
theorem own_rtk {TX KC : List Int32} {k : Int32} : ∀ (L p : Nat), L ≤ 8 → L ≤ p → p ≤ 240 → ((own_rt3 TX p).take L = own_kp KC k L ↔ ∀ j : Nat, j < L → gI TX (Int32.ofNat (p - L + j)) = gI KC (k * 8 + Int32.ofNat j)) := by
  intro L
  induction L with
  | zero => intro p _ _ _; exact ⟨fun _ j j1 => by omega, fun _ => rfl⟩
  | succ L ih =>
    intro p h8 hp h240
    rcases p with _ | p
    · omega
    rw [own_rt3, own_kp, List.take_succ_cons]
    have i := ih p (by omega) (by omega) (by omega)
    have ix : p + 1 - (L + 1) = p - L := by omega
    rw [ix]
    constructor
    · intro h j j1
      injection h with h1 h2
      by_cases q : j = L
      · rw [q, show p - L + L = p by omega]; exact own_s97 h1
      · exact i.mp h2 j (by omega)
    · intro h
      have hL := h L (by omega)
      rw [show p - L + L = p by omega] at hL
      rw [hL, i.mpr (fun j j1 => h j (by omega))]
def own_mp (KC KL TX : List Int32) (ct m : Int32) (p : Nat) : Prop := ∀ b : Nat, b < 32 → (own_mb m b = true ↔ ∃ i : Int32, 0 ≤ i.toInt ∧ i.toInt < ct.toInt ∧ i.toInt = b ∧ (gI KL i).toInt.toNat ≤ p ∧ (own_rt3 TX p).take (gI KL i).toInt.toNat = own_kw KC KL i)
def own_ac2 (TX : List Int32) (p a : Nat) : Prop := a ≤ p ∧ own_lt ((own_rt3 TX p).take a) ∧ (a = p ∨ ∃ x, (own_rt3 TX p)[a]? = some x ∧ ¬ (0 ≤ x.toInt ∧ x.toInt < 26))
theorem own_ac2m {KC KL TX : List Int32} {ct : Int32} {p a : Nat} (h : own_KG KC KL ct) (A : own_ac2 TX p a) {i : Int32} (i0 : 0 ≤ i.toInt) (i1 : i.toInt < ct.toInt) : (∃ q, q ≤ ((own_rt3 TX p).take a).length ∧ ((own_rt3 TX p).take a).take q = own_kw KC KL i) ↔ ((gI KL i).toInt.toNat ≤ p ∧ (own_rt3 TX p).take (gI KL i).toInt.toNat = own_kw KC KL i) := by
  obtain ⟨a1, a2, a3⟩ := A
  obtain ⟨kl, kn, -⟩ := h.kl i0 i1
  have lt : ((own_rt3 TX p).take a).length = a := by rw [List.length_take, own_rtl, Nat.min_eq_left a1]
  constructor
  · rintro ⟨q, q0, q1⟩
    rw [lt] at q0
    rw [List.take_take, Nat.min_eq_left q0] at q1
    have l := congrArg List.length q1
    rw [List.length_take, own_rtl, Nat.min_eq_left (by omega), kn] at l
    rw [← l]
    exact ⟨by omega, q1⟩
  · rintro ⟨h1, h2⟩
    have la : (gI KL i).toInt.toNat ≤ a := by
      by_cases q : (gI KL i).toInt.toNat ≤ a
      · exact q
      · exfalso
        rcases a3 with e | ⟨x, hx, nx⟩
        · omega
        · apply nx
          apply kl x
          rw [← h2]
          have : ((own_rt3 TX p).take (gI KL i).toInt.toNat)[a]? = some x := by
            rw [List.getElem?_take_of_lt (by omega)]
            exact hx
          exact List.mem_of_getElem? this
    refine ⟨(gI KL i).toInt.toNat, by rw [lt]; exact la, ?_⟩
    rw [List.take_take, Nat.min_eq_left la]
    exact h2
def own_hs (MS : List Int32) : Nat → Int64
  | 0 => 0
  | p + 1 => own_hs MS p * 1000003 + (gI MS (Int32.ofNat p)).toInt64
def own_tp (MS : List Int32) : Nat → Int32
  | 0 => 0
  | p + 1 => own_tp MS p + own_ctm (gI MS (Int32.ofNat p)) 32
theorem own_hsc {A B : List Int32} : ∀ p : Nat, p ≤ 240 → (∀ j : Int32, 0 ≤ j.toInt → j.toInt < p → gI A j = gI B j) → own_hs A p = own_hs B p ∧ own_tp A p = own_tp B p := by
  intro p
  induction p with
  | zero => intro _ _; exact ⟨rfl, rfl⟩
  | succ p ih =>
    intro hp h
    have e : (Int32.ofNat p).toInt = p := Int32.toInt_ofNat_of_lt (by omega)
    obtain ⟨i1, i2⟩ := ih (by omega) (fun j a b => h j a (by omega))
    have hx := h (Int32.ofNat p) (by omega) (by omega)
    constructor
    · rw [own_hs, own_hs, i1, hx]
    · rw [own_tp, own_tp, i2, hx]
abbrev own_I2 (KC KL KR CH DE TM OM TX MS OU TL : List Int32) (ct n st to ol cp tn : Int32) (v12 : Int64) : Prop := (own_KG KC KL ct) ∧ (KR.length = 16) ∧ (∃ OM0 nc, own_TK KC KL CH TM OM0 nc ct) ∧ (own_AC KC KL CH DE OM ct) ∧ (own_V DE 3354 0 128) ∧ (OM.length = 129) ∧ (TX.length = 240) ∧ (MS.length = 240) ∧ (OU.length = 240) ∧ (TL.length = 8) ∧ (0 ≤ ol.toInt ∧ ol.toInt ≤ cp.toInt ∧ cp.toInt ≤ n.toInt ∧ 0 ≤ tn.toInt ∧ tn.toInt ≤ n.toInt - cp.toInt ∧ n.toInt ≤ 240) ∧ (∃ a m, own_ac2 TX n.toInt.toNat a ∧ own_M CH ((own_rt3 TX n.toInt.toNat).take a) m ∧ own_nd CH (((own_rt3 TX n.toInt.toNat).take a).take m) = some st) ∧ (∀ p : Nat, (p : Int) < n.toInt → own_mp KC KL TX ct (gI MS (Int32.ofNat p)) (p + 1)) ∧ (to = own_tp MS n.toInt.toNat) ∧ (v12 = own_hs MS n.toInt.toNat)
theorem own_I2.h {KC KL KR CH DE TM OM TX MS OU TL : List Int32} {ct n st to ol cp tn : Int32} {v12 : Int64} (self : own_I2 KC KL KR CH DE TM OM TX MS OU TL ct n st to ol cp tn v12) : own_KG KC KL ct := self.1
theorem own_I2.lR {KC KL KR CH DE TM OM TX MS OU TL : List Int32} {ct n st to ol cp tn : Int32} {v12 : Int64} (self : own_I2 KC KL KR CH DE TM OM TX MS OU TL ct n st to ol cp tn v12) : KR.length = 16 := self.2.1
theorem own_I2.K {KC KL KR CH DE TM OM TX MS OU TL : List Int32} {ct n st to ol cp tn : Int32} {v12 : Int64} (self : own_I2 KC KL KR CH DE TM OM TX MS OU TL ct n st to ol cp tn v12) : ∃ OM0 nc, own_TK KC KL CH TM OM0 nc ct := self.2.2.1
theorem own_I2.A {KC KL KR CH DE TM OM TX MS OU TL : List Int32} {ct n st to ol cp tn : Int32} {v12 : Int64} (self : own_I2 KC KL KR CH DE TM OM TX MS OU TL ct n st to ol cp tn v12) : own_AC KC KL CH DE OM ct := self.2.2.2.1
theorem own_I2.vD {KC KL KR CH DE TM OM TX MS OU TL : List Int32} {ct n st to ol cp tn : Int32} {v12 : Int64} (self : own_I2 KC KL KR CH DE TM OM TX MS OU TL ct n st to ol cp tn v12) : own_V DE 3354 0 128 := self.2.2.2.2.1
theorem own_I2.lO {KC KL KR CH DE TM OM TX MS OU TL : List Int32} {ct n st to ol cp tn : Int32} {v12 : Int64} (self : own_I2 KC KL KR CH DE TM OM TX MS OU TL ct n st to ol cp tn v12) : OM.length = 129 := self.2.2.2.2.2.1
theorem own_I2.l1 {KC KL KR CH DE TM OM TX MS OU TL : List Int32} {ct n st to ol cp tn : Int32} {v12 : Int64} (self : own_I2 KC KL KR CH DE TM OM TX MS OU TL ct n st to ol cp tn v12) : TX.length = 240 := self.2.2.2.2.2.2.1
theorem own_I2.l2 {KC KL KR CH DE TM OM TX MS OU TL : List Int32} {ct n st to ol cp tn : Int32} {v12 : Int64} (self : own_I2 KC KL KR CH DE TM OM TX MS OU TL ct n st to ol cp tn v12) : MS.length = 240 := self.2.2.2.2.2.2.2.1
theorem own_I2.l3 {KC KL KR CH DE TM OM TX MS OU TL : List Int32} {ct n st to ol cp tn : Int32} {v12 : Int64} (self : own_I2 KC KL KR CH DE TM OM TX MS OU TL ct n st to ol cp tn v12) : OU.length = 240 := self.2.2.2.2.2.2.2.2.1
theorem own_I2.l4 {KC KL KR CH DE TM OM TX MS OU TL : List Int32} {ct n st to ol cp tn : Int32} {v12 : Int64} (self : own_I2 KC KL KR CH DE TM OM TX MS OU TL ct n st to ol cp tn v12) : TL.length = 8 := self.2.2.2.2.2.2.2.2.2.1
theorem own_I2.nn {KC KL KR CH DE TM OM TX MS OU TL : List Int32} {ct n st to ol cp tn : Int32} {v12 : Int64} (self : own_I2 KC KL KR CH DE TM OM TX MS OU TL ct n st to ol cp tn v12) : 0 ≤ ol.toInt ∧ ol.toInt ≤ cp.toInt ∧ cp.toInt ≤ n.toInt ∧ 0 ≤ tn.toInt ∧ tn.toInt ≤ n.toInt - cp.toInt ∧ n.toInt ≤ 240 := self.2.2.2.2.2.2.2.2.2.2.1
theorem own_I2.t {KC KL KR CH DE TM OM TX MS OU TL : List Int32} {ct n st to ol cp tn : Int32} {v12 : Int64} (self : own_I2 KC KL KR CH DE TM OM TX MS OU TL ct n st to ol cp tn v12) : ∃ a m, own_ac2 TX n.toInt.toNat a ∧ own_M CH ((own_rt3 TX n.toInt.toNat).take a) m ∧ own_nd CH (((own_rt3 TX n.toInt.toNat).take a).take m) = some st := self.2.2.2.2.2.2.2.2.2.2.2.1
theorem own_I2.ms {KC KL KR CH DE TM OM TX MS OU TL : List Int32} {ct n st to ol cp tn : Int32} {v12 : Int64} (self : own_I2 KC KL KR CH DE TM OM TX MS OU TL ct n st to ol cp tn v12) : ∀ p : Nat, (p : Int) < n.toInt → own_mp KC KL TX ct (gI MS (Int32.ofNat p)) (p + 1) := self.2.2.2.2.2.2.2.2.2.2.2.2.1
theorem own_I2.to' {KC KL KR CH DE TM OM TX MS OU TL : List Int32} {ct n st to ol cp tn : Int32} {v12 : Int64} (self : own_I2 KC KL KR CH DE TM OM TX MS OU TL ct n st to ol cp tn v12) : to = own_tp MS n.toInt.toNat := self.2.2.2.2.2.2.2.2.2.2.2.2.2.1
theorem own_I2.hs {KC KL KR CH DE TM OM TX MS OU TL : List Int32} {ct n st to ol cp tn : Int32} {v12 : Int64} (self : own_I2 KC KL KR CH DE TM OM TX MS OU TL ct n st to ol cp tn v12) : v12 = own_hs MS n.toInt.toNat := self.2.2.2.2.2.2.2.2.2.2.2.2.2.2
theorem own_kch2 {KC KL KR PD : List Int32} {ct pn k : Int32} (h : own_KG KC KL ct) (k0 : 0 ≤ k.toInt) (k1 : k.toInt < ct.toInt) : (∀ j : Int32, 0 ≤ j.toInt → j.toInt < (gI KL k).toInt → f_keywordChar KC KL KR PD ct pn k j = some (gI KC (k * 8 + j))) ∧ f_keywordLength KL ct pn k = some (gI KL k) := by
  have lC := h.lC
  have lL := h.lL
  have c4 := h.c1
  have n := h.n k k0 k1
  have e0 : (0 : Int32).toInt = 0 := rfl
  have em : (-1 : Int32).toInt = -1 := rfl
  have a1 : ¬ k < 0 := by rw [ilt]; omega
  have a2 : k < ct := by rw [ilt]; omega
  refine ⟨fun j j0 j1 => ?_, ?_⟩
  · have kx := own_kx (k := k) (j := j) k0 (by omega) j0 (by omega)
    unfold f_keywordChar f_acceptedChar
    rw [if_neg a1, if_pos a2, if_neg (by rw [ieq]; omega), if_neg (by rw [ilt]; omega), rdg k0 (by omega), Option.bind_some, if_pos (by rw [ilt]; exact j1), rdg (by omega) (by omega), Option.bind_some, Option.bind_some]
  · unfold f_keywordLength
    rw [if_neg a1, if_pos a2, rdg k0 (by omega), Option.bind_some]
theorem own_818 {KC KL KR PD CH DE TM OM TX MS OU TL scr : List Int32} {ph ct pn lk n st to ol cp tn v6 v14 v17 v18 v21 v22 v23 k : Int32} {v12 v19 : Int64} (h : own_KG KC KL ct) (l1 : TX.length = 240) (n1 : n.toInt ≤ 240) (k0 : 0 ≤ k.toInt) (k1 : k.toInt < ct.toInt) (p0 : 0 ≤ v22.toInt) (p1 : v22.toInt < n.toInt) (hL : (gI KL k).toInt ≤ v22.toInt + 1)
    {K : List Int32 → List Int32 → List Int32 → List Int32 → List Int32 → List Int32 → List Int32 → List Int32 → List Int32 → List Int32 → List Int32 → List Int32 → Int32 → Int32 → Int32 → Int32 → Int32 → Int32 → Int32 → Int32 → Int32 → Int32 → Int32 → Int64 → Int32 → Int32 → Int32 → Int64 → Int32 → Int32 → Int32 → Int32 → Int32 → Option Int32}
    (hk : ∀ v25 : Int32, ((v25 = 1 ∧ ∀ j : Nat, j < (gI KL k).toInt.toNat → gI TX (Int32.ofNat (v22.toInt.toNat + 1 - (gI KL k).toInt.toNat + j)) = gI KC (k * 8 + Int32.ofNat j)) ∨ (v25 = 0 ∧ ∃ j : Nat, j < (gI KL k).toInt.toNat ∧ ¬ gI TX (Int32.ofNat (v22.toInt.toNat + 1 - (gI KL k).toInt.toNat + j)) = gI KC (k * 8 + Int32.ofNat j))) → K KC KL KR PD CH DE TM OM TX MS OU TL ph ct pn lk n st to ol cp tn v6 v12 v14 v17 v18 v19 v21 v22 v23 k v25 = some 1) :
    ∀ (f i : Nat) (v25 v27 : Int32), v27.toInt = i → (i : Int) ≤ (gI KL k).toInt → 8 - i < f → ((v25 = 1 ∧ ∀ j : Nat, j < i → gI TX (Int32.ofNat (v22.toInt.toNat + 1 - (gI KL k).toInt.toNat + j)) = gI KC (k * 8 + Int32.ofNat j)) ∨ (v25 = 0 ∧ ∃ j : Nat, j < (gI KL k).toInt.toNat ∧ ¬ gI TX (Int32.ofNat (v22.toInt.toNat + 1 - (gI KL k).toInt.toNat + j)) = gI KC (k * 8 + Int32.ofNat j))) → f_L_law_818 K scr f KC KL KR PD CH DE TM OM TX MS OU TL ph ct pn lk n st to ol cp tn v6 v12 v14 v17 v18 v19 v21 v22 v23 k v25 (gI KL k) v27 = some 1 := by
  intro f
  have e0 : (0 : Int32).toInt = 0 := rfl
  have e1 : (1 : Int32).toInt = 1 := rfl
  have nl := h.n k k0 k1
  obtain ⟨kc, -⟩ := own_kch2 (KR := KR) (PD := PD) (pn := pn) h k0 k1
  induction f with
  | zero => intro i v25 v27 a b c; exfalso; omega
  | succ f ih =>
    intro i v25 v27 a b c hv
    unfold f_L_law_818
    by_cases g : v27 < gI KL k
    · have g' := ilt.mp g
      have p27 := own_p1 (a := v27) (by omega)
      have s1 : (v22 - gI KL k).toInt = v22.toInt - (gI KL k).toInt := isub_i (by omega) (by omega)
      have s2 : (v22 - gI KL k + 1).toInt = v22.toInt - (gI KL k).toInt + 1 := by rw [iadd_i (by omega) (by omega), s1, e1]
      have s3 : (v22 - gI KL k + 1 + v27).toInt = v22.toInt - (gI KL k).toInt + 1 + i := by rw [iadd_i (by omega) (by omega), s2, a]
      have ox : Int32.ofNat (v22.toInt.toNat + 1 - (gI KL k).toInt.toNat + i) = v22 - gI KL k + 1 + v27 := by rw [ieq, s3, Int32.toInt_ofNat_of_lt (by omega)]; omega
      have oi : Int32.ofNat i = v27 := by rw [ieq, a, Int32.toInt_ofNat_of_lt (by omega)]
      have tc : f_textChar TX n (v22 - gI KL k + 1 + v27) = some (gI TX (v22 - gI KL k + 1 + v27)) := by
        unfold f_textChar
        rw [if_neg (by rw [ilt]; omega), if_pos (by rw [ilt]; omega), rdg (by omega) (by omega), Option.bind_some]
      rw [if_pos g, tc, Option.bind_some, kc v27 (by omega) g', Option.bind_some]
      by_cases q : gI TX (v22 - gI KL k + 1 + v27) = gI KC (k * 8 + v27)
      · rw [if_pos q]
        refine ih (i + 1) _ _ (by omega) (by omega) (by omega) ?_
        rcases hv with ⟨h1, h2⟩ | h2
        · refine Or.inl ⟨h1, fun j hj => ?_⟩
          by_cases z : j = i
          · rw [z, ox, oi]; exact q
          · exact h2 j (by omega)
        · exact Or.inr h2
      · rw [if_neg q]
        refine ih (i + 1) _ _ (by omega) (by omega) (by omega) (Or.inr ⟨rfl, i, by omega, ?_⟩)
        rw [ox, oi]
        exact q
    · rw [if_neg g]
      rw [ilt] at g
      refine hk v25 ?_
      rcases hv with ⟨h1, h2⟩ | h2
      · exact Or.inl ⟨h1, fun j hj => h2 j (by omega)⟩
      · exact Or.inr h2
theorem own_777 {KC KL KR PD CH DE TM OM TX MS OU TL scr : List Int32} {ph ct pn lk n st to ol cp tn v6 v14 v17 v21 v22 m : Int32} {v12 v19 : Int64} (h : own_KG KC KL ct) (l1 : TX.length = 240) (n1 : n.toInt ≤ 240) (p0 : 0 ≤ v22.toInt) (p1 : v22.toInt < n.toInt) (hm : own_mp KC KL TX ct m (v22.toInt.toNat + 1))
    {K : List Int32 → List Int32 → List Int32 → List Int32 → List Int32 → List Int32 → List Int32 → List Int32 → List Int32 → List Int32 → List Int32 → List Int32 → Int32 → Int32 → Int32 → Int32 → Int32 → Int32 → Int32 → Int32 → Int32 → Int32 → Int32 → Int64 → Int32 → Int32 → Int32 → Int64 → Int32 → Int32 → Int32 → Option Int32}
    (hk : K KC KL KR PD CH DE TM OM TX MS OU TL ph ct pn lk n st to ol cp tn v6 v12 v14 v17 ct v19 v21 v22 m = some 1) :
    ∀ (f i : Nat) (v24 : Int32), v24.toInt = i → i ≤ 16 → 16 - i < f → f_L_law_777 K scr f KC KL KR PD CH DE TM OM TX MS OU TL ph ct pn lk n st to ol cp tn v6 v12 v14 v17 ct v19 v21 v22 m v24 = some 1 := by
  intro f
  have e16 : (16 : Int32).toInt = 16 := rfl
  have e1 : (1 : Int32).toInt = 1 := rfl
  have c16 := h.c1
  induction f with
  | zero => intro i v24 a b c; exfalso; omega
  | succ f ih =>
    intro i v24 a b c
    unfold f_L_law_777
    by_cases g : v24 < 16
    rotate_left
    · rw [if_neg g]; exact hk
    rw [if_pos g]
    rw [ilt] at g
    have p24 := own_p1 (a := v24) (by omega)
    have p22 := own_p1 (a := v22) (by omega)
    have ov : Int32.ofNat i = v24 := by rw [ieq, a, Int32.toInt_ofNat_of_lt (by omega)]
    have sb := own_sb m (n := i) (by omega)
    rw [ov] at sb
    have bits := hm i (by omega)
    -- what the law expects agrees with the bit
    have n861 : ∀ v25 : Int32, ((v25 = 1 ∧ own_mb m i = true) ∨ (v25 = 0 ∧ own_mb m i = false)) → f_L_law_861 (f_L_law_777 K scr f) K scr KC KL KR PD CH DE TM OM TX MS OU TL ph ct pn lk n st to ol cp tn v6 v12 v14 v17 ct v19 v21 v22 m v24 v25 = some 1 := by
      intro v25 hv
      unfold f_L_law_861 f_L_law_877
      have eq : (if (m >>> (v24 &&& 31)) &&& 1 = 1 then (1 : Int32) else 0) = v25 := by
        rw [sb]
        rcases hv with ⟨h1, h2⟩ | ⟨h1, h2⟩
        · rw [h2, h1]; rfl
        · rw [h2, h1]; rfl
      rw [if_pos eq]
      exact ih (i + 1) _ (by omega) (by omega) (by omega)
    by_cases g2 : v24 < ct
    rotate_left
    · rw [if_neg g2]
      rw [ilt] at g2
      refine n861 0 (Or.inr ⟨rfl, ?_⟩)
      rw [Bool.eq_false_iff]
      intro z
      obtain ⟨q, q0, q1, q2, -⟩ := bits.mp z
      omega
    rw [if_pos g2]
    rw [ilt] at g2
    obtain ⟨-, kl⟩ := own_kch2 (KR := KR) (KC := KC) (PD := PD) (pn := pn) h (k := v24) (by omega) g2
    have nl := h.n v24 (by omega) g2
    rw [kl, Option.bind_some]
    have same : ∀ q : Int32, q.toInt = i → q = v24 := fun q hq => by rw [ieq]; omega
    by_cases g3 : v22 + 1 < gI KL v24
    · rw [if_pos g3]
      rw [ilt] at g3
      refine n861 0 (Or.inr ⟨rfl, ?_⟩)
      rw [Bool.eq_false_iff]
      intro z
      obtain ⟨q, q0, q1, q2, q3, -⟩ := bits.mp z
      rw [same q q2] at q3
      omega
    · rw [if_neg g3]
      rw [ilt] at g3
      have rk := own_rtk (TX := TX) (KC := KC) (k := v24) (gI KL v24).toInt.toNat (v22.toInt.toNat + 1) (by omega) (by omega) (by omega)
      refine own_818 h l1 n1 (by omega) g2 p0 p1 (by omega) (fun v25 hv => n861 v25 ?_) 100000 0 1 0 rfl (by omega) (by omega) (Or.inl ⟨rfl, fun j hj => by omega⟩)
      rcases hv with ⟨h1, h2⟩ | ⟨h1, j, j0, j1⟩
      · refine Or.inl ⟨h1, bits.mpr ⟨v24, by omega, g2, a, by omega, rk.mpr h2⟩⟩
      · refine Or.inr ⟨h1, ?_⟩
        rw [Bool.eq_false_iff]
        intro z
        obtain ⟨q, q0, q1, q2, q3, q4⟩ := bits.mp z
        rw [same q q2] at q4
        exact j1 (rk.mp q4 j j0)
theorem own_727 {KC KL KR PD CH DE TM OM TX MS OU TL scr : List Int32} {ct pn lk n st to ol cp tn v6 v14 : Int32} {v12 : Int64} (I : own_I2 KC KL KR CH DE TM OM TX MS OU TL ct n st to ol cp tn v12)
    {kb : List Int32 → List Int32 → List Int32 → List Int32 → List Int32 → List Int32 → List Int32 → List Int32 → List Int32 → List Int32 → List Int32 → List Int32 → Int32 → Int32 → Int32 → Int32 → Int32 → Int32 → Int32 → Int32 → Int32 → Int32 → Int32 → Int64 → Int32 → Option Int32}
    (hk : kb KC KL KR PD CH DE TM OM TX MS OU TL 1 ct pn lk n st to ol cp tn v6 v12 (v14 + 1) = some 1) : f_L_law_727 kb scr KC KL KR PD CH DE TM OM TX MS OU TL 1 ct pn lk n st to ol cp tn v6 v12 v14 = some 1 := by
  have e0 : (0 : Int32).toInt = 0 := rfl
  have e300 : (300 : Int32).toInt = 300 := rfl
  have nn := I.nn
  have l2 := I.l2
  have key : ∀ (f p : Nat) (v22 : Int32), v22.toInt = p → (p : Int) ≤ n.toInt → 240 - p < f → f_L_law_750 (f_L_law_918 kb scr) scr f KC KL KR PD CH DE TM OM TX MS OU TL 1 ct pn lk n st to ol cp tn v6 v12 v14 n ct (own_hs MS p) (own_tp MS p) v22 = some 1 := by
    intro f
    induction f with
    | zero => intro p v22 a b c; exfalso; omega
    | succ f ih =>
      intro p v22 a b c
      unfold f_L_law_750
      by_cases g : v22 < n
      rotate_left
      · rw [if_neg g]
        rw [ilt] at g
        have pe : p = n.toInt.toNat := by omega
        unfold f_L_law_918 f_totalOccurrences
        rw [pe, if_pos I.hs.symm, Option.bind_some, if_pos I.to']
        exact hk
      rw [if_pos g]
      rw [ilt] at g
      have p22 := own_p1 (a := v22) (by omega)
      have op : Int32.ofNat p = v22 := by rw [ieq, a, Int32.toInt_ofNat_of_lt (by omega)]
      have om : f_occurrenceMask MS n v22 = some (gI MS v22) := by
        unfold f_occurrenceMask
        rw [if_neg (by rw [ilt]; omega), if_pos (by rw [ilt]; omega), rdg (by omega) (by omega), Option.bind_some]
      have hm := I.ms p (by omega)
      rw [op] at hm
      rw [if_pos (by rw [ilt]; omega), om, Option.bind_some]
      have pt : v22.toInt.toNat + 1 = p + 1 := by omega
      refine own_777 I.h I.l1 nn.2.2.2.2.2 (by omega) g (by rw [pt]; exact hm) ?_ 100000 0 0 rfl (by omega) (by omega)
      unfold f_L_law_890
      rw [own_lpE, Option.bind_some]
      have h1 : own_hs MS (p + 1) = own_hs MS p * 1000003 + (gI MS v22).toInt64 := by rw [own_hs, op]
      have h2 : own_tp MS (p + 1) = own_tp MS p + own_ctm (gI MS v22) 32 := by rw [own_tp, op]
      rw [← h1, ← h2]
      exact ih (p + 1) _ (by omega) (by omega) (by omega)
  unfold f_L_law_727 f_textLength f_keywordCount
  rw [Option.bind_some, Option.bind_some]
  exact key 100000 0 0 rfl (by omega) (by omega)
theorem own_lmod (x m : Int32) (hm : 0 < m.toInt) : ∃ r, f_L_mod x m = some r ∧ 0 ≤ r.toInt ∧ r.toInt < m.toInt := by
  have e0 : (0 : Int32).toInt = 0 := rfl
  have nz : ¬ m = 0 := by rw [ieq]; omega
  have m1 := Int32.toInt_lt m
  unfold f_L_mod
  rw [if_neg nz]
  have e : (x % m).toInt = Int.tmod x.toInt m.toInt := Int32.toInt_mod x m
  have t1 : -m.toInt < Int.tmod x.toInt m.toInt ∧ Int.tmod x.toInt m.toInt < m.toInt := by
    have a := Int.tmod_lt_of_pos x.toInt hm
    have b := Int.lt_tmod_of_pos x.toInt hm
    exact ⟨b, a⟩
  refine ⟨_, rfl, ?_⟩
  by_cases g : x % m < 0
  · rw [if_pos g]
    rw [ilt] at g
    rw [iadd_i (by omega) (by omega)]
    omega
  · rw [if_neg g]
    rw [ilt] at g
    omega
theorem own_665 {KC KL KR PD CH DE TM OM TX MS OU TL scr : List Int32} {ct pn lk n st to ol cp tn v6 v14 v : Int32} {v12 : Int64} (I : own_I2 KC KL KR CH DE TM OM TX MS OU TL ct n st to ol cp tn v12) (v0 : 32 ≤ v.toInt) (v1 : v.toInt ≤ 126)
    {kb : List Int32 → List Int32 → List Int32 → List Int32 → List Int32 → List Int32 → List Int32 → List Int32 → List Int32 → List Int32 → List Int32 → List Int32 → Int32 → Int32 → Int32 → Int32 → Int32 → Int32 → Int32 → Int32 → Int32 → Int32 → Int32 → Int64 → Int32 → Option Int32}
    (hk : ∀ (TX MS OU TL : List Int32) (n st to ol cp tn : Int32) (v12 : Int64), own_I2 KC KL KR CH DE TM OM TX MS OU TL ct n st to ol cp tn v12 → kb KC KL KR PD CH DE TM OM TX MS OU TL 1 ct pn lk n st to ol cp tn v6 v12 (v14 + 1) = some 1) : f_L_law_665 kb scr KC KL KR PD CH DE TM OM TX MS OU TL 1 ct pn lk n st to ol cp tn v6 v12 v14 n v = some 1 := by
  have e0 : (0 : Int32).toInt = 0 := rfl
  have e1 : (1 : Int32).toInt = 1 := rfl
  have e97 : (97 : Int32).toInt = 97 := rfl
  have e240 : (240 : Int32).toInt = 240 := rfl
  obtain ⟨h, lR, ⟨OM0, nc, K⟩, A, vD, lO, l1, l2, l3, l4, nn, ⟨a, m, ac, hm, hst⟩, ms, hto, hhs⟩ := id I
  unfold f_L_law_665 f_textLength
  by_cases g : n.toInt < 240
  rotate_left
  · have ef : f_feed KL KR CH DE TM OM 1 lk TX MS OU TL n st to ol cp tn v = some (-3, TX, MS, OU, TL, n, st, to, ol, cp, tn) := by
      unfold f_feed
      rcases own_pri v with ⟨-, e⟩ | ⟨e, -⟩
      · exact absurd ⟨v0, v1⟩ e
      · rw [if_pos rfl, e, Option.bind_some, if_neg (by decide), if_neg (by rw [ilt]; omega)]
    have pn1 := own_p1 (a := n) (by omega)
    rw [ef, Option.bind_some]
    show Option.bind (some n) _ = _
    rw [Option.bind_some, if_neg (by rw [ieq]; omega)]
    exact own_727 I (hk _ _ _ _ _ _ _ _ _ _ _ I)
  · clear I
    have pn1 := own_p1 (a := n) (by omega)
    have n0 : 0 ≤ n.toInt := by omega
    have on : Int32.ofNat n.toInt.toNat = n := by rw [ieq, Int32.toInt_ofNat_of_lt (by omega)]; omega
    have en : (n + 1).toInt.toNat = n.toInt.toNat + 1 := by omega
    have gT : ∀ j : Int32, 0 ≤ j.toInt → gI (TX.set n.toInt.toNat v) j = if n = j then v else gI TX j := fun j j0 => gset n0 (by omega) j0
    have rtE : own_rt3 (TX.set n.toInt.toNat v) n.toInt.toNat = own_rt3 TX n.toInt.toNat := own_rtc _ (by omega) (fun j j0 j1 => by rw [gT j j0, if_neg (fun z => by rw [ieq] at z; omega)])
    have rt1 : own_rt3 (TX.set n.toInt.toNat v) (n + 1).toInt.toNat = (v - 97) :: own_rt3 TX n.toInt.toNat := by rw [en, own_rt3, rtE, on, gT n n0, if_pos rfl]
    obtain ⟨ac1, ac2, ac3⟩ := ac
    have sv : (v - 97).toInt = v.toInt - 97 := by rw [isub_i (by omega) (by omega), e97]
    -- the state and the word after it
    obtain ⟨s', a', m', es, s0, s1, acn, hm', hs'⟩ : ∃ (s' : Int32) (a' m' : Nat), f_nextState DE st v = some s' ∧ 0 ≤ s'.toInt ∧ s'.toInt ≤ 128 ∧ own_ac2 (TX.set n.toInt.toNat v) (n + 1).toInt.toNat a' ∧ own_M CH ((own_rt3 (TX.set n.toInt.toNat v) (n + 1).toInt.toNat).take a') m' ∧ own_nd CH (((own_rt3 (TX.set n.toInt.toNat v) (n + 1).toInt.toNat).take a').take m') = some s' := by
      rcases own_let v with ⟨el, nl⟩ | ⟨el, h1, h2⟩
      · refine ⟨0, 0, 0, ?_, by decide, by decide, ⟨Nat.zero_le _, fun c hc => absurd hc (by simp), Or.inr ⟨v - 97, by rw [rt1]; rfl, fun q => nl (by omega)⟩⟩, ⟨Nat.zero_le _, own_isn_nil _, fun m' hm' _ => by simpa using hm'⟩, rfl⟩
        unfold f_nextState
        rw [el, Option.bind_some, if_pos rfl]
      · obtain ⟨s', m', q1, q2, q3, q4, q5, q6⟩ := own_nxt (v := v) K A vD ac2 hm hst h1 h2
        have tk : (own_rt3 (TX.set n.toInt.toNat v) (n + 1).toInt.toNat).take (a + 1) = (v - 97) :: (own_rt3 TX n.toInt.toNat).take a := by rw [rt1, List.take_succ_cons]
        refine ⟨s', a + 1, m', q1, q2, q3, ⟨by omega, by rw [tk]; exact q4, ?_⟩, by rw [tk]; exact q5, by rw [tk]; exact q6⟩
        rcases ac3 with z | ⟨x, hx, nx⟩
        · left; omega
        · right
          exact ⟨x, by rw [rt1]; exact hx, nx⟩
    clear ac3
    obtain ⟨r, OU', TL', ol', cp', tn', er, ef, x1, x2, x3, x4, x5, x6, x7⟩ := own_feedX (lk := lk) (to := to) (tn := tn) h K lR lO l1 l2 l3 l4 n0 g nn.1 nn.2.1 nn.2.2.1 v0 v1 es s0 s1
    have bits := (own_ACs K A acn.2.1 hm' hs').2
    have mpn : own_mp KC KL (TX.set n.toInt.toNat v) ct (gI OM s') (n.toInt.toNat + 1) := by
      intro b hb
      rw [bits b hb, ← en]
      constructor
      · rintro ⟨i, i0, i1, i2, q⟩
        exact ⟨i, i0, i1, i2, (own_ac2m h acn i0 i1).mp q⟩
      · rintro ⟨i, i0, i1, i2, q⟩
        exact ⟨i, i0, i1, i2, (own_ac2m h acn i0 i1).mpr q⟩
    have c16 := h.c1
    have hi : ∀ b, 16 ≤ b → b < 32 → own_mb (gI OM s') b = false := by
      intro b b0 b1
      rw [Bool.eq_false_iff]
      intro z
      obtain ⟨i, i0, i1, i2, -⟩ := (mpn b b1).mp z
      omega
    have e32 := own_ct32 hi
    rw [own_pcE] at er
    have er' := Option.some.inj er
    have nm : (n + 1) - 1 = n := by rw [ieq, isub_i (by omega) (by omega), pn1, e1]; omega
    have gM : ∀ j : Int32, 0 ≤ j.toInt → gI (MS.set n.toInt.toNat (gI OM s')) j = if n = j then gI OM s' else gI MS j := fun j j0 => gset n0 (by omega) j0
    have om : f_occurrenceMask (MS.set n.toInt.toNat (gI OM s')) (n + 1) n = some (gI OM s') := by
      unfold f_occurrenceMask
      rw [if_neg (by rw [ilt]; omega), if_pos (by rw [ilt]; omega), rdg n0 (by rw [List.length_set]; omega), Option.bind_some, gM n n0, if_pos rfl]
    obtain ⟨hc1, hc2⟩ := own_hsc (A := MS.set n.toInt.toNat (gI OM s')) (B := MS) n.toInt.toNat (by omega) (fun j j0 j1 => by rw [gM j j0, if_neg (fun z => by rw [ieq] at z; omega)])
    have I' : own_I2 KC KL KR CH DE TM OM (TX.set n.toInt.toNat v) (MS.set n.toInt.toNat (gI OM s')) OU' TL' ct (n + 1) s' (to + r) ol' cp' tn' (v12 * 1000003 + (gI OM s').toInt64) := by
      refine ⟨h, lR, ⟨OM0, nc, K⟩, A, vD, lO, by rw [List.length_set]; exact l1, by rw [List.length_set]; exact l2, x1, x2, ⟨x3, x4, by omega, x6, by omega, by omega⟩, ⟨a', m', acn, hm', hs'⟩, ?_, ?_, ?_⟩
      · intro p hp
        have op : (Int32.ofNat p).toInt = p := Int32.toInt_ofNat_of_lt (by omega)
        by_cases z : p = n.toInt.toNat
        · rw [z, on, gM n n0, if_pos rfl]
          exact mpn
        · rw [gM _ (by omega), if_neg (fun y => by rw [ieq] at y; omega)]
          have old := ms p (by omega)
          have rc : own_rt3 (TX.set n.toInt.toNat v) (p + 1) = own_rt3 TX (p + 1) := own_rtc _ (by omega) (fun j j0 j1 => by rw [gT j j0, if_neg (fun y => by rw [ieq] at y; omega)])
          intro b hb
          rw [rc]
          exact old b hb
      · rw [en, own_tp, hc2, ← hto, on, gM n n0, if_pos rfl, e32, er']
      · rw [en, own_hs, hc1, ← hhs, on, gM n n0, if_pos rfl]
    rw [ef, Option.bind_some]
    show Option.bind (some (n + 1)) _ = _
    rw [Option.bind_some, if_pos rfl, nm, om, Option.bind_some, own_lpE, Option.bind_some, if_pos (by rw [← er', e32])]
    exact own_727 I' (hk _ _ _ _ _ _ _ _ _ _ _ I')
theorem own_575 (scr : List Int32) (hs : scr.length ≤ 260) {KC KL KR PD CH DE TM OM : List Int32} {ct pn lk v6 : Int32} (a0 : 2 ≤ v6.toInt) (a1 : v6.toInt ≤ 4) : ∀ (f : Nat) (TX MS OU TL : List Int32) (n st to ol cp tn : Int32) (v12 : Int64) (v14 : Int32), own_I2 KC KL KR CH DE TM OM TX MS OU TL ct n st to ol cp tn v12 → 0 ≤ v14.toInt → v14.toInt ≤ 1000 → 1001 - v14.toInt ≤ f → f_L_law_575 scr f KC KL KR PD CH DE TM OM TX MS OU TL 1 ct pn lk n st to ol cp tn v6 v12 v14 = some 1 := by
  intro f
  have hll := iscr hs
  have e0 : (0 : Int32).toInt = 0 := rfl
  have e1 : (1 : Int32).toInt = 1 := rfl
  have e32 : (32 : Int32).toInt = 32 := rfl
  have e97 : (97 : Int32).toInt = 97 := rfl
  have e95 : (95 : Int32).toInt = 95 := rfl
  induction f with
  | zero => intro TX MS OU TL n st to ol cp tn v12 v14 I a b c; exfalso; omega
  | succ f ih =>
    intro TX MS OU TL n st to ol cp tn v12 v14 I a b c
    unfold f_L_law_575
    by_cases g : v14 < scr.length.toInt32
    rotate_left
    · rw [if_neg g]
    have g' := ilt.mp g
    rw [hll] at g'
    have p14 := own_p1 (a := v14) (by omega)
    rw [if_pos g, rdg a (by omega), Option.bind_some]
    have next : ∀ (TX MS OU TL : List Int32) (n st to ol cp tn : Int32) (v12 : Int64), own_I2 KC KL KR CH DE TM OM TX MS OU TL ct n st to ol cp tn v12 → f_L_law_575 scr f KC KL KR PD CH DE TM OM TX MS OU TL 1 ct pn lk n st to ol cp tn v6 v12 (v14 + 1) = some 1 := fun _ _ _ _ _ _ _ _ _ _ _ q => ih _ _ _ _ _ _ _ _ _ _ _ _ q (by omega) (by omega) (by omega)
    generalize gI scr v14 = x
    obtain ⟨op, eo, o0, o1⟩ := own_lmod x 16 (by decide)
    rw [eo, Option.bind_some]
    by_cases z : op = 0
    · rw [if_pos z]
      have er : f_resetText 1 n st to ol cp tn = some (0, 0, 0, 0, 0, 0, 0) := by
        unfold f_resetText f_clearText
        rw [if_pos rfl]
        rfl
      have I' : own_I2 KC KL KR CH DE TM OM TX MS OU TL ct 0 0 0 0 0 0 0 := by
        refine ⟨I.h, I.lR, I.K, I.A, I.vD, I.lO, I.l1, I.l2, I.l3, I.l4, by decide, ⟨0, 0, ⟨Nat.zero_le _, fun c hc => absurd hc (by simp), Or.inl rfl⟩, ⟨Nat.zero_le _, own_isn_nil _, fun m' hm' _ => by simpa using hm'⟩, rfl⟩, fun p hp => by omega, rfl, rfl⟩
      unfold f_textLength
      rw [er, Option.bind_some]
      show Option.bind (some (0 : Int32)) _ = _
      rw [Option.bind_some, if_pos rfl]
      exact own_727 I' (next _ _ _ _ _ _ _ _ _ _ _ I')
    · rw [if_neg z]
      unfold f_textLength
      rw [Option.bind_some]
      by_cases q : 11 < op
      · rw [if_pos q]
        obtain ⟨r, er, r0, r1⟩ := own_lmod (x >>> (4 &&& 31)) 95 (by decide)
        rw [er, Option.bind_some]
        have sv : (32 + r).toInt = 32 + r.toInt := by rw [iadd_i (by omega) (by omega), e32]
        exact own_665 I (by omega) (by omega) next
      · rw [if_neg q]
        have s6 := own_p1 (a := v6) (by omega)
        obtain ⟨r, er, r0, r1⟩ := own_lmod (x >>> (4 &&& 31)) (v6 + 1) (by omega)
        rw [er, Option.bind_some]
        have sv : (97 + r).toInt = 97 + r.toInt := by rw [iadd_i (by omega) (by omega), e97]
        exact own_665 I (by omega) (by omega) next
abbrev own_J (KC KL KR PD : List Int32) (ct pn : Int32) : Prop := (own_KG KC KL ct) ∧ (KR.length = 16) ∧ (PD.length = 8) ∧ (0 ≤ pn.toInt) ∧ (pn.toInt ≤ 8) ∧ (∀ j : Int32, 0 ≤ j.toInt → j.toInt < pn.toInt → 97 ≤ (gI PD j).toInt ∧ (gI PD j).toInt ≤ 122)
theorem own_J.h {KC KL KR PD : List Int32} {ct pn : Int32} (self : own_J KC KL KR PD ct pn) : own_KG KC KL ct := self.1
theorem own_J.lR {KC KL KR PD : List Int32} {ct pn : Int32} (self : own_J KC KL KR PD ct pn) : KR.length = 16 := self.2.1
theorem own_J.lP {KC KL KR PD : List Int32} {ct pn : Int32} (self : own_J KC KL KR PD ct pn) : PD.length = 8 := self.2.2.1
theorem own_J.p0 {KC KL KR PD : List Int32} {ct pn : Int32} (self : own_J KC KL KR PD ct pn) : 0 ≤ pn.toInt := self.2.2.2.1
theorem own_J.p1 {KC KL KR PD : List Int32} {ct pn : Int32} (self : own_J KC KL KR PD ct pn) : pn.toInt ≤ 8 := self.2.2.2.2.1
theorem own_J.l {KC KL KR PD : List Int32} {ct pn : Int32} (self : own_J KC KL KR PD ct pn) : ∀ j : Int32, 0 ≤ j.toInt → j.toInt < pn.toInt → 97 ≤ (gI PD j).toInt ∧ (gI PD j).toInt ≤ 122 := self.2.2.2.2.2
theorem own_J.kl {KC KL KR PD : List Int32} {ct pn : Int32} (J : own_J KC KL KR PD ct pn) (k : Int32) : ∃ r, f_keywordLength KL ct pn k = some r := by
  have lL := J.h.lL
  have c1 := J.h.c1
  have e0 : (0 : Int32).toInt = 0 := rfl
  unfold f_keywordLength f_keywordLength_19
  by_cases a : k < 0
  · rw [if_pos a]; exact ⟨_, rfl⟩
  · rw [if_neg a]
    by_cases b : k < ct
    · rw [if_pos b]
      rw [ilt] at a b
      rw [rdg (by omega) (by omega), Option.bind_some]
      exact ⟨_, rfl⟩
    · rw [if_neg b]; exact ⟨_, rfl⟩
theorem own_J.kc {KC KL KR PD : List Int32} {ct pn : Int32} (J : own_J KC KL KR PD ct pn) (k j : Int32) : ∃ r, f_keywordChar KC KL KR PD ct pn k j = some r := by
  have lL := J.h.lL
  have lC := J.h.lC
  have lR := J.lR
  have lP := J.lP
  have p1 := J.p1
  have c1 := J.h.c1
  have e0 : (0 : Int32).toInt = 0 := rfl
  have x19 : ∃ r, f_keywordChar_19 KC KL KR PD ct pn k j = some r := by
    unfold f_keywordChar_19
    by_cases a : k = ct
    · rw [if_pos a]
      by_cases b : j < 0
      · rw [if_pos b]; exact ⟨_, rfl⟩
      · rw [if_neg b]
        by_cases c : j < pn
        · rw [if_pos c]
          rw [ilt] at b c
          rw [rdg (by omega) (by omega), Option.bind_some]
          exact ⟨_, rfl⟩
        · rw [if_neg c]; exact ⟨_, rfl⟩
    · rw [if_neg a]; exact ⟨_, rfl⟩
  unfold f_keywordChar
  by_cases a : k < 0
  · rw [if_pos a]; exact x19
  · rw [if_neg a]
    by_cases b : k < ct
    · rw [if_pos b]
      rw [ilt] at a b
      unfold f_acceptedChar
      by_cases c : j = -1
      · rw [if_pos c, rdg (by omega) (by omega), Option.bind_some, Option.bind_some]; exact ⟨_, rfl⟩
      · rw [if_neg c]
        by_cases d : j < 0
        · rw [if_pos d, Option.bind_some]; exact ⟨_, rfl⟩
        · rw [if_neg d, rdg (by omega) (by omega), Option.bind_some]
          by_cases e : j < gI KL k
          · rw [ilt] at d
            have e' := ilt.mp e
            have nl := J.h.n k (by omega) b
            have kx := own_kx (k := k) (j := j) (by omega) (by omega) (by omega) (by omega)
            rw [if_pos e, rdg (by omega) (by omega), Option.bind_some, Option.bind_some]
            exact ⟨_, rfl⟩
          · rw [if_neg e, Option.bind_some]; exact ⟨_, rfl⟩
    · rw [if_neg b]; exact x19
theorem own_J.add {KC KL KR PD : List Int32} {ct pn : Int32} (J : own_J KC KL KR PD ct pn) (mk ml v : Int32) : ∃ (r : Int32) (PD' : List Int32) (pn' : Int32), f_addChar mk ml 0 ct PD pn v = some (r, PD', pn') ∧ own_J KC KL KR PD' ct pn' := by
  rcases own_adc (mk := mk) (ml := ml) (ct := ct) J.lP J.p0 v with ⟨e, -, ee⟩ | ⟨h1, h2, -, -, h5, ee⟩
  · exact ⟨_, _, _, ee, J⟩
  · have p0 := J.p0
    have lP := J.lP
    have pp := own_p1 (a := pn) (by omega)
    refine ⟨_, _, _, ee, J.h, J.lR, by rw [List.length_set]; exact lP, by omega, by omega, fun j j0 j1 => ?_⟩
    rw [gset p0 (by omega) j0]
    by_cases z : pn = j
    · rw [if_pos z]; exact ⟨h1, h2⟩
    · rw [if_neg z]
      rw [ieq] at z
      exact J.l j j0 (by omega)
theorem own_kpq {KC KC' : List Int32} {k : Int32} : ∀ L : Nat, L ≤ 8 → (∀ j : Int32, 0 ≤ j.toInt → j.toInt < L → gI KC (k * 8 + j) = gI KC' (k * 8 + j)) → own_kp KC k L = own_kp KC' k L := by
  intro L
  induction L with
  | zero => intro _ _; rfl
  | succ L ih =>
    intro hL h
    have e : (Int32.ofNat L).toInt = L := Int32.toInt_ofNat_of_lt (by omega)
    rw [own_kp, own_kp, h (Int32.ofNat L) (by omega) (by omega), ih (by omega) (fun j j0 j1 => h j j0 (by omega))]
theorem own_kpr {KC KC' : List Int32} {k k' : Int32} : ∀ L : Nat, L ≤ 8 → own_kp KC k L = own_kp KC' k' L → ∀ j : Int32, 0 ≤ j.toInt → j.toInt < L → gI KC (k * 8 + j) = gI KC' (k' * 8 + j) := by
  intro L
  induction L with
  | zero => intro _ _ j j0 j1; omega
  | succ L ih =>
    intro hL h j j0 j1
    have e : (Int32.ofNat L).toInt = L := Int32.toInt_ofNat_of_lt (by omega)
    rw [own_kp, own_kp] at h
    injection h with h1 h2
    by_cases q : j = Int32.ofNat L
    · rw [q]; exact own_s97 h1
    · rw [ieq] at q
      exact ih (by omega) h2 j j0 (by omega)
theorem own_J.ek {KC KL KR PD : List Int32} {ct pn : Int32} (J : own_J KC KL KR PD ct pn) (v : Int32) : ∃ (r : Int32) (KC' KL' KR' : List Int32) (ct' pn' : Int32), f_endKeyword PD 0 KC KL KR ct pn v = some (r, KC', KL', KR', ct', pn') ∧ own_J KC' KL' KR' PD ct' pn' := by
  obtain ⟨h, lR, lP, p0, p1, pl⟩ := id J
  have c0 := h.c0
  have c16 := h.c1
  have lC := h.lC
  have lL := h.lL
  have e0 : (0 : Int32).toInt = 0 := rfl
  have e16 : (16 : Int32).toInt = 16 := rfl
  unfold f_endKeyword
  rw [if_pos rfl]
  by_cases z : pn = 0
  · rw [if_pos z]; exact ⟨_, _, _, _, _, _, rfl, J⟩
  rw [if_neg z]
  have pp : 0 < pn.toInt := by rw [ieq] at z; omega
  rcases own_pri v with ⟨e, -⟩ | ⟨e, v0, v1⟩
  · rw [e, Option.bind_some, if_pos rfl]; exact ⟨_, _, _, _, _, _, rfl, J⟩
  rw [e, Option.bind_some, if_neg (by decide)]
  rcases own_pd (ct := ct) (pn := pn) lC lL lP p0 p1 c0 c16 with ⟨q, q'⟩ | ⟨q, -⟩
  rotate_left
  · rw [q, Option.bind_some, if_neg (by decide)]; exact ⟨_, _, _, _, _, _, rfl, J⟩
  rw [q, Option.bind_some, if_pos rfl]
  by_cases g : ct < 16
  rotate_left
  · rw [if_neg g]; exact ⟨_, _, _, _, _, _, rfl, J⟩
  rw [if_pos g]
  rw [ilt] at g
  obtain ⟨KC', es, lC', hK⟩ := own_sp (ct := ct) (pn := pn) (v := v) lC lL lR lP p0 p1 c0 (by omega)
  rw [es, Option.bind_some]
  have pc1 := own_p1 (a := ct) (by omega)
  have gL : ∀ k : Int32, 0 ≤ k.toInt → gI (KL.set ct.toInt.toNat pn) k = if ct = k then pn else gI KL k := fun k k0 => gset c0 (by omega) k0
  have old : ∀ i : Int32, 0 ≤ i.toInt → i.toInt < ct.toInt → own_kp KC' i (gI KL i).toInt.toNat = own_kp KC i (gI KL i).toInt.toNat := by
    intro i i0 i1
    have nl := h.n i i0 i1
    refine own_kpq _ (by omega) (fun j j0 j1 => ?_)
    rw [hK i j i0 (by omega) j0 (by omega), if_neg (fun u => by have := u.1; rw [ieq] at this; omega)]
  refine ⟨_, _, _, _, _, _, rfl, ⟨lC', by rw [List.length_set]; exact lL, by omega, by omega, ?_, ?_, ?_⟩, by rw [List.length_set]; exact lR, lP, by decide, by decide, fun j j0 j1 => by omega⟩
  · intro k k0 k1
    rw [gL k k0]
    by_cases y : ct = k
    · rw [if_pos y]; omega
    · rw [if_neg y]; rw [ieq] at y; exact h.n k k0 (by omega)
  · intro k j k0 k1 j0 j1
    rw [gL k k0] at j1
    by_cases y : ct = k
    · rw [if_pos y] at j1
      rw [hK k j k0 (by omega) j0 (by omega), if_pos ⟨y.symm, j1⟩]
      exact pl j j0 j1
    · rw [if_neg y] at j1
      have y' : ¬ k = ct := fun u => y u.symm
      rw [ieq] at y
      have nl := h.n k k0 (by omega)
      rw [hK k j k0 (by omega) j0 (by omega), if_neg (fun u => y' u.1)]
      exact h.c k j k0 (by omega) j0 j1
  · intro i k i0 ik k1 ee
    rw [gL i i0, gL k (by omega), if_neg (fun u => by rw [ieq] at u; omega)] at ee
    have ni := h.n i i0 (by omega)
    rw [old i i0 (by omega)] at ee
    by_cases y : ct = k
    · rw [if_pos y] at ee
      have l := congrArg List.length ee
      rw [own_kp_len, own_kp_len] at l
      have el : gI KL i = pn := by rw [ieq]; omega
      rw [el] at ee
      rcases q' i i0 (by omega) with u | ⟨j, j0, j1, u⟩
      · exact u el
      · apply u
        have := own_kpr _ (by omega) ee j j0 (by omega)
        rw [this, hK k j (by omega) (by omega) j0 (by omega), if_pos ⟨y.symm, j1⟩]
    · rw [if_neg y] at ee
      rw [ieq] at y
      rw [old k (by omega) (by omega)] at ee
      exact h.d i k i0 ik (by omega) ee

theorem own_442 {KC KL KR PD CH DE FA DP TM OM QU TX MS OU TL scr : List Int32} {mk ml ct pn nc lk n st to ol cp tn v4 v6 v10 v11 v12 v13 v14 v15 v16 v17 v18 v19 v20 v21 v22 : Int32} (J : own_J KC KL KR PD ct pn) {K : (List Int32 → List Int32 → List Int32 → List Int32 → List Int32 → List Int32 → List Int32 → List Int32 → List Int32 → List Int32 → List Int32 → List Int32 → List Int32 → List Int32 → List Int32 → Int32 → Int32 → Int32 → Int32 → Int32 → Int32 → Int32 → Int32 → Int32 → Int32 → Int32 → Int32 → Int32 → Int32 → Int32 → Int32 → Int32 → Int32 → Int32 → Int32 → Int32 → Int32 → Int32 → Int32 → Int32 → Int32 → Int32 → Int32 → Int32 → Option Int32)} (hk : ∀ x : Int32, K KC KL KR PD CH DE FA DP TM OM QU TX MS OU TL mk ml 0 ct pn nc lk n st to ol cp tn v4 v6 v10 v11 v12 v13 v14 v15 v16 v17 v18 v19 v20 v21 v22 x = some 1) : ∀ (f : Nat) (x y : Int32), 0 ≤ y.toInt → y.toInt ≤ 8 → 8 - y.toInt < f → f_L_law_442 K scr f KC KL KR PD CH DE FA DP TM OM QU TX MS OU TL mk ml 0 ct pn nc lk n st to ol cp tn v4 v6 v10 v11 v12 v13 v14 v15 v16 v17 v18 v19 v20 v21 v22 x y = some 1 := by
  intro f
  have e8 : (8 : Int32).toInt = 8 := rfl
  induction f with
  | zero => intro x y a b c; exfalso; omega
  | succ f ih =>
    intro x y a b c
    unfold f_L_law_442
    by_cases g : y < v16
    rotate_left
    · rw [if_neg g]; exact hk x
    rw [if_pos g]
    by_cases g2 : y < 8
    rotate_left
    · rw [if_neg g2]; exact hk x
    rw [if_pos g2]
    rw [ilt] at g2
    have py := own_p1 (a := y) (by omega)
    obtain ⟨r1, e1⟩ := J.kc v22 y
    obtain ⟨r2, e2⟩ := J.kc v15 y
    rw [e1, Option.bind_some, e2, Option.bind_some]
    exact ih _ _ (by omega) (by omega) (by omega)
theorem own_245 {KC KL KR PD CH DE FA DP TM OM QU TX MS OU TL scr : List Int32} {mk ml ct pn nc lk n st to ol cp tn v4 v6 v10 v11 v12 v13 v14 v15 v16 v17 v18 : Int32} (J : own_J KC KL KR PD ct pn) {K : (List Int32 → List Int32 → List Int32 → List Int32 → List Int32 → List Int32 → List Int32 → List Int32 → List Int32 → List Int32 → List Int32 → List Int32 → List Int32 → List Int32 → List Int32 → Int32 → Int32 → Int32 → Int32 → Int32 → Int32 → Int32 → Int32 → Int32 → Int32 → Int32 → Int32 → Int32 → Int32 → Int32 → Int32 → Int32 → Int32 → Int32 → Int32 → Int32 → Int32 → Int32 → Int32 → Int32 → Option Int32)} (hk : ∀ x : Int32, K KC KL KR PD CH DE FA DP TM OM QU TX MS OU TL mk ml 0 ct pn nc lk n st to ol cp tn v4 v6 v10 v11 v12 v13 v14 v15 v16 v17 v18 x = some 1) : ∀ (f : Nat) (x y : Int32), 0 ≤ y.toInt → y.toInt ≤ 8 → 8 - y.toInt < f → f_L_law_245 K scr f KC KL KR PD CH DE FA DP TM OM QU TX MS OU TL mk ml 0 ct pn nc lk n st to ol cp tn v4 v6 v10 v11 v12 v13 v14 v15 v16 v17 v18 x y = some 1 := by
  intro f
  have e8 : (8 : Int32).toInt = 8 := rfl
  induction f with
  | zero => intro x y a b c; exfalso; omega
  | succ f ih =>
    intro x y a b c
    unfold f_L_law_245
    by_cases g : y < v16
    rotate_left
    · rw [if_neg g]; exact hk x
    rw [if_pos g]
    by_cases g2 : y < 8
    rotate_left
    · rw [if_neg g2]; exact hk x
    rw [if_pos g2]
    rw [ilt] at g2
    have py := own_p1 (a := y) (by omega)
    obtain ⟨r1, e1⟩ := J.kc v18 y
    obtain ⟨r2, e2⟩ := J.kc v15 y
    rw [e1, Option.bind_some, e2, Option.bind_some]
    exact ih _ _ (by omega) (by omega) (by omega)
theorem own_397 {KC KL KR PD CH DE FA DP TM OM QU TX MS OU TL scr : List Int32} {mk ml ct pn nc lk n st to ol cp tn v4 v6 v10 v11 v12 v13 v14 v15 v16 v17 v18 v19 v20 : Int32} (J : own_J KC KL KR PD ct pn) (h16 : v15.toInt ≤ 16) {K : (List Int32 → List Int32 → List Int32 → List Int32 → List Int32 → List Int32 → List Int32 → List Int32 → List Int32 → List Int32 → List Int32 → List Int32 → List Int32 → List Int32 → List Int32 → Int32 → Int32 → Int32 → Int32 → Int32 → Int32 → Int32 → Int32 → Int32 → Int32 → Int32 → Int32 → Int32 → Int32 → Int32 → Int32 → Int32 → Int32 → Int32 → Int32 → Int32 → Int32 → Int32 → Int32 → Int32 → Int32 → Int32 → Option Int32)} (hk : ∀ x : Int32, K KC KL KR PD CH DE FA DP TM OM QU TX MS OU TL mk ml 0 ct pn nc lk n st to ol cp tn v4 v6 v10 v11 v12 v13 v14 v15 v16 v17 v18 v19 v20 x = some 1) : ∀ (f : Nat) (x y : Int32), 0 ≤ y.toInt → y.toInt ≤ 16 → 16 - y.toInt < f → f_L_law_397 K scr f KC KL KR PD CH DE FA DP TM OM QU TX MS OU TL mk ml 0 ct pn nc lk n st to ol cp tn v4 v6 v10 v11 v12 v13 v14 v15 v16 v17 v18 v19 v20 x y = some 1 := by
  intro f
  induction f with
  | zero => intro x y a b c; exfalso; omega
  | succ f ih =>
    intro x y a b c
    unfold f_L_law_397
    by_cases g : y < v15
    rotate_left
    · rw [if_neg g]; exact hk x
    rw [if_pos g]
    rw [ilt] at g
    have py := own_p1 (a := y) (by omega)
    obtain ⟨r1, e1⟩ := J.kl y
    rw [e1, Option.bind_some]
    by_cases q : r1 = v16 + 1
    · obtain ⟨r2, e2⟩ := J.kc y v16
      rw [if_pos q, e2, Option.bind_some]
      refine own_442 J (fun z => ?_) 100000 _ 0 (by decide) (by decide) (by decide)
      unfold f_L_law_486
      exact ih _ _ (by omega) (by omega) (by omega)
    · rw [if_neg q]
      exact ih _ _ (by omega) (by omega) (by omega)
theorem own_215 {KC KL KR PD CH DE FA DP TM OM QU TX MS OU TL scr : List Int32} {mk ml ct pn nc lk n st to ol cp tn v4 v6 v10 v11 v12 v13 v14 v15 v16 : Int32} (J : own_J KC KL KR PD ct pn) (h16 : v15.toInt ≤ 16) {K : (List Int32 → List Int32 → List Int32 → List Int32 → List Int32 → List Int32 → List Int32 → List Int32 → List Int32 → List Int32 → List Int32 → List Int32 → List Int32 → List Int32 → List Int32 → Int32 → Int32 → Int32 → Int32 → Int32 → Int32 → Int32 → Int32 → Int32 → Int32 → Int32 → Int32 → Int32 → Int32 → Int32 → Int32 → Int32 → Int32 → Int32 → Int32 → Int32 → Int32 → Int32 → Option Int32)} (hk : ∀ x : Int32, K KC KL KR PD CH DE FA DP TM OM QU TX MS OU TL mk ml 0 ct pn nc lk n st to ol cp tn v4 v6 v10 v11 v12 v13 v14 v15 v16 x = some 1) : ∀ (f : Nat) (x y : Int32), 0 ≤ y.toInt → y.toInt ≤ 16 → 16 - y.toInt < f → f_L_law_215 K scr f KC KL KR PD CH DE FA DP TM OM QU TX MS OU TL mk ml 0 ct pn nc lk n st to ol cp tn v4 v6 v10 v11 v12 v13 v14 v15 v16 x y = some 1 := by
  intro f
  induction f with
  | zero => intro x y a b c; exfalso; omega
  | succ f ih =>
    intro x y a b c
    unfold f_L_law_215
    by_cases g : y < v15
    rotate_left
    · rw [if_neg g]; exact hk x
    rw [if_pos g]
    rw [ilt] at g
    have py := own_p1 (a := y) (by omega)
    by_cases q0 : x = 0
    rotate_left
    · rw [if_neg q0]; exact hk x
    rw [if_pos q0]
    obtain ⟨r1, e1⟩ := J.kl y
    rw [e1, Option.bind_some]
    by_cases q : r1 = v16
    · rw [if_pos q]
      refine own_245 J (fun z => ?_) 100000 _ 0 (by decide) (by decide) (by decide)
      unfold f_L_law_289
      exact ih _ _ (by omega) (by omega) (by omega)
    · rw [if_neg q]
      exact ih _ _ (by omega) (by omega) (by omega)
theorem own_369 {KC KL KR PD CH DE FA DP TM OM QU TX MS OU TL scr : List Int32} {mk ml ct pn nc lk n st to ol cp tn v4 v6 v10 v11 v12 v13 v14 v15 v16 v17 : Int32} (J : own_J KC KL KR PD ct pn) (h16 : v15.toInt ≤ 16) (a0 : 2 ≤ v6.toInt) (a1 : v6.toInt ≤ 4) {K : (List Int32 → List Int32 → List Int32 → List Int32 → List Int32 → List Int32 → List Int32 → List Int32 → List Int32 → List Int32 → List Int32 → List Int32 → List Int32 → List Int32 → List Int32 → Int32 → Int32 → Int32 → Int32 → Int32 → Int32 → Int32 → Int32 → Int32 → Int32 → Int32 → Int32 → Int32 → Int32 → Int32 → Int32 → Int32 → Int32 → Int32 → Int32 → Int32 → Option Int32)} (hk : ∀ x : Int32, K KC KL KR PD CH DE FA DP TM OM QU TX MS OU TL mk ml 0 ct pn nc lk n st to ol cp tn v4 v6 v10 v11 v12 v13 v14 x = some 1) : ∀ (f : Nat) (x y : Int32), 0 ≤ y.toInt → y.toInt ≤ 4 → 4 - y.toInt < f → f_L_law_369 K scr f KC KL KR PD CH DE FA DP TM OM QU TX MS OU TL mk ml 0 ct pn nc lk n st to ol cp tn v4 v6 v10 v11 v12 v13 v14 v15 v16 v17 x y = some 1 := by
  intro f
  induction f with
  | zero => intro x y a b c; exfalso; omega
  | succ f ih =>
    intro x y a b c
    unfold f_L_law_369
    by_cases g : y < v6
    rotate_left
    · rw [if_neg g]; exact hk x
    rw [if_pos g]
    rw [ilt] at g
    have py := own_p1 (a := y) (by omega)
    obtain ⟨r1, e1, -⟩ := own_lmod (v17 + y) v6 (by omega)
    rw [e1, Option.bind_some]
    refine own_397 J h16 (fun z => ?_) 100000 _ 0 (by decide) (by decide) (by decide)
    unfold f_L_law_500
    by_cases q : z = 0
    · rw [if_pos q]; exact hk _
    · rw [if_neg q]; exact ih _ _ (by omega) (by omega) (by omega)
theorem own_cell (scr : List Int32) (hs : scr.length ≤ 260) (j : Int32) (j0 : 0 ≤ j.toInt) : ∃ x, f_L_cell scr j = some x := by
  unfold f_L_cell
  have hl := iscr hs
  by_cases g : j < scr.length.toInt32
  · have g' := ilt.mp g
    rw [hl] at g'
    rw [if_pos g, rdg j0 g', Option.bind_some]
    exact ⟨_, rfl⟩
  · rw [if_neg g]
    exact ⟨_, rfl⟩
theorem own_518 {KC KL KR PD CH DE FA DP TM OM QU TX MS OU TL scr : List Int32} {mk ml ct pn nc lk n st to ol cp tn v4 v6 v10 v11 v12 v13 v14 : Int32} (J : own_J KC KL KR PD ct pn) {K1 : (List Int32 → List Int32 → List Int32 → List Int32 → List Int32 → List Int32 → List Int32 → List Int32 → List Int32 → List Int32 → List Int32 → List Int32 → List Int32 → List Int32 → List Int32 → Int32 → Int32 → Int32 → Int32 → Int32 → Int32 → Int32 → Int32 → Int32 → Int32 → Int32 → Int32 → Int32 → Int32 → Int32 → Int32 → Int32 → Int32 → Int32 → Int32 → Option Int32)} {K2 : (List Int32 → List Int32 → List Int32 → List Int32 → List Int32 → List Int32 → List Int32 → List Int32 → List Int32 → List Int32 → List Int32 → List Int32 → List Int32 → List Int32 → List Int32 → Int32 → Int32 → Int32 → Int32 → Int32 → Int32 → Int32 → Int32 → Int32 → Int32 → Int32 → Int32 → Int32 → Int32 → Int32 → Int32 → Int32 → Int32 → Option Int32)} {K3 : (List Int32 → List Int32 → List Int32 → List Int32 → List Int32 → List Int32 → List Int32 → List Int32 → List Int32 → List Int32 → List Int32 → List Int32 → List Int32 → List Int32 → List Int32 → Int32 → Int32 → Int32 → Int32 → Int32 → Int32 → Int32 → Int32 → Int32 → Int32 → Int32 → Int32 → Int32 → Int32 → Int32 → Int32 → Int32 → Int32 → Option Int32)} (h1 : ∀ (PD : List Int32) (pn : Int32), own_J KC KL KR PD ct pn → K1 KC KL KR PD CH DE FA DP TM OM QU TX MS OU TL mk ml 0 ct pn nc lk n st to ol cp tn v4 v6 v10 v11 v12 v13 (v14 + 1) = some 1) (h2 : ∀ (PD : List Int32) (pn : Int32), own_J KC KL KR PD ct pn → K2 KC KL KR PD CH DE FA DP TM OM QU TX MS OU TL mk ml 0 ct pn nc lk n st to ol cp tn v4 v6 v10 v11 (v12 + 1) = some 1) (x : Int32) : f_L_law_518 K1 K2 K3 scr KC KL KR PD CH DE FA DP TM OM QU TX MS OU TL mk ml 0 ct pn nc lk n st to ol cp tn v4 v6 v10 v11 v12 v13 v14 x = some 1 := by
  obtain ⟨r, PD', pn', e, J'⟩ := J.add mk ml x
  unfold f_L_law_518
  rw [e, Option.bind_some]
  show (if r < 0 then _ else _) = _
  by_cases q : r < 0
  · rw [if_pos q]; exact h2 _ _ J'
  · rw [if_neg q]; exact h1 _ _ J'
theorem own_334 {KC KL KR PD CH DE FA DP TM OM QU TX MS OU TL scr : List Int32} {mk ml ct pn nc lk n st to ol cp tn v4 v6 v10 v11 v12 v13 v14 v15 v16 : Int32} (hs : scr.length ≤ 260) (J : own_J KC KL KR PD ct pn) (h16 : v15.toInt ≤ 16) (a0 : 2 ≤ v6.toInt) (a1 : v6.toInt ≤ 4) (b0 : 0 ≤ v11.toInt) {K1 : (List Int32 → List Int32 → List Int32 → List Int32 → List Int32 → List Int32 → List Int32 → List Int32 → List Int32 → List Int32 → List Int32 → List Int32 → List Int32 → List Int32 → List Int32 → Int32 → Int32 → Int32 → Int32 → Int32 → Int32 → Int32 → Int32 → Int32 → Int32 → Int32 → Int32 → Int32 → Int32 → Int32 → Int32 → Int32 → Int32 → Int32 → Int32 → Option Int32)} {K2 : (List Int32 → List Int32 → List Int32 → List Int32 → List Int32 → List Int32 → List Int32 → List Int32 → List Int32 → List Int32 → List Int32 → List Int32 → List Int32 → List Int32 → List Int32 → Int32 → Int32 → Int32 → Int32 → Int32 → Int32 → Int32 → Int32 → Int32 → Int32 → Int32 → Int32 → Int32 → Int32 → Int32 → Int32 → Int32 → Int32 → Option Int32)} {K3 : (List Int32 → List Int32 → List Int32 → List Int32 → List Int32 → List Int32 → List Int32 → List Int32 → List Int32 → List Int32 → List Int32 → List Int32 → List Int32 → List Int32 → List Int32 → Int32 → Int32 → Int32 → Int32 → Int32 → Int32 → Int32 → Int32 → Int32 → Int32 → Int32 → Int32 → Int32 → Int32 → Int32 → Int32 → Int32 → Int32 → Option Int32)} (h1 : ∀ (PD : List Int32) (pn : Int32), own_J KC KL KR PD ct pn → K1 KC KL KR PD CH DE FA DP TM OM QU TX MS OU TL mk ml 0 ct pn nc lk n st to ol cp tn v4 v6 v10 (v11 + 1) v12 v13 (v14 + 1) = some 1) (h2 : ∀ (PD : List Int32) (pn : Int32), own_J KC KL KR PD ct pn → K2 KC KL KR PD CH DE FA DP TM OM QU TX MS OU TL mk ml 0 ct pn nc lk n st to ol cp tn v4 v6 v10 (v11 + 1) (v12 + 1) = some 1) : f_L_law_334 K1 K2 K3 scr KC KL KR PD CH DE FA DP TM OM QU TX MS OU TL mk ml 0 ct pn nc lk n st to ol cp tn v4 v6 v10 v11 v12 v13 v14 v15 v16 = some 1 := by
  obtain ⟨c, ec⟩ := own_cell scr hs v11 b0
  obtain ⟨r, er, -⟩ := own_lmod c v6 (by omega)
  unfold f_L_law_334
  rw [ec, Option.bind_some, er, Option.bind_some]
  by_cases q : v16 + 1 = v4
  · rw [if_pos q]
    exact own_369 J h16 a0 a1 (fun x => own_518 J h1 h2 x) 100000 _ 0 (by decide) (by decide) (by decide)
  · rw [if_neg q]
    exact own_518 J h1 h2 _
theorem own_179 {CH DE FA DP TM OM QU TX MS OU TL scr : List Int32} {mk ml nc lk n st to ol cp tn v4 v6 v10 v12 v13 : Int32} (hs : scr.length ≤ 260) (a0 : 2 ≤ v6.toInt) (a1 : v6.toInt ≤ 4) (e0 : 1 ≤ v4.toInt) (e8 : v4.toInt ≤ 8) {B : Int} (B0 : 0 ≤ B) (B1 : B ≤ 1000) {K2 K3 : (List Int32 → List Int32 → List Int32 → List Int32 → List Int32 → List Int32 → List Int32 → List Int32 → List Int32 → List Int32 → List Int32 → List Int32 → List Int32 → List Int32 → List Int32 → Int32 → Int32 → Int32 → Int32 → Int32 → Int32 → Int32 → Int32 → Int32 → Int32 → Int32 → Int32 → Int32 → Int32 → Int32 → Int32 → Int32 → Int32 → Option Int32)} (h2 : ∀ (KC KL KR PD : List Int32) (ct pn v11 : Int32), own_J KC KL KR PD ct pn → 0 ≤ v11.toInt → v11.toInt ≤ B + 11 → K2 KC KL KR PD CH DE FA DP TM OM QU TX MS OU TL mk ml 0 ct pn nc lk n st to ol cp tn v4 v6 v10 v11 (v12 + 1) = some 1) (h3 : ∀ (KC KL KR PD : List Int32) (ct pn v11 : Int32), own_J KC KL KR PD ct pn → 0 ≤ v11.toInt → v11.toInt ≤ B + 10 → K3 KC KL KR PD CH DE FA DP TM OM QU TX MS OU TL mk ml 0 ct pn nc lk n st to ol cp tn v4 v6 v10 v11 v12 = some 1) : ∀ (f : Nat) (KC KL KR PD : List Int32) (ct pn v11 v14 : Int32), own_J KC KL KR PD ct pn → 0 ≤ v14.toInt → v14.toInt ≤ 9 → 9 - v14.toInt < f → 0 ≤ v11.toInt → v11.toInt ≤ B + v14.toInt → f_L_law_179 K2 K3 scr f KC KL KR PD CH DE FA DP TM OM QU TX MS OU TL mk ml 0 ct pn nc lk n st to ol cp tn v4 v6 v10 v11 v12 v13 v14 = some 1 := by
  intro f
  induction f with
  | zero => intro KC KL KR PD ct pn v11 v14 J a b c; exfalso; omega
  | succ f ih =>
    intro KC KL KR PD ct pn v11 v14 J a b c d0 d1
    have c16 := J.h.c1
    unfold f_L_law_179
    by_cases g : v4 < v14
    · rw [if_pos g]
      exact h2 _ _ _ _ _ _ _ J d0 (by omega)
    rw [if_neg g]
    rw [ilt] at g
    have p14 := own_p1 (a := v14) (by omega)
    have p11 := own_p1 (a := v11) (by omega)
    unfold f_keywordCount
    obtain ⟨r, er⟩ := J.kl ct
    rw [Option.bind_some, er, Option.bind_some]
    have n334 : ∀ (v15 v16 : Int32), v15.toInt ≤ 16 → f_L_law_334 (f_L_law_179 K2 K3 scr f) K2 K3 scr KC KL KR PD CH DE FA DP TM OM QU TX MS OU TL mk ml 0 ct pn nc lk n st to ol cp tn v4 v6 v10 v11 v12 v13 v14 v15 v16 = some 1 := by
      intro v15 v16 h16
      refine own_334 hs J h16 a0 a1 d0 (fun PD pn J' => ih _ _ _ _ _ _ _ _ J' (by omega) (by omega) (by omega) (by omega) (by omega)) (fun PD pn J' => h2 _ _ _ _ _ _ _ J' (by omega) (by omega))
    by_cases q : r < v13
    · rw [if_pos q]; exact n334 _ _ c16
    · rw [if_neg q]
      refine own_215 J c16 (fun x => ?_) 100000 0 0 (by decide) (by decide) (by decide)
      unfold f_L_law_303
      by_cases z : x = 0
      · rw [if_pos z]; exact h3 _ _ _ _ _ _ _ J d0 (by omega)
      · rw [if_neg z]; exact n334 _ _ c16
theorem own_151 {CH DE FA DP TM OM QU TX MS OU TL scr : List Int32} {mk ml nc lk n st to ol cp tn v4 v6 v10 : Int32} (hs : scr.length ≤ 260) (a0 : 2 ≤ v6.toInt) (a1 : v6.toInt ≤ 4) (e0 : 1 ≤ v4.toInt) (e8 : v4.toInt ≤ 8) (m16 : v10.toInt ≤ 16) {K : (List Int32 → List Int32 → List Int32 → List Int32 → List Int32 → List Int32 → List Int32 → List Int32 → List Int32 → List Int32 → List Int32 → List Int32 → List Int32 → List Int32 → List Int32 → Int32 → Int32 → Int32 → Int32 → Int32 → Int32 → Int32 → Int32 → Int32 → Int32 → Int32 → Int32 → Int32 → Option Int32)} (hk : ∀ (KC KL KR PD : List Int32) (ct pn v11 : Int32), own_J KC KL KR PD ct pn → 0 ≤ v11.toInt → v11.toInt ≤ 300 → K KC KL KR PD CH DE FA DP TM OM QU TX MS OU TL 0 ct pn nc lk n st to ol cp tn v6 v11 = some 1) : ∀ (f : Nat) (KC KL KR PD : List Int32) (ct pn v11 v12 : Int32), own_J KC KL KR PD ct pn → 0 ≤ v12.toInt → v12.toInt ≤ 16 → 16 - v12.toInt < f → 0 ≤ v11.toInt → v11.toInt ≤ 4 + 12 * v12.toInt → f_L_law_151 K scr f KC KL KR PD CH DE FA DP TM OM QU TX MS OU TL mk ml 0 ct pn nc lk n st to ol cp tn v4 v6 v10 v11 v12 = some 1 := by
  intro f
  induction f with
  | zero => intro KC KL KR PD ct pn v11 v12 J a b c; exfalso; omega
  | succ f ih =>
    intro KC KL KR PD ct pn v11 v12 J a b c d0 d1
    unfold f_L_law_151
    by_cases g : v12 < v10
    rotate_left
    · rw [if_neg g]; exact hk _ _ _ _ _ _ _ J d0 (by omega)
    rw [if_pos g]
    rw [ilt] at g
    have p12 := own_p1 (a := v12) (by omega)
    have p11 := own_p1 (a := v11) (by omega)
    obtain ⟨x, ex⟩ := own_cell scr hs v11 d0
    obtain ⟨r, er, -⟩ := own_lmod x v4 (by omega)
    rw [ex, Option.bind_some, er, Option.bind_some]
    refine own_179 hs a0 a1 e0 e8 (B := v11.toInt + 1) (by omega) (by omega) ?_ ?_ 100000 _ _ _ _ _ _ (v11 + 1) 0 J (by decide) (by decide) (by decide) (by omega) (by have z0 : (0 : Int32).toInt = 0 := rfl; omega)
    · intro KC KL KR PD ct pn w J' w0 w1
      exact ih _ _ _ _ _ _ _ _ J' (by omega) (by omega) (by omega) w0 (by omega)
    · intro KC KL KR PD ct pn w J' w0 w1
      have pw := own_p1 (a := w) (by omega)
      obtain ⟨y, ey⟩ := own_cell scr hs w w0
      obtain ⟨z, ez, -⟩ := own_lmod y 95 (by decide)
      obtain ⟨q, KC', KL', KR', ct', pn', eq, J2⟩ := J'.ek (32 + z)
      unfold f_L_law_308
      rw [ey, Option.bind_some, ez, Option.bind_some, eq, Option.bind_some]
      exact ih _ _ _ _ _ _ _ _ J2 (by omega) (by omega) (by omega) (by omega) (by omega)
theorem own_543 (scr : List Int32) (hs : scr.length ≤ 260) {KC KL KR PD CH DE FA DP TM OM QU TX MS OU TL : List Int32} {ct pn nc lk n st to ol cp tn v6 v11 : Int32} (J : own_J KC KL KR PD ct pn) (a0 : 2 ≤ v6.toInt) (a1 : v6.toInt ≤ 4) (b0 : 0 ≤ v11.toInt) (b1 : v11.toInt ≤ 300) (vC : own_V CH 3354 0 0) (vD : own_V DE 3354 0 128) (vF : own_V FA 129 0 128) (lD : DP.length = 129) (vT : own_V TM 129 (-1) (-1)) (vO : own_V OM 129 0 0) (vQ : own_V QU 129 0 128) (l1 : TX.length = 240) (l2 : MS.length = 240) (l3 : OU.length = 240) (l4 : TL.length = 8) : f_L_law_543 scr KC KL KR PD CH DE FA DP TM OM QU TX MS OU TL 0 ct pn nc lk n st to ol cp tn v6 v11 = some 1 := by
  obtain ⟨q, KC', KL', KR', ct', pn', eq, J'⟩ := J.ek 33
  have c0 := J'.h.c0
  unfold f_L_law_543
  rw [eq, Option.bind_some]
  show Option.bind (f_build KC' KL' ct' pn' CH DE FA DP TM OM QU 0 nc lk n st to ol cp tn) _ = _
  by_cases z : pn' = 0
  rotate_left
  · have ee : f_build KC' KL' ct' pn' CH DE FA DP TM OM QU 0 nc lk n st to ol cp tn = some (-7, CH, DE, FA, DP, TM, OM, QU, 0, nc, lk, n, st, to, ol, cp, tn) := by
      unfold f_build
      rw [if_pos rfl, if_neg z]
    rw [ee, Option.bind_some]
    show Option.bind (f_phase 0) _ = _
    unfold f_phase
    rw [Option.bind_some, if_neg (by decide)]
  by_cases cz : ct' = 0
  · have ee : f_build KC' KL' ct' pn' CH DE FA DP TM OM QU 0 nc lk n st to ol cp tn = some (-4, CH, DE, FA, DP, TM, OM, QU, 0, nc, lk, n, st, to, ol, cp, tn) := by
      unfold f_build
      rw [if_pos rfl, if_pos z, if_pos cz]
    rw [ee, Option.bind_some]
    show Option.bind (f_phase 0) _ = _
    unfold f_phase
    rw [Option.bind_some, if_neg (by decide)]
  obtain ⟨⟨CH1, DP1, TM1, OM1, nc1, lk1⟩, eb, K1, -⟩ := own_btX J'.h 100000 CH DP TM OM 1 1 0 (by decide) c0 (by decide) lD (by decide) (by decide) (by decide) (own_T0 KC' KL' vC vT vO)
  have K2 : own_TK KC' KL' CH1 TM1 OM1 nc1 ct' := K1
  have eb2 : f_buildTrie KC' KL' ct' CH DP TM OM nc lk = some (CH1, DP1, TM1, OM1, nc1, lk1) := eb
  obtain ⟨⟨DE1, FA1, OM2, QU1⟩, ec, d1, d2, d3⟩ := own_clX J'.h K2 vD vF vQ
  have u1 : own_V DE1 3354 0 128 := d1
  have u2 : OM2.length = 129 := d2
  have u3 : own_AC KC' KL' CH1 DE1 OM2 ct' := d3
  have ee : f_build KC' KL' ct' pn' CH DE FA DP TM OM QU 0 nc lk n st to ol cp tn = some (0, CH1, DE1, FA1, DP1, TM1, OM2, QU1, 1, nc1, lk1, 0, 0, 0, 0, 0, 0) := by
    unfold f_build f_clearText
    rw [if_pos rfl, if_pos z, if_neg cz, eb2, Option.bind_some]
    show Option.bind (f_computeLinks CH1 DE FA OM1 QU) _ = _
    rw [ec, Option.bind_some]
    rfl
  rw [ee, Option.bind_some]
  show Option.bind (f_phase 1) _ = _
  unfold f_phase
  rw [Option.bind_some, if_pos rfl]
  exact own_575 scr hs a0 a1 100000 TX MS OU TL 0 0 0 0 0 0 0 v11 ⟨J'.h, J'.lR, ⟨OM1, nc1, K2⟩, u3, u1, u2, l1, l2, l3, l4, by decide, ⟨0, 0, ⟨Nat.zero_le _, fun c hc => absurd hc (by simp), Or.inl rfl⟩, ⟨Nat.zero_le _, own_isn_nil _, fun m' hm' _ => by simpa using hm'⟩, rfl⟩, fun p hp => by have e0 : (0 : Int32).toInt = 0 := rfl; omega, rfl, rfl⟩ b0 (by omega) (by omega)
theorem own_76 (scr : List Int32) (hs : scr.length ≤ 260) {KC KL KR PD CH DE FA DP TM OM QU TX MS OU TL : List Int32} {mk ml v3 v4 v6 : Int32} (J : own_J KC KL KR PD 0 0) (a0 : 2 ≤ v6.toInt) (a1 : v6.toInt ≤ 4) (c3 : 1 ≤ v3.toInt) (c3' : v3.toInt ≤ 16) (e0 : 1 ≤ v4.toInt) (e8 : v4.toInt ≤ 8) (vC : own_V CH 3354 0 0) (vD : own_V DE 3354 0 128) (vF : own_V FA 129 0 128) (lD : DP.length = 129) (vT : own_V TM 129 (-1) (-1)) (vO : own_V OM 129 0 0) (vQ : own_V QU 129 0 128) (l1 : TX.length = 240) (l2 : MS.length = 240) (l3 : OU.length = 240) (l4 : TL.length = 8) : ∀ (f : Nat) (v7 v8 v9 : Int32), ((v9.toInt = 1 ∧ v7.toInt = 0) ∨ 1 ≤ v7.toInt) → 0 ≤ v7.toInt → v7.toInt ≤ 16 → 1 ≤ v8.toInt → v8.toInt ≤ 16 → 1 ≤ v9.toInt → v9.toInt ≤ 9 → 9 - v9.toInt < f → f_L_law_76 (f_L_law_117 scr) scr f KC KL KR PD CH DE FA DP TM OM QU TX MS OU TL mk ml 0 0 0 1 1 0 0 0 0 0 0 v3 v4 v6 v7 v8 v9 = some 1 := by
  intro f
  have z0 : (0 : Int32).toInt = 0 := rfl
  have z1 : (1 : Int32).toInt = 1 := rfl
  have z3 : (3 : Int32).toInt = 3 := rfl
  have z16 : (16 : Int32).toInt = 16 := rfl
  have k117 : ∀ v7 : Int32, 1 ≤ v7.toInt → v7.toInt ≤ 16 → f_L_law_117 scr KC KL KR PD CH DE FA DP TM OM QU TX MS OU TL mk ml 0 0 0 1 1 0 0 0 0 0 0 v3 v4 v6 v7 = some 1 := by
    intro v7 h1 h2
    unfold f_L_law_117 f_L_law_129
    have t : 1 ≤ (if v3 < v7 then v3 else v7).toInt ∧ (if v3 < v7 then v3 else v7).toInt ≤ 16 := by split <;> omega
    generalize (if v3 < v7 then v3 else v7) = t0 at t
    obtain ⟨x, ex⟩ := own_cell scr hs 3 (by decide)
    obtain ⟨r, er, r0, r1⟩ := own_lmod x t0 (by omega)
    have sr : (1 + r).toInt = 1 + r.toInt := by rw [iadd_i (by omega) (by omega), z1]
    rw [ex, Option.bind_some, er, Option.bind_some]
    exact own_151 hs a0 a1 e0 e8 (by omega) (fun KC KL KR PD ct pn v11 J' b0 b1 => own_543 scr hs J' a0 a1 b0 b1 vC vD vF lD vT vO vQ l1 l2 l3 l4) 100000 _ _ _ _ _ _ 4 0 J (by decide) (by decide) (by decide) (by decide) (by decide)
  induction f with
  | zero => intro v7 v8 v9 _ _ _ _ _ a b c; exfalso; omega
  | succ f ih =>
    intro v7 v8 v9 h7 q0 q1 q2 q3 q4 q5 c
    unfold f_L_law_76
    by_cases g : v4 < v9
    · rw [if_pos g]
      rw [ilt] at g
      exact k117 v7 (by omega) q1
    rw [if_neg g]
    rw [ilt] at g
    have p9 := own_p1 (a := v9) (by omega)
    have mb : v8.toInt * v6.toInt ≤ 16 * 4 := Int.mul_le_mul q3 a1 (by omega) (by omega)
    have ma : v8.toInt * 2 ≤ v8.toInt * v6.toInt := Int.mul_le_mul_of_nonneg_left a0 (by omega)
    have m8 : (v8 * v6).toInt = v8.toInt * v6.toInt := imul_i (by omega) (by omega)
    have s7 : (v7 + v8 * v6).toInt = v7.toInt + v8.toInt * v6.toInt := by rw [iadd_i (by omega) (by omega), m8]
    by_cases q : v7 + v8 * v6 < 16
    · rw [if_pos q]
      rw [ilt] at q
      exact ih _ _ _ (Or.inr (by omega)) (by omega) (by omega) (by omega) (by omega) (by omega) (by omega) (by omega)
    · rw [if_neg q]
      exact k117 16 (by decide) (by decide)
theorem own_inT : ∀ (f : Nat) (KC KL KR PD CH DE FA DP TM OM QU TX MS OU TL : List Int32) (mk ml ph ct pn nc lk n st to ol cp tn v : Int32), TM.length = 129 → (∀ j : Int32, 0 ≤ j.toInt → j.toInt < v.toInt → gI TM j = -1) → 0 ≤ v.toInt → v.toInt ≤ 129 → 129 - v.toInt < f → ∃ TM', own_V TM' 129 (-1) (-1) ∧ f_init_215 f_init_237 f KC KL KR PD CH DE FA DP TM OM QU TX MS OU TL mk ml ph ct pn nc lk n st to ol cp tn v = some (KC, KL, KR, PD, CH, DE, FA, DP, TM', OM, QU, TX, MS, OU, TL, mk, ml, ph, ct, pn, nc, lk, 0, 0, 0, 0, 0, 0) := by
  intro f
  have e129 : (129 : Int32).toInt = 129 := rfl
  have em : (-1 : Int32).toInt = -1 := rfl
  induction f with
  | zero => intro KC KL KR PD CH DE FA DP TM OM QU TX MS OU TL mk ml ph ct pn nc lk n st to ol cp tn v _ _ a b c; exfalso; omega
  | succ f ih =>
    intro KC KL KR PD CH DE FA DP TM OM QU TX MS OU TL mk ml ph ct pn nc lk n st to ol cp tn v lT h a b c
    unfold f_init_215
    by_cases g : v < 129
    · rw [if_pos g]
      rw [ilt] at g
      have p := own_p1 (a := v) (by omega)
      rw [wrA_in a (by omega), Option.bind_some]
      refine ih _ _ _ _ _ _ _ _ _ _ _ _ _ _ _ _ _ _ _ _ _ _ _ _ _ _ _ _ _ (by rw [List.length_set]; exact lT) (fun j j0 j1 => ?_) (by omega) (by omega) (by omega)
      rw [gset a (by omega) j0]
      by_cases z : v = j
      · rw [if_pos z]
      · rw [if_neg z]
        rw [ieq] at z
        exact h j j0 (by omega)
    · rw [if_neg g]
      rw [ilt] at g
      unfold f_init_237 f_clearText
      exact ⟨TM, ⟨lT, fun j j0 j1 => by rw [h j j0 (by omega)]; omega⟩, rfl⟩
theorem own_rep (n : Nat) (hn : n ≤ 100000) (lo hi : Int) (l0 : lo ≤ 0) (h0 : 0 ≤ hi) : own_V (List.replicate n 0) n lo hi := by
  refine ⟨by simp, fun j j0 j1 => ?_⟩
  rw [gI_rep j0 j1]
  exact ⟨l0, h0⟩
theorem own_true (scr : List Int32) (hs : scr.length ≤ 260) : f_L_law scr = some 1 := by
  have z0 : (0 : Int32).toInt = 0 := rfl
  have z1 : (1 : Int32).toInt = 1 := rfl
  have z2 : (2 : Int32).toInt = 2 := rfl
  have z8 : (8 : Int32).toInt = 8 := rfl
  have z10 : (10 : Int32).toInt = 10 := rfl
  have z16 : (16 : Int32).toInt = 16 := rfl
  have z18 : (18 : Int32).toInt = 18 := rfl
  have z3 : (3 : Int32).toInt = 3 := rfl
  obtain ⟨x0, e0⟩ := own_cell scr hs 0 (by decide)
  obtain ⟨x1, e1⟩ := own_cell scr hs 1 (by decide)
  obtain ⟨x2, e2⟩ := own_cell scr hs 2 (by decide)
  obtain ⟨r0, f0, a0, a1⟩ := own_lmod x0 18 (by decide)
  obtain ⟨r1, f1, b0, b1⟩ := own_lmod x1 10 (by decide)
  obtain ⟨r2, f2, c0, c1⟩ := own_lmod x2 3 (by decide)
  have s2 : (2 + r2).toInt = 2 + r2.toInt := by rw [iadd_i (by omega) (by omega), z2]
  unfold f_L_law
  rw [e0, Option.bind_some, f0, Option.bind_some, e1, Option.bind_some, f1, Option.bind_some]
  generalize r0 - 1 = rk
  generalize r1 - 1 = rl
  have cl : ∀ (v hi : Int32), 1 ≤ hi.toInt → ∃ r, f_L_clamp v 1 hi = some r ∧ 1 ≤ r.toInt ∧ r.toInt ≤ hi.toInt := by
    intro v hi h
    unfold f_L_clamp
    refine ⟨_, rfl, ?_⟩
    by_cases q : v < 1
    · rw [if_pos q]; omega
    · rw [if_neg q]
      rw [ilt] at q
      by_cases q2 : hi < v
      · rw [if_pos q2]; omega
      · rw [if_neg q2]; rw [ilt] at q2; omega
  obtain ⟨k, ek, k0, k1⟩ := cl rk 16 (by decide)
  obtain ⟨l, el, l0, l1⟩ := cl rl 8 (by decide)
  obtain ⟨mk, ml, TM0, hT, hi⟩ : ∃ mk ml TM0, own_V TM0 129 (-1) (-1) ∧ f_init rk rl = some (List.replicate 128 0, List.replicate 16 0, List.replicate 16 0, List.replicate 8 0, List.replicate 3354 0, List.replicate 3354 0, List.replicate 129 0, List.replicate 129 0, TM0, List.replicate 129 0, List.replicate 129 0, List.replicate 240 0, List.replicate 240 0, List.replicate 240 0, List.replicate 8 0, mk, ml, 0, 0, 0, 1, 1, 0, 0, 0, 0, 0, 0) := by
    have r : (List.replicate 129 (0 : Int32)).length = 129 := by simp
    unfold f_init f_init_144 f_init_153 f_init_165 f_init_176
    generalize List.replicate 128 (0 : Int32) = x1
    generalize List.replicate 16 (0 : Int32) = x2
    generalize List.replicate 8 (0 : Int32) = x3
    generalize List.replicate 3354 (0 : Int32) = x4
    generalize List.replicate 240 (0 : Int32) = x5
    generalize List.replicate 129 (0 : Int32) = x6 at r
    exact ⟨_, _, own_inT 100000 x1 x2 x2 x3 x4 x4 x6 x6 x6 x6 x6 x5 x5 x5 x3 _ _ 0 0 0 1 1 0 0 0 0 0 0 0 r (fun j j0 j1 => by omega) (by decide) (by decide) (by decide)⟩
  rw [ek, Option.bind_some, el, Option.bind_some, hi, Option.bind_some]
  show Option.bind (f_L_cell scr 2) _ = _
  rw [e2, Option.bind_some, f2, Option.bind_some]
  have A1 := own_rep 128 (by omega) 0 0 (by omega) (by omega)
  have A2 := own_rep 16 (by omega) 0 0 (by omega) (by omega)
  have A3 := own_rep 3354 (by omega) 0 0 (by omega) (by omega)
  have A3' := own_rep 3354 (by omega) 0 128 (by omega) (by omega)
  have A4 := own_rep 129 (by omega) 0 128 (by omega) (by omega)
  have A4' := own_rep 129 (by omega) 0 0 (by omega) (by omega)
  have A5 := own_rep 8 (by omega) 0 0 (by omega) (by omega)
  have A6 := own_rep 240 (by omega) 0 0 (by omega) (by omega)
  have J0 : own_J (List.replicate 128 0) (List.replicate 16 0) (List.replicate 16 0) (List.replicate 8 0) 0 0 := ⟨⟨A1.1, A2.1, by decide, by decide, fun k k0 k1 => by omega, fun k j k0 k1 => by omega, fun i k i0 ik k1 => by omega⟩, A2.1, A5.1, by decide, by decide, fun j j0 j1 => by omega⟩
  exact own_76 scr hs J0 (by omega) (by omega) k0 (by omega) l0 (by omega) A3 A3' A4 A4.1 hT A4' A4 A6.1 A6.1 A6.1 A5.1 100000 0 1 1 (Or.inl ⟨rfl, rfl⟩) (by decide) (by decide) (by decide) (by decide) (by decide) (by decide) (by decide)
set_option maxRecDepth 65536 in
theorem comes_1 {Post : Tables → Env → Array Value → State → Outcome → State → Prop} (hpost : ∀ tb e args s v u, (limb_1_1.after args s (.returned v) u = true ∧ limb_1_2.after args s (.returned v) u = true ∧ True) → FrameEnd s (.returned v) u (Jvm.fieldLocs frame_1_writes args s ++ Jvm.arrayLocs frame_1_arrays args s ++ Jvm.staticLocs frame_1_statics s) 40 16640 → Post tb e args s (.returned v) u) :
    ArmFor flags0 classFile x code maxLocals ret World_1 tables_1 room_1 Calls_1 rest_1 Pre_1 Post := by
  intro l hfl _ _ p e ha hc hk s m args below hf hA hF happ hP
  obtain ⟨hcalls, hrest, hpre⟩ := hP
  obtain ⟨-, -, -, hnamed, -, -, -, hat⟩ := (Spec.applies_iff hf).mp happ
  obtain ⟨hg, hn⟩ := and_e (Cond.before_iff.mp (show (Jvm.Cond.and given_1 narrow_1).before args s = true from hpre))
  obtain ⟨h1, h2⟩ := and_e hg
  have hw := fun d (hd : d ∈ tables_1) => atoms_spec (ws := Jvm.Cond.code x code maxLocals ret :: tables_1) hat d (List.mem_cons_of_mem _ hd)
  obtain ⟨w0, rfl⟩ : ∃ w0 : Value, args = #[w0] := by
    have hs : args.size = 1 := by simpa [Cond.value, given_1] using h1
    obtain ⟨L⟩ := args
    match L, hs with
    | [w0], _ => exact ⟨w0, rfl⟩
  have hfit : Fit s := fun {y c} hc i hi => by
    obtain ⟨ha, rfl⟩ := Array.getElem?_eq_some_iff.mp hc
    have q := List.all_eq_true.mp ((Array.all_eq_true_iff_forall_mem.mp hF) _ (Array.getElem_mem ha)) i (List.mem_range.mpr hi)
    simpa [Array.getElem?_eq_getElem hi] using q
  obtain ⟨hn1, hn2⟩ := and_e hn
  obtain ⟨ad, e0⟩ := arr_v hn1
  obtain ⟨cl, A⟩ := Arr.start e0 hn1
  obtain rfl : w0 = .ref ad := Option.some.inj e0
  obtain ⟨scr, hs1, hs2, hs3⟩ := script_of hfit A e0 hn2
  have E : OEndsQ own_P 0 0 (entL [.ref 0] d_0.maxL) [] [.inr (.inl (false, scr))] (LawQ 1 16 8277) := ok_L_law (own_true scr hs2)
  have hS : SR [ad] [.ref 0] [.ref ad] := ⟨_, _, rfl, ⟨ad, rfl, rfl⟩, rfl⟩
  have hH : HR own_P s s.heap.size s.heap [ad] [.inr (.inl (false, scr))] := hr_script rfl A hs1 hs2 hs3
  have M := law_met (l := l) own_chk (fun w hw' => hw w (own_in w hw')) hm_0 E hS (Nat.le_of_ble_eq_true rfl) hH tables_1 room_1 (Nat.le_of_ble_eq_true rfl) (Nat.le_of_ble_eq_true rfl) (Nat.le_of_ble_eq_true rfl) (Nat.le_of_ble_eq_true rfl)
  obtain ⟨n, o, h1, h2, h3, L, rfl, N, hq⟩ := M p e ha hc hk s m _ below hf ((Spec.applies_iff_loose hf).mp happ).1 ⟨rfl, State.Warmed39.refl s, rfl⟩ trivial
  refine ⟨n, _, h1, h2, h3, hpost _ _ _ _ _ _ ⟨Cond.after_iff.mpr rfl, Cond.after_iff.mpr (eq_i res_at (Term.int_eval (1)) rfl), trivial⟩ ⟨hq.1, hq.2.1, (hq.2.2.sift fun y hy => Or.inr (N y hy)).mono (by decide) (by decide)⟩⟩
theorem main_1_1 : Claimed_1_1 := comes_1 fun _ _ _ _ _ _ h hF => ⟨h.1, hF⟩
theorem main_1_2 : Claimed_1_2 := comes_1 fun _ _ _ _ _ _ h hF => ⟨h.2.1, hF⟩
end Jvm.Pilot.@@N@@
namespace Jvm.Pilot.@@N@@
open Jvm Jvm.ClassFile Sem Op Lib Jvm.Free Jvm.Stand Jvm.Pilot.@@N@@.Jvm.D
/-! MADE BY PROGRAM (witnessworld.py) out of the Statement's table words and the real class files: 9 classes; the members and pool entries that the words name. The judged class is class 1, her method 5. -/
namespace start1
open Jvm.ClassFile
def u (s : String) : CpInfo := .utf8 (stringToUtf16 s)
/-- a pool by its gaps: so many unusable entries, then the entry; so many at the end -/
def gap : Nat → List CpInfo → List CpInfo
  | 0, r => r
  | n + 1, r => .unusable :: gap n r
def poolList (es : List (Nat × CpInfo)) (last : Nat) : List CpInfo := es.foldr (fun e r => gap e.1 (e.2 :: r)) (gap last [])
def pool (es : List (Nat × CpInfo)) (last : Nat) : Array CpInfo := ⟨poolList es last⟩
def fileOf (pool : Array CpInfo) (this : Nat) (attrs : Array Attribute := #[]) (ms : Array MethodInfo := #[]) (fl : Nat := 33) (sup : Nat := 0) (ifs : Array Nat := #[]) (fds : Array FieldInfo := #[]) : ClassFile where
  minorVersion := 0
  majorVersion := 65
  constantPool := pool
  accessFlags := fl
  thisClass := this
  superClass := sup
  interfaces := ifs
  fields := fds
  methods := ms
  attributes := attrs
def plain (name : String) (sup : Option ClassId) : Class where
  name := name
  kind := .ordinary
  loader := none
  accessFlags := 33
  super := sup
  interfaces := #[]
  cf := none
  fields := #[]
  methods := #[]
  instanceTypes := #[]
  staticTypes := #[]
  resolved := #[]
  callSites := []
  init := .initialized
  statics := none
  mirror := none

def pool0 : Array CpInfo := pool [(5, u "<init>"), (0, u "()V"), (1, .class_ 10), (1, u "java/lang/Object")] 113

def k0c0 : Code := { maxStack := 0, maxLocals := 1, code := object_method_1_code, exceptionTable := #[], attributes := #[] }
def k0m0 : Method := { name := "<init>", desc := "()V", sig := { parameters := [], returnType := none }, accessFlags := 1, code := some k0c0 }
/-- java/lang/Object -/
def k0 : Class := { plain "java/lang/Object" none with
  accessFlags := 33
  interfaces := #[]
  cf := some (fileOf pool0 8 #[] #[{ accessFlags := 1, nameIndex := 5, descriptorIndex := 6, attributes := #[] }] 33 0 #[] #[])
  fields := #[]
  methods := #[k0m0]
  instanceTypes := #[]
  staticTypes := #[]
  resolved := Array.replicate 124 none
  statics := none }

def pool1 : Array CpInfo := pool [(2, .class_ 4), (1, u "java/lang/Object"), (0, u "<init>"), (0, u "()V"), (0, .methodref 8 9), (0, .class_ 10), (0, .nameAndType 11 12), (0, u "MultiPatternScanOwnLaw"), (0, u "cell"), (0, u "([II)I"), (0, .methodref 8 14), (0, .nameAndType 15 16), (0, u "mod"), (0, u "(II)I"), (0, .methodref 8 18), (0, .nameAndType 19 20), (0, u "clamp"), (0, u "(III)I"), (0, .class_ 22), (0, u "MultiPatternScan"), (0, .methodref 21 24), (0, .nameAndType 5 25), (0, u "(II)V"), (0, .methodref 21 27), (0, .nameAndType 28 29), (0, u "keywordCount"), (0, u "()I"), (0, .methodref 21 31), (0, .nameAndType 32 33), (0, u "keywordLength"), (0, u "(I)I"), (0, .methodref 21 35), (0, .nameAndType 36 16), (0, u "keywordChar"), (0, .methodref 21 38), (0, .nameAndType 39 33), (0, u "endKeyword"), (0, .methodref 21 41), (0, .nameAndType 42 33), (0, u "addChar"), (0, .methodref 21 44), (0, .nameAndType 45 29), (0, u "build"), (0, .methodref 21 47), (0, .nameAndType 48 29), (0, u "phase"), (0, .methodref 21 50), (0, .nameAndType 51 29), (0, u "resetText"), (0, .methodref 21 53), (0, .nameAndType 54 29), (0, u "textLength"), (0, .methodref 21 56), (0, .nameAndType 57 33), (0, u "feed"), (0, .methodref 21 59), (0, .nameAndType 60 33), (0, u "occurrenceMask"), (0, .methodref 8 62), (0, .nameAndType 63 33), (0, u "pop"), (0, .long 1000003), (1, .methodref 21 67), (0, .nameAndType 68 33), (0, u "textChar"), (0, .methodref 21 70), (0, .nameAndType 71 29), (0, u "totalOccurrences"), (3, u "law"), (0, u "([I)Z")] 4

def k1m0 : Method := { name := "<init>", desc := "()V", sig := { parameters := [], returnType := none }, accessFlags := 1, code := none }
def k1c1 : Code := { maxStack := 2, maxLocals := 2, code := method_2_code, exceptionTable := #[], attributes := #[] }
def k1m1 : Method := { name := "cell", desc := "([II)I", sig := { parameters := [(.array .int), .int], returnType := some .int }, accessFlags := 10, code := some k1c1 }
def k1c2 : Code := { maxStack := 2, maxLocals := 3, code := method_3_code, exceptionTable := #[], attributes := #[] }
def k1m2 : Method := { name := "mod", desc := "(II)I", sig := { parameters := [.int, .int], returnType := some .int }, accessFlags := 10, code := some k1c2 }
def k1c3 : Code := { maxStack := 2, maxLocals := 3, code := method_4_code, exceptionTable := #[], attributes := #[] }
def k1m3 : Method := { name := "clamp", desc := "(III)I", sig := { parameters := [.int, .int, .int], returnType := some .int }, accessFlags := 10, code := some k1c3 }
def k1c4 : Code := { maxStack := 3, maxLocals := 3, code := method_5_code, exceptionTable := #[], attributes := #[] }
def k1m4 : Method := { name := "pop", desc := "(I)I", sig := { parameters := [.int], returnType := some .int }, accessFlags := 10, code := some k1c4 }
def k1c5 : Code := { maxStack := 4, maxLocals := 28, code := code, exceptionTable := #[], attributes := #[] }
def k1m5 : Method := { name := "law", desc := "([I)Z", sig := { parameters := [(.array .int)], returnType := some .boolean }, accessFlags := 9, code := some k1c5 }
/-- MultiPatternScanOwnLaw -/
def k1 : Class := { plain "MultiPatternScanOwnLaw" (some 0) with
  accessFlags := 49
  interfaces := #[]
  cf := some (fileOf pool1 8 #[] #[{ accessFlags := 1, nameIndex := 5, descriptorIndex := 6, attributes := #[] }, { accessFlags := 10, nameIndex := 11, descriptorIndex := 12, attributes := #[] }, { accessFlags := 10, nameIndex := 15, descriptorIndex := 16, attributes := #[] }, { accessFlags := 10, nameIndex := 19, descriptorIndex := 20, attributes := #[] }, { accessFlags := 10, nameIndex := 63, descriptorIndex := 33, attributes := #[] }, { accessFlags := 9, nameIndex := 75, descriptorIndex := 76, attributes := #[] }] 49 2 #[] #[])
  fields := #[]
  methods := #[k1m0, k1m1, k1m2, k1m3, k1m4, k1m5]
  instanceTypes := #[]
  staticTypes := #[]
  resolved := Array.replicate 81 none
  statics := none }

def pool2 : Array CpInfo := pool [(1, .methodref 2 3), (0, .class_ 4), (0, .nameAndType 5 6), (0, u "java/lang/Object"), (0, u "<init>"), (0, u "()V"), (0, .fieldref 8 9), (0, .class_ 10), (0, .nameAndType 11 12), (0, u "MultiPatternScan"), (0, u "kwChars"), (0, u "[I"), (0, .fieldref 8 14), (0, .nameAndType 15 12), (0, u "kwLen"), (0, .fieldref 8 17), (0, .nameAndType 18 12), (0, u "kwRepl"), (0, .fieldref 8 20), (0, .nameAndType 21 12), (0, u "pend"), (0, .fieldref 8 23), (0, .nameAndType 24 12), (0, u "child"), (0, .fieldref 8 26), (0, .nameAndType 27 12), (0, u "delta"), (0, .fieldref 8 29), (0, .nameAndType 30 12), (0, u "fail"), (0, .fieldref 8 32), (0, .nameAndType 33 12), (0, u "depth"), (0, .fieldref 8 35), (0, .nameAndType 36 12), (0, u "term"), (0, .fieldref 8 38), (0, .nameAndType 39 12), (0, u "outMask"), (0, .fieldref 8 41), (0, .nameAndType 42 12), (0, u "queue"), (0, .fieldref 8 44), (0, .nameAndType 45 12), (0, u "text"), (0, .fieldref 8 47), (0, .nameAndType 48 12), (0, u "masks"), (0, .fieldref 8 50), (0, .nameAndType 51 12), (0, u "out"), (0, .fieldref 8 53), (0, .nameAndType 54 12), (0, u "tail"), (0, .fieldref 8 56), (0, .nameAndType 57 58), (0, u "maxKw"), (0, u "I"), (0, .fieldref 8 60), (0, .nameAndType 61 58), (0, u "maxLen"), (0, .fieldref 8 63), (0, .nameAndType 64 58), (0, u "phaseNow"), (0, .fieldref 8 66), (0, .nameAndType 67 58), (0, u "count"), (0, .fieldref 8 69), (0, .nameAndType 70 58), (0, u "pendLen"), (0, .fieldref 8 72), (0, .nameAndType 73 58), (0, u "nodeCount"), (0, .fieldref 8 75), (0, .nameAndType 76 58), (0, u "longestKw"), (0, .methodref 8 78), (0, .nameAndType 79 6), (0, u "clearText"), (0, .methodref 8 81), (0, .nameAndType 82 83), (0, u "isLetter"), (0, u "(I)Z"), (0, .methodref 8 85), (0, .nameAndType 86 83), (0, u "isPrintable"), (0, .methodref 8 88), (0, .nameAndType 89 90), (0, u "pendingIsDuplicate"), (0, u "()Z"), (0, .methodref 8 92), (0, .nameAndType 93 94), (0, u "storePending"), (0, u "(I)V"), (0, .methodref 8 96), (0, .nameAndType 97 6), (0, u "buildTrie"), (0, .methodref 8 99), (0, .nameAndType 100 6), (0, u "computeLinks"), (0, .fieldref 8 102), (0, .nameAndType 103 58), (0, u "n"), (0, .fieldref 8 105), (0, .nameAndType 106 58), (0, u "state"), (0, .methodref 8 108), (0, .nameAndType 109 110), (0, u "nextState"), (0, u "(II)I"), (0, .methodref 8 112), (0, .nameAndType 113 114), (0, u "popCount"), (0, u "(I)I"), (0, .fieldref 8 116), (0, .nameAndType 117 58), (0, u "total"), (0, .methodref 8 119), (0, .nameAndType 120 6), (0, u "commitReady"), (0, .methodref 8 122), (0, .nameAndType 123 6), (0, u "rebuildTail"), (0, .methodref 8 125), (0, .nameAndType 126 110), (0, u "acceptedChar"), (0, .fieldref 8 128), (0, .nameAndType 129 58), (0, u "outLen"), (0, .fieldref 8 131), (0, .nameAndType 132 58), (0, u "tailLen"), (0, .methodref 8 134), (0, .nameAndType 135 83), (0, u "pendingEquals"), (0, .methodref 8 137), (0, .nameAndType 138 94), (0, u "insertKeyword"), (0, .methodref 8 140), (0, .nameAndType 141 110), (0, u "expandNode"), (0, .fieldref 8 143), (0, .nameAndType 144 58), (0, u "commitPos"), (0, .methodref 8 146), (0, .nameAndType 147 6), (0, u "commitOne"), (0, .methodref 8 149), (0, .nameAndType 150 114), (0, u "longestAt"), (0, u "PHASE_BUILD"), (2, u "PHASE_SCAN"), (1, u "OK"), (0, u "ERR_PHASE"), (1, u "ERR_CHAR"), (1, u "ERR_FULL"), (1, u "ERR_EMPTY"), (1, u "ERR_DUPLICATE"), (1, u "ERR_REPL"), (1, u "ERR_PENDING"), (1, u "MAX_KEYWORDS"), (1, u "MAX_KEYWORD_LEN"), (1, u "MAX_TEXT"), (1, u "MAX_NODES"), (1, u "ALPHA"), (1, u "TAIL_CAP"), (0, u "(II)V"), (3, u "addChar"), (0, u "endKeyword"), (0, u "build"), (0, u "()I"), (0, u "feed"), (0, u "resetText"), (0, u "phase"), (0, u "keywordCount"), (0, u "keywordLength"), (0, u "keywordChar"), (0, u "textLength"), (0, u "textChar"), (0, u "occurrenceMask"), (0, u "totalOccurrences")] 5

def k2c0 : Code := { maxStack := 3, maxLocals := 6, code := prog_1_method_1_code, exceptionTable := #[], attributes := #[] }
def k2m0 : Method := { name := "<init>", desc := "(II)V", sig := { parameters := [.int, .int], returnType := none }, accessFlags := 1, code := some k2c0 }
def k2c1 : Code := { maxStack := 3, maxLocals := 2, code := prog_1_method_2_code, exceptionTable := #[], attributes := #[] }
def k2m1 : Method := { name := "addChar", desc := "(I)I", sig := { parameters := [.int], returnType := some .int }, accessFlags := 1, code := some k2c1 }
def k2c2 : Code := { maxStack := 2, maxLocals := 2, code := prog_1_method_3_code, exceptionTable := #[], attributes := #[] }
def k2m2 : Method := { name := "endKeyword", desc := "(I)I", sig := { parameters := [.int], returnType := some .int }, accessFlags := 1, code := some k2c2 }
def k2c3 : Code := { maxStack := 2, maxLocals := 1, code := prog_1_method_4_code, exceptionTable := #[], attributes := #[] }
def k2m3 : Method := { name := "build", desc := "()I", sig := { parameters := [], returnType := some .int }, accessFlags := 1, code := some k2c3 }
def k2c4 : Code := { maxStack := 4, maxLocals := 4, code := prog_1_method_5_code, exceptionTable := #[], attributes := #[] }
def k2m4 : Method := { name := "feed", desc := "(I)I", sig := { parameters := [.int], returnType := some .int }, accessFlags := 1, code := some k2c4 }
def k2c5 : Code := { maxStack := 2, maxLocals := 1, code := prog_1_method_6_code, exceptionTable := #[], attributes := #[] }
def k2m5 : Method := { name := "resetText", desc := "()I", sig := { parameters := [], returnType := some .int }, accessFlags := 1, code := some k2c5 }
def k2c6 : Code := { maxStack := 1, maxLocals := 1, code := prog_1_method_7_code, exceptionTable := #[], attributes := #[] }
def k2m6 : Method := { name := "phase", desc := "()I", sig := { parameters := [], returnType := some .int }, accessFlags := 1, code := some k2c6 }
def k2c7 : Code := { maxStack := 1, maxLocals := 1, code := prog_1_method_8_code, exceptionTable := #[], attributes := #[] }
def k2m7 : Method := { name := "keywordCount", desc := "()I", sig := { parameters := [], returnType := some .int }, accessFlags := 1, code := some k2c7 }
def k2c8 : Code := { maxStack := 2, maxLocals := 2, code := prog_1_method_9_code, exceptionTable := #[], attributes := #[] }
def k2m8 : Method := { name := "keywordLength", desc := "(I)I", sig := { parameters := [.int], returnType := some .int }, accessFlags := 1, code := some k2c8 }
def k2c9 : Code := { maxStack := 3, maxLocals := 3, code := prog_1_method_10_code, exceptionTable := #[], attributes := #[] }
def k2m9 : Method := { name := "keywordChar", desc := "(II)I", sig := { parameters := [.int, .int], returnType := some .int }, accessFlags := 1, code := some k2c9 }
def k2c10 : Code := { maxStack := 1, maxLocals := 1, code := prog_1_method_11_code, exceptionTable := #[], attributes := #[] }
def k2m10 : Method := { name := "textLength", desc := "()I", sig := { parameters := [], returnType := some .int }, accessFlags := 1, code := some k2c10 }
def k2c11 : Code := { maxStack := 2, maxLocals := 2, code := prog_1_method_12_code, exceptionTable := #[], attributes := #[] }
def k2m11 : Method := { name := "textChar", desc := "(I)I", sig := { parameters := [.int], returnType := some .int }, accessFlags := 1, code := some k2c11 }
def k2c12 : Code := { maxStack := 2, maxLocals := 2, code := prog_1_method_13_code, exceptionTable := #[], attributes := #[] }
def k2m12 : Method := { name := "occurrenceMask", desc := "(I)I", sig := { parameters := [.int], returnType := some .int }, accessFlags := 1, code := some k2c12 }
def k2c13 : Code := { maxStack := 1, maxLocals := 1, code := prog_1_method_14_code, exceptionTable := #[], attributes := #[] }
def k2m13 : Method := { name := "totalOccurrences", desc := "()I", sig := { parameters := [], returnType := some .int }, accessFlags := 1, code := some k2c13 }
def k2c14 : Code := { maxStack := 3, maxLocals := 3, code := prog_1_method_18_code, exceptionTable := #[], attributes := #[] }
def k2m14 : Method := { name := "acceptedChar", desc := "(II)I", sig := { parameters := [.int, .int], returnType := some .int }, accessFlags := 2, code := some k2c14 }
def k2c15 : Code := { maxStack := 2, maxLocals := 2, code := prog_1_method_19_code, exceptionTable := #[], attributes := #[] }
def k2m15 : Method := { name := "pendingIsDuplicate", desc := "()Z", sig := { parameters := [], returnType := some .boolean }, accessFlags := 2, code := some k2c15 }
def k2c16 : Code := { maxStack := 3, maxLocals := 4, code := prog_1_method_20_code, exceptionTable := #[], attributes := #[] }
def k2m16 : Method := { name := "pendingEquals", desc := "(I)Z", sig := { parameters := [.int], returnType := some .boolean }, accessFlags := 2, code := some k2c16 }
def k2c17 : Code := { maxStack := 4, maxLocals := 4, code := prog_1_method_21_code, exceptionTable := #[], attributes := #[] }
def k2m17 : Method := { name := "storePending", desc := "(I)V", sig := { parameters := [.int], returnType := none }, accessFlags := 2, code := some k2c17 }
def k2c18 : Code := { maxStack := 3, maxLocals := 2, code := prog_1_method_22_code, exceptionTable := #[], attributes := #[] }
def k2m18 : Method := { name := "buildTrie", desc := "()V", sig := { parameters := [], returnType := none }, accessFlags := 2, code := some k2c18 }
def k2c19 : Code := { maxStack := 5, maxLocals := 7, code := prog_1_method_23_code, exceptionTable := #[], attributes := #[] }
def k2m19 : Method := { name := "insertKeyword", desc := "(I)V", sig := { parameters := [.int], returnType := none }, accessFlags := 2, code := some k2c19 }
def k2c20 : Code := { maxStack := 3, maxLocals := 5, code := prog_1_method_24_code, exceptionTable := #[], attributes := #[] }
def k2m20 : Method := { name := "computeLinks", desc := "()V", sig := { parameters := [], returnType := none }, accessFlags := 2, code := some k2c20 }
def k2c21 : Code := { maxStack := 5, maxLocals := 8, code := prog_1_method_25_code, exceptionTable := #[], attributes := #[] }
def k2m21 : Method := { name := "expandNode", desc := "(II)I", sig := { parameters := [.int, .int], returnType := some .int }, accessFlags := 2, code := some k2c21 }
def k2c22 : Code := { maxStack := 4, maxLocals := 3, code := prog_1_method_26_code, exceptionTable := #[], attributes := #[] }
def k2m22 : Method := { name := "nextState", desc := "(II)I", sig := { parameters := [.int, .int], returnType := some .int }, accessFlags := 2, code := some k2c22 }
def k2c23 : Code := { maxStack := 2, maxLocals := 1, code := prog_1_method_27_code, exceptionTable := #[], attributes := #[] }
def k2m23 : Method := { name := "clearText", desc := "()V", sig := { parameters := [], returnType := none }, accessFlags := 2, code := some k2c23 }
def k2c24 : Code := { maxStack := 4, maxLocals := 8, code := prog_1_method_28_code, exceptionTable := #[], attributes := #[] }
def k2m24 : Method := { name := "longestAt", desc := "(I)I", sig := { parameters := [.int], returnType := some .int }, accessFlags := 2, code := some k2c24 }
def k2c25 : Code := { maxStack := 2, maxLocals := 2, code := prog_1_method_29_code, exceptionTable := #[], attributes := #[] }
def k2m25 : Method := { name := "commitReady", desc := "()V", sig := { parameters := [], returnType := none }, accessFlags := 2, code := some k2c25 }
def k2c26 : Code := { maxStack := 4, maxLocals := 2, code := prog_1_method_30_code, exceptionTable := #[], attributes := #[] }
def k2m26 : Method := { name := "commitOne", desc := "()V", sig := { parameters := [], returnType := none }, accessFlags := 2, code := some k2c26 }
def k2c27 : Code := { maxStack := 4, maxLocals := 4, code := prog_1_method_31_code, exceptionTable := #[], attributes := #[] }
def k2m27 : Method := { name := "rebuildTail", desc := "()V", sig := { parameters := [], returnType := none }, accessFlags := 2, code := some k2c27 }
def k2c28 : Code := { maxStack := 2, maxLocals := 2, code := prog_1_method_32_code, exceptionTable := #[], attributes := #[] }
def k2m28 : Method := { name := "isLetter", desc := "(I)Z", sig := { parameters := [.int], returnType := some .boolean }, accessFlags := 2, code := some k2c28 }
def k2c29 : Code := { maxStack := 2, maxLocals := 2, code := prog_1_method_33_code, exceptionTable := #[], attributes := #[] }
def k2m29 : Method := { name := "isPrintable", desc := "(I)Z", sig := { parameters := [.int], returnType := some .boolean }, accessFlags := 2, code := some k2c29 }
def k2c30 : Code := { maxStack := 2, maxLocals := 4, code := prog_1_method_34_code, exceptionTable := #[], attributes := #[] }
def k2m30 : Method := { name := "popCount", desc := "(I)I", sig := { parameters := [.int], returnType := some .int }, accessFlags := 2, code := some k2c30 }
/-- MultiPatternScan -/
def k2 : Class := { plain "MultiPatternScan" (some 0) with
  accessFlags := 49
  interfaces := #[]
  cf := some (fileOf pool2 8 #[] #[{ accessFlags := 1, nameIndex := 5, descriptorIndex := 182, attributes := #[] }, { accessFlags := 1, nameIndex := 186, descriptorIndex := 114, attributes := #[] }, { accessFlags := 1, nameIndex := 187, descriptorIndex := 114, attributes := #[] }, { accessFlags := 1, nameIndex := 188, descriptorIndex := 189, attributes := #[] }, { accessFlags := 1, nameIndex := 190, descriptorIndex := 114, attributes := #[] }, { accessFlags := 1, nameIndex := 191, descriptorIndex := 189, attributes := #[] }, { accessFlags := 1, nameIndex := 192, descriptorIndex := 189, attributes := #[] }, { accessFlags := 1, nameIndex := 193, descriptorIndex := 189, attributes := #[] }, { accessFlags := 1, nameIndex := 194, descriptorIndex := 114, attributes := #[] }, { accessFlags := 1, nameIndex := 195, descriptorIndex := 110, attributes := #[] }, { accessFlags := 1, nameIndex := 196, descriptorIndex := 189, attributes := #[] }, { accessFlags := 1, nameIndex := 197, descriptorIndex := 114, attributes := #[] }, { accessFlags := 1, nameIndex := 198, descriptorIndex := 114, attributes := #[] }, { accessFlags := 1, nameIndex := 199, descriptorIndex := 189, attributes := #[] }, { accessFlags := 2, nameIndex := 126, descriptorIndex := 110, attributes := #[] }, { accessFlags := 2, nameIndex := 89, descriptorIndex := 90, attributes := #[] }, { accessFlags := 2, nameIndex := 135, descriptorIndex := 83, attributes := #[] }, { accessFlags := 2, nameIndex := 93, descriptorIndex := 94, attributes := #[] }, { accessFlags := 2, nameIndex := 97, descriptorIndex := 6, attributes := #[] }, { accessFlags := 2, nameIndex := 138, descriptorIndex := 94, attributes := #[] }, { accessFlags := 2, nameIndex := 100, descriptorIndex := 6, attributes := #[] }, { accessFlags := 2, nameIndex := 141, descriptorIndex := 110, attributes := #[] }, { accessFlags := 2, nameIndex := 109, descriptorIndex := 110, attributes := #[] }, { accessFlags := 2, nameIndex := 79, descriptorIndex := 6, attributes := #[] }, { accessFlags := 2, nameIndex := 150, descriptorIndex := 114, attributes := #[] }, { accessFlags := 2, nameIndex := 120, descriptorIndex := 6, attributes := #[] }, { accessFlags := 2, nameIndex := 147, descriptorIndex := 6, attributes := #[] }, { accessFlags := 2, nameIndex := 123, descriptorIndex := 6, attributes := #[] }, { accessFlags := 2, nameIndex := 82, descriptorIndex := 83, attributes := #[] }, { accessFlags := 2, nameIndex := 86, descriptorIndex := 83, attributes := #[] }, { accessFlags := 2, nameIndex := 113, descriptorIndex := 114, attributes := #[] }] 49 2 #[] #[{ accessFlags := 25, nameIndex := 151, descriptorIndex := 58, attributes := #[] }, { accessFlags := 25, nameIndex := 154, descriptorIndex := 58, attributes := #[] }, { accessFlags := 25, nameIndex := 156, descriptorIndex := 58, attributes := #[] }, { accessFlags := 25, nameIndex := 157, descriptorIndex := 58, attributes := #[] }, { accessFlags := 25, nameIndex := 159, descriptorIndex := 58, attributes := #[] }, { accessFlags := 25, nameIndex := 161, descriptorIndex := 58, attributes := #[] }, { accessFlags := 25, nameIndex := 163, descriptorIndex := 58, attributes := #[] }, { accessFlags := 25, nameIndex := 165, descriptorIndex := 58, attributes := #[] }, { accessFlags := 25, nameIndex := 167, descriptorIndex := 58, attributes := #[] }, { accessFlags := 25, nameIndex := 169, descriptorIndex := 58, attributes := #[] }, { accessFlags := 25, nameIndex := 171, descriptorIndex := 58, attributes := #[] }, { accessFlags := 25, nameIndex := 173, descriptorIndex := 58, attributes := #[] }, { accessFlags := 25, nameIndex := 175, descriptorIndex := 58, attributes := #[] }, { accessFlags := 26, nameIndex := 177, descriptorIndex := 58, attributes := #[] }, { accessFlags := 26, nameIndex := 179, descriptorIndex := 58, attributes := #[] }, { accessFlags := 26, nameIndex := 181, descriptorIndex := 58, attributes := #[] }, { accessFlags := 2, nameIndex := 57, descriptorIndex := 58, attributes := #[] }, { accessFlags := 2, nameIndex := 61, descriptorIndex := 58, attributes := #[] }, { accessFlags := 2, nameIndex := 64, descriptorIndex := 58, attributes := #[] }, { accessFlags := 2, nameIndex := 67, descriptorIndex := 58, attributes := #[] }, { accessFlags := 2, nameIndex := 11, descriptorIndex := 12, attributes := #[] }, { accessFlags := 2, nameIndex := 15, descriptorIndex := 12, attributes := #[] }, { accessFlags := 2, nameIndex := 18, descriptorIndex := 12, attributes := #[] }, { accessFlags := 2, nameIndex := 70, descriptorIndex := 58, attributes := #[] }, { accessFlags := 2, nameIndex := 21, descriptorIndex := 12, attributes := #[] }, { accessFlags := 2, nameIndex := 73, descriptorIndex := 58, attributes := #[] }, { accessFlags := 2, nameIndex := 76, descriptorIndex := 58, attributes := #[] }, { accessFlags := 2, nameIndex := 24, descriptorIndex := 12, attributes := #[] }, { accessFlags := 2, nameIndex := 27, descriptorIndex := 12, attributes := #[] }, { accessFlags := 2, nameIndex := 30, descriptorIndex := 12, attributes := #[] }, { accessFlags := 2, nameIndex := 33, descriptorIndex := 12, attributes := #[] }, { accessFlags := 2, nameIndex := 36, descriptorIndex := 12, attributes := #[] }, { accessFlags := 2, nameIndex := 39, descriptorIndex := 12, attributes := #[] }, { accessFlags := 2, nameIndex := 42, descriptorIndex := 12, attributes := #[] }, { accessFlags := 2, nameIndex := 103, descriptorIndex := 58, attributes := #[] }, { accessFlags := 2, nameIndex := 106, descriptorIndex := 58, attributes := #[] }, { accessFlags := 2, nameIndex := 117, descriptorIndex := 58, attributes := #[] }, { accessFlags := 2, nameIndex := 45, descriptorIndex := 12, attributes := #[] }, { accessFlags := 2, nameIndex := 48, descriptorIndex := 12, attributes := #[] }, { accessFlags := 2, nameIndex := 129, descriptorIndex := 58, attributes := #[] }, { accessFlags := 2, nameIndex := 144, descriptorIndex := 58, attributes := #[] }, { accessFlags := 2, nameIndex := 51, descriptorIndex := 12, attributes := #[] }, { accessFlags := 2, nameIndex := 132, descriptorIndex := 58, attributes := #[] }, { accessFlags := 2, nameIndex := 54, descriptorIndex := 12, attributes := #[] }])
  fields := #[{ name := "PHASE_BUILD", type := .int, accessFlags := 25, slot := 0, constantValue := 0 }, { name := "PHASE_SCAN", type := .int, accessFlags := 25, slot := 1, constantValue := 0 }, { name := "OK", type := .int, accessFlags := 25, slot := 2, constantValue := 0 }, { name := "ERR_PHASE", type := .int, accessFlags := 25, slot := 3, constantValue := 0 }, { name := "ERR_CHAR", type := .int, accessFlags := 25, slot := 4, constantValue := 0 }, { name := "ERR_FULL", type := .int, accessFlags := 25, slot := 5, constantValue := 0 }, { name := "ERR_EMPTY", type := .int, accessFlags := 25, slot := 6, constantValue := 0 }, { name := "ERR_DUPLICATE", type := .int, accessFlags := 25, slot := 7, constantValue := 0 }, { name := "ERR_REPL", type := .int, accessFlags := 25, slot := 8, constantValue := 0 }, { name := "ERR_PENDING", type := .int, accessFlags := 25, slot := 9, constantValue := 0 }, { name := "MAX_KEYWORDS", type := .int, accessFlags := 25, slot := 10, constantValue := 0 }, { name := "MAX_KEYWORD_LEN", type := .int, accessFlags := 25, slot := 11, constantValue := 0 }, { name := "MAX_TEXT", type := .int, accessFlags := 25, slot := 12, constantValue := 0 }, { name := "MAX_NODES", type := .int, accessFlags := 26, slot := 13, constantValue := 0 }, { name := "ALPHA", type := .int, accessFlags := 26, slot := 14, constantValue := 0 }, { name := "TAIL_CAP", type := .int, accessFlags := 26, slot := 15, constantValue := 0 }, { name := "maxKw", type := .int, accessFlags := 2, slot := 0, constantValue := 0 }, { name := "maxLen", type := .int, accessFlags := 2, slot := 1, constantValue := 0 }, { name := "phaseNow", type := .int, accessFlags := 2, slot := 2, constantValue := 0 }, { name := "count", type := .int, accessFlags := 2, slot := 3, constantValue := 0 }, { name := "kwChars", type := (.array .int), accessFlags := 2, slot := 4, constantValue := 0 }, { name := "kwLen", type := (.array .int), accessFlags := 2, slot := 5, constantValue := 0 }, { name := "kwRepl", type := (.array .int), accessFlags := 2, slot := 6, constantValue := 0 }, { name := "pendLen", type := .int, accessFlags := 2, slot := 7, constantValue := 0 }, { name := "pend", type := (.array .int), accessFlags := 2, slot := 8, constantValue := 0 }, { name := "nodeCount", type := .int, accessFlags := 2, slot := 9, constantValue := 0 }, { name := "longestKw", type := .int, accessFlags := 2, slot := 10, constantValue := 0 }, { name := "child", type := (.array .int), accessFlags := 2, slot := 11, constantValue := 0 }, { name := "delta", type := (.array .int), accessFlags := 2, slot := 12, constantValue := 0 }, { name := "fail", type := (.array .int), accessFlags := 2, slot := 13, constantValue := 0 }, { name := "depth", type := (.array .int), accessFlags := 2, slot := 14, constantValue := 0 }, { name := "term", type := (.array .int), accessFlags := 2, slot := 15, constantValue := 0 }, { name := "outMask", type := (.array .int), accessFlags := 2, slot := 16, constantValue := 0 }, { name := "queue", type := (.array .int), accessFlags := 2, slot := 17, constantValue := 0 }, { name := "n", type := .int, accessFlags := 2, slot := 18, constantValue := 0 }, { name := "state", type := .int, accessFlags := 2, slot := 19, constantValue := 0 }, { name := "total", type := .int, accessFlags := 2, slot := 20, constantValue := 0 }, { name := "text", type := (.array .int), accessFlags := 2, slot := 21, constantValue := 0 }, { name := "masks", type := (.array .int), accessFlags := 2, slot := 22, constantValue := 0 }, { name := "outLen", type := .int, accessFlags := 2, slot := 23, constantValue := 0 }, { name := "commitPos", type := .int, accessFlags := 2, slot := 24, constantValue := 0 }, { name := "out", type := (.array .int), accessFlags := 2, slot := 25, constantValue := 0 }, { name := "tailLen", type := .int, accessFlags := 2, slot := 26, constantValue := 0 }, { name := "tail", type := (.array .int), accessFlags := 2, slot := 27, constantValue := 0 }]
  methods := #[k2m0, k2m1, k2m2, k2m3, k2m4, k2m5, k2m6, k2m7, k2m8, k2m9, k2m10, k2m11, k2m12, k2m13, k2m14, k2m15, k2m16, k2m17, k2m18, k2m19, k2m20, k2m21, k2m22, k2m23, k2m24, k2m25, k2m26, k2m27, k2m28, k2m29, k2m30]
  instanceTypes := #[.int, .int, .int, .int, (.array .int), (.array .int), (.array .int), .int, (.array .int), .int, .int, (.array .int), (.array .int), (.array .int), (.array .int), (.array .int), (.array .int), (.array .int), .int, .int, .int, (.array .int), (.array .int), .int, .int, (.array .int), .int, (.array .int)]
  staticTypes := #[.int, .int, .int, .int, .int, .int, .int, .int, .int, .int, .int, .int, .int, .int, .int, .int]
  resolved := Array.replicate 205 none
  statics := none }

def pool3 : Array CpInfo := pool [(1, u "java/lang/Cloneable"), (0, .class_ 1), (0, u "java/lang/Object"), (0, .class_ 3)] 3

/-- java/lang/Cloneable -/
def k3 : Class := { plain "java/lang/Cloneable" (some 0) with
  accessFlags := 1537
  interfaces := #[]
  cf := some (fileOf pool3 2 #[] #[] 1537 4 #[] #[])
  fields := #[]
  methods := #[]
  instanceTypes := #[]
  staticTypes := #[]
  resolved := Array.replicate 8 none
  statics := none }

def pool4 : Array CpInfo := pool [(1, u "java/io/Serializable"), (0, .class_ 1), (0, u "java/lang/Object"), (0, .class_ 3)] 3

/-- java/io/Serializable -/
def k4 : Class := { plain "java/io/Serializable" (some 0) with
  accessFlags := 1537
  interfaces := #[]
  cf := some (fileOf pool4 2 #[] #[] 1537 4 #[] #[])
  fields := #[]
  methods := #[]
  instanceTypes := #[]
  staticTypes := #[]
  resolved := Array.replicate 8 none
  statics := none }

/-- the primitive byte -/
def k5 : Class := { plain "byte" none with kind := .primitive 'B', accessFlags := 0x411 }
/-- [B -/
def k6 : Class := { plain "[B" (some 0) with kind := .array 5 .byte, interfaces := #[3, 4], accessFlags := 1041 }

/-- the primitive int -/
def k7 : Class := { plain "int" none with kind := .primitive 'I', accessFlags := 0x411 }
/-- [I -/
def k8 : Class := { plain "[I" (some 0) with kind := .array 7 .int, interfaces := #[3, 4], accessFlags := 1041 }

def heap : Heap := #[{ cls := 8, slots := #[.int 1, .int 2, .int 3], vm := .none }]
def classes : Array Class := #[k0, k1, k2, k3, k4, k5, k6, k7, k8]
def interned : List (Array UInt16 × Addr) := []
def slotsUsed : Nat := 3
def theMethod : MethodId := ⟨1, 5⟩
def args0 : Array Value := #[.ref 0]
def aboutOver (below : List Frame) : State where
  vm := { classes := classes, interned := interned.toArray }
  heap := heap
  slotsUsed := slotsUsed
  threads := #[{ frames := .invoking theMethod args0 :: below }]
def below0 : List Frame := [.native { method := ⟨0, 0⟩, args := #[] }]
def about1 : State := aboutOver below0
def p0 : Program := .bare "" "" ""
def e0 : Env := launch0.env 0 0 0
theorem w_frames : about1.frames = Frame.invoking theMethod args0 :: below0 := rfl
set_option maxRecDepth 65536 in
theorem w_args : argsFit about1.vm theMethod args0 = true := by decide +kernel
set_option maxRecDepth 65536 in
theorem w_heap : heapFits about1 = true := by decide +kernel
set_option maxRecDepth 65536 in
theorem w_runnable : about1.curStatus? = some .runnable := by decide +kernel
set_option maxRecDepth 65536 in
theorem w_alone : about1.alone = true := by decide +kernel
set_option maxRecDepth 65536 in
theorem w_named : about1.methodNamed? x = some theMethod := by decide +kernel
set_option maxRecDepth 65536 in
theorem w_hears : about1.hears theMethod below0 = true := by decide +kernel
set_option maxRecDepth 65536 in
theorem w_ripe : about1.ripe theMethod args0 below0 = true := by decide +kernel
theorem w_running : about1.status = .running := rfl
set_option maxRecDepth 65536 in
theorem w_room : about1.hasRoom e0.platform room_1 = true :=
  launch0.hasRoom_least _ room_1 (by decide +kernel) (by decide +kernel) (by decide +kernel) (by decide +kernel) (by decide +kernel) (by decide +kernel)
theorem allAtoms_all (ts : List Jvm.Cond) (a : Array Jvm.Value) (st : Jvm.State) : (allAtoms ts).before a st = ts.all (fun c => c.before a st) := by
  induction ts with
  | nil => rfl
  | cons c t ih =>
    show (Jvm.Cond.and c (allAtoms t)).before a st = _
    rw [Jvm.Cond.before_and, ih, List.all_cons]
def words1 : List Jvm.Cond := Jvm.Cond.code x code maxLocals ret :: tables_1
/-- a 'code' word, met by the world's own term for the bytes: nothing is compared byte by byte -/
theorem code_word {y : MethodName} {bytes : ByteArray} {mx : Nat} {rt : Option FieldType} {a : Array Value} {s : State} {m : MethodId} {meth : Method} {c : Code} (h1 : s.methodNamed? y = some m) (h2 : s.vm.method? m = some meth) (h3 : meth.code = some c) (h4 : c.code = bytes)
    (h5 : (c.maxLocals == mx && c.exceptionTable.isEmpty && decide (c.maxStack ≤ mostOperands) && decide (meth.sig.returnType = rt) && !meth.locks && decide (parseMethodDescriptor y.desc = some meth.sig)) = true) : (Jvm.Cond.code y bytes mx rt).before a s = true := by
  simp only [Bool.and_eq_true, beq_iff_eq, Bool.not_eq_true', decide_eq_true_eq] at h5
  obtain ⟨⟨⟨⟨⟨g1, g2⟩, g3⟩, g4⟩, g5⟩, g6⟩ := h5
  simp [Cond.before, Cond.holds, Cond.value, h1, h2, h3, h4, g1, g2, g3, g4, g5, g6]
def isCode : Jvm.Cond → Bool
  | .code _ _ _ _ => true
  | _ => false
theorem all_split {L : List Jvm.Cond} {P : Jvm.Cond → Bool} (h1 : L.all (fun c => isCode c || P c) = true) (h2 : ∀ c ∈ L.filter isCode, P c = true) : L.all P = true := by
  refine List.all_eq_true.mpr fun c hc => ?_
  have h := List.all_eq_true.mp h1 c hc
  rcases Bool.eq_false_or_eq_true (isCode c) with hi | hi
  · exact h2 c (List.mem_filter.mpr ⟨hc, hi⟩)
  · simpa [hi] using h
set_option maxRecDepth 65536 in
theorem w_c0 : (Jvm.Cond.code x code maxLocals ret).before args0 about1 = true := code_word (m := ⟨1, 5⟩) (meth := k1m5) (c := k1c5) (by decide +kernel) rfl rfl rfl (by decide +kernel)
set_option maxRecDepth 65536 in
theorem w_c1 : (Jvm.Cond.code ({ cls := "MultiPatternScanOwnLaw", name := "cell", desc := "([II)I" } : Jvm.MethodName) method_2_code (2 : Nat) (Option.some Jvm.ClassFile.FieldType.int)).before args0 about1 = true := code_word (m := ⟨1, 1⟩) (meth := k1m1) (c := k1c1) (by decide +kernel) rfl rfl rfl (by decide +kernel)
set_option maxRecDepth 65536 in
theorem w_c2 : (Jvm.Cond.code ({ cls := "MultiPatternScanOwnLaw", name := "mod", desc := "(II)I" } : Jvm.MethodName) method_3_code (3 : Nat) (Option.some Jvm.ClassFile.FieldType.int)).before args0 about1 = true := code_word (m := ⟨1, 2⟩) (meth := k1m2) (c := k1c2) (by decide +kernel) rfl rfl rfl (by decide +kernel)
set_option maxRecDepth 65536 in
theorem w_c3 : (Jvm.Cond.code ({ cls := "MultiPatternScanOwnLaw", name := "clamp", desc := "(III)I" } : Jvm.MethodName) method_4_code (3 : Nat) (Option.some Jvm.ClassFile.FieldType.int)).before args0 about1 = true := code_word (m := ⟨1, 3⟩) (meth := k1m3) (c := k1c3) (by decide +kernel) rfl rfl rfl (by decide +kernel)
set_option maxRecDepth 65536 in
theorem w_c4 : (Jvm.Cond.code ({ cls := "MultiPatternScan", name := "<init>", desc := "(II)V" } : Jvm.MethodName) prog_1_method_1_code (6 : Nat) (Option.none : Option Jvm.ClassFile.FieldType)).before args0 about1 = true := code_word (m := ⟨2, 0⟩) (meth := k2m0) (c := k2c0) (by decide +kernel) rfl rfl rfl (by decide +kernel)
set_option maxRecDepth 65536 in
theorem w_c5 : (Jvm.Cond.code ({ cls := "java/lang/Object", name := "<init>", desc := "()V" } : Jvm.MethodName) object_method_1_code (1 : Nat) (Option.none : Option Jvm.ClassFile.FieldType)).before args0 about1 = true := code_word (m := ⟨0, 0⟩) (meth := k0m0) (c := k0c0) (by decide +kernel) rfl rfl rfl (by decide +kernel)
set_option maxRecDepth 65536 in
theorem w_c6 : (Jvm.Cond.code ({ cls := "MultiPatternScan", name := "clearText", desc := "()V" } : Jvm.MethodName) prog_1_method_27_code (1 : Nat) (Option.none : Option Jvm.ClassFile.FieldType)).before args0 about1 = true := code_word (m := ⟨2, 23⟩) (meth := k2m23) (c := k2c23) (by decide +kernel) rfl rfl rfl (by decide +kernel)
set_option maxRecDepth 65536 in
theorem w_c7 : (Jvm.Cond.code ({ cls := "MultiPatternScan", name := "keywordCount", desc := "()I" } : Jvm.MethodName) prog_1_method_8_code (1 : Nat) (Option.some Jvm.ClassFile.FieldType.int)).before args0 about1 = true := code_word (m := ⟨2, 7⟩) (meth := k2m7) (c := k2c7) (by decide +kernel) rfl rfl rfl (by decide +kernel)
set_option maxRecDepth 65536 in
theorem w_c8 : (Jvm.Cond.code ({ cls := "MultiPatternScan", name := "keywordLength", desc := "(I)I" } : Jvm.MethodName) prog_1_method_9_code (2 : Nat) (Option.some Jvm.ClassFile.FieldType.int)).before args0 about1 = true := code_word (m := ⟨2, 8⟩) (meth := k2m8) (c := k2c8) (by decide +kernel) rfl rfl rfl (by decide +kernel)
set_option maxRecDepth 65536 in
theorem w_c9 : (Jvm.Cond.code ({ cls := "MultiPatternScan", name := "addChar", desc := "(I)I" } : Jvm.MethodName) prog_1_method_2_code (2 : Nat) (Option.some Jvm.ClassFile.FieldType.int)).before args0 about1 = true := code_word (m := ⟨2, 1⟩) (meth := k2m1) (c := k2c1) (by decide +kernel) rfl rfl rfl (by decide +kernel)
set_option maxRecDepth 65536 in
theorem w_c10 : (Jvm.Cond.code ({ cls := "MultiPatternScan", name := "isLetter", desc := "(I)Z" } : Jvm.MethodName) prog_1_method_32_code (2 : Nat) (Option.some Jvm.ClassFile.FieldType.boolean)).before args0 about1 = true := code_word (m := ⟨2, 28⟩) (meth := k2m28) (c := k2c28) (by decide +kernel) rfl rfl rfl (by decide +kernel)
set_option maxRecDepth 65536 in
theorem w_c11 : (Jvm.Cond.code ({ cls := "MultiPatternScan", name := "endKeyword", desc := "(I)I" } : Jvm.MethodName) prog_1_method_3_code (2 : Nat) (Option.some Jvm.ClassFile.FieldType.int)).before args0 about1 = true := code_word (m := ⟨2, 2⟩) (meth := k2m2) (c := k2c2) (by decide +kernel) rfl rfl rfl (by decide +kernel)
set_option maxRecDepth 65536 in
theorem w_c12 : (Jvm.Cond.code ({ cls := "MultiPatternScan", name := "isPrintable", desc := "(I)Z" } : Jvm.MethodName) prog_1_method_33_code (2 : Nat) (Option.some Jvm.ClassFile.FieldType.boolean)).before args0 about1 = true := code_word (m := ⟨2, 29⟩) (meth := k2m29) (c := k2c29) (by decide +kernel) rfl rfl rfl (by decide +kernel)
set_option maxRecDepth 65536 in
theorem w_c13 : (Jvm.Cond.code ({ cls := "MultiPatternScan", name := "pendingIsDuplicate", desc := "()Z" } : Jvm.MethodName) prog_1_method_19_code (2 : Nat) (Option.some Jvm.ClassFile.FieldType.boolean)).before args0 about1 = true := code_word (m := ⟨2, 15⟩) (meth := k2m15) (c := k2c15) (by decide +kernel) rfl rfl rfl (by decide +kernel)
set_option maxRecDepth 65536 in
theorem w_c14 : (Jvm.Cond.code ({ cls := "MultiPatternScan", name := "storePending", desc := "(I)V" } : Jvm.MethodName) prog_1_method_21_code (4 : Nat) (Option.none : Option Jvm.ClassFile.FieldType)).before args0 about1 = true := code_word (m := ⟨2, 17⟩) (meth := k2m17) (c := k2c17) (by decide +kernel) rfl rfl rfl (by decide +kernel)
set_option maxRecDepth 65536 in
theorem w_c15 : (Jvm.Cond.code ({ cls := "MultiPatternScan", name := "build", desc := "()I" } : Jvm.MethodName) prog_1_method_4_code (1 : Nat) (Option.some Jvm.ClassFile.FieldType.int)).before args0 about1 = true := code_word (m := ⟨2, 3⟩) (meth := k2m3) (c := k2c3) (by decide +kernel) rfl rfl rfl (by decide +kernel)
set_option maxRecDepth 65536 in
theorem w_c16 : (Jvm.Cond.code ({ cls := "MultiPatternScan", name := "buildTrie", desc := "()V" } : Jvm.MethodName) prog_1_method_22_code (2 : Nat) (Option.none : Option Jvm.ClassFile.FieldType)).before args0 about1 = true := code_word (m := ⟨2, 18⟩) (meth := k2m18) (c := k2c18) (by decide +kernel) rfl rfl rfl (by decide +kernel)
set_option maxRecDepth 65536 in
theorem w_c17 : (Jvm.Cond.code ({ cls := "MultiPatternScan", name := "insertKeyword", desc := "(I)V" } : Jvm.MethodName) prog_1_method_23_code (7 : Nat) (Option.none : Option Jvm.ClassFile.FieldType)).before args0 about1 = true := code_word (m := ⟨2, 19⟩) (meth := k2m19) (c := k2c19) (by decide +kernel) rfl rfl rfl (by decide +kernel)
set_option maxRecDepth 65536 in
theorem w_c18 : (Jvm.Cond.code ({ cls := "MultiPatternScan", name := "computeLinks", desc := "()V" } : Jvm.MethodName) prog_1_method_24_code (5 : Nat) (Option.none : Option Jvm.ClassFile.FieldType)).before args0 about1 = true := code_word (m := ⟨2, 20⟩) (meth := k2m20) (c := k2c20) (by decide +kernel) rfl rfl rfl (by decide +kernel)
set_option maxRecDepth 65536 in
theorem w_c19 : (Jvm.Cond.code ({ cls := "MultiPatternScan", name := "expandNode", desc := "(II)I" } : Jvm.MethodName) prog_1_method_25_code (8 : Nat) (Option.some Jvm.ClassFile.FieldType.int)).before args0 about1 = true := code_word (m := ⟨2, 21⟩) (meth := k2m21) (c := k2c21) (by decide +kernel) rfl rfl rfl (by decide +kernel)
set_option maxRecDepth 65536 in
theorem w_c20 : (Jvm.Cond.code ({ cls := "MultiPatternScan", name := "phase", desc := "()I" } : Jvm.MethodName) prog_1_method_7_code (1 : Nat) (Option.some Jvm.ClassFile.FieldType.int)).before args0 about1 = true := code_word (m := ⟨2, 6⟩) (meth := k2m6) (c := k2c6) (by decide +kernel) rfl rfl rfl (by decide +kernel)
set_option maxRecDepth 65536 in
theorem w_c21 : (Jvm.Cond.code ({ cls := "MultiPatternScan", name := "textLength", desc := "()I" } : Jvm.MethodName) prog_1_method_11_code (1 : Nat) (Option.some Jvm.ClassFile.FieldType.int)).before args0 about1 = true := code_word (m := ⟨2, 10⟩) (meth := k2m10) (c := k2c10) (by decide +kernel) rfl rfl rfl (by decide +kernel)
set_option maxRecDepth 65536 in
theorem w_c22 : (Jvm.Cond.code ({ cls := "MultiPatternScan", name := "feed", desc := "(I)I" } : Jvm.MethodName) prog_1_method_5_code (4 : Nat) (Option.some Jvm.ClassFile.FieldType.int)).before args0 about1 = true := code_word (m := ⟨2, 4⟩) (meth := k2m4) (c := k2c4) (by decide +kernel) rfl rfl rfl (by decide +kernel)
set_option maxRecDepth 65536 in
theorem w_c23 : (Jvm.Cond.code ({ cls := "MultiPatternScan", name := "nextState", desc := "(II)I" } : Jvm.MethodName) prog_1_method_26_code (3 : Nat) (Option.some Jvm.ClassFile.FieldType.int)).before args0 about1 = true := code_word (m := ⟨2, 22⟩) (meth := k2m22) (c := k2c22) (by decide +kernel) rfl rfl rfl (by decide +kernel)
set_option maxRecDepth 65536 in
theorem w_c24 : (Jvm.Cond.code ({ cls := "MultiPatternScan", name := "popCount", desc := "(I)I" } : Jvm.MethodName) prog_1_method_34_code (4 : Nat) (Option.some Jvm.ClassFile.FieldType.int)).before args0 about1 = true := code_word (m := ⟨2, 30⟩) (meth := k2m30) (c := k2c30) (by decide +kernel) rfl rfl rfl (by decide +kernel)
set_option maxRecDepth 65536 in
theorem w_c25 : (Jvm.Cond.code ({ cls := "MultiPatternScan", name := "commitReady", desc := "()V" } : Jvm.MethodName) prog_1_method_29_code (2 : Nat) (Option.none : Option Jvm.ClassFile.FieldType)).before args0 about1 = true := code_word (m := ⟨2, 25⟩) (meth := k2m25) (c := k2c25) (by decide +kernel) rfl rfl rfl (by decide +kernel)
set_option maxRecDepth 65536 in
theorem w_c26 : (Jvm.Cond.code ({ cls := "MultiPatternScan", name := "commitOne", desc := "()V" } : Jvm.MethodName) prog_1_method_30_code (2 : Nat) (Option.none : Option Jvm.ClassFile.FieldType)).before args0 about1 = true := code_word (m := ⟨2, 26⟩) (meth := k2m26) (c := k2c26) (by decide +kernel) rfl rfl rfl (by decide +kernel)
set_option maxRecDepth 65536 in
theorem w_c27 : (Jvm.Cond.code ({ cls := "MultiPatternScan", name := "longestAt", desc := "(I)I" } : Jvm.MethodName) prog_1_method_28_code (8 : Nat) (Option.some Jvm.ClassFile.FieldType.int)).before args0 about1 = true := code_word (m := ⟨2, 24⟩) (meth := k2m24) (c := k2c24) (by decide +kernel) rfl rfl rfl (by decide +kernel)
set_option maxRecDepth 65536 in
theorem w_c28 : (Jvm.Cond.code ({ cls := "MultiPatternScan", name := "rebuildTail", desc := "()V" } : Jvm.MethodName) prog_1_method_31_code (4 : Nat) (Option.none : Option Jvm.ClassFile.FieldType)).before args0 about1 = true := code_word (m := ⟨2, 27⟩) (meth := k2m27) (c := k2c27) (by decide +kernel) rfl rfl rfl (by decide +kernel)
set_option maxRecDepth 65536 in
theorem w_c29 : (Jvm.Cond.code ({ cls := "MultiPatternScan", name := "occurrenceMask", desc := "(I)I" } : Jvm.MethodName) prog_1_method_13_code (2 : Nat) (Option.some Jvm.ClassFile.FieldType.int)).before args0 about1 = true := code_word (m := ⟨2, 12⟩) (meth := k2m12) (c := k2c12) (by decide +kernel) rfl rfl rfl (by decide +kernel)
set_option maxRecDepth 65536 in
theorem w_c30 : (Jvm.Cond.code ({ cls := "MultiPatternScanOwnLaw", name := "pop", desc := "(I)I" } : Jvm.MethodName) method_5_code (3 : Nat) (Option.some Jvm.ClassFile.FieldType.int)).before args0 about1 = true := code_word (m := ⟨1, 4⟩) (meth := k1m4) (c := k1c4) (by decide +kernel) rfl rfl rfl (by decide +kernel)
set_option maxRecDepth 65536 in
theorem w_c31 : (Jvm.Cond.code ({ cls := "MultiPatternScan", name := "textChar", desc := "(I)I" } : Jvm.MethodName) prog_1_method_12_code (2 : Nat) (Option.some Jvm.ClassFile.FieldType.int)).before args0 about1 = true := code_word (m := ⟨2, 11⟩) (meth := k2m11) (c := k2c11) (by decide +kernel) rfl rfl rfl (by decide +kernel)
set_option maxRecDepth 65536 in
theorem w_c32 : (Jvm.Cond.code ({ cls := "MultiPatternScan", name := "keywordChar", desc := "(II)I" } : Jvm.MethodName) prog_1_method_10_code (3 : Nat) (Option.some Jvm.ClassFile.FieldType.int)).before args0 about1 = true := code_word (m := ⟨2, 9⟩) (meth := k2m9) (c := k2c9) (by decide +kernel) rfl rfl rfl (by decide +kernel)
set_option maxRecDepth 65536 in
theorem w_c33 : (Jvm.Cond.code ({ cls := "MultiPatternScan", name := "acceptedChar", desc := "(II)I" } : Jvm.MethodName) prog_1_method_18_code (3 : Nat) (Option.some Jvm.ClassFile.FieldType.int)).before args0 about1 = true := code_word (m := ⟨2, 14⟩) (meth := k2m14) (c := k2c14) (by decide +kernel) rfl rfl rfl (by decide +kernel)
set_option maxRecDepth 65536 in
theorem w_c34 : (Jvm.Cond.code ({ cls := "MultiPatternScan", name := "totalOccurrences", desc := "()I" } : Jvm.MethodName) prog_1_method_14_code (1 : Nat) (Option.some Jvm.ClassFile.FieldType.int)).before args0 about1 = true := code_word (m := ⟨2, 13⟩) (meth := k2m13) (c := k2c13) (by decide +kernel) rfl rfl rfl (by decide +kernel)
set_option maxRecDepth 65536 in
theorem w_c35 : (Jvm.Cond.code ({ cls := "MultiPatternScan", name := "resetText", desc := "()I" } : Jvm.MethodName) prog_1_method_6_code (1 : Nat) (Option.some Jvm.ClassFile.FieldType.int)).before args0 about1 = true := code_word (m := ⟨2, 5⟩) (meth := k2m5) (c := k2c5) (by decide +kernel) rfl rfl rfl (by decide +kernel)
set_option maxRecDepth 65536 in
theorem w_c36 : (Jvm.Cond.code ({ cls := "MultiPatternScan", name := "pendingEquals", desc := "(I)Z" } : Jvm.MethodName) prog_1_method_20_code (4 : Nat) (Option.some Jvm.ClassFile.FieldType.boolean)).before args0 about1 = true := code_word (m := ⟨2, 16⟩) (meth := k2m16) (c := k2c16) (by decide +kernel) rfl rfl rfl (by decide +kernel)
def codes1 : List Jvm.Cond := [Jvm.Cond.code x code maxLocals ret, Jvm.Cond.code ({ cls := "MultiPatternScanOwnLaw", name := "cell", desc := "([II)I" } : Jvm.MethodName) method_2_code (2 : Nat) (Option.some Jvm.ClassFile.FieldType.int), Jvm.Cond.code ({ cls := "MultiPatternScanOwnLaw", name := "mod", desc := "(II)I" } : Jvm.MethodName) method_3_code (3 : Nat) (Option.some Jvm.ClassFile.FieldType.int), Jvm.Cond.code ({ cls := "MultiPatternScanOwnLaw", name := "clamp", desc := "(III)I" } : Jvm.MethodName) method_4_code (3 : Nat) (Option.some Jvm.ClassFile.FieldType.int), Jvm.Cond.code ({ cls := "MultiPatternScan", name := "<init>", desc := "(II)V" } : Jvm.MethodName) prog_1_method_1_code (6 : Nat) (Option.none : Option Jvm.ClassFile.FieldType), Jvm.Cond.code ({ cls := "java/lang/Object", name := "<init>", desc := "()V" } : Jvm.MethodName) object_method_1_code (1 : Nat) (Option.none : Option Jvm.ClassFile.FieldType), Jvm.Cond.code ({ cls := "MultiPatternScan", name := "clearText", desc := "()V" } : Jvm.MethodName) prog_1_method_27_code (1 : Nat) (Option.none : Option Jvm.ClassFile.FieldType), Jvm.Cond.code ({ cls := "MultiPatternScan", name := "keywordCount", desc := "()I" } : Jvm.MethodName) prog_1_method_8_code (1 : Nat) (Option.some Jvm.ClassFile.FieldType.int), Jvm.Cond.code ({ cls := "MultiPatternScan", name := "keywordLength", desc := "(I)I" } : Jvm.MethodName) prog_1_method_9_code (2 : Nat) (Option.some Jvm.ClassFile.FieldType.int), Jvm.Cond.code ({ cls := "MultiPatternScan", name := "addChar", desc := "(I)I" } : Jvm.MethodName) prog_1_method_2_code (2 : Nat) (Option.some Jvm.ClassFile.FieldType.int), Jvm.Cond.code ({ cls := "MultiPatternScan", name := "isLetter", desc := "(I)Z" } : Jvm.MethodName) prog_1_method_32_code (2 : Nat) (Option.some Jvm.ClassFile.FieldType.boolean), Jvm.Cond.code ({ cls := "MultiPatternScan", name := "endKeyword", desc := "(I)I" } : Jvm.MethodName) prog_1_method_3_code (2 : Nat) (Option.some Jvm.ClassFile.FieldType.int), Jvm.Cond.code ({ cls := "MultiPatternScan", name := "isPrintable", desc := "(I)Z" } : Jvm.MethodName) prog_1_method_33_code (2 : Nat) (Option.some Jvm.ClassFile.FieldType.boolean), Jvm.Cond.code ({ cls := "MultiPatternScan", name := "pendingIsDuplicate", desc := "()Z" } : Jvm.MethodName) prog_1_method_19_code (2 : Nat) (Option.some Jvm.ClassFile.FieldType.boolean), Jvm.Cond.code ({ cls := "MultiPatternScan", name := "storePending", desc := "(I)V" } : Jvm.MethodName) prog_1_method_21_code (4 : Nat) (Option.none : Option Jvm.ClassFile.FieldType), Jvm.Cond.code ({ cls := "MultiPatternScan", name := "build", desc := "()I" } : Jvm.MethodName) prog_1_method_4_code (1 : Nat) (Option.some Jvm.ClassFile.FieldType.int), Jvm.Cond.code ({ cls := "MultiPatternScan", name := "buildTrie", desc := "()V" } : Jvm.MethodName) prog_1_method_22_code (2 : Nat) (Option.none : Option Jvm.ClassFile.FieldType), Jvm.Cond.code ({ cls := "MultiPatternScan", name := "insertKeyword", desc := "(I)V" } : Jvm.MethodName) prog_1_method_23_code (7 : Nat) (Option.none : Option Jvm.ClassFile.FieldType), Jvm.Cond.code ({ cls := "MultiPatternScan", name := "computeLinks", desc := "()V" } : Jvm.MethodName) prog_1_method_24_code (5 : Nat) (Option.none : Option Jvm.ClassFile.FieldType), Jvm.Cond.code ({ cls := "MultiPatternScan", name := "expandNode", desc := "(II)I" } : Jvm.MethodName) prog_1_method_25_code (8 : Nat) (Option.some Jvm.ClassFile.FieldType.int), Jvm.Cond.code ({ cls := "MultiPatternScan", name := "phase", desc := "()I" } : Jvm.MethodName) prog_1_method_7_code (1 : Nat) (Option.some Jvm.ClassFile.FieldType.int), Jvm.Cond.code ({ cls := "MultiPatternScan", name := "textLength", desc := "()I" } : Jvm.MethodName) prog_1_method_11_code (1 : Nat) (Option.some Jvm.ClassFile.FieldType.int), Jvm.Cond.code ({ cls := "MultiPatternScan", name := "feed", desc := "(I)I" } : Jvm.MethodName) prog_1_method_5_code (4 : Nat) (Option.some Jvm.ClassFile.FieldType.int), Jvm.Cond.code ({ cls := "MultiPatternScan", name := "nextState", desc := "(II)I" } : Jvm.MethodName) prog_1_method_26_code (3 : Nat) (Option.some Jvm.ClassFile.FieldType.int), Jvm.Cond.code ({ cls := "MultiPatternScan", name := "popCount", desc := "(I)I" } : Jvm.MethodName) prog_1_method_34_code (4 : Nat) (Option.some Jvm.ClassFile.FieldType.int), Jvm.Cond.code ({ cls := "MultiPatternScan", name := "commitReady", desc := "()V" } : Jvm.MethodName) prog_1_method_29_code (2 : Nat) (Option.none : Option Jvm.ClassFile.FieldType), Jvm.Cond.code ({ cls := "MultiPatternScan", name := "commitOne", desc := "()V" } : Jvm.MethodName) prog_1_method_30_code (2 : Nat) (Option.none : Option Jvm.ClassFile.FieldType), Jvm.Cond.code ({ cls := "MultiPatternScan", name := "longestAt", desc := "(I)I" } : Jvm.MethodName) prog_1_method_28_code (8 : Nat) (Option.some Jvm.ClassFile.FieldType.int), Jvm.Cond.code ({ cls := "MultiPatternScan", name := "rebuildTail", desc := "()V" } : Jvm.MethodName) prog_1_method_31_code (4 : Nat) (Option.none : Option Jvm.ClassFile.FieldType), Jvm.Cond.code ({ cls := "MultiPatternScan", name := "occurrenceMask", desc := "(I)I" } : Jvm.MethodName) prog_1_method_13_code (2 : Nat) (Option.some Jvm.ClassFile.FieldType.int), Jvm.Cond.code ({ cls := "MultiPatternScanOwnLaw", name := "pop", desc := "(I)I" } : Jvm.MethodName) method_5_code (3 : Nat) (Option.some Jvm.ClassFile.FieldType.int), Jvm.Cond.code ({ cls := "MultiPatternScan", name := "textChar", desc := "(I)I" } : Jvm.MethodName) prog_1_method_12_code (2 : Nat) (Option.some Jvm.ClassFile.FieldType.int), Jvm.Cond.code ({ cls := "MultiPatternScan", name := "keywordChar", desc := "(II)I" } : Jvm.MethodName) prog_1_method_10_code (3 : Nat) (Option.some Jvm.ClassFile.FieldType.int), Jvm.Cond.code ({ cls := "MultiPatternScan", name := "acceptedChar", desc := "(II)I" } : Jvm.MethodName) prog_1_method_18_code (3 : Nat) (Option.some Jvm.ClassFile.FieldType.int), Jvm.Cond.code ({ cls := "MultiPatternScan", name := "totalOccurrences", desc := "()I" } : Jvm.MethodName) prog_1_method_14_code (1 : Nat) (Option.some Jvm.ClassFile.FieldType.int), Jvm.Cond.code ({ cls := "MultiPatternScan", name := "resetText", desc := "()I" } : Jvm.MethodName) prog_1_method_6_code (1 : Nat) (Option.some Jvm.ClassFile.FieldType.int), Jvm.Cond.code ({ cls := "MultiPatternScan", name := "pendingEquals", desc := "(I)Z" } : Jvm.MethodName) prog_1_method_20_code (4 : Nat) (Option.some Jvm.ClassFile.FieldType.boolean)]
set_option maxRecDepth 65536 in
theorem codes_eq : words1.filter isCode = codes1 := rfl
theorem w_codes : ∀ c ∈ words1.filter isCode, c.before args0 about1 = true := by
  rw [codes_eq]
  intro c hc
  simp only [codes1, List.mem_cons, List.not_mem_nil, or_false] at hc
  rcases hc with rfl | rfl | rfl | rfl | rfl | rfl | rfl | rfl | rfl | rfl | rfl | rfl | rfl | rfl | rfl | rfl | rfl | rfl | rfl | rfl | rfl | rfl | rfl | rfl | rfl | rfl | rfl | rfl | rfl | rfl | rfl | rfl | rfl | rfl | rfl | rfl | rfl
  · exact w_c0
  · exact w_c1
  · exact w_c2
  · exact w_c3
  · exact w_c4
  · exact w_c5
  · exact w_c6
  · exact w_c7
  · exact w_c8
  · exact w_c9
  · exact w_c10
  · exact w_c11
  · exact w_c12
  · exact w_c13
  · exact w_c14
  · exact w_c15
  · exact w_c16
  · exact w_c17
  · exact w_c18
  · exact w_c19
  · exact w_c20
  · exact w_c21
  · exact w_c22
  · exact w_c23
  · exact w_c24
  · exact w_c25
  · exact w_c26
  · exact w_c27
  · exact w_c28
  · exact w_c29
  · exact w_c30
  · exact w_c31
  · exact w_c32
  · exact w_c33
  · exact w_c34
  · exact w_c35
  · exact w_c36
set_option maxRecDepth 65536 in
theorem w_t1 : (words1.take 24).all (fun c => isCode c || c.before args0 about1) = true := by decide +kernel
set_option maxRecDepth 65536 in
theorem w_t2 : ((words1.drop 24).take 24).all (fun c => isCode c || c.before args0 about1) = true := by decide +kernel
set_option maxRecDepth 65536 in
theorem w_t3 : (((words1.drop 24).drop 24).take 24).all (fun c => isCode c || c.before args0 about1) = true := by decide +kernel
set_option maxRecDepth 65536 in
theorem w_t4 : ((((words1.drop 24).drop 24).drop 24).take 24).all (fun c => isCode c || c.before args0 about1) = true := by decide +kernel
set_option maxRecDepth 65536 in
theorem w_t5 : (((((words1.drop 24).drop 24).drop 24).drop 24).take 24).all (fun c => isCode c || c.before args0 about1) = true := by decide +kernel
set_option maxRecDepth 65536 in
theorem w_t6 : ((((((words1.drop 24).drop 24).drop 24).drop 24).drop 24).take 24).all (fun c => isCode c || c.before args0 about1) = true := by decide +kernel
set_option maxRecDepth 65536 in
theorem w_t7 : (((((((words1.drop 24).drop 24).drop 24).drop 24).drop 24).drop 24).take 24).all (fun c => isCode c || c.before args0 about1) = true := by decide +kernel
set_option maxRecDepth 65536 in
theorem w_t8 : ((((((((words1.drop 24).drop 24).drop 24).drop 24).drop 24).drop 24).drop 24).take 24).all (fun c => isCode c || c.before args0 about1) = true := by decide +kernel
set_option maxRecDepth 65536 in
theorem w_t9 : ((((((((words1.drop 24).drop 24).drop 24).drop 24).drop 24).drop 24).drop 24).drop 24).all (fun c => isCode c || c.before args0 about1) = true := by decide +kernel
theorem w_tables : (allAtoms (Jvm.Cond.code x code maxLocals ret :: tables_1)).before args0 about1 = true := by
  rw [allAtoms_all]
  show words1.all (fun c => c.before args0 about1) = true
  refine all_split ?_ w_codes
  rw [← List.take_append_drop 24 words1, List.all_append, w_t1, ← List.take_append_drop 24 (words1.drop 24), List.all_append, w_t2, ← List.take_append_drop 24 ((words1.drop 24).drop 24), List.all_append, w_t3, ← List.take_append_drop 24 (((words1.drop 24).drop 24).drop 24), List.all_append, w_t4, ← List.take_append_drop 24 ((((words1.drop 24).drop 24).drop 24).drop 24), List.all_append, w_t5, ← List.take_append_drop 24 (((((words1.drop 24).drop 24).drop 24).drop 24).drop 24), List.all_append, w_t6, ← List.take_append_drop 24 ((((((words1.drop 24).drop 24).drop 24).drop 24).drop 24).drop 24), List.all_append, w_t7, ← List.take_append_drop 24 (((((((words1.drop 24).drop 24).drop 24).drop 24).drop 24).drop 24).drop 24), List.all_append, w_t8, w_t9]
  rfl
set_option maxRecDepth 65536 in
theorem w_rest : rest_1_c.before args0 about1 = true := by decide +kernel
set_option maxRecDepth 65536 in
theorem w_case : (Jvm.Cond.and given_1 narrow_1).before args0 about1 = true := by decide +kernel
theorem w_applies : (headSpec (Jvm.Cond.code x code maxLocals ret :: tables_1) room_1).applies x e0.platform about1 = true :=
  (Spec.applies_iff w_frames).mpr ⟨w_running, w_runnable, w_alone, w_named, w_hears, w_ripe, w_room, w_tables⟩
theorem atStart : AtStart classFile x code maxLocals ret World_1 tables_1 room_1 Calls_1 rest_1 Pre_1 launch0 p0 e0 about1 theMethod args0 below0 :=
  ⟨lists_1, trivial, launch0.admits_env _ _ _, launch0.least_env, fairChoices_fair.cas, fairChoices_fair.clock, w_frames, w_args, w_heap, w_applies, trivial, w_rest, w_case⟩
end start1
theorem witness_1 : WitnessClaimed_1 := ⟨start1.p0, start1.e0, start1.about1, start1.theMethod, start1.args0, start1.below0, start1.atStart⟩
end Jvm.Pilot.@@N@@
