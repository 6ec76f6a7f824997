import JvmDerived
import JvmDerived.Pilot.@@N@@Statement
import JvmDerived.Pilot.@@N@@Code
set_option linter.unusedVariables false
set_option linter.unusedSimpArgs false
namespace Jvm.Own
open Jvm Jvm.ClassFile Sem Op Lib Jvm.Free Jvm.Stand Jvm.LawKit Jvm.RoadKit Bundle

/-! A plain machine: the few instructions that these classes use, over a heap of plain lists. -/
/-- an object (class number, fields in order) | an int array (false) or boolean array (true) | a long array -/
abbrev ACell := (Nat × List Value) ⊕ ((Bool × List Int32) ⊕ List Int64)
abbrev AHeap := List ACell
/-- instruction, length, variables forgotten ahead of it, link number, constant -/
abbrev It := Instr × Nat × List Bool × Nat × Int
/-- a field: name, descriptor, type, final -/
abbrev FD := String × String × FieldType × Bool
/-- a class: name, number of its slots, its fields -/
abbrev CD := String × Nat × List FD
/-- a method: name, bytes, variables, return type; kind (0 static, 1 constructor, 2 private, 3 virtual), parameters, class number, frames, words; code -/
abbrev MD := MethodName × ByteArray × Nat × Option FieldType × Nat × Nat × Nat × Nat × Nat × List (Nat × It)
/-- classes, methods, number of cells that are only read -/
abbrev PD := List CD × List MD × Nat
abbrev PD.cls (P : PD) : List CD := P.1
abbrev PD.mth (P : PD) : List MD := P.2.1
abbrev PD.nr (P : PD) : Nat := P.2.2
abbrev MD.name (d : MD) : MethodName := d.1
abbrev MD.bytes (d : MD) : ByteArray := d.2.1
abbrev MD.maxL (d : MD) : Nat := d.2.2.1
abbrev MD.ret (d : MD) : Option FieldType := d.2.2.2.1
abbrev MD.kind (d : MD) : Nat := d.2.2.2.2.1
abbrev MD.npar (d : MD) : Nat := d.2.2.2.2.2.1
abbrev MD.cid (d : MD) : Nat := d.2.2.2.2.2.2.1
abbrev MD.rf (d : MD) : Nat := d.2.2.2.2.2.2.2.1
abbrev MD.rw (d : MD) : Nat := d.2.2.2.2.2.2.2.2.1
abbrev MD.code (d : MD) : List (Nat × It) := d.2.2.2.2.2.2.2.2.2

def rdA {α : Type} (L : List α) (j : Int32) : Option α := if j < 0 then none else L[j.toNatClampNeg]?
def wrA {α : Type} (L : List α) (j : Int32) (x : α) : Option (List α) := if j < 0 then none else if j.toNatClampNeg < L.length then some (L.set j.toNatClampNeg x) else none
def getL (L : List Slot) (k : Nat) : Option Value := match L[k]? with | some (.val v) => some v | _ => none
def isC2 : Option Slot → Bool | some (.val v) => v.category == 2 | _ => false
def isSec : Option Slot → Bool | some .second => true | _ => false
def free1 : Option Slot → Bool | some .unset => true | some (.val v) => v.category == 1 | _ => false
def st1 (L : List Slot) (k : Nat) (v : Value) : Option (List Slot) :=
  if free1 L[k]? && (k == 0 || !isC2 L[k - 1]?) && !isSec L[k + 1]? then some (L.set k (.val v)) else none
def free2 : Option Slot → Option Slot → Bool | some .unset, some .unset => true | some (.val v), some .second => v.category == 2 | _, _ => false
def st2 (L : List Slot) (k : Nat) (v : Value) : Option (List Slot) :=
  if free2 L[k]? L[k + 1]? && (k == 0 || !isC2 L[k - 1]?) && !isSec L[k + 2]? then some ((L.set k (.val v)).set (k + 1) .second) else none
def forget : List Bool → List Slot → List Slot
  | [], L => L
  | _ :: _, [] => []
  | true :: r, _ :: L => .unset :: forget r L
  | false :: r, s :: L => s :: forget r L
def catSum : List Value → Nat
  | [] => 0
  | v :: r => v.category + catSum r
def entA : List Value → List Slot
  | [] => []
  | v :: r => if v.category = 2 then .val v :: .second :: entA r else .val v :: entA r
def entL (as : List Value) (n : Nat) : List Slot := entA as ++ List.replicate (n - (entA as).length) .unset
def putOk : FieldType → Value → Bool
  | .int, .int _ => true
  | .long, .long _ => true
  | .boolean, .int x => (x == 0) || (x == 1)
  | .array _, .ref _ => true
  | _, _ => false
def dflt : FieldType → Value
  | .long => .long 0
  | .array _ => .null
  | _ => .int 0
def dfOk : FieldType → Bool
  | .int => true
  | .boolean => true
  | .long => true
  | .array _ => true
  | _ => false
def tgt (pc : Nat) (o : Int) : Option Nat := if 0 ≤ (pc : Int) + o then some ((pc : Int) + o).toNat else none
def fetch : List (Nat × It) → Nat → Option It
  | [], _ => none
  | (q, i) :: r, pc => if q = pc then some i else fetch r pc
/-- one instruction that neither branches nor calls nor returns -/
def xI (P : PD) (ini : Bool) (cid : Nat) (i : Instr) (a : Nat) (b : Int) (L : List Slot) (S : List Value) (H : AHeap) : Option (List Slot × List Value × AHeap) :=
  match i with
  | .aload_n k => match getL L k.val with | some (.ref x) => some (L, .ref x :: S, H) | _ => none
  | .aload k => match getL L k with | some (.ref x) => some (L, .ref x :: S, H) | _ => none
  | .iload_n k => match getL L k.val with | some (.int x) => some (L, .int x :: S, H) | _ => none
  | .iload k => match getL L k with | some (.int x) => some (L, .int x :: S, H) | _ => none
  | .lload_n k => match getL L k.val with | some (.long x) => some (L, .long x :: S, H) | _ => none
  | .lload k => match getL L k with | some (.long x) => some (L, .long x :: S, H) | _ => none
  | .istore_n k => match S with | .int x :: S' => (st1 L k.val (.int x)).map fun L' => (L', S', H) | _ => none
  | .istore k => match S with | .int x :: S' => (st1 L k (.int x)).map fun L' => (L', S', H) | _ => none
  | .astore_n k => match S with | .ref x :: S' => (st1 L k.val (.ref x)).map fun L' => (L', S', H) | _ => none
  | .astore k => match S with | .ref x :: S' => (st1 L k (.ref x)).map fun L' => (L', S', H) | _ => none
  | .lstore_n k => match S with | .long x :: S' => (st2 L k.val (.long x)).map fun L' => (L', S', H) | _ => none
  | .lstore k => match S with | .long x :: S' => (st2 L k (.long x)).map fun L' => (L', S', H) | _ => none
  | .iinc k d => match getL L k with | some (.int x) => (st1 L k (.int (x + Int32.ofInt d))).map fun L' => (L', S, H) | _ => none
  | .iconst d => some (L, .int (Int32.ofInt d) :: S, H)
  | .bipush d => some (L, .int (Int8.ofInt d).toInt32 :: S, H)
  | .sipush d => some (L, .int (Int16.ofInt d).toInt32 :: S, H)
  | .lconst k => some (L, .long (Int64.ofNat k) :: S, H)
  | .ldc _ => some (L, .int (Int32.ofInt b) :: S, H)
  | .ldc2_w _ => some (L, .long (Int64.ofInt b) :: S, H)
  | .iadd => match S with | .int y :: .int x :: S' => some (L, .int (x + y) :: S', H) | _ => none
  | .isub => match S with | .int y :: .int x :: S' => some (L, .int (x - y) :: S', H) | _ => none
  | .imul => match S with | .int y :: .int x :: S' => some (L, .int (x * y) :: S', H) | _ => none
  | .iand => match S with | .int y :: .int x :: S' => some (L, .int (x &&& y) :: S', H) | _ => none
  | .ior => match S with | .int y :: .int x :: S' => some (L, .int (x ||| y) :: S', H) | _ => none
  | .ixor => match S with | .int y :: .int x :: S' => some (L, .int (x ^^^ y) :: S', H) | _ => none
  | .ishl => match S with | .int y :: .int x :: S' => some (L, .int (x <<< (y &&& 31)) :: S', H) | _ => none
  | .ishr => match S with | .int y :: .int x :: S' => some (L, .int (x >>> (y &&& 31)) :: S', H) | _ => none
  | .iushr => match S with | .int y :: .int x :: S' => some (L, .int (XT.ushr x y) :: S', H) | _ => none
  | .idiv => match S with | .int y :: .int x :: S' => if y = 0 then none else some (L, .int (x / y) :: S', H) | _ => none
  | .irem => match S with | .int y :: .int x :: S' => if y = 0 then none else some (L, .int (x % y) :: S', H) | _ => none
  | .ladd => match S with | .long y :: .long x :: S' => some (L, .long (x + y) :: S', H) | _ => none
  | .lsub => match S with | .long y :: .long x :: S' => some (L, .long (x - y) :: S', H) | _ => none
  | .lmul => match S with | .long y :: .long x :: S' => some (L, .long (x * y) :: S', H) | _ => none
  | .land => match S with | .long y :: .long x :: S' => some (L, .long (x &&& y) :: S', H) | _ => none
  | .lor => match S with | .long y :: .long x :: S' => some (L, .long (x ||| y) :: S', H) | _ => none
  | .lxor => match S with | .long y :: .long x :: S' => some (L, .long (x ^^^ y) :: S', H) | _ => none
  | .lshl => match S with | .int y :: .long x :: S' => some (L, .long (x <<< (y.toInt64 &&& 63)) :: S', H) | _ => none
  | .lshr => match S with | .int y :: .long x :: S' => some (L, .long (x >>> (y.toInt64 &&& 63)) :: S', H) | _ => none
  | .lushr => match S with | .int y :: .long x :: S' => some (L, .long (XT.ushrL x y) :: S', H) | _ => none
  | .ldiv => match S with | .long y :: .long x :: S' => if y = 0 then none else some (L, .long (x / y) :: S', H) | _ => none
  | .lrem => match S with | .long y :: .long x :: S' => if y = 0 then none else some (L, .long (x % y) :: S', H) | _ => none
  | .lcmp => match S with | .long y :: .long x :: S' => some (L, .int (XT.cmpL x y) :: S', H) | _ => none
  | .i2l => match S with | .int x :: S' => some (L, .long x.toInt64 :: S', H) | _ => none
  | .l2i => match S with | .long x :: S' => some (L, .int x.toInt32 :: S', H) | _ => none
  | .dup => match S with
    | .int x :: S' => some (L, .int x :: .int x :: S', H)
    | .ref x :: S' => some (L, .ref x :: .ref x :: S', H)
    | _ => none
  | .dup2 => match S with
    | .int x :: .ref y :: S' => some (L, .int x :: .ref y :: .int x :: .ref y :: S', H)
    | .long x :: S' => some (L, .long x :: .long x :: S', H)
    | _ => none
  | .pop => match S with | .int _ :: S' => some (L, S', H) | _ => none
  | .getfield _ => match S with
    | .ref o :: S' => match H[o]? with
      | some (.inl (c, fs)) => if c = cid then match fs[a]? with
        | some (.int x) => some (L, .int x :: S', H)
        | some (.long x) => some (L, .long x :: S', H)
        | some (.ref x) => some (L, .ref x :: S', H)
        | _ => none
        else none
      | _ => none
    | _ => none
  | .putfield _ => match S with
    | v :: .ref o :: S' => match H[o]? with
      | some (.inl (c, fs)) => if c = cid ∧ P.nr ≤ o then match (P.cls[c]?).bind fun cd => cd.2.2[a]? with
        | some (_, _, ty, fin) => if putOk ty v && (!fin || ini) then some (L, S', H.set o (.inl (c, fs.set a v))) else none
        | none => none
        else none
      | _ => none
    | _ => none
  | .iaload => match S with
    | .int j :: .ref o :: S' => match H[o]? with
      | some (.inr (.inl (false, A))) => (rdA A j).map fun x => (L, .int x :: S', H)
      | _ => none
    | _ => none
  | .baload => match S with
    | .int j :: .ref o :: S' => match H[o]? with
      | some (.inr (.inl (true, A))) => (rdA A j).map fun x => (L, .int x :: S', H)
      | _ => none
    | _ => none
  | .laload => match S with
    | .int j :: .ref o :: S' => match H[o]? with
      | some (.inr (.inr A)) => (rdA A j).map fun x => (L, .long x :: S', H)
      | _ => none
    | _ => none
  | .iastore => match S with
    | .int x :: .int j :: .ref o :: S' => match H[o]? with
      | some (.inr (.inl (false, A))) => if P.nr ≤ o then (wrA A j x).map fun A' => (L, S', H.set o (.inr (.inl (false, A')))) else none
      | _ => none
    | _ => none
  | .bastore => match S with
    | .int x :: .int j :: .ref o :: S' => match H[o]? with
      | some (.inr (.inl (true, A))) => if P.nr ≤ o then (wrA A j (x &&& 1)).map fun A' => (L, S', H.set o (.inr (.inl (true, A')))) else none
      | _ => none
    | _ => none
  | .lastore => match S with
    | .long x :: .int j :: .ref o :: S' => match H[o]? with
      | some (.inr (.inr A)) => if P.nr ≤ o then (wrA A j x).map fun A' => (L, S', H.set o (.inr (.inr A'))) else none
      | _ => none
    | _ => none
  | .arraylength => match S with
    | .ref o :: S' => match H[o]? with
      | some (.inr (.inl (_, A))) => some (L, .int A.length.toInt32 :: S', H)
      | _ => none
    | _ => none
  | _ => none
/-- one instruction that makes a cell: how many slots it takes stands last -/
def xN (P : PD) (i : Instr) (a : Nat) (S : List Value) (H : AHeap) : Option (List Value × AHeap × Nat) :=
  match i with
  | .new _ => match P.cls[a]? with
    | some cd => some (.ref H.length :: S, H ++ [.inl (a, cd.2.2.map fun f => dflt f.2.2.1)], cd.2.1)
    | none => none
  | .newarray t => match S with
    | .int n :: S' => if n < 0 ∨ 100000 < n.toNatClampNeg then none else match t with
      | .int => some (.ref H.length :: S', H ++ [.inr (.inl (false, List.replicate n.toNatClampNeg 0))], n.toNatClampNeg)
      | .boolean => some (.ref H.length :: S', H ++ [.inr (.inl (true, List.replicate n.toNatClampNeg 0))], n.toNatClampNeg)
      | .long => some (.ref H.length :: S', H ++ [.inr (.inr (List.replicate n.toNatClampNeg 0))], n.toNatClampNeg)
      | _ => none
    | _ => none
  | _ => none
/-- the words that a call from d to y asks -/
def fitsRoom (d y : MD) (rest : List Value) : Bool := decide (y.rf + 1 ≤ d.rf) && decide (catSum rest + (y.maxL + 11) + y.rw ≤ d.rw)
/-- the arguments of a call, first to last, and what lies under them -/
def argsOf (n : Nat) (S : List Value) : Option (List Value × List Value) := if n ≤ S.length then some ((S.take n).reverse, S.drop n) else none
def recvOk (P : PD) (H : AHeap) (y : MD) (as : List Value) : Bool :=
  if y.kind = 0 then true else match as with
    | .ref o :: _ => match H[o]? with
      | some (.inl (c, _)) => decide (c = y.cid)
      | _ => false
    | _ => false
def nargs (y : MD) : Nat := if y.kind = 0 then y.npar else y.npar + 1
def invKind (i : Instr) (k : Nat) : Bool := match i with
  | .invokestatic _ => k == 0
  | .invokespecial _ => k == 1
  | .invokevirtual _ => k == 2 || k == 3
  | _ => false
/-- what a method returns of an int on its stack -/
def retV (r : Option FieldType) (x : Int32) : Option Value := match r with
  | some .int => some (.int x)
  | some .boolean => some (.int (x &&& 1))
  | _ => none
def isInv : Instr → Bool
  | .invokestatic _ => true
  | .invokespecial _ => true
  | .invokevirtual _ => true
  | _ => false
def isNew : Instr → Bool
  | .new _ => true
  | .newarray _ => true
  | _ => false
/-- what a run answers: what it returns, the heap, how many cells and slots it has made -/
abbrev Res := Option Value × AHeap × Nat × Nat
def addR (r : Res) (kc ks : Nat) : Res := (r.1, r.2.1, r.2.2.1 + kc, r.2.2.2 + ks)
/-- n instructions at the most, from pc of method mi to its return -/
def exe (P : PD) : Nat → Nat → Nat → List Slot → List Value → AHeap → Option Res
  | 0, _, _, _, _, _ => none
  | n + 1, mi, pc, L0, S, H => match P.mth[mi]? with
    | none => none
    | some d => match fetch d.code pc with
      | none => none
      | some (i, len, er, a, b) =>
        let L := forget er L0
        match i with
        | .goto o => match tgt pc o with
          | some q => exe P n mi q L S H
          | none => none
        | .if_icmp cd o => match S with
          | .int y :: .int x :: S' => if if_icmp.holds cd x y = true then match tgt pc o with
              | some q => exe P n mi q L S' H
              | none => none
            else exe P n mi (pc + 3) L S' H
          | _ => none
        | .ifCond cd o => match S with
          | .int x :: S' => if ifCond.holds cd x = true then match tgt pc o with
              | some q => exe P n mi q L S' H
              | none => none
            else exe P n mi (pc + 3) L S' H
          | _ => none
        | .ifnonnull o => match S with
          | .ref _ :: S' => match tgt pc o with
            | some q => exe P n mi q L S' H
            | none => none
          | _ => none
        | .ireturn => match S with
          | [.int x] => match retV d.ret x with
            | some v => some (some v, H, 0, 0)
            | none => none
          | _ => none
        | .lreturn => match S with
          | [.long x] => if d.ret = some .long then some (some (.long x), H, 0, 0) else none
          | _ => none
        | .return_ => match S with
          | [] => if d.ret = none then some (none, H, 0, 0) else none
          | _ => none
        | i => if isInv i = true then
            if b = -1 then match i, S with
              | .invokespecial _, .ref _ :: S' => if 1 ≤ d.rf ∧ catSum S' + 12 ≤ d.rw then exe P n mi (pc + 3) L S' H else none
              | _, _ => none
            else match P.mth[a]? with
              | none => none
              | some y => match argsOf (nargs y) S with
                | none => none
                | some (as, rest) =>
                  if decide (0 < a) && invKind i y.kind && recvOk P H y as && fitsRoom d y rest && decide ((entA as).length ≤ y.maxL) then
                    match exe P n a 0 (entL as y.maxL) [] H with
                    | some (v, H1, kc, ks) => (exe P n mi (pc + 3) L (v.toList ++ rest) H1).map fun r => addR r kc ks
                    | none => none
                  else none
          else if isNew i = true then match xN P i a S H with
            | some (S', H', ks) => (exe P n mi (pc + len) L S' H').map fun r => addR r 1 ks
            | none => none
          else match xI P (d.name.name == "<init>") d.cid i a b L S H with
            | some (L', S', H') => exe P n mi (pc + len) L' S' H'
            | none => none
end Jvm.Own
namespace Jvm.Own
open Jvm Jvm.ClassFile Sem Op Lib Jvm.Free Jvm.Stand Jvm.LawKit Jvm.RoadKit Bundle

/-! The words that the machine's program rests on -/
def fWord (C : String) (f : FD) : Jvm.Cond := if f.2.2.2 then .laysFinal C C f.1 f.2.1 else .lays C C f.1 f.2.1
def cWords (cd : CD) : List Jvm.Cond := .instantiable cd.1 cd.2.1 :: .initialized cd.1 :: cd.2.2.map (fWord cd.1)
def mWords (y : MD) : List Jvm.Cond := .code y.name y.bytes y.maxL y.ret :: .initialized y.name.cls ::
  (if y.kind = 0 then [.static y.name] else if y.kind = 1 then [.instanceMethod y.name] else if y.kind = 2 then [.instanceMethod y.name, .privateMethod y.name]
   else [.declares y.name, .selects y.name.cls y.name y.name, .instanceMethod y.name])
def fieldOf (P : PD) (c a : Nat) : Option FD := (P.cls[c]?).bind fun cd => cd.2.2[a]?
def fLink (P : PD) (d : MD) (k a : Nat) : List Jvm.Cond := match fieldOf P d.cid a with | some f => [.fieldLink d.name.cls k d.name.cls f.1 f.2.1] | none => []
def mLink (P : PD) (d : MD) (k a : Nat) (b : Int) : List Jvm.Cond :=
  if b = -1 then [.methodLink d.name.cls k Lib.objectInit, .instanceMethod Lib.objectInit, .code Lib.objectInit ⟨#[0xb1]⟩ 1 none]
  else match P.mth[a]? with | some y => [.methodLink d.name.cls k y.name] | none => []
def iWords (P : PD) (d : MD) (x : Nat × It) : List Jvm.Cond := match x with
  | (_, .getfield k, _, _, a, _) => fLink P d k a
  | (_, .putfield k, _, _, a, _) => fLink P d k a
  | (_, .ldc k, _, _, _, b) => [.constant d.name.cls k (Int32.ofInt b)]
  | (_, .ldc2_w k, _, _, _, b) => [.constantLong d.name.cls k (Int64.ofInt b)]
  | (_, .new k, _, _, a, _) => match P.cls[a]? with | some cd => [.classLink d.name.cls k cd.1] | none => []
  | (_, .newarray t, _, _, _, _) => [.arrayClass (newarray.typeOf t)]
  | (_, .invokestatic k, _, _, a, b) => mLink P d k a b
  | (_, .invokespecial k, _, _, a, b) => mLink P d k a b
  | (_, .invokevirtual k, _, _, a, b) => mLink P d k a b
  | _ => []
def wordsOf (P : PD) : List Jvm.Cond := P.cls.flatMap cWords ++ (P.mth.drop 1).flatMap mWords ++ P.mth.flatMap fun d => d.code.flatMap (iWords P d)
/-! What can be looked up in the program itself -/
def nodup : List String → Bool
  | [] => true
  | x :: r => !r.contains x && nodup r
def fChk (f : FD) : Bool := decide (parseFieldDescriptor f.2.1 = some f.2.2.1) && dfOk f.2.2.1
def cChk (cd : CD) : Bool := nodup (cd.2.2.map fun f => f.1) && cd.2.2.all fChk
def sigChk (y : MD) : Bool := match parseMethodDescriptor y.name.desc with
  | some g => decide (g.parameters.length = y.npar)
  | none => false
def lenOk (i : Instr) (n : Nat) : Bool := match i with
  | .aload _ | .iload _ | .lload _ | .istore _ | .astore _ | .lstore _ | .bipush _ | .ldc _ | .newarray _ => n == 2
  | .iinc _ _ | .sipush _ | .ldc2_w _ | .getfield _ | .putfield _ | .new _ | .goto _ | .if_icmp _ _ | .ifCond _ _ | .ifnonnull _ | .invokestatic _ | .invokespecial _ | .invokevirtual _ => n == 3
  | _ => n == 1
def codeChk (y : MD) : Bool := y.code.all fun x => decide (decode y.bytes x.1 = .ok (x.2.1, x.2.2.1)) && lenOk x.2.1 x.2.2.1
def clsChk (P : PD) (y : MD) : Bool := match P.cls[y.cid]? with | some cd => cd.1 == y.name.cls | none => y.kind == 0
def mChk (P : PD) (y : MD) : Bool := plainName y.name.cls && sigChk y && codeChk y && clsChk P y && decide (y.name.cls ≠ "java/lang/invoke/MethodHandle") && decide (y.name.cls ≠ "java/lang/invoke/VarHandle") && (y.kind != 1 || (y.name.name == "<init>" && decide (y.ret = none)))
def chk (P : PD) : Bool := P.cls.all cChk && P.mth.all (mChk P)

/-! Plain and real values -/
def VR (ρ : List Addr) : Value → Value → Prop
  | .ref k, w => ∃ a, ρ[k]? = some a ∧ w = .ref a
  | v, w => w = v
def SR (ρ : List Addr) : List Value → List Value → Prop
  | [], ws => ws = []
  | v :: vs, ws => ∃ w ws', ws = w :: ws' ∧ VR ρ v w ∧ SR ρ vs ws'
def OV (ρ : List Addr) : Option Value → Option Value → Prop
  | none, w => w = none
  | some v, w => ∃ u, w = some u ∧ VR ρ v u
def WFc (A : Array Slot) : Prop := (∀ (i : Nat) w, A[i]? = some (.val w) → w.category = 2 → A[i + 1]? = some .second) ∧ ∀ (i : Nat), A[i]? = some .second → ∃ j w, i = j + 1 ∧ A[j]? = some (.val w) ∧ w.category = 2
def SlR (ρ : List Addr) : Slot → Option Slot → Prop
  | .unset, _ => True
  | .second, o => o = some .second
  | .val v, o => ∃ w, VR ρ v w ∧ o = some (.val w)
def LR (ρ : List Addr) (L : List Slot) (A : Array Slot) : Prop := A.size = L.length ∧ WFc A ∧ ∀ (i : Nat) s, L[i]? = some s → SlR ρ s A[i]?
theorem VR.mono {ρ t : List Addr} {v w : Value} (h : VR ρ v w) : VR (ρ ++ t) v w := by
  cases v <;> first | exact h | skip
  obtain ⟨a, h1, h2⟩ := h
  exact ⟨a, by rw [List.getElem?_append_left (List.getElem?_eq_some_iff.mp h1).1]; exact h1, h2⟩
theorem SR.mono {ρ t : List Addr} : ∀ {v w : List Value}, SR ρ v w → SR (ρ ++ t) v w
  | [], _, h => h
  | _ :: _, _, ⟨w, ws, h1, h2, h3⟩ => ⟨w, ws, h1, h2.mono, SR.mono h3⟩
theorem SlR.mono {ρ t : List Addr} {s : Slot} {o : Option Slot} (h : SlR ρ s o) : SlR (ρ ++ t) s o := by
  cases s with
  | unset => trivial
  | second => exact h
  | val v => obtain ⟨w, h1, h2⟩ := h; exact ⟨w, h1.mono, h2⟩
theorem LR.mono {ρ t : List Addr} {L : List Slot} {A : Array Slot} (h : LR ρ L A) : LR (ρ ++ t) L A := ⟨h.1, h.2.1, fun i s q => (h.2.2 i s q).mono⟩
theorem VR.cat {ρ : List Addr} {v w : Value} (h : VR ρ v w) : w.category = v.category := by
  cases v <;> first | (obtain ⟨a, -, rfl⟩ := h; rfl) | (cases h; rfl)
theorem SR.cat {ρ : List Addr} : ∀ {v w : List Value}, SR ρ v w → (w.map fun v => v.category).sum = catSum v
  | [], _, h => by cases h; rfl
  | _ :: _, _, ⟨w, ws, h1, h2, h3⟩ => by subst h1; simp [catSum, h2.cat, SR.cat h3]
theorem SR.len {ρ : List Addr} : ∀ {v w : List Value}, SR ρ v w → w.length = v.length
  | [], _, h => by cases h; rfl
  | _ :: _, _, ⟨w, ws, h1, h2, h3⟩ => by subst h1; simp [SR.len h3]
theorem SR.app {ρ : List Addr} : ∀ {v w v' w' : List Value}, SR ρ v w → SR ρ v' w' → SR ρ (v ++ v') (w ++ w')
  | [], _, _, _, h, h' => by cases h; exact h'
  | _ :: _, _, _, _, ⟨w, ws, h1, h2, h3⟩, h' => by subst h1; exact ⟨w, ws ++ _, rfl, h2, SR.app h3 h'⟩
theorem SR.rev {ρ : List Addr} : ∀ {v w : List Value}, SR ρ v w → SR ρ v.reverse w.reverse
  | [], _, h => by cases h; exact rfl
  | _ :: _, _, ⟨w, ws, h1, h2, h3⟩ => by subst h1; simp only [List.reverse_cons]; exact (SR.rev h3).app ⟨w, [], rfl, h2, rfl⟩
theorem SR.take {ρ : List Addr} : ∀ (n : Nat) {v w : List Value}, SR ρ v w → SR ρ (v.take n) (w.take n)
  | 0, _, _, _ => rfl
  | n + 1, [], _, h => by cases h; exact rfl
  | n + 1, _ :: _, _, ⟨w, ws, h1, h2, h3⟩ => by subst h1; exact ⟨w, _, rfl, h2, SR.take n h3⟩
theorem SR.drop {ρ : List Addr} : ∀ (n : Nat) {v w : List Value}, SR ρ v w → SR ρ (v.drop n) (w.drop n)
  | 0, _, _, h => h
  | n + 1, [], _, h => by cases h; exact rfl
  | n + 1, _ :: _, _, ⟨w, ws, h1, h2, h3⟩ => by subst h1; exact SR.drop n h3
theorem OV.list {ρ : List Addr} {v w : Option Value} (h : OV ρ v w) : SR ρ v.toList w.toList := by
  cases v with
  | none => cases h; exact rfl
  | some v => obtain ⟨u, rfl, h⟩ := h; exact ⟨u, [], rfl, h, rfl⟩
theorem LR.get {ρ : List Addr} {L : List Slot} {A : Array Slot} (h : LR ρ L A) {k : Nat} {v : Value} (g : getL L k = some v) : ∃ w, VR ρ v w ∧ A[k]? = some (.val w) := by
  unfold getL at g
  split at g
  · rename_i u q
    cases g
    exact h.2.2 k _ q
  · cases g
theorem forget_get : ∀ (er : List Bool) (L : List Slot) (i : Nat) (s : Slot), (forget er L)[i]? = some s → s = .unset ∨ L[i]? = some s
  | [], L, i, s, h => Or.inr h
  | _ :: _, [], i, s, h => by simp [forget] at h
  | true :: r, t :: L, 0, s, h => by simp [forget] at h; exact Or.inl h.symm
  | false :: r, t :: L, 0, s, h => by simp [forget] at h; exact Or.inr (by simp [h])
  | true :: r, t :: L, i + 1, s, h => by simp [forget] at h; simpa using forget_get r L i s h
  | false :: r, t :: L, i + 1, s, h => by simp [forget] at h; simpa using forget_get r L i s h
theorem forget_len : ∀ (er : List Bool) (L : List Slot), (forget er L).length = L.length
  | [], _ => rfl
  | _ :: _, [] => rfl
  | true :: r, _ :: L => by simp [forget, forget_len r L]
  | false :: r, _ :: L => by simp [forget, forget_len r L]
theorem LR.forget {ρ : List Addr} {A : Array Slot} (er : List Bool) {L : List Slot} (h : LR ρ L A) : LR ρ (forget er L) A :=
  ⟨by rw [forget_len]; exact h.1, h.2.1, fun i s q => by
    rcases forget_get er L i s q with rfl | z
    · trivial
    · exact h.2.2 i s z⟩
/-! Stores -/
theorem setAt_ok {A : Array Slot} {i : Nat} (h : i < A.size) (x : Slot) : setAt A i x = some (A.setIfInBounds i x) := by simp [setAt, h]
theorem get_set (A : Array Slot) (i j : Nat) (x : Slot) : (A.setIfInBounds i x)[j]? = if i = j then (if i < A.size then some x else none) else A[j]? := by
  rw [Array.getElem?_setIfInBounds]
theorem sl_unset {A : Array Slot} {k : Nat} {w : Value} (h : A[k]? = some .unset) : storeLocals A k w = storeSelf A k w := by
  unfold storeLocals; rw [h]; rfl
theorem sl_second {A : Array Slot} {k : Nat} {w : Value} (h : A[k]? = some .second) (hk : k - 1 < A.size) : storeLocals A k w = storeSelf (A.setIfInBounds (k - 1) .unset) k w := by
  unfold storeLocals; rw [h]
  show (setAt A (k - 1) .unset).bind _ = _
  rw [setAt_ok hk]; rfl
theorem sl_val2 {A : Array Slot} {k : Nat} {w u : Value} (h : A[k]? = some (.val u)) (hu : u.category = 2) (hk : k + 1 < A.size) : storeLocals A k w = storeSelf (A.setIfInBounds (k + 1) .unset) k w := by
  unfold storeLocals; rw [h]
  show (if u.category = 2 then (setAt A (k + 1) .unset).bind _ else _) = _
  rw [if_pos hu, setAt_ok hk]; rfl
theorem sl_val1 {A : Array Slot} {k : Nat} {w u : Value} (h : A[k]? = some (.val u)) (hu : ¬ u.category = 2) : storeLocals A k w = storeSelf A k w := by
  unfold storeLocals; rw [h]
  show (if u.category = 2 then (setAt A (k + 1) .unset).bind _ else _) = _
  rw [if_neg hu]
theorem ss_1 {A : Array Slot} {k : Nat} {w : Value} (hk : k < A.size) (hw : ¬ w.category = 2) : storeSelf A k w = some (A.setIfInBounds k (.val w)) := by
  unfold storeSelf; rw [setAt_ok hk]
  show (if w.category = 2 then _ else _) = _
  rw [if_neg hw]
theorem ss_2c {A : Array Slot} {k : Nat} {w u : Value} (hk : k < A.size) (hk1 : k + 1 < A.size) (hk2 : k + 2 < A.size) (hw : w.category = 2) (h : (A.setIfInBounds k (.val w))[k + 1]? = some (.val u)) (hu : u.category = 2) : storeSelf A k w = some (((A.setIfInBounds k (.val w)).setIfInBounds (k + 2) .unset).setIfInBounds (k + 1) .second) := by
  unfold storeSelf; rw [setAt_ok hk]
  show (if w.category = 2 then _ else _) = _
  rw [if_pos hw, h]
  show (if u.category = 2 then (setAt _ (k + 2) .unset).bind _ else _) = _
  rw [if_pos hu, setAt_ok (by simpa using hk2)]
  exact setAt_ok (by simpa using hk1) _
theorem ss_2 {A : Array Slot} {k : Nat} {w : Value} {o : Slot} (hk : k < A.size) (hk1 : k + 1 < A.size) (hw : w.category = 2) (h : (A.setIfInBounds k (.val w))[k + 1]? = some o) (ho : ¬ ∃ u, o = .val u ∧ u.category = 2) : storeSelf A k w = some ((A.setIfInBounds k (.val w)).setIfInBounds (k + 1) .second) := by
  unfold storeSelf; rw [setAt_ok hk]
  show (if w.category = 2 then _ else _) = _
  rw [if_pos hw, h]
  cases o with
  | unset => exact setAt_ok (by simpa using hk1) _
  | second => exact setAt_ok (by simpa using hk1) _
  | val u =>
    show (if u.category = 2 then _ else _) = _
    rw [if_neg fun z => ho ⟨u, rfl, z⟩]
    exact setAt_ok (by simpa using hk1) _
theorem store1_sim {ρ : List Addr} {L : List Slot} {A : Array Slot} (h : LR ρ L A) {k : Nat} {v w : Value} {L' : List Slot} (hs : st1 L k v = some L') (hv : VR ρ v w) (hc : w.category = 1) : ∃ A', storeLocals A k w = some A' ∧ LR ρ L' A' := by
  unfold st1 at hs
  split at hs
  · rename_i q
    cases hs
    simp only [Bool.and_eq_true] at q
    obtain ⟨⟨q1, q2⟩, q3⟩ := q
    obtain ⟨hA, ⟨w1, w2⟩, hl⟩ := h
    have hk : k < L.length := by
      rcases Nat.lt_or_ge k L.length with z | z
      · exact z
      · rw [List.getElem?_eq_none z] at q1; cases q1
    have hkA : k < A.size := hA ▸ hk
    obtain ⟨sl, hsl⟩ : ∃ sl, A[k]? = some sl := ⟨A[k], Array.getElem?_eq_getElem hkA⟩
    have hc2 : ¬ w.category = 2 := by rw [hc]; decide
    classical
    have key : ∃ A', storeLocals A k w = some A' ∧ A'.size = A.size ∧ (∀ j, A'[j]? = if j = k then some (.val w) else if (sl = .second ∧ j + 1 = k) ∨ ((∃ u, sl = .val u ∧ u.category = 2) ∧ j = k + 1) then some .unset else A[j]?) := by
      cases sl with
      | unset =>
        refine ⟨A.setIfInBounds k (.val w), by rw [sl_unset hsl]; exact ss_1 hkA hc2, by simp, fun j => ?_⟩
        rw [get_set]
        by_cases e : k = j
        · subst e; simp [hkA]
        · have e' : ¬ j = k := fun z => e z.symm
          simp [e, e']
      | second =>
        obtain ⟨j0, u, rfl, g1, g2⟩ := w2 k hsl
        refine ⟨(A.setIfInBounds j0 .unset).setIfInBounds (j0 + 1) (.val w), by rw [sl_second hsl (show j0 + 1 - 1 < A.size by omega)]; exact ss_1 (by simpa using hkA) hc2, by simp, fun j => ?_⟩
        rw [get_set, get_set]
        by_cases e : j0 + 1 = j
        · subst e; simp [hkA]
        · by_cases e2 : j0 = j
          · subst e2; simp; omega
          · have e' : ¬ j = j0 + 1 := fun z => e z.symm
            have e2' : ¬ j = j0 := fun z => e2 z.symm
            simp [e, e', e2, e2']
      | val u =>
        by_cases hu : u.category = 2
        · have g := w1 k u hsl hu
          have hk1 : k + 1 < A.size := (Array.getElem?_eq_some_iff.mp g).1
          refine ⟨(A.setIfInBounds (k + 1) .unset).setIfInBounds k (.val w), by rw [sl_val2 hsl hu hk1]; exact ss_1 (by simpa using hkA) hc2, by simp, fun j => ?_⟩
          rw [get_set, get_set]
          by_cases e : k = j
          · subst e; simp [hkA]
          · have e' : ¬ j = k := fun z => e z.symm
            by_cases e2 : k + 1 = j
            · subst e2; simp [hk1, hu]
            · have e2' : ¬ j = k + 1 := fun z => e2 z.symm
              simp [e, e', e2, e2']
        · refine ⟨A.setIfInBounds k (.val w), by rw [sl_val1 hsl hu]; exact ss_1 hkA hc2, by simp, fun j => ?_⟩
          rw [get_set]
          by_cases e : k = j
          · subst e; simp [hkA]
          · have e' : ¬ j = k := fun z => e z.symm
            simp [e, e', hu]
    obtain ⟨A', k1, k2, k3⟩ := key
    refine ⟨A', k1, by rw [k2, hA]; simp, ⟨fun i u g1 g2 => ?_, fun i g1 => ?_⟩, fun i s g => ?_⟩
    · rw [k3] at g1
      split at g1
      · cases g1; exact absurd g2 hc2
      · rename_i e1
        split at g1
        · cases g1
        · rename_i e2
          have g3 := w1 i u g1 g2
          rw [k3]
          split
          · rename_i e3
            have : sl = .second := by rw [← e3] at hsl; exact Option.some.inj (hsl.symm.trans g3)
            exact absurd (Or.inl ⟨this, e3⟩) e2
          · rename_i e3
            split
            · rename_i e4
              rcases e4 with ⟨z1, z2⟩ | ⟨⟨u', z1, z2⟩, z3⟩
              · exfalso
                have : k = i + 1 + 1 := z2.symm
                subst this
                rw [z1] at hsl
                obtain ⟨j0, u0, y1, y2, y3⟩ := w2 _ hsl
                have : j0 = i + 1 := by omega
                subst this
                rw [g3] at y2; cases y2
              · exact absurd (by omega) e1
            · exact g3
    · rw [k3] at g1
      split at g1
      · cases g1
      · rename_i e1
        split at g1
        · cases g1
        · rename_i e2
          obtain ⟨j, u, z1, z2, z3⟩ := w2 i g1
          refine ⟨j, u, z1, ?_, z3⟩
          rw [k3]
          split
          · rename_i e3
            subst e3
            have : sl = .val u := Option.some.inj (hsl.symm.trans z2)
            exact absurd (Or.inr ⟨⟨u, this, z3⟩, z1⟩) e2
          · split
            · rename_i e3 e4
              rcases e4 with ⟨y1, y2⟩ | ⟨⟨u', y1, y2⟩, y3⟩
              · exact absurd (z1.trans y2) e1
              · subst y3
                have g5 := w1 k u' (y1 ▸ hsl) y2
                rw [z2] at g5; cases g5
            · exact z2
    · rw [List.getElem?_set] at g
      split at g
      · rename_i e
        subst e
        cases g
        exact ⟨w, hv, by rw [k3]; simp⟩
      · rename_i e
        have e' : ¬ i = k := fun z => e z.symm
        have g2 := hl i s g
        rw [k3, if_neg e']
        split
        · rename_i e4
          cases s with
          | unset => trivial
          | second =>
            exfalso
            have g2' : A[i]? = some .second := g2
            rcases e4 with ⟨y1, y2⟩ | ⟨⟨u', y1, y2⟩, y3⟩
            · obtain ⟨j0, u0, x1, x2, x3⟩ := w2 k (y1 ▸ hsl)
              have : i = j0 := by omega
              subst this
              rw [x2] at g2'; cases g2'
            · subst y3
              rw [g] at q3
              simp [isSec] at q3
          | val v0 =>
            exfalso
            obtain ⟨w0, x1, x2⟩ := g2
            rcases e4 with ⟨y1, y2⟩ | ⟨⟨u', y1, y2⟩, y3⟩
            · obtain ⟨j0, u0, z1, z2, z3⟩ := w2 k (y1 ▸ hsl)
              have : i = j0 := by omega
              subst this
              have hw0 : w0 = u0 := by rw [x2] at z2; cases z2; rfl
              have hcat : v0.category = 2 := by rw [← x1.cat, hw0]; exact z3
              subst y2
              have : L[i + 1 - 1]? = some (.val v0) := g
              rw [this] at q2
              simp [isC2, hcat] at q2
            · subst y3
              have g5 := w1 k u' (y1 ▸ hsl) y2
              rw [x2] at g5; cases g5
        · exact g2
  · cases hs
end Jvm.Own
namespace Jvm.Own
open Jvm Jvm.ClassFile Sem Op Lib Jvm.Free Jvm.Stand Jvm.LawKit Jvm.RoadKit Bundle
theorem store2_sim {ρ : List Addr} {L : List Slot} {A : Array Slot} (h : LR ρ L A) {k : Nat} {v w : Value} {L' : List Slot} (hs : st2 L k v = some L') (hv : VR ρ v w) (hc : w.category = 2) : ∃ A', storeLocals A k w = some A' ∧ LR ρ L' A' := by
  unfold st2 at hs
  split at hs
  · rename_i q
    cases hs
    simp only [Bool.and_eq_true] at q
    obtain ⟨⟨q1, q2⟩, q3⟩ := q
    obtain ⟨hA, ⟨w1, w2⟩, hl⟩ := h
    have hk1 : k + 1 < L.length := by
      rcases Nat.lt_or_ge (k + 1) L.length with z | z
      · exact z
      · rw [List.getElem?_eq_none z] at q1
        cases h0 : L[k]? with
        | none => rw [h0] at q1; cases q1
        | some s0 => rw [h0] at q1; cases s0 <;> cases q1
    have hk : k < L.length := by omega
    have hkA : k < A.size := hA ▸ hk
    have hkA1 : k + 1 < A.size := hA ▸ hk1
    obtain ⟨sl, hsl⟩ : ∃ sl, A[k]? = some sl := ⟨A[k], Array.getElem?_eq_getElem hkA⟩
    obtain ⟨sm, hsm⟩ : ∃ sm, A[k + 1]? = some sm := ⟨A[k + 1], Array.getElem?_eq_getElem hkA1⟩
    have n1 : ¬ k = k + 1 := by omega
    have n2 : ¬ k + 2 = k + 1 := by omega
    have n3 : ¬ k + 2 = k := by omega
    classical
    have key : ∃ A', storeLocals A k w = some A' ∧ A'.size = A.size ∧ (∀ j, A'[j]? = if j = k then some (.val w) else if j = k + 1 then some .second else if (sl = .second ∧ j + 1 = k) ∨ ((∃ u, sm = .val u ∧ u.category = 2) ∧ j = k + 2) then some .unset else A[j]?) := by
      by_cases hm : ∃ u, sm = .val u ∧ u.category = 2
      · obtain ⟨u, rfl, hu⟩ := hm
        have g := w1 (k + 1) u hsm hu
        have hk2 : k + 2 < A.size := (Array.getElem?_eq_some_iff.mp g).1
        cases sl with
        | unset =>
          refine ⟨((A.setIfInBounds k (.val w)).setIfInBounds (k + 2) .unset).setIfInBounds (k + 1) .second, ?_, by simp, fun j => ?_⟩
          · rw [sl_unset hsl]; exact ss_2c hkA hkA1 hk2 hc (by rw [get_set, if_neg n1]; exact hsm) hu
          · rw [get_set, get_set, get_set]
            by_cases e0 : j = k
            · subst e0; simp [hkA]
            · by_cases e1 : j = k + 1
              · subst e1; simp [hkA1]
              · by_cases e2 : j = k + 2
                · subst e2; simp [hk2, hu]
                · have e0' : ¬ k = j := fun z => e0 z.symm
                  have e1' : ¬ k + 1 = j := fun z => e1 z.symm
                  have e2' : ¬ k + 2 = j := fun z => e2 z.symm
                  simp [e0, e1, e2, e0', e1', e2']
        | second =>
          obtain ⟨j0, u0, rfl, g1, g2⟩ := w2 k hsl
          have hj0 : j0 < A.size := by omega
          refine ⟨(((A.setIfInBounds j0 .unset).setIfInBounds (j0 + 1) (.val w)).setIfInBounds (j0 + 1 + 2) .unset).setIfInBounds (j0 + 1 + 1) .second, ?_, by simp, fun j => ?_⟩
          · have m1 : ¬ j0 + 1 = j0 + 1 + 1 := by omega
            have m2 : ¬ j0 = j0 + 1 + 1 := by omega
            rw [sl_second hsl (show j0 + 1 - 1 < A.size by omega)]
            exact ss_2c (by simpa using hkA) (by simpa using hkA1) (by simpa using hk2) hc (by rw [get_set, if_neg m1, get_set, if_neg (by omega)]; exact hsm) hu
          · rw [get_set, get_set, get_set, get_set]
            by_cases e0 : j = j0 + 1
            · subst e0; simp [hkA]
            · by_cases e1 : j = j0 + 1 + 1
              · subst e1; simp [hkA1]
              · by_cases e2 : j = j0 + 1 + 2
                · subst e2; simp [hk2, hu]
                · by_cases e3 : j = j0
                  · subst e3
                    rw [if_neg (by omega), if_neg (by omega), if_neg (by omega), if_pos rfl, if_pos hj0, if_neg (by omega), if_neg (by omega), if_pos (Or.inl ⟨rfl, rfl⟩)]
                  · have e0' : ¬ j0 + 1 = j := fun z => e0 z.symm
                    have e1' : ¬ j0 + 1 + 1 = j := fun z => e1 z.symm
                    have e2' : ¬ j0 + 1 + 2 = j := fun z => e2 z.symm
                    have e3' : ¬ j0 = j := fun z => e3 z.symm
                    simp [e0, e1, e2, e3, e0', e1', e2', e3']
        | val u1 =>
          have hu1 : ¬ u1.category = 2 := fun z => by have := w1 k u1 hsl z; rw [hsm] at this; cases this
          refine ⟨((A.setIfInBounds k (.val w)).setIfInBounds (k + 2) .unset).setIfInBounds (k + 1) .second, ?_, by simp, fun j => ?_⟩
          · rw [sl_val1 hsl hu1]; exact ss_2c hkA hkA1 hk2 hc (by rw [get_set, if_neg n1]; exact hsm) hu
          · rw [get_set, get_set, get_set]
            by_cases e0 : j = k
            · subst e0; simp [hkA]
            · by_cases e1 : j = k + 1
              · subst e1; simp [hkA1]
              · by_cases e2 : j = k + 2
                · subst e2; simp [hk2, hu]
                · have e0' : ¬ k = j := fun z => e0 z.symm
                  have e1' : ¬ k + 1 = j := fun z => e1 z.symm
                  have e2' : ¬ k + 2 = j := fun z => e2 z.symm
                  simp [e0, e1, e2, e0', e1', e2']
      · cases sl with
        | unset =>
          refine ⟨(A.setIfInBounds k (.val w)).setIfInBounds (k + 1) .second, ?_, by simp, fun j => ?_⟩
          · rw [sl_unset hsl]; exact ss_2 hkA hkA1 hc (by rw [get_set, if_neg n1]; exact hsm) hm
          · rw [get_set, get_set]
            by_cases e0 : j = k
            · subst e0; simp [hkA]
            · by_cases e1 : j = k + 1
              · subst e1; simp [hkA1]
              · have e0' : ¬ k = j := fun z => e0 z.symm
                have e1' : ¬ k + 1 = j := fun z => e1 z.symm
                simp [e0, e1, e0', e1', hm]
        | second =>
          obtain ⟨j0, u0, rfl, g1, g2⟩ := w2 k hsl
          have hj0 : j0 < A.size := by omega
          have m1 : ¬ j0 + 1 = j0 + 1 + 1 := by omega
          have m2 : ¬ j0 = j0 + 1 + 1 := by omega
          refine ⟨((A.setIfInBounds j0 .unset).setIfInBounds (j0 + 1) (.val w)).setIfInBounds (j0 + 1 + 1) .second, ?_, by simp, fun j => ?_⟩
          · rw [sl_second hsl (show j0 + 1 - 1 < A.size by omega)]
            exact ss_2 (by simpa using hkA) (by simpa using hkA1) hc (by rw [get_set, if_neg m1, get_set, if_neg (by omega)]; exact hsm) hm
          · rw [get_set, get_set, get_set]
            by_cases e0 : j = j0 + 1
            · subst e0; simp [hkA]
            · by_cases e1 : j = j0 + 1 + 1
              · subst e1; simp [hkA1]
              · by_cases e3 : j = j0
                · subst e3
                  rw [if_neg (by omega), if_neg (by omega), if_pos rfl, if_pos hj0, if_neg (by omega), if_neg (by omega), if_pos (Or.inl ⟨rfl, rfl⟩)]
                · have e0' : ¬ j0 + 1 = j := fun z => e0 z.symm
                  have e1' : ¬ j0 + 1 + 1 = j := fun z => e1 z.symm
                  have e3' : ¬ j0 = j := fun z => e3 z.symm
                  simp [e0, e1, e3, e0', e1', e3', hm]
        | val u1 =>
          by_cases hu1 : u1.category = 2
          · refine ⟨((A.setIfInBounds (k + 1) .unset).setIfInBounds k (.val w)).setIfInBounds (k + 1) .second, ?_, by simp, fun j => ?_⟩
            · rw [sl_val2 hsl hu1 hkA1]
              exact ss_2 (o := .unset) (by simpa using hkA) (by simpa using hkA1) hc (by rw [get_set, if_neg n1, get_set, if_pos rfl, if_pos hkA1]) (by rintro ⟨u, z, -⟩; cases z)
            · rw [get_set, get_set, get_set]
              by_cases e0 : j = k
              · subst e0; simp [hkA]
              · by_cases e1 : j = k + 1
                · subst e1; simp [hkA1]
                · have e0' : ¬ k = j := fun z => e0 z.symm
                  have e1' : ¬ k + 1 = j := fun z => e1 z.symm
                  simp [e0, e1, e0', e1', hm]
          · refine ⟨(A.setIfInBounds k (.val w)).setIfInBounds (k + 1) .second, ?_, by simp, fun j => ?_⟩
            · rw [sl_val1 hsl hu1]; exact ss_2 hkA hkA1 hc (by rw [get_set, if_neg n1]; exact hsm) hm
            · rw [get_set, get_set]
              by_cases e0 : j = k
              · subst e0; simp [hkA]
              · by_cases e1 : j = k + 1
                · subst e1; simp [hkA1]
                · have e0' : ¬ k = j := fun z => e0 z.symm
                  have e1' : ¬ k + 1 = j := fun z => e1 z.symm
                  simp [e0, e1, e0', e1', hm]
    obtain ⟨A', k1, k2, k3⟩ := key
    refine ⟨A', k1, by rw [k2, hA]; simp, ⟨fun i u g1 g2 => ?_, fun i g1 => ?_⟩, fun i s g => ?_⟩
    · by_cases e1 : i = k
      · subst e1; rw [k3]; simp
      · have g1' := g1
        rw [k3, if_neg e1] at g1'
        split at g1'
        · cases g1'
        · rename_i e2
          split at g1'
          · cases g1'
          · rename_i e4
            have g3 := w1 i u g1' g2
            rw [k3]
            have c1 : ¬ i + 1 = k := fun e3 => by
              have : sl = .second := by rw [← e3] at hsl; exact Option.some.inj (hsl.symm.trans g3)
              exact e4 (Or.inl ⟨this, e3⟩)
            have c2 : ¬ i + 1 = k + 1 := by omega
            have c3 : ¬ ((sl = .second ∧ i + 1 + 1 = k) ∨ ((∃ u, sm = .val u ∧ u.category = 2) ∧ i + 1 = k + 2)) := fun z => by
              rcases z with ⟨z1, z2⟩ | ⟨z1, z2⟩
              · subst z2
                rw [z1] at hsl
                obtain ⟨j0, u0, y1, y2, y3⟩ := w2 _ hsl
                have : j0 = i + 1 := by omega
                subst this
                rw [g3] at y2; cases y2
              · omega
            rw [if_neg c1, if_neg c2, if_neg c3]
            exact g3
    · rw [k3] at g1
      split at g1
      · cases g1
      · rename_i e1
        split at g1
        · rename_i e2
          exact ⟨k, w, e2, by rw [k3]; simp, hc⟩
        · rename_i e2
          split at g1
          · cases g1
          · rename_i e4
            obtain ⟨j, u, z1, z2, z3⟩ := w2 i g1
            refine ⟨j, u, z1, ?_, z3⟩
            rw [k3]
            have c1 : ¬ j = k := by omega
            have c2 : ¬ j = k + 1 := fun e => by
              subst e
              exact e4 (Or.inr ⟨⟨u, Option.some.inj (hsm.symm.trans z2), z3⟩, by omega⟩)
            have c3 : ¬ ((sl = .second ∧ j + 1 = k) ∨ ((∃ u, sm = .val u ∧ u.category = 2) ∧ j = k + 2)) := fun z => by
              rcases z with ⟨y1, y2⟩ | ⟨⟨u', y1, y2⟩, y3⟩
              · exact e1 (z1.trans y2)
              · subst y3
                have g5 := w1 (k + 1) u' (y1 ▸ hsm) y2
                rw [z2] at g5; cases g5
            rw [if_neg c1, if_neg c2, if_neg c3]
            exact z2
    · rw [List.getElem?_set] at g
      split at g
      · rename_i e
        subst e
        have : k + 1 < (L.set k (.val v)).length := by simp [hk1]
        rw [if_pos this] at g
        cases g
        show A'[k + 1]? = some .second
        rw [k3]; simp
      · rename_i e
        have e' : ¬ i = k + 1 := fun z => e z.symm
        rw [List.getElem?_set] at g
        split at g
        · rename_i e0
          subst e0
          cases g
          exact ⟨w, hv, by rw [k3]; simp⟩
        · rename_i e0
          have e0' : ¬ i = k := fun z => e0 z.symm
          have g2 := hl i s g
          rw [k3, if_neg e0', if_neg e']
          split
          · rename_i e4
            cases s with
            | unset => trivial
            | second =>
              exfalso
              have g2' : A[i]? = some .second := g2
              rcases e4 with ⟨y1, y2⟩ | ⟨⟨u', y1, y2⟩, y3⟩
              · obtain ⟨j0, u0, x1, x2, x3⟩ := w2 k (y1 ▸ hsl)
                have : i = j0 := by omega
                subst this
                rw [x2] at g2'; cases g2'
              · subst y3
                rw [g] at q3
                simp [isSec] at q3
            | val v0 =>
              exfalso
              obtain ⟨w0, x1, x2⟩ := g2
              rcases e4 with ⟨y1, y2⟩ | ⟨⟨u', y1, y2⟩, y3⟩
              · obtain ⟨j0, u0, z1, z2, z3⟩ := w2 k (y1 ▸ hsl)
                have : i = j0 := by omega
                subst this
                have hw0 : w0 = u0 := by rw [x2] at z2; cases z2; rfl
                have hcat : v0.category = 2 := by rw [← x1.cat, hw0]; exact z3
                subst y2
                have : L[i + 1 - 1]? = some (.val v0) := g
                rw [this] at q2
                simp [isC2, hcat] at q2
              · subst y3
                have g5 := w1 (k + 1) u' (y1 ▸ hsm) y2
                rw [x2] at g5; cases g5
          · exact g2
  · cases hs
/-! The frame with which a method is entered -/
theorem entA_app (ws : List Value) : ∀ acc : Array Slot, ws.foldl (fun acc v => if v.category = 2 then (acc.push (.val v)).push .second else acc.push (.val v)) acc = acc ++ (entA ws).toArray := by
  induction ws with
  | nil => intro acc; simp [entA]
  | cons v r ih =>
    intro acc
    rw [List.foldl_cons, ih]
    show _ = acc ++ (if v.category = 2 then .val v :: .second :: entA r else .val v :: entA r).toArray
    by_cases h : v.category = 2
    · rw [if_pos h, if_pos h]; simp
    · rw [if_neg h, if_neg h]; simp
theorem argsToLocals_eq (ws : List Value) (n : Nat) : argsToLocals ws.toArray n = (entL ws n).toArray := by
  unfold argsToLocals entL
  have h := entA_app ws #[]
  simp only [List.foldl_toArray', List.size_toArray] at *
  simp [h]
theorem entA_len {ρ : List Addr} : ∀ {v w : List Value}, SR ρ v w → (entA w).length = (entA v).length
  | [], _, h => by cases h; rfl
  | _ :: _, _, ⟨w, ws, h1, h2, h3⟩ => by
    subst h1
    unfold entA
    rw [h2.cat]
    split <;> simp [entA_len h3]
theorem entA_rel {ρ : List Addr} : ∀ {v w : List Value}, SR ρ v w → ∀ (m i : Nat) (s : Slot), (entA v ++ List.replicate m .unset)[i]? = some s → SlR ρ s (entA w ++ List.replicate m .unset)[i]?
  | [], _, h, m, i, s, q => by
    cases h
    simp only [entA, List.nil_append] at q ⊢
    rw [List.getElem?_replicate] at q
    split at q
    · cases q; trivial
    · cases q
  | v :: vs, _, ⟨w, ws, h1, h2, h3⟩, m, i, s, q => by
    subst h1
    unfold entA at q ⊢
    rw [h2.cat]
    split
    · rename_i c
      rw [if_pos c] at q
      match i, q with
      | 0, q => simp at q; subst q; exact ⟨w, h2, by simp⟩
      | 1, q => simp at q; subst q; simp [SlR]
      | i + 2, q => simp at q ⊢; exact entA_rel h3 m i s q
    · rename_i c
      rw [if_neg c] at q
      match i, q with
      | 0, q => simp at q; subst q; exact ⟨w, h2, by simp⟩
      | i + 1, q => simp at q ⊢; exact entA_rel h3 m i s q
theorem entA_wf : ∀ (ws : List Value) (m : Nat), (∀ (i : Nat) w, (entA ws ++ List.replicate m .unset)[i]? = some (.val w) → w.category = 2 → (entA ws ++ List.replicate m .unset)[i + 1]? = some .second) ∧
    ∀ (i : Nat), (entA ws ++ List.replicate m .unset)[i]? = some .second → ∃ j w, i = j + 1 ∧ (entA ws ++ List.replicate m .unset)[j]? = some (.val w) ∧ w.category = 2
  | [], m => by
    constructor
    · intro i w q
      simp only [entA, List.nil_append, List.getElem?_replicate] at q
      split at q <;> cases q
    · intro i q
      simp only [entA, List.nil_append, List.getElem?_replicate] at q
      split at q <;> cases q
  | v :: vs, m => by
    obtain ⟨h1, h2⟩ := entA_wf vs m
    unfold entA
    split
    · rename_i c
      constructor
      · intro i w q
        match i, q with
        | 0, q => intro _; simp
        | 1, q => simp at q
        | i + 2, q => simp at q ⊢; exact h1 i w q
      · intro i q
        match i, q with
        | 0, q => simp at q
        | 1, q => exact ⟨0, v, rfl, by simp, c⟩
        | i + 2, q =>
          simp at q
          obtain ⟨j, w, e, g1, g2⟩ := h2 i q
          exact ⟨j + 2, w, by omega, by simpa using g1, g2⟩
    · rename_i c
      constructor
      · intro i w q
        match i, q with
        | 0, q => intro z; simp at q; subst q; exact absurd z c
        | i + 1, q => simp at q ⊢; exact h1 i w q
      · intro i q
        match i, q with
        | 0, q => simp at q
        | i + 1, q =>
          simp at q
          obtain ⟨j, w, e, g1, g2⟩ := h2 i q
          exact ⟨j + 1, w, by omega, by simpa using g1, g2⟩
theorem LR.enter {ρ : List Addr} {v w : List Value} (h : SR ρ v w) {n : Nat} (hn : (entA v).length ≤ n) : LR ρ (entL v n) (argsToLocals w.toArray n) ∧ (argsToLocals w.toArray n).size = n := by
  rw [argsToLocals_eq]
  have hl := entA_len h
  refine ⟨⟨by simp [entL, hl], ?_, fun i s q => ?_⟩, by simp [entL, hl]; omega⟩
  · obtain ⟨h1, h2⟩ := entA_wf w (n - (entA w).length)
    exact ⟨fun i u q c => by simpa [entL] using h1 i u (by simpa [entL] using q) c, fun i q => by
      obtain ⟨j, u, e, g1, g2⟩ := h2 i (by simpa [entL] using q)
      exact ⟨j, u, e, by simpa [entL] using g1, g2⟩⟩
  · unfold entL at q ⊢
    rw [hl]
    simpa using entA_rel h _ i s q
end Jvm.Own
namespace Jvm.RoadKit
open Sem ClassFile Op Lib Jvm.Stand Jvm.Free Jvm.LawKit
section New
variable {p : Program} {l : Launch} {e : Env} {R : Room} {s : State} {m : MethodId} {args : Array Value} {below : List Frame} {meth : Method} {c : Code} {T : State} {locs : List Loc} {cells slots : Nat}
theorem retI (X : Stand p l e R s m args below meth c T locs cells slots) (hx : p.tables.exec = Jvm.exec) {pc : Nat} {Ls : Array Slot} {z : Int32} {rest : List Value} (hret : meth.sig.returnType = some .int) (hd : decode c.code pc = .ok (.ireturn, 1)) {fs : List Frame}
    (hl : ∀ (f : JFrame) (acts : List Action), f.method = m → f.locked = none → f.entered = [] → (doReturn e (T.setTop f) acts (some (.int z))).1 = T.setFrames fs) : Steps p.tables e below (T.setTop (mkF m pc Ls (.int z :: rest))) (T.setFrames fs) := by
  have hm' : T.vm.method? m = some meth := X.method'
  have hn : narrow .int (.int z) = .int z := rfl
  show Steps p.tables e below (T.setTop { method := m, pc := pc, locals := Ls, stack := _ :: rest, locked := none }) _
  jvm_step X.here [X.here.top, hx, hd, hm', hret, hn]
  first | (intro acts; rw [hl _ acts rfl rfl rfl]) | rw [hl _ _ rfl rfl rfl]
  exact Steps.refl _
end New
end Jvm.RoadKit
namespace Jvm.Own
open Jvm Jvm.ClassFile Sem Op Lib Jvm.Free Jvm.Stand Jvm.LawKit Jvm.RoadKit Bundle
/-! The plain heap and the real one -/
def tyA (b : Bool) : FieldType := if b then .boolean else .int
def CR (P : PD) (Z : State) (h : Heap) (ρ : List Addr) (a : Addr) : ACell → Prop
  | .inl (c, fs) => ∃ cd, P.cls[c]? = some cd ∧ Exa Z h a cd.1 ∧ fs.length = cd.2.2.length ∧ ∀ (i : Nat) v fd, fs[i]? = some v → cd.2.2[i]? = some fd → ∃ w, VR ρ v w ∧ Fld Z h a cd.1 fd.1 fd.2.1 w
  | .inr (.inl (b, L)) => ∃ cl, Arr Z h a cl (tyA b) ∧ cl.slots.size = L.length ∧ L.length < 2 ^ 31 ∧ ∀ (i : Nat) x, L[i]? = some x → cl.slots[i]? = some (.int x)
  | .inr (.inr L) => ∃ cl, Arr Z h a cl .long ∧ cl.slots.size = L.length ∧ L.length < 2 ^ 31 ∧ ∀ (i : Nat) x, L[i]? = some x → cl.slots[i]? = some (.long x)
def HR (P : PD) (Z : State) (n0 : Nat) (h : Heap) (ρ : List Addr) (H : AHeap) : Prop :=
  n0 ≤ h.size ∧ ρ.length = H.length ∧ (∀ (i j : Nat) a, ρ[i]? = some a → ρ[j]? = some a → i = j) ∧ (∀ (k : Nat) a, ρ[k]? = some a → P.nr ≤ k → n0 ≤ a) ∧ ∀ (k : Nat) a c, ρ[k]? = some a → H[k]? = some c → CR P Z h ρ a c
section Heaps
variable {P : PD} {Z : State} {n0 : Nat} {h h' : Heap} {ρ : List Addr} {H : AHeap} {a : Addr} {k : Nat} {a0 : Array Value}
theorem CR.lt {c : ACell} (q : CR P Z h ρ a c) : a < h.size := by
  match c, q with
  | .inl (_, _), q => obtain ⟨cd, -, E, -⟩ := q; exact E.lt
  | .inr (.inl (_, _)), q => obtain ⟨cl, A, -⟩ := q; exact A.lt
  | .inr (.inr _), q => obtain ⟨cl, A, -⟩ := q; exact A.lt
theorem HR.at (q : HR P Z n0 h ρ H) {c : ACell} (hc : H[k]? = some c) : ∃ a, ρ[k]? = some a ∧ CR P Z h ρ a c := by
  obtain ⟨-, q1, -, -, q4⟩ := q
  have hk : k < ρ.length := by rw [q1]; exact (List.getElem?_eq_some_iff.mp hc).1
  exact ⟨ρ[k], List.getElem?_eq_getElem hk, q4 k _ c (List.getElem?_eq_getElem hk) hc⟩
theorem HR.lt (q : HR P Z n0 h ρ H) (hk : ρ[k]? = some a) : a < h.size := by
  obtain ⟨-, q1, -, -, q4⟩ := q
  have hk' : k < H.length := by rw [← q1]; exact (List.getElem?_eq_some_iff.mp hk).1
  exact (q4 k a _ hk (List.getElem?_eq_getElem hk')).lt
theorem CR.grow {t : List Addr} {c : ACell} (E : Ext h h') (q : CR P Z h ρ a c) : CR P Z h' (ρ ++ t) a c := by
  match c, q with
  | .inl (_, _), ⟨cd, q1, q2, q3, q4⟩ => exact ⟨cd, q1, q2.ext E, q3, fun i v fd g1 g2 => by obtain ⟨w, z1, z2⟩ := q4 i v fd g1 g2; exact ⟨w, z1.mono, z2.ext E⟩⟩
  | .inr (.inl (_, _)), ⟨cl, q1, q2⟩ => exact ⟨cl, q1.ext E, q2⟩
  | .inr (.inr _), ⟨cl, q1, q2⟩ => exact ⟨cl, q1.ext E, q2⟩
theorem HR.push {c : ACell} (q : HR P Z n0 h ρ H) (E : Ext h h') (hc : CR P Z h' (ρ ++ [h.size]) h.size c) : HR P Z n0 h' (ρ ++ [h.size]) (H ++ [c]) := by
  have q0 := q
  obtain ⟨q1, q2, q3, q4, q5⟩ := q
  have old : ∀ (i : Nat) b, (ρ ++ [h.size])[i]? = some b → (ρ[i]? = some b ∧ b < h.size) ∨ (i = ρ.length ∧ b = h.size) := fun i b g => by
    rw [List.getElem?_append] at g
    split at g
    · exact Or.inl ⟨g, q0.lt g⟩
    · rename_i z
      right
      have : i - ρ.length = 0 := by
        rcases Nat.eq_zero_or_pos (i - ρ.length) with y | y
        · exact y
        · rw [List.getElem?_eq_none (by simp; omega)] at g; cases g
      rw [this] at g
      simp at g
      exact ⟨by omega, g.symm⟩
  refine ⟨Nat.le_trans q1 E.1, by simp [q2], fun i j b g1 g2 => ?_, fun i b g1 g2 => ?_, fun i b c' g1 g2 => ?_⟩
  · rcases old i b g1 with ⟨y1, y2⟩ | ⟨y1, y2⟩ <;> rcases old j b g2 with ⟨z1, z2⟩ | ⟨z1, z2⟩
    · exact q3 i j b y1 z1
    · exact absurd (z2 ▸ y2) (Nat.lt_irrefl _)
    · exact absurd (y2 ▸ z2) (Nat.lt_irrefl _)
    · rw [y1, z1]
  · rcases old i b g1 with ⟨y1, y2⟩ | ⟨y1, y2⟩
    · exact q4 i b y1 g2
    · rw [y2]; exact q1
  · rcases old i b g1 with ⟨y1, y2⟩ | ⟨y1, y2⟩
    · have hi : i < H.length := by rw [← q2]; exact (List.getElem?_eq_some_iff.mp y1).1
      rw [List.getElem?_append_left hi] at g2
      exact (q5 i b c' y1 g2).grow E
    · subst y1 y2
      rw [q2] at g2
      simp at g2
      subst g2
      exact hc
theorem CR.other {v : Value} {sl : Nat} {b : Addr} {c : ACell} (W : Wr h h' a sl v) (ne : b ≠ a) (q : CR P Z h ρ b c) : CR P Z h' ρ b c := by
  match c, q with
  | .inl (_, _), ⟨cd, q1, q2, q3, q4⟩ => exact ⟨cd, q1, q2.wr W, q3, fun i v fd g1 g2 => by obtain ⟨w, z1, z2⟩ := q4 i v fd g1 g2; exact ⟨w, z1, z2.other W (Or.inl ne)⟩⟩
  | .inr (.inl (_, _)), ⟨cl, q1, q2⟩ => exact ⟨cl, q1.other W ne, q2⟩
  | .inr (.inr _), ⟨cl, q1, q2⟩ => exact ⟨cl, q1.other W ne, q2⟩
theorem HR.set {v : Value} {sl : Nat} {c : ACell} (q : HR P Z n0 h ρ H) (hk : ρ[k]? = some a) (W : Wr h h' a sl v) (hc : CR P Z h' ρ a c) : HR P Z n0 h' ρ (H.set k c) := by
  obtain ⟨q1, q2, q3, q4, q5⟩ := q
  refine ⟨by rw [W.size]; exact q1, by simp [q2], q3, q4, fun i b c' g1 g2 => ?_⟩
  rw [List.getElem?_set] at g2
  split at g2
  · rename_i e
    subst e
    split at g2
    · cases g2
      rw [hk] at g1; cases g1
      exact hc
    · cases g2
  · rename_i e
    exact (q5 i b c' g1 g2).other W fun z => e (q3 k i a hk (z ▸ g1))
theorem nodup_ne : ∀ {l : List String}, nodup l = true → ∀ {i j : Nat} {x y : String}, l[i]? = some x → l[j]? = some y → i ≠ j → x ≠ y
  | [], _, i, j, x, y, h1, _, _ => by simp at h1
  | z :: r, hn, i, j, x, y, h1, h2, ne => by
    simp only [nodup, Bool.and_eq_true, Bool.not_eq_true', List.contains_eq_mem, decide_eq_false_iff_not] at hn
    match i, j, h1, h2, ne with
    | 0, 0, _, _, ne => exact absurd rfl ne
    | 0, j + 1, h1, h2, _ => simp at h1 h2; subst h1; exact fun e => hn.1 (e ▸ List.mem_of_getElem? h2)
    | i + 1, 0, h1, h2, _ => simp at h1 h2; subst h2; exact fun e => hn.1 (e ▸ List.mem_of_getElem? h1)
    | i + 1, j + 1, h1, h2, ne => simp at h1 h2; exact nodup_ne hn.2 h1 h2 (fun e => ne (by rw [e]))
theorem laid_of {C : String} {f : FD} (w : (fWord C f).before a0 Z = true) : Laid Z a0 C C f.1 f.2.1 := by
  unfold fWord at w
  split at w
  · exact Or.inr w
  · exact Or.inl w
theorem HR.putF {c j : Nat} {fs : List Value} {cd : CD} {fd : FD} {v w : Value} (q : HR P Z n0 h ρ H) (hk : ρ[k]? = some a) (hc : H[k]? = some (.inl (c, fs))) (hcd : P.cls[c]? = some cd) (hfd : cd.2.2[j]? = some fd)
    (hck : cChk cd = true) (hl : ∀ f ∈ cd.2.2, (fWord cd.1 f).before a0 Z = true) (W : Wr h h' a (RoadKit.slotOf Z cd.1 fd.1 fd.2.1) w) (hv : VR ρ v w) : HR P Z n0 h' ρ (H.set k (.inl (c, fs.set j v))) := by
  obtain ⟨a', ha, cr⟩ := q.at hc
  rw [hk] at ha; cases ha
  obtain ⟨cd', q1, q2, q3, q4⟩ := cr
  rw [hcd] at q1; cases q1
  refine q.set hk W ⟨cd, hcd, q2.wr W, by simp [q3], fun i v0 fd' g1 g2 => ?_⟩
  simp only [cChk, Bool.and_eq_true, List.all_eq_true] at hck
  obtain ⟨n1, n2⟩ := hck
  by_cases e : j = i
  · subst e
    rw [hfd] at g2; cases g2
    rw [List.getElem?_set] at g1
    split at g1
    · split at g1
      · cases g1
        rename_i z
        obtain ⟨w0, -, F⟩ := q4 j _ fd (List.getElem?_eq_getElem z) hfd
        exact ⟨w, hv, F.same W⟩
      · cases g1
    · rename_i z; exact absurd rfl z
  · rw [List.getElem?_set_ne e] at g1
    obtain ⟨w0, z1, F⟩ := q4 i v0 fd' g1 g2
    refine ⟨w0, z1, F.other W (Or.inr ?_)⟩
    have m1 := List.mem_of_getElem? hfd
    have m2 := List.mem_of_getElem? g2
    have f1 := n2 fd m1
    have f2 := n2 fd' m2
    simp only [fChk, Bool.and_eq_true, decide_eq_true_eq] at f1 f2
    refine slot_ne (laid_of (hl fd' m2)) (laid_of (hl fd m1)) ?_ f2.1 f1.1
    exact nodup_ne n1 (i := i) (j := j) (by simp [g2]) (by simp [hfd]) (fun z => e z.symm)
theorem HR.wrI {b : Bool} {L : List Int32} {i : Nat} {x : Int32} (q : HR P Z n0 h ρ H) (hk : ρ[k]? = some a) (hc : H[k]? = some (.inr (.inl (b, L)))) (W : Wr h h' a i (.int x)) : HR P Z n0 h' ρ (H.set k (.inr (.inl (b, L.set i x)))) := by
  obtain ⟨a', ha, cr⟩ := q.at hc
  rw [hk] at ha; cases ha
  obtain ⟨cl, A, q2, q3, q4⟩ := cr
  have lt : i < cl.slots.size := by
    obtain ⟨cl', z1, -, z3, -⟩ := W
    rw [A.1] at z1; cases z1
    exact z3
  refine q.set hk W ⟨_, A.same W, by simp [sz_set, q2], by simpa using q3, fun j y g => ?_⟩
  rw [List.getElem?_set] at g
  split at g
  · rename_i e
    subst e
    split at g
    · cases g; simp [Cell.setSlot, lt]
    · cases g
  · rename_i e
    have := q4 j y g
    simp [Cell.setSlot, Array.getElem?_setIfInBounds, e, this]
theorem HR.wrJ {L : List Int64} {i : Nat} {x : Int64} (q : HR P Z n0 h ρ H) (hk : ρ[k]? = some a) (hc : H[k]? = some (.inr (.inr L))) (W : Wr h h' a i (.long x)) : HR P Z n0 h' ρ (H.set k (.inr (.inr (L.set i x)))) := by
  obtain ⟨a', ha, cr⟩ := q.at hc
  rw [hk] at ha; cases ha
  obtain ⟨cl, A, q2, q3, q4⟩ := cr
  have lt : i < cl.slots.size := by
    obtain ⟨cl', z1, -, z3, -⟩ := W
    rw [A.1] at z1; cases z1
    exact z3
  refine q.set hk W ⟨_, A.same W, by simp [sz_set, q2], by simpa using q3, fun j y g => ?_⟩
  rw [List.getElem?_set] at g
  split at g
  · rename_i e
    subst e
    split at g
    · cases g; simp [Cell.setSlot, lt]
    · cases g
  · rename_i e
    have := q4 j y g
    simp [Cell.setSlot, Array.getElem?_setIfInBounds, e, this]
end Heaps
theorem SR.int {ρ : List Addr} {x : Int32} {S Sc : List Value} (h : SR ρ (.int x :: S) Sc) : ∃ Sc', Sc = .int x :: Sc' ∧ SR ρ S Sc' := by
  obtain ⟨w, ws, h1, h2, h3⟩ := h
  exact ⟨ws, by rw [h1, show w = .int x from h2], h3⟩
theorem SR.long {ρ : List Addr} {x : Int64} {S Sc : List Value} (h : SR ρ (.long x :: S) Sc) : ∃ Sc', Sc = .long x :: Sc' ∧ SR ρ S Sc' := by
  obtain ⟨w, ws, h1, h2, h3⟩ := h
  exact ⟨ws, by rw [h1, show w = .long x from h2], h3⟩
theorem SR.ref {ρ : List Addr} {x : Nat} {S Sc : List Value} (h : SR ρ (.ref x :: S) Sc) : ∃ a Sc', ρ[x]? = some a ∧ Sc = .ref a :: Sc' ∧ SR ρ S Sc' := by
  obtain ⟨w, ws, h1, ⟨a, h2, h4⟩, h3⟩ := h
  exact ⟨a, ws, h2, by rw [h1, h4], h3⟩
theorem rdA_spec {α : Type} {L : List α} {j : Int32} {x : α} (h : rdA L j = some x) : ¬ j < 0 ∧ L[j.toNatClampNeg]? = some x := by
  unfold rdA at h
  split at h
  · cases h
  · rename_i q; exact ⟨q, h⟩
theorem wrA_spec {α : Type} {L L' : List α} {j : Int32} {x : α} (h : wrA L j x = some L') : ¬ j < 0 ∧ j.toNatClampNeg < L.length ∧ L' = L.set j.toNatClampNeg x := by
  unfold wrA at h
  split at h
  · cases h
  · rename_i q
    split at h
    · rename_i z; cases h; exact ⟨q, z, rfl⟩
    · cases h
end Jvm.Own
namespace Jvm.Own
open Jvm Jvm.ClassFile Sem Op Lib Jvm.Free Jvm.Stand Jvm.LawKit Jvm.RoadKit Bundle
theorem st1_len {L L' : List Slot} {k : Nat} {v : Value} (h : st1 L k v = some L') : L'.length = L.length := by
  unfold st1 at h
  split at h
  · cases h; simp
  · cases h
theorem st2_len {L L' : List Slot} {k : Nat} {v : Value} (h : st2 L k v = some L') : L'.length = L.length := by
  unfold st2 at h
  split at h
  · cases h; simp
  · cases h
theorem lrem_mod (x y : Int64) : x - (x / y) * y = x % y := by
  apply Int64.toInt_inj.mp
  have h1 := Int64.le_toInt (x % y)
  have h2 := Int64.toInt_lt (x % y)
  rw [Int64.toInt_sub, Int64.toInt_mul, Int64.toInt_div, Int.bmod_mul_bmod, Int.sub_bmod_bmod, Int.mul_comm (x.toInt.tdiv y.toInt), ← Int.tmod_def, ← Int64.toInt_mod]
  exact Int.bmod_eq_of_le_mul_two (by omega) (by omega)
theorem putOk_sim {ρ : List Addr} {ty : FieldType} {v w : Value} (h : putOk ty v = true) (hv : VR ρ v w) : narrow ty w = w ∧ fits ty w = true := by
  cases ty <;> cases v <;> first | (simp [putOk] at h; done) | skip
  · cases hv; exact ⟨rfl, rfl⟩
  · cases hv; exact ⟨rfl, rfl⟩
  · rename_i x
    cases hv
    simp only [putOk, Bool.or_eq_true, beq_iff_eq] at h
    rcases h with rfl | rfl
    · exact ⟨rfl, rfl⟩
    · exact ⟨rfl, rfl⟩
  · obtain ⟨a, -, rfl⟩ := hv; exact ⟨rfl, rfl⟩
theorem dflt_sim {ρ : List Addr} {ty : FieldType} (h : dfOk ty = true) : VR ρ (dflt ty) (defaultValue ty) := by
  cases ty <;> first | (simp [dfOk] at h; done) | exact rfl
theorem fieldOf_spec {P : PD} {c a : Nat} {cd : CD} {f : FD} (h1 : P.cls[c]? = some cd) (h2 : cd.2.2[a]? = some f) : fieldOf P c a = some f := by simp [fieldOf, h1, h2]
theorem in_wordsOf {P : PD} {d : MD} {x : Nat × It} {w : Jvm.Cond} (hd : d ∈ P.mth) (hx : x ∈ d.code) (hw : w ∈ iWords P d x) : w ∈ wordsOf P :=
  List.mem_append_right _ (List.mem_flatMap.mpr ⟨d, hd, List.mem_flatMap.mpr ⟨x, hx, hw⟩⟩)
theorem in_wordsC {P : PD} {cd : CD} {w : Jvm.Cond} (hd : cd ∈ P.cls) (hw : w ∈ cWords cd) : w ∈ wordsOf P :=
  List.mem_append_left _ (List.mem_append_left _ (List.mem_flatMap.mpr ⟨cd, hd, hw⟩))
theorem in_wordsM {P : PD} {y : MD} {j : Nat} {w : Jvm.Cond} (hd : P.mth[j]? = some y) (hj : 0 < j) (hw : w ∈ mWords y) : w ∈ wordsOf P := by
  refine List.mem_append_left _ (List.mem_append_right _ (List.mem_flatMap.mpr ⟨y, ?_, hw⟩))
  have : (P.mth.drop 1)[j - 1]? = some y := by rw [List.getElem?_drop]; rw [show 1 + (j - 1) = j by omega]; exact hd
  exact List.mem_of_getElem? this
theorem fWord_in {cd : CD} {f : FD} (h : f ∈ cd.2.2) : fWord cd.1 f ∈ cWords cd := List.mem_cons_of_mem _ (List.mem_cons_of_mem _ (List.mem_map.mpr ⟨f, h, rfl⟩))
theorem cChk_of {P : PD} (hP : chk P = true) {cd : CD} (h : cd ∈ P.cls) : cChk cd = true := by
  simp only [chk, Bool.and_eq_true, List.all_eq_true] at hP
  exact hP.1 cd h
theorem mChk_of {P : PD} (hP : chk P = true) {d : MD} (h : d ∈ P.mth) : mChk P d = true := by
  simp only [chk, Bool.and_eq_true, List.all_eq_true] at hP
  exact hP.2 d h
theorem cid_of {P : PD} (hP : chk P = true) {d : MD} (h : d ∈ P.mth) {cd : CD} (hc : P.cls[d.cid]? = some cd) : cd.1 = d.name.cls := by
  have := mChk_of hP h
  simp only [mChk, Bool.and_eq_true] at this
  have h4 := this.1.1.1.2
  unfold clsChk at h4
  rw [hc] at h4
  simpa using h4
section Step
variable {P : PD} {Z : State} {n0 : Nat} {a0 : Array Value} {l : Launch} {p : Program} {e : Env} {R : Room} {s : State} {m : MethodId} {args : Array Value} {below : List Frame} {meth : Method} {c : Code} {T : State} {locs : List Loc} {cells slots : Nat} {d : MD}
def Nxt (P : PD) (Z : State) (n0 : Nat) (l : Launch) (p : Program) (e : Env) (R : Room) (s : State) (m : MethodId) (args : Array Value) (below : List Frame) (meth : Method) (c : Code) (T : State) (cells slots : Nat) (ρ : List Addr) (g : JFrame) (pc' : Nat) (L L' : List Slot) (S' : List Value) (H1 : AHeap) : Prop :=
  ∃ T' locs' A' Sc', Stand p l e R s m args below meth c T' locs' cells slots ∧ L'.length = L.length ∧ LR ρ L' A' ∧ SR ρ S' Sc' ∧ HR P Z n0 T'.heap ρ H1 ∧ Fr n0 locs' ∧
    ∀ target, Steps p.tables e below (T'.setTop (mkF m pc' A' Sc')) target → Steps p.tables e below (T.setTop g) target
theorem Nxt.pure {ρ : List Addr} {H : AHeap} {g : JFrame} {pc' : Nat} {L L' : List Slot} {S' Sc' : List Value} {A' : Array Slot} (X : Stand p l e R s m args below meth c T locs cells slots) (hl : L'.length = L.length) (hL : LR ρ L' A') (hS : SR ρ S' Sc') (hH : HR P Z n0 T.heap ρ H) (hF : Fr n0 locs)
    (k : ∀ target, Steps p.tables e below (T.setTop (mkF m pc' A' Sc')) target → Steps p.tables e below (T.setTop g) target) : Nxt P Z n0 l p e R s m args below meth c T cells slots ρ g pc' L L' S' H :=
  ⟨T, locs, A', Sc', X, hl, hL, hS, hH, hF, k⟩
theorem Nxt.mem {ρ : List Addr} {H1 : AHeap} {g : JFrame} {pc' : Nat} {L L' : List Slot} {S' Sc' : List Value} {A' : Array Slot} {T' : State} {locs' : List Loc} (X : Stand p l e R s m args below meth c T' locs' cells slots) (hl : L'.length = L.length) (hL : LR ρ L' A') (hS : SR ρ S' Sc') (hH : HR P Z n0 T'.heap ρ H1) (hF : Fr n0 locs')
    (k : ∀ target, Steps p.tables e below (T'.setTop (mkF m pc' A' Sc')) target → Steps p.tables e below (T.setTop g) target) : Nxt P Z n0 l p e R s m args below meth c T cells slots ρ g pc' L L' S' H1 :=
  ⟨T', locs', A', Sc', X, hl, hL, hS, hH, hF, k⟩
set_option maxHeartbeats 4000000 in
theorem stepX (X : Stand p l e R s m args below meth c T locs cells slots) (hx : p.tables.exec = Jvm.exec) (hZ : Z.Warmed39 s.vm) (hown : s.vm.findClass d.name.cls = some m.cls) (hnm : meth.name = d.name.name) (hP : chk P = true) (hW : ∀ w ∈ wordsOf P, w.before a0 Z = true) (hdm : d ∈ P.mth)
    {pc len a : Nat} {er : List Bool} {b : Int} {i : Instr} (hit : (pc, i, len, er, a, b) ∈ d.code) (hd : decode c.code pc = .ok (i, len)) (hlen : lenOk i len = true) {ρ : List Addr} {L L' : List Slot} {S S' Sc : List Value} {H H1 : AHeap} {A : Array Slot}
    (hL : LR ρ L A) (hS : SR ρ S Sc) (hH : HR P Z n0 T.heap ρ H) (hF : Fr n0 locs) (h : xI P (d.name.name == "<init>") d.cid i a b L S H = some (L', S', H1)) :
    Nxt P Z n0 l p e R s m args below meth c T cells slots ρ (mkF m pc A Sc) (pc + len) L L' S' H1 := by
  have hWi : ∀ w ∈ iWords P d (pc, i, len, er, a, b), w.before a0 Z = true := fun w q => hW w (in_wordsOf hdm hit q)
  cases i with
  | aload_n k =>
    obtain rfl : len = 1 := by simpa [lenOk] using hlen
    simp only [xI] at h
    split at h
    · rename_i x q
      cases h
      obtain ⟨w, hv, hg⟩ := hL.get q
      obtain ⟨ad, h1, rfl⟩ := hv
      exact Nxt.pure X rfl hL ⟨_, _, rfl, ⟨ad, h1, rfl⟩, hS⟩ hH hF (fun t z => XS.aloadN (g := mkF m pc A Sc) X.here hx rfl hd hg rfl z)
    · cases h
  | aload k =>
    obtain rfl : len = 2 := by simpa [lenOk] using hlen
    simp only [xI] at h
    split at h
    · rename_i x q
      cases h
      obtain ⟨w, hv, hg⟩ := hL.get q
      obtain ⟨ad, h1, rfl⟩ := hv
      exact Nxt.pure X rfl hL ⟨_, _, rfl, ⟨ad, h1, rfl⟩, hS⟩ hH hF (fun t z => XS.aload (g := mkF m pc A Sc) X.here hx rfl hd hg rfl z)
    · cases h
  | iload_n k =>
    obtain rfl : len = 1 := by simpa [lenOk] using hlen
    simp only [xI] at h
    split at h
    · rename_i x q
      cases h
      obtain ⟨w, hv, hg⟩ := hL.get q
      obtain rfl : w = .int _ := hv
      exact Nxt.pure X rfl hL ⟨_, _, rfl, rfl, hS⟩ hH hF (fun t z => XS.iloadN (g := mkF m pc A Sc) X.here hx rfl hd hg z)
    · cases h
  | iload k =>
    obtain rfl : len = 2 := by simpa [lenOk] using hlen
    simp only [xI] at h
    split at h
    · rename_i x q
      cases h
      obtain ⟨w, hv, hg⟩ := hL.get q
      obtain rfl : w = .int _ := hv
      exact Nxt.pure X rfl hL ⟨_, _, rfl, rfl, hS⟩ hH hF (fun t z => XS.iload (g := mkF m pc A Sc) X.here hx rfl hd hg z)
    · cases h
  | lload_n k =>
    obtain rfl : len = 1 := by simpa [lenOk] using hlen
    simp only [xI] at h
    split at h
    · rename_i x q
      cases h
      obtain ⟨w, hv, hg⟩ := hL.get q
      obtain rfl : w = .long _ := hv
      exact Nxt.pure X rfl hL ⟨_, _, rfl, rfl, hS⟩ hH hF (fun t z => XT.lloadN (g := mkF m pc A Sc) X.here hx rfl hd hg z)
    · cases h
  | lload k =>
    obtain rfl : len = 2 := by simpa [lenOk] using hlen
    simp only [xI] at h
    split at h
    · rename_i x q
      cases h
      obtain ⟨w, hv, hg⟩ := hL.get q
      obtain rfl : w = .long _ := hv
      exact Nxt.pure X rfl hL ⟨_, _, rfl, rfl, hS⟩ hH hF (fun t z => XT.lload (g := mkF m pc A Sc) X.here hx rfl hd hg z)
    · cases h
  | istore_n k =>
    obtain rfl : len = 1 := by simpa [lenOk] using hlen
    simp only [xI] at h
    split at h
    · rename_i x S0
      obtain ⟨L1, q, e1⟩ := Option.map_eq_some_iff.mp h
      cases e1
      obtain ⟨S2, rfl, h2⟩ := hS.int
      obtain ⟨A', z1, z2⟩ := store1_sim hL q (show VR ρ (.int x) (.int x) from rfl) rfl
      exact Nxt.pure X (st1_len q) z2 h2 hH hF (fun t z => XS.istoreN (g := mkF m pc A _) X.here hx rfl hd rfl z1 z)
    · cases h
  | istore k =>
    obtain rfl : len = 2 := by simpa [lenOk] using hlen
    simp only [xI] at h
    split at h
    · rename_i x S0
      obtain ⟨L1, q, e1⟩ := Option.map_eq_some_iff.mp h
      cases e1
      obtain ⟨S2, rfl, h2⟩ := hS.int
      obtain ⟨A', z1, z2⟩ := store1_sim hL q (show VR ρ (.int x) (.int x) from rfl) rfl
      exact Nxt.pure X (st1_len q) z2 h2 hH hF (fun t z => XS.istore (g := mkF m pc A _) X.here hx rfl hd rfl z1 z)
    · cases h
  | astore_n k =>
    obtain rfl : len = 1 := by simpa [lenOk] using hlen
    simp only [xI] at h
    split at h
    · rename_i x S0
      obtain ⟨L1, q, e1⟩ := Option.map_eq_some_iff.mp h
      cases e1
      obtain ⟨ad, S2, h1, rfl, h2⟩ := hS.ref
      obtain ⟨A', z1, z2⟩ := store1_sim hL q (show VR ρ (.ref x) (.ref ad) from ⟨ad, h1, rfl⟩) rfl
      exact Nxt.pure X (st1_len q) z2 h2 hH hF (fun t z => XS.astoreN (g := mkF m pc A _) X.here hx rfl hd rfl rfl z1 z)
    · cases h
  | astore k =>
    obtain rfl : len = 2 := by simpa [lenOk] using hlen
    simp only [xI] at h
    split at h
    · rename_i x S0
      obtain ⟨L1, q, e1⟩ := Option.map_eq_some_iff.mp h
      cases e1
      obtain ⟨ad, S2, h1, rfl, h2⟩ := hS.ref
      obtain ⟨A', z1, z2⟩ := store1_sim hL q (show VR ρ (.ref x) (.ref ad) from ⟨ad, h1, rfl⟩) rfl
      exact Nxt.pure X (st1_len q) z2 h2 hH hF (fun t z => XS.astore (g := mkF m pc A _) X.here hx rfl hd rfl rfl z1 z)
    · cases h
  | lstore_n k =>
    obtain rfl : len = 1 := by simpa [lenOk] using hlen
    simp only [xI] at h
    split at h
    · rename_i x S0
      obtain ⟨L1, q, e1⟩ := Option.map_eq_some_iff.mp h
      cases e1
      obtain ⟨S2, rfl, h2⟩ := hS.long
      obtain ⟨A', z1, z2⟩ := store2_sim hL q (show VR ρ (.long x) (.long x) from rfl) rfl
      exact Nxt.pure X (st2_len q) z2 h2 hH hF (fun t z => XT.lstoreN (g := mkF m pc A _) X.here hx rfl hd rfl z1 z)
    · cases h
  | lstore k =>
    obtain rfl : len = 2 := by simpa [lenOk] using hlen
    simp only [xI] at h
    split at h
    · rename_i x S0
      obtain ⟨L1, q, e1⟩ := Option.map_eq_some_iff.mp h
      cases e1
      obtain ⟨S2, rfl, h2⟩ := hS.long
      obtain ⟨A', z1, z2⟩ := store2_sim hL q (show VR ρ (.long x) (.long x) from rfl) rfl
      exact Nxt.pure X (st2_len q) z2 h2 hH hF (fun t z => XT.lstore (g := mkF m pc A _) X.here hx rfl hd rfl z1 z)
    · cases h
  | iinc k dd =>
    obtain rfl : len = 3 := by simpa [lenOk] using hlen
    simp only [xI] at h
    split at h
    · rename_i x q0
      obtain ⟨L1, q, e1⟩ := Option.map_eq_some_iff.mp h
      cases e1
      obtain ⟨w, hv, hg⟩ := hL.get q0
      obtain rfl : w = .int _ := hv
      obtain ⟨A', z1, z2⟩ := store1_sim hL q (show VR ρ (.int (x + Int32.ofInt dd)) (.int (x + Int32.ofInt dd)) from rfl) rfl
      exact Nxt.pure X (st1_len q) z2 hS hH hF (fun t z => XS.iinc (g := mkF m pc A Sc) X.here hx rfl hd hg z1 z)
    · cases h
  | iconst v =>
    obtain rfl : len = 1 := by simpa [lenOk] using hlen
    simp only [xI] at h
    cases h
    exact Nxt.pure X rfl hL ⟨_, _, rfl, rfl, hS⟩ hH hF (fun t z => XS.iconst (g := mkF m pc A Sc) X.here hx rfl hd z)
  | bipush v =>
    obtain rfl : len = 2 := by simpa [lenOk] using hlen
    simp only [xI] at h
    cases h
    exact Nxt.pure X rfl hL ⟨_, _, rfl, rfl, hS⟩ hH hF (fun t z => XS.bipush (g := mkF m pc A Sc) X.here hx rfl hd z)
  | sipush v =>
    obtain rfl : len = 3 := by simpa [lenOk] using hlen
    simp only [xI] at h
    cases h
    exact Nxt.pure X rfl hL ⟨_, _, rfl, rfl, hS⟩ hH hF (fun t z => XS.sipush (g := mkF m pc A Sc) X.here hx rfl hd z)
  | lconst v =>
    obtain rfl : len = 1 := by simpa [lenOk] using hlen
    simp only [xI] at h
    cases h
    exact Nxt.pure X rfl hL ⟨_, _, rfl, rfl, hS⟩ hH hF (fun t z => XT.lconst (g := mkF m pc A Sc) X.here hx rfl hd z)
  | ldc k =>
    obtain rfl : len = 2 := by simpa [lenOk] using hlen
    simp only [xI] at h
    cases h
    have w1 := hWi (.constant d.name.cls k (Int32.ofInt b)) (List.mem_singleton.mpr rfl)
    exact Nxt.pure X rfl hL ⟨_, _, rfl, rfl, hS⟩ hH hF (fun t z => X.ldcInt hx hown (mvT hZ w1) (g := mkF m pc A Sc) rfl hd t z)
  | ldc2_w k =>
    obtain rfl : len = 3 := by simpa [lenOk] using hlen
    simp only [xI] at h
    cases h
    have w1 := hWi (.constantLong d.name.cls k (Int64.ofInt b)) (List.mem_singleton.mpr rfl)
    exact Nxt.pure X rfl hL ⟨_, _, rfl, rfl, hS⟩ hH hF (fun t z => X.ldc2Long hx hown (mvT hZ w1) (g := mkF m pc A Sc) rfl hd t z)
  | iadd =>
    obtain rfl : len = 1 := by simpa [lenOk] using hlen
    simp only [xI] at h
    split at h
    · rename_i y x S0
      cases h
      obtain ⟨S1, rfl, h1⟩ := hS.int
      obtain ⟨S2, rfl, h2⟩ := h1.int
      exact Nxt.pure X rfl hL ⟨_, _, rfl, rfl, h2⟩ hH hF (fun t z => XS.iadd (g := mkF m pc A _) X.here hx rfl hd rfl z)
    · cases h
  | isub =>
    obtain rfl : len = 1 := by simpa [lenOk] using hlen
    simp only [xI] at h
    split at h
    · rename_i y x S0
      cases h
      obtain ⟨S1, rfl, h1⟩ := hS.int
      obtain ⟨S2, rfl, h2⟩ := h1.int
      exact Nxt.pure X rfl hL ⟨_, _, rfl, rfl, h2⟩ hH hF (fun t z => XS.isub (g := mkF m pc A _) X.here hx rfl hd rfl z)
    · cases h
  | imul =>
    obtain rfl : len = 1 := by simpa [lenOk] using hlen
    simp only [xI] at h
    split at h
    · rename_i y x S0
      cases h
      obtain ⟨S1, rfl, h1⟩ := hS.int
      obtain ⟨S2, rfl, h2⟩ := h1.int
      exact Nxt.pure X rfl hL ⟨_, _, rfl, rfl, h2⟩ hH hF (fun t z => XS.imul (g := mkF m pc A _) X.here hx rfl hd rfl z)
    · cases h
  | iand =>
    obtain rfl : len = 1 := by simpa [lenOk] using hlen
    simp only [xI] at h
    split at h
    · rename_i y x S0
      cases h
      obtain ⟨S1, rfl, h1⟩ := hS.int
      obtain ⟨S2, rfl, h2⟩ := h1.int
      exact Nxt.pure X rfl hL ⟨_, _, rfl, rfl, h2⟩ hH hF (fun t z => XS.iand (g := mkF m pc A _) X.here hx rfl hd rfl z)
    · cases h
  | ior =>
    obtain rfl : len = 1 := by simpa [lenOk] using hlen
    simp only [xI] at h
    split at h
    · rename_i y x S0
      cases h
      obtain ⟨S1, rfl, h1⟩ := hS.int
      obtain ⟨S2, rfl, h2⟩ := h1.int
      exact Nxt.pure X rfl hL ⟨_, _, rfl, rfl, h2⟩ hH hF (fun t z => XT.ior (g := mkF m pc A _) X.here hx rfl hd rfl z)
    · cases h
  | ixor =>
    obtain rfl : len = 1 := by simpa [lenOk] using hlen
    simp only [xI] at h
    split at h
    · rename_i y x S0
      cases h
      obtain ⟨S1, rfl, h1⟩ := hS.int
      obtain ⟨S2, rfl, h2⟩ := h1.int
      exact Nxt.pure X rfl hL ⟨_, _, rfl, rfl, h2⟩ hH hF (fun t z => XT.ixor (g := mkF m pc A _) X.here hx rfl hd rfl z)
    · cases h
  | ishl =>
    obtain rfl : len = 1 := by simpa [lenOk] using hlen
    simp only [xI] at h
    split at h
    · rename_i y x S0
      cases h
      obtain ⟨S1, rfl, h1⟩ := hS.int
      obtain ⟨S2, rfl, h2⟩ := h1.int
      exact Nxt.pure X rfl hL ⟨_, _, rfl, rfl, h2⟩ hH hF (fun t z => XT.ishl (g := mkF m pc A _) X.here hx rfl hd rfl z)
    · cases h
  | ishr =>
    obtain rfl : len = 1 := by simpa [lenOk] using hlen
    simp only [xI] at h
    split at h
    · rename_i y x S0
      cases h
      obtain ⟨S1, rfl, h1⟩ := hS.int
      obtain ⟨S2, rfl, h2⟩ := h1.int
      exact Nxt.pure X rfl hL ⟨_, _, rfl, rfl, h2⟩ hH hF (fun t z => XT.ishr (g := mkF m pc A _) X.here hx rfl hd rfl z)
    · cases h
  | iushr =>
    obtain rfl : len = 1 := by simpa [lenOk] using hlen
    simp only [xI] at h
    split at h
    · rename_i y x S0
      cases h
      obtain ⟨S1, rfl, h1⟩ := hS.int
      obtain ⟨S2, rfl, h2⟩ := h1.int
      exact Nxt.pure X rfl hL ⟨_, _, rfl, rfl, h2⟩ hH hF (fun t z => XT.iushr (g := mkF m pc A _) X.here hx rfl hd rfl z)
    · cases h
  | ladd =>
    obtain rfl : len = 1 := by simpa [lenOk] using hlen
    simp only [xI] at h
    split at h
    · rename_i y x S0
      cases h
      obtain ⟨S1, rfl, h1⟩ := hS.long
      obtain ⟨S2, rfl, h2⟩ := h1.long
      exact Nxt.pure X rfl hL ⟨_, _, rfl, rfl, h2⟩ hH hF (fun t z => XT.ladd (g := mkF m pc A _) X.here hx rfl hd rfl z)
    · cases h
  | lsub =>
    obtain rfl : len = 1 := by simpa [lenOk] using hlen
    simp only [xI] at h
    split at h
    · rename_i y x S0
      cases h
      obtain ⟨S1, rfl, h1⟩ := hS.long
      obtain ⟨S2, rfl, h2⟩ := h1.long
      exact Nxt.pure X rfl hL ⟨_, _, rfl, rfl, h2⟩ hH hF (fun t z => XT.lsub (g := mkF m pc A _) X.here hx rfl hd rfl z)
    · cases h
  | lmul =>
    obtain rfl : len = 1 := by simpa [lenOk] using hlen
    simp only [xI] at h
    split at h
    · rename_i y x S0
      cases h
      obtain ⟨S1, rfl, h1⟩ := hS.long
      obtain ⟨S2, rfl, h2⟩ := h1.long
      exact Nxt.pure X rfl hL ⟨_, _, rfl, rfl, h2⟩ hH hF (fun t z => XT.lmul (g := mkF m pc A _) X.here hx rfl hd rfl z)
    · cases h
  | land =>
    obtain rfl : len = 1 := by simpa [lenOk] using hlen
    simp only [xI] at h
    split at h
    · rename_i y x S0
      cases h
      obtain ⟨S1, rfl, h1⟩ := hS.long
      obtain ⟨S2, rfl, h2⟩ := h1.long
      exact Nxt.pure X rfl hL ⟨_, _, rfl, rfl, h2⟩ hH hF (fun t z => XT.land (g := mkF m pc A _) X.here hx rfl hd rfl z)
    · cases h
  | lor =>
    obtain rfl : len = 1 := by simpa [lenOk] using hlen
    simp only [xI] at h
    split at h
    · rename_i y x S0
      cases h
      obtain ⟨S1, rfl, h1⟩ := hS.long
      obtain ⟨S2, rfl, h2⟩ := h1.long
      exact Nxt.pure X rfl hL ⟨_, _, rfl, rfl, h2⟩ hH hF (fun t z => XT.lor (g := mkF m pc A _) X.here hx rfl hd rfl z)
    · cases h
  | lxor =>
    obtain rfl : len = 1 := by simpa [lenOk] using hlen
    simp only [xI] at h
    split at h
    · rename_i y x S0
      cases h
      obtain ⟨S1, rfl, h1⟩ := hS.long
      obtain ⟨S2, rfl, h2⟩ := h1.long
      exact Nxt.pure X rfl hL ⟨_, _, rfl, rfl, h2⟩ hH hF (fun t z => XT.lxor (g := mkF m pc A _) X.here hx rfl hd rfl z)
    · cases h
  | lcmp =>
    obtain rfl : len = 1 := by simpa [lenOk] using hlen
    simp only [xI] at h
    split at h
    · rename_i y x S0
      cases h
      obtain ⟨S1, rfl, h1⟩ := hS.long
      obtain ⟨S2, rfl, h2⟩ := h1.long
      exact Nxt.pure X rfl hL ⟨_, _, rfl, rfl, h2⟩ hH hF (fun t z => XT.lcmp (g := mkF m pc A _) X.here hx rfl hd rfl z)
    · cases h
  | lshl =>
    obtain rfl : len = 1 := by simpa [lenOk] using hlen
    simp only [xI] at h
    split at h
    · rename_i y x S0
      cases h
      obtain ⟨S1, rfl, h1⟩ := hS.int
      obtain ⟨S2, rfl, h2⟩ := h1.long
      exact Nxt.pure X rfl hL ⟨_, _, rfl, rfl, h2⟩ hH hF (fun t z => XT.lshl (g := mkF m pc A _) X.here hx rfl hd rfl z)
    · cases h
  | lshr =>
    obtain rfl : len = 1 := by simpa [lenOk] using hlen
    simp only [xI] at h
    split at h
    · rename_i y x S0
      cases h
      obtain ⟨S1, rfl, h1⟩ := hS.int
      obtain ⟨S2, rfl, h2⟩ := h1.long
      exact Nxt.pure X rfl hL ⟨_, _, rfl, rfl, h2⟩ hH hF (fun t z => XT.lshr (g := mkF m pc A _) X.here hx rfl hd rfl z)
    · cases h
  | lushr =>
    obtain rfl : len = 1 := by simpa [lenOk] using hlen
    simp only [xI] at h
    split at h
    · rename_i y x S0
      cases h
      obtain ⟨S1, rfl, h1⟩ := hS.int
      obtain ⟨S2, rfl, h2⟩ := h1.long
      exact Nxt.pure X rfl hL ⟨_, _, rfl, rfl, h2⟩ hH hF (fun t z => XT.lushr (g := mkF m pc A _) X.here hx rfl hd rfl z)
    · cases h
  | idiv =>
    obtain rfl : len = 1 := by simpa [lenOk] using hlen
    simp only [xI] at h
    split at h
    · rename_i y x S0
      split at h
      · cases h
      · rename_i hy
        cases h
        obtain ⟨S1, rfl, h1⟩ := hS.int
        obtain ⟨S2, rfl, h2⟩ := h1.int
        exact Nxt.pure X rfl hL ⟨_, _, rfl, rfl, h2⟩ hH hF (fun t z => XS.idiv (g := mkF m pc A _) X.here hx rfl hd rfl hy z)
    · cases h
  | irem =>
    obtain rfl : len = 1 := by simpa [lenOk] using hlen
    simp only [xI] at h
    split at h
    · rename_i y x S0
      split at h
      · cases h
      · rename_i hy
        cases h
        obtain ⟨S1, rfl, h1⟩ := hS.int
        obtain ⟨S2, rfl, h2⟩ := h1.int
        exact Nxt.pure X rfl hL ⟨_, _, rfl, rfl, h2⟩ hH hF (fun t z => iremM (g := mkF m pc A _) X hx rfl hd rfl hy z)
    · cases h
  | ldiv =>
    obtain rfl : len = 1 := by simpa [lenOk] using hlen
    simp only [xI] at h
    split at h
    · rename_i y x S0
      split at h
      · cases h
      · rename_i hy
        cases h
        obtain ⟨S1, rfl, h1⟩ := hS.long
        obtain ⟨S2, rfl, h2⟩ := h1.long
        exact Nxt.pure X rfl hL ⟨_, _, rfl, rfl, h2⟩ hH hF (fun t z => XT.ldiv (g := mkF m pc A _) X.here hx rfl hd rfl hy z)
    · cases h
  | lrem =>
    obtain rfl : len = 1 := by simpa [lenOk] using hlen
    simp only [xI] at h
    split at h
    · rename_i y x S0
      split at h
      · cases h
      · rename_i hy
        cases h
        obtain ⟨S1, rfl, h1⟩ := hS.long
        obtain ⟨S2, rfl, h2⟩ := h1.long
        exact Nxt.pure X rfl hL ⟨_, _, rfl, rfl, h2⟩ hH hF (fun t z => XT.lrem (g := mkF m pc A _) X.here hx rfl hd rfl hy (by rw [lrem_mod]; exact z))
    · cases h
  | i2l =>
    obtain rfl : len = 1 := by simpa [lenOk] using hlen
    simp only [xI] at h
    split at h
    · rename_i x S0
      cases h
      obtain ⟨S1, rfl, h1⟩ := hS.int
      exact Nxt.pure X rfl hL ⟨_, _, rfl, rfl, h1⟩ hH hF (fun t z => XT.i2l (g := mkF m pc A _) X.here hx rfl hd rfl z)
    · cases h
  | l2i =>
    obtain rfl : len = 1 := by simpa [lenOk] using hlen
    simp only [xI] at h
    split at h
    · rename_i x S0
      cases h
      obtain ⟨S1, rfl, h1⟩ := hS.long
      exact Nxt.pure X rfl hL ⟨_, _, rfl, rfl, h1⟩ hH hF (fun t z => XT.l2i (g := mkF m pc A _) X.here hx rfl hd rfl z)
    · cases h
  | dup =>
    obtain rfl : len = 1 := by simpa [lenOk] using hlen
    simp only [xI] at h
    split at h
    · rename_i x S0
      cases h
      obtain ⟨S1, rfl, h1⟩ := hS.int
      exact Nxt.pure X rfl hL ⟨_, _, rfl, rfl, _, _, rfl, rfl, h1⟩ hH hF (fun t z => XS.dup (g := mkF m pc A _) X.here hx rfl hd rfl rfl z)
    · rename_i x S0
      cases h
      obtain ⟨ad, S1, g1, rfl, h1⟩ := hS.ref
      exact Nxt.pure X rfl hL ⟨_, _, rfl, ⟨ad, g1, rfl⟩, _, _, rfl, ⟨ad, g1, rfl⟩, h1⟩ hH hF (fun t z => XS.dup (g := mkF m pc A _) X.here hx rfl hd rfl rfl z)
    · cases h
  | dup2 =>
    obtain rfl : len = 1 := by simpa [lenOk] using hlen
    simp only [xI] at h
    split at h
    · rename_i x y S0
      cases h
      obtain ⟨S1, rfl, h1⟩ := hS.int
      obtain ⟨ad, S2, g1, rfl, h2⟩ := h1.ref
      exact Nxt.pure X rfl hL ⟨_, _, rfl, rfl, _, _, rfl, ⟨ad, g1, rfl⟩, _, _, rfl, rfl, _, _, rfl, ⟨ad, g1, rfl⟩, h2⟩ hH hF (fun t z => XT.dup2 (g := mkF m pc A _) X.here hx rfl hd rfl rfl rfl z)
    · rename_i x S0
      cases h
      obtain ⟨S1, rfl, h1⟩ := hS.long
      exact Nxt.pure X rfl hL ⟨_, _, rfl, rfl, _, _, rfl, rfl, h1⟩ hH hF (fun t z => XT.dup2L (g := mkF m pc A _) X.here hx rfl hd rfl z)
    · cases h
  | pop =>
    obtain rfl : len = 1 := by simpa [lenOk] using hlen
    simp only [xI] at h
    split at h
    · rename_i x S0
      cases h
      obtain ⟨S1, rfl, h1⟩ := hS.int
      exact Nxt.pure X rfl hL h1 hH hF (fun t z => XT.pop (g := mkF m pc A _) X.here hx rfl hd rfl rfl z)
    · cases h
  | getfield k =>
    obtain rfl : len = 3 := by simpa [lenOk] using hlen
    simp only [xI] at h
    split at h
    · rename_i o S0
      obtain ⟨ad, S1, g1, rfl, h1⟩ := hS.ref
      split at h
      · rename_i c0 fs hc0
        split at h
        · rename_i ec
          subst ec
          obtain ⟨ad', g2, cd, q1, q2, q3, q4⟩ := hH.at hc0
          rw [g1] at g2; cases g2
          have hcd := cid_of hP hdm q1
          have core : ∀ v, fs[a]? = some v → ∃ w T2, VR ρ v w ∧ Stand p l e R s m args below meth c T2 locs cells slots ∧ T2.heap = T.heap ∧ ∀ target, Steps p.tables e below (T2.setTop (mkF m (pc + 3) A (w :: S1))) target → Steps p.tables e below (T.setTop (mkF m pc A (.ref ad :: S1))) target := fun v hv => by
            have ha : a < cd.2.2.length := by rw [← q3]; exact (List.getElem?_eq_some_iff.mp hv).1
            obtain ⟨w, hvw, F⟩ := q4 a v _ hv (List.getElem?_eq_getElem ha)
            have w1 := hWi (.fieldLink d.name.cls k d.name.cls cd.2.2[a].1 cd.2.2[a].2.1) (by
              show _ ∈ fLink P d k a
              unfold fLink
              rw [fieldOf_spec q1 (List.getElem?_eq_getElem ha)]
              exact List.mem_singleton.mpr rfl)
            rw [hcd] at F
            obtain ⟨T2, X2, e2, st2⟩ := getF X hx hZ hown (host := "") (Or.inl w1) Via.refl rfl F (g := mkF m pc A (.ref ad :: S1)) rfl rfl hd
            exact ⟨w, T2, hvw, X2, e2, st2⟩
          split at h
          · rename_i x hv
            cases h
            obtain ⟨w, T2, hvw, X2, e2, st2⟩ := core _ hv
            exact Nxt.mem X2 rfl hL ⟨_, _, rfl, hvw, h1⟩ (by rw [e2]; exact hH) hF st2
          · rename_i x hv
            cases h
            obtain ⟨w, T2, hvw, X2, e2, st2⟩ := core _ hv
            exact Nxt.mem X2 rfl hL ⟨_, _, rfl, hvw, h1⟩ (by rw [e2]; exact hH) hF st2
          · rename_i x hv
            cases h
            obtain ⟨w, T2, hvw, X2, e2, st2⟩ := core _ hv
            exact Nxt.mem X2 rfl hL ⟨_, _, rfl, hvw, h1⟩ (by rw [e2]; exact hH) hF st2
          · cases h
        · cases h
      · cases h
    · cases h
  | putfield k =>
    obtain rfl : len = 3 := by simpa [lenOk] using hlen
    simp only [xI] at h
    split at h
    · rename_i v o S0
      obtain ⟨w, Sx, rfl, hvw, hS1⟩ := hS
      obtain ⟨ad, S1, g1, rfl, h1⟩ := hS1.ref
      split at h
      · rename_i c0 fs hc0
        split at h
        · rename_i ec
          obtain ⟨ec, enr⟩ := ec
          subst ec
          split at h
          · rename_i nm ds ty fin hf
            split at h
            · rename_i hok
              cases h
              simp only [Bool.and_eq_true] at hok
              obtain ⟨hok, hfin⟩ := hok
              obtain ⟨ad', g2, cd, q1, q2, q3, q4⟩ := hH.at hc0
              rw [g1] at g2; cases g2
              have hcd := cid_of hP hdm q1
              rw [q1] at hf
              have hf' : cd.2.2[a]? = some (nm, ds, ty, fin) := hf
              have ha : a < fs.length := by rw [q3]; exact (List.getElem?_eq_some_iff.mp hf').1
              obtain ⟨w0, -, F⟩ := q4 a _ _ (List.getElem?_eq_getElem ha) hf'
              have w1 := hWi (.fieldLink d.name.cls k d.name.cls nm ds) (by
                show _ ∈ fLink P d k a
                unfold fLink
                rw [fieldOf_spec q1 hf']
                exact List.mem_singleton.mpr rfl)
              have hcm : cd ∈ P.cls := List.mem_of_getElem? q1
              have w2 := hW _ (in_wordsC hcm (fWord_in (List.mem_of_getElem? hf')))
              have w3 := hW (.instantiable cd.1 cd.2.1) (in_wordsC hcm (List.mem_cons_self ..))
              have hck := cChk_of hP hcm
              have hck' := hck
              simp only [cChk, Bool.and_eq_true, List.all_eq_true] at hck'
              have f1 := hck'.2 _ (List.mem_of_getElem? hf')
              simp only [fChk, Bool.and_eq_true, decide_eq_true_eq] at f1
              obtain ⟨p1, p2⟩ := putOk_sim hok hvw
              have Ly : (Jvm.Cond.lays cd.1 cd.1 nm ds).before a0 Z = true ∨ ((Jvm.Cond.laysFinal cd.1 cd.1 nm ds).before a0 Z = true ∧ d.name.cls = cd.1 ∧ meth.name = "<init>") := by
                unfold fWord at w2
                cases fin with
                | false => exact Or.inl w2
                | true => exact Or.inr ⟨w2, hcd.symm, by rw [hnm]; simpa using hfin⟩
              obtain ⟨T2, h2, X2, e2, W2, st2⟩ := putF X hx hZ hown (host := "") (R0 := d.name.cls) (O := cd.1) (Or.inl w1) (by rw [hcd]; exact Via.refl) rfl F q2 Ly w3 f1.1 p1 p2 (g := mkF m pc A (w :: .ref ad :: S1)) rfl rfl hd
              have hH2 := hH.putF (a0 := a0) g1 hc0 q1 hf' hck (fun f hfm => hW _ (in_wordsC hcm (fWord_in hfm))) W2 hvw
              exact Nxt.mem X2 rfl hL h1 (by rw [e2]; exact hH2) (Fr.snoc X2 hF (hH.2.2.2.1 _ _ g1 enr)) st2
            · cases h
          · cases h
        · cases h
      · cases h
    · cases h
  | iaload =>
    obtain rfl : len = 1 := by simpa [lenOk] using hlen
    simp only [xI] at h
    split at h
    · rename_i j o S0
      obtain ⟨S1, rfl, h1⟩ := hS.int
      obtain ⟨ad, S2, g1, rfl, h2⟩ := h1.ref
      split at h
      · rename_i B hc0
        obtain ⟨x, q, e1⟩ := Option.map_eq_some_iff.mp h
        cases e1
        obtain ⟨hj, hat⟩ := rdA_spec q
        obtain ⟨ad', g2, cl, Ar, z1, z2, z3⟩ := hH.at hc0
        rw [g1] at g2; cases g2
        have hin : ¬ (j < 0 ∨ cl.slots.size ≤ j.toNatClampNeg) := by
          have := (List.getElem?_eq_some_iff.mp hat).1
          rintro (y | y)
          · exact hj y
          · omega
        exact Nxt.pure X rfl hL ⟨_, _, rfl, rfl, h2⟩ hH hF (fun t z => X.iaload hx (j := j) (v := .int x) Ar.1 (State.isArrayOf_alike hZ.alike Ar.2.1) Ar.2.2 hin (z3 _ _ hat) (g := mkF m pc A _) rfl rfl hd t z)
      · cases h
    · cases h
  | baload =>
    obtain rfl : len = 1 := by simpa [lenOk] using hlen
    simp only [xI] at h
    split at h
    · rename_i j o S0
      obtain ⟨S1, rfl, h1⟩ := hS.int
      obtain ⟨ad, S2, g1, rfl, h2⟩ := h1.ref
      split at h
      · rename_i B hc0
        obtain ⟨x, q, e1⟩ := Option.map_eq_some_iff.mp h
        cases e1
        obtain ⟨hj, hat⟩ := rdA_spec q
        obtain ⟨ad', g2, cl, Ar, z1, z2, z3⟩ := hH.at hc0
        rw [g1] at g2; cases g2
        have hin : ¬ (j < 0 ∨ cl.slots.size ≤ j.toNatClampNeg) := by
          have := (List.getElem?_eq_some_iff.mp hat).1
          rintro (y | y)
          · exact hj y
          · omega
        exact Nxt.pure X rfl hL ⟨_, _, rfl, rfl, h2⟩ hH hF (fun t z => X.baloadBooleans hx (j := j) (v := .int x) Ar.1 (State.isArrayOf_alike hZ.alike Ar.2.1) Ar.2.2 hin (z3 _ _ hat) (g := mkF m pc A _) rfl rfl hd t z)
      · cases h
    · cases h
  | laload =>
    obtain rfl : len = 1 := by simpa [lenOk] using hlen
    simp only [xI] at h
    split at h
    · rename_i j o S0
      obtain ⟨S1, rfl, h1⟩ := hS.int
      obtain ⟨ad, S2, g1, rfl, h2⟩ := h1.ref
      split at h
      · rename_i B hc0
        obtain ⟨x, q, e1⟩ := Option.map_eq_some_iff.mp h
        cases e1
        obtain ⟨hj, hat⟩ := rdA_spec q
        obtain ⟨ad', g2, cl, Ar, z1, z2, z3⟩ := hH.at hc0
        rw [g1] at g2; cases g2
        have hin : ¬ (j < 0 ∨ cl.slots.size ≤ j.toNatClampNeg) := by
          have := (List.getElem?_eq_some_iff.mp hat).1
          rintro (y | y)
          · exact hj y
          · omega
        exact Nxt.pure X rfl hL ⟨_, _, rfl, rfl, h2⟩ hH hF (fun t z => X.laload hx (j := j) (v := .long x) Ar.1 (State.isArrayOf_alike hZ.alike Ar.2.1) Ar.2.2 hin (z3 _ _ hat) (g := mkF m pc A _) rfl rfl hd t z)
      · cases h
    · cases h
  | iastore =>
    obtain rfl : len = 1 := by simpa [lenOk] using hlen
    simp only [xI] at h
    split at h
    · rename_i x j o S0
      obtain ⟨S1, rfl, h1⟩ := hS.int
      obtain ⟨S2, rfl, h2⟩ := h1.int
      obtain ⟨ad, S3, g1, rfl, h3⟩ := h2.ref
      split at h
      · rename_i B hc0
        split at h
        · rename_i enr
          obtain ⟨B', q, e1⟩ := Option.map_eq_some_iff.mp h
          cases e1
          obtain ⟨hj, hlt, rfl⟩ := wrA_spec q
          obtain ⟨ad', g2, cl, Ar, z1, z2, z3⟩ := hH.at hc0
          rw [g1] at g2; cases g2
          have hin : ¬ (j < 0 ∨ cl.slots.size ≤ j.toNatClampNeg) := by
            rintro (y | y)
            · exact hj y
            · omega
          obtain ⟨T2, h2', X2, e2, W2, st2⟩ := stI X hx hZ rfl Ar (j := j) (x := x) hin (g := mkF m pc A _) rfl rfl hd
          exact Nxt.mem X2 rfl hL h3 (by rw [e2]; exact hH.wrI g1 hc0 W2) (Fr.snoc X2 hF (hH.2.2.2.1 _ _ g1 enr)) st2
        · cases h
      · cases h
    · cases h
  | bastore =>
    obtain rfl : len = 1 := by simpa [lenOk] using hlen
    simp only [xI] at h
    split at h
    · rename_i x j o S0
      obtain ⟨S1, rfl, h1⟩ := hS.int
      obtain ⟨S2, rfl, h2⟩ := h1.int
      obtain ⟨ad, S3, g1, rfl, h3⟩ := h2.ref
      split at h
      · rename_i B hc0
        split at h
        · rename_i enr
          obtain ⟨B', q, e1⟩ := Option.map_eq_some_iff.mp h
          cases e1
          obtain ⟨hj, hlt, rfl⟩ := wrA_spec q
          obtain ⟨ad', g2, cl, Ar, z1, z2, z3⟩ := hH.at hc0
          rw [g1] at g2; cases g2
          have hin : ¬ (j < 0 ∨ cl.slots.size ≤ j.toNatClampNeg) := by
            rintro (y | y)
            · exact hj y
            · omega
          obtain ⟨T2, h2', X2, e2, W2, st2⟩ := stZ X hx hZ rfl Ar (j := j) (x := x) hin (g := mkF m pc A _) rfl rfl hd
          exact Nxt.mem X2 rfl hL h3 (by rw [e2]; exact hH.wrI g1 hc0 W2) (Fr.snoc X2 hF (hH.2.2.2.1 _ _ g1 enr)) st2
        · cases h
      · cases h
    · cases h
  | lastore =>
    obtain rfl : len = 1 := by simpa [lenOk] using hlen
    simp only [xI] at h
    split at h
    · rename_i x j o S0
      obtain ⟨S1, rfl, h1⟩ := hS.long
      obtain ⟨S2, rfl, h2⟩ := h1.int
      obtain ⟨ad, S3, g1, rfl, h3⟩ := h2.ref
      split at h
      · rename_i B hc0
        split at h
        · rename_i enr
          obtain ⟨B', q, e1⟩ := Option.map_eq_some_iff.mp h
          cases e1
          obtain ⟨hj, hlt, rfl⟩ := wrA_spec q
          obtain ⟨ad', g2, cl, Ar, z1, z2, z3⟩ := hH.at hc0
          rw [g1] at g2; cases g2
          have hin : ¬ (j < 0 ∨ cl.slots.size ≤ j.toNatClampNeg) := by
            rintro (y | y)
            · exact hj y
            · omega
          obtain ⟨T2, h2', X2, e2, W2, st2⟩ := stJ X hx hZ rfl Ar (j := j) (x := x) hin (g := mkF m pc A _) rfl rfl hd
          exact Nxt.mem X2 rfl hL h3 (by rw [e2]; exact hH.wrJ g1 hc0 W2) (Fr.snoc X2 hF (hH.2.2.2.1 _ _ g1 enr)) st2
        · cases h
      · cases h
    · cases h
  | arraylength =>
    obtain rfl : len = 1 := by simpa [lenOk] using hlen
    simp only [xI] at h
    split at h
    · rename_i o S0
      obtain ⟨ad, S1, g1, rfl, h1⟩ := hS.ref
      split at h
      · rename_i bb B hc0
        cases h
        obtain ⟨ad', g2, cl, Ar, z1, z2, z3⟩ := hH.at hc0
        rw [g1] at g2; cases g2
        exact Nxt.pure X rfl hL ⟨_, _, rfl, rfl, h1⟩ hH hF (fun t z => X.arraylength hx (cell := cl) Ar.1 (State.isArrayOf_alike hZ.alike Ar.2.1) (g := mkF m pc A _) rfl rfl hd t (by rw [z1]; exact z))
      · cases h
    · cases h
  | _ => simp [xI] at h
set_option maxHeartbeats 4000000 in
theorem stepN (X : Stand p l e R s m args below meth c T locs cells slots) (hx : p.tables.exec = Jvm.exec) (hZ : Z.Warmed39 s.vm) (hown : s.vm.findClass d.name.cls = some m.cls) (hP : chk P = true) (hW : ∀ w ∈ wordsOf P, w.before a0 Z = true) (hdm : d ∈ P.mth)
    {pc len a ks : Nat} {er : List Bool} {b : Int} {i : Instr} (hit : (pc, i, len, er, a, b) ∈ d.code) (hd : decode c.code pc = .ok (i, len)) (hlen : lenOk i len = true) {ρ : List Addr} {S S' Sc : List Value} {H H1 : AHeap} {A : Array Slot}
    (hS : SR ρ S Sc) (hH : HR P Z n0 T.heap ρ H) (h : xN P i a S H = some (S', H1, ks)) (hc : cells + 1 ≤ R.cells) (hl : slots + ks ≤ R.slots) :
    ∃ T' ad Sc', Stand p l e R s m args below meth c T' locs (cells + 1) (slots + ks) ∧ SR (ρ ++ [ad]) S' Sc' ∧ HR P Z n0 T'.heap (ρ ++ [ad]) H1 ∧
      ∀ target, Steps p.tables e below (T'.setTop (mkF m (pc + len) A Sc')) target → Steps p.tables e below (T.setTop (mkF m pc A Sc)) target := by
  have hWi : ∀ w ∈ iWords P d (pc, i, len, er, a, b), w.before a0 Z = true := fun w q => hW w (in_wordsOf hdm hit q)
  cases i with
  | new k =>
    obtain rfl : len = 3 := by simpa [lenOk] using hlen
    simp only [xN] at h
    split at h
    · rename_i cd q1
      cases h
      have hcm : cd ∈ P.cls := List.mem_of_getElem? q1
      have w1 := hWi (.classLink d.name.cls k cd.1) (by simp only [iWords, q1]; exact List.mem_singleton.mpr rfl)
      have w2 := hW (.instantiable cd.1 cd.2.1) (in_wordsC hcm (List.mem_cons_self ..))
      have w3 := hW (.initialized cd.1) (in_wordsC hcm (List.mem_cons_of_mem _ (List.mem_cons_self ..)))
      obtain ⟨T2, h2, X2, e2, E2, A2, D2, -, st2⟩ := newO X hx hZ hown w1 w2 w3 rfl (g := mkF m pc A Sc) rfl hd hc hl
      have hck := cChk_of hP hcm
      simp only [cChk, Bool.and_eq_true, List.all_eq_true] at hck
      have hcr : CR P Z h2 (ρ ++ [T.heap.size]) T.heap.size (.inl (a, cd.2.2.map fun f => dflt f.2.2.1)) := by
        refine ⟨cd, q1, A2, by simp, fun j v fd y1 y2 => ?_⟩
        rw [List.getElem?_map, y2] at y1
        cases y1
        have f1 := hck.2 _ (List.mem_of_getElem? y2)
        simp only [fChk, Bool.and_eq_true, decide_eq_true_eq] at f1
        exact ⟨_, dflt_sim f1.2, D2 (laid_of (hW _ (in_wordsC hcm (fWord_in (List.mem_of_getElem? y2))))) f1.1⟩
      refine ⟨T2, T.heap.size, _, X2, ⟨_, _, rfl, ⟨T.heap.size, ?_, rfl⟩, hS.mono⟩, (by rw [e2]; exact hH.push E2 hcr), st2⟩
      rw [← hH.2.1]; simp
    · cases h
  | newarray t =>
    obtain rfl : len = 2 := by simpa [lenOk] using hlen
    simp only [xN] at h
    split at h
    · rename_i n S0
      obtain ⟨S1, rfl, h1⟩ := hS.int
      split at h
      · cases h
      · rename_i hn
        have hn1 : ¬ n < 0 := fun z => hn (Or.inl z)
        have hn2 : n.toNatClampNeg ≤ 100000 := Nat.le_of_not_lt fun z => hn (Or.inr z)
        have w1 := hWi (.arrayClass (newarray.typeOf t)) (List.mem_singleton.mpr rfl)
        have top : (ρ ++ [T.heap.size])[H.length]? = some T.heap.size := by rw [← hH.2.1]; simp
        split at h
        · cases h
          obtain ⟨T2, h2, cA, X2, e2, E2, A2, st2⟩ := newP X hx hZ w1 rfl (g := mkF m pc A _) rfl hd rfl hn1 (cap := n.toNatClampNeg) (Nat.le_refl _) (by omega) hc hl
          have hcr : CR P Z h2 (ρ ++ [T.heap.size]) T.heap.size ((.inr (.inl (false, List.replicate n.toNatClampNeg 0)) : ACell)) := by
            refine ⟨_, A2, by simp [sz_new], by simp; omega, fun j x y => ?_⟩
            rw [List.getElem?_replicate] at y
            split at y
            · rename_i lt
              cases y
              simp [newA, lt, newarray.typeOf, defaultValue]
            · cases y
          exact ⟨T2, T.heap.size, _, X2, ⟨_, _, rfl, ⟨T.heap.size, top, rfl⟩, h1.mono⟩, (by rw [e2]; exact hH.push E2 hcr), st2⟩
        · cases h
          obtain ⟨T2, h2, cA, X2, e2, E2, A2, st2⟩ := newP X hx hZ w1 rfl (g := mkF m pc A _) rfl hd rfl hn1 (cap := n.toNatClampNeg) (Nat.le_refl _) (by omega) hc hl
          have hcr : CR P Z h2 (ρ ++ [T.heap.size]) T.heap.size ((.inr (.inl (true, List.replicate n.toNatClampNeg 0)) : ACell)) := by
            refine ⟨_, A2, by simp [sz_new], by simp; omega, fun j x y => ?_⟩
            rw [List.getElem?_replicate] at y
            split at y
            · rename_i lt
              cases y
              simp [newA, lt, newarray.typeOf, defaultValue]
            · cases y
          exact ⟨T2, T.heap.size, _, X2, ⟨_, _, rfl, ⟨T.heap.size, top, rfl⟩, h1.mono⟩, (by rw [e2]; exact hH.push E2 hcr), st2⟩
        · cases h
          obtain ⟨T2, h2, cA, X2, e2, E2, A2, st2⟩ := newP X hx hZ w1 rfl (g := mkF m pc A _) rfl hd rfl hn1 (cap := n.toNatClampNeg) (Nat.le_refl _) (by omega) hc hl
          have hcr : CR P Z h2 (ρ ++ [T.heap.size]) T.heap.size ((.inr (.inr (List.replicate n.toNatClampNeg 0)) : ACell)) := by
            refine ⟨_, A2, by simp [sz_new], by simp; omega, fun j x y => ?_⟩
            rw [List.getElem?_replicate] at y
            split at y
            · rename_i lt
              cases y
              simp [newA, lt, newarray.typeOf, defaultValue]
            · cases y
          exact ⟨T2, T.heap.size, _, X2, ⟨_, _, rfl, ⟨T.heap.size, top, rfl⟩, h1.mono⟩, (by rw [e2]; exact hH.push E2 hcr), st2⟩
        · cases h
    · cases h
  | _ => simp [xN] at h
end Step
end Jvm.Own
namespace Jvm.Own
open Jvm Jvm.ClassFile Sem Op Lib Jvm.Free Jvm.Stand Jvm.LawKit Jvm.RoadKit Bundle
theorem fetch_mem : ∀ {l : List (Nat × It)} {pc : Nat} {i : It}, fetch l pc = some i → (pc, i) ∈ l
  | [], _, _, h => by simp [fetch] at h
  | (q, j) :: r, pc, i, h => by
    unfold fetch at h
    split at h
    · rename_i e; cases h; subst e; exact List.mem_cons_self ..
    · exact List.mem_cons_of_mem _ (fetch_mem h)
theorem tgt_spec {pc q : Nat} {o : Int} (h : tgt pc o = some q) : 0 ≤ (pc : Int) + o ∧ ((pc : Int) + o).toNat = q := by
  unfold tgt at h
  split at h
  · rename_i z; cases h; exact ⟨z, rfl⟩
  · cases h
/-- the end of a method's run -/
def Done (P : PD) (Z : State) (n0 : Nat) (p : Program) (e : Env) (below : List Frame) (s : State) (ρ : List Addr) (v : Option Value) (H' : AHeap) (kc ks : Nat) (t0 : State) : Prop :=
  ∃ s₂ v' L' t, Steps p.tables e below t0 s₂ ∧ s₂.status = .running ∧ Ended s₂ below (.returned v') ∧ OV (ρ ++ t) v v' ∧ HR P Z n0 s₂.heap (ρ ++ t) H' ∧ Fr n0 L' ∧ FrameEnd s (.returned v') s₂ L' kc ks
def Cx (P : PD) (Z : State) (p : Program) (R : Room) (s : State) (m : MethodId) (meth : Method) (c : Code) (d : MD) : Prop :=
  p.tables.exec = Jvm.exec ∧ Z.Warmed39 s.vm ∧ c.code = d.bytes ∧ c.maxLocals = d.maxL ∧ s.vm.findClass d.name.cls = some m.cls ∧ meth.name = d.name.name ∧ meth.sig.returnType = d.ret ∧ meth.locks = false ∧ d.rf ≤ R.frames ∧ d.rw ≤ R.locals
/-- what the machine says of a run that has come to pc is what the model does -/
def Says (P : PD) (Z : State) (n0 : Nat) (l : Launch) (n : Nat) : Prop :=
  ∀ (mi pc : Nat) (L : List Slot) (S : List Value) (H : AHeap) (v : Option Value) (H' : AHeap) (kc ks : Nat), exe P n mi pc L S H = some (v, H', kc, ks) → ∀ d, P.mth[mi]? = some d →
    ∀ (p : Program) (e : Env) (R : Room) (s : State) (m : MethodId) (args : Array Value) (below : List Frame) (meth : Method) (c : Code) (T : State) (locs : List Loc) (cells slots : Nat),
      Stand p l e R s m args below meth c T locs cells slots → Cx P Z p R s m meth c d → cells + kc ≤ R.cells → slots + ks ≤ R.slots →
      ∀ (ρ : List Addr) (A : Array Slot) (Sc : List Value), LR ρ L A → L.length = d.maxL → SR ρ S Sc → HR P Z n0 T.heap ρ H → Fr n0 locs →
        Done P Z n0 p e below s ρ v H' (cells + kc) (slots + ks) (T.setTop (mkF m pc A Sc))
def QQ (P : PD) (Z : State) (n0 : Nat) (ρ : List Addr) (v : Option Value) (H1 : AHeap) (v' : Option Value) (h' : Heap) (L : List Loc) : Prop := Fr n0 L ∧ ∃ t, OV (ρ ++ t) v v' ∧ HR P Z n0 h' (ρ ++ t) H1
theorem met_of {P : PD} {Z : State} {n0 : Nat} {l : Launch} {n : Nat} (ih : Says P Z n0 l n) {j : Nat} {y : MD} (hy : P.mth[j]? = some y) (hpn : plainName y.name.cls = true) {as ws : List Value} {H H1 : AHeap} {v : Option Value} {kc ks : Nat} (he : exe P n j 0 (entL as y.maxL) [] H = some (v, H1, kc, ks)) {ρ : List Addr} (hS : SR ρ as ws) (hlen : (entA as).length ≤ y.maxL) {h : Heap} (hH : HR P Z n0 h ρ H) (w0 : List Jvm.Cond) (rm : Room) (r1 : y.rf ≤ rm.frames) (r2 : y.rw ≤ rm.locals) (r3 : kc ≤ rm.cells) (r4 : ks ≤ rm.slots) :
    MetFree l y.name (head1 (Jvm.Cond.code y.name y.bytes y.maxL y.ret :: w0) rm) (fun a U => a = ws.toArray ∧ Z.Warmed39 U.vm ∧ U.heap = h) (fun _ _ _ _ _ => True)
      (fun _ U o U' => ∃ v' L, o = .returned v' ∧ QQ P Z n0 ρ v H1 v' U'.heap L ∧ FrameEnd U o U' L kc ks) := by
  refine MetFree.of_bodySF (plainFor_of_name hpn) hisR ?_
  intro p e s m args below meth c s₁ Bd hml0 hP hK
  obtain ⟨rfl, hZ, hh⟩ := hP
  have X0 : Stand p l e rm s m ws.toArray below meth c s₁ [] 0 0 := Stand.of_body Bd
  have e0 : s₁.heap = h := by rw [← hh, Bd.state]; rfl
  obtain ⟨hL, hsz⟩ := LR.enter hS hlen
  have hLl : (entL as y.maxL).length = y.maxL := by rw [← hL.1]; exact hsz
  obtain ⟨s₂, v', L', t, h1, h2, h3, h4, h5, h6, h7⟩ := ih j 0 _ [] H v H1 kc ks he y hy p e _ s m ws.toArray below meth c s₁ [] 0 0 X0
    ⟨Bd.exec, hZ, Bd.bytes, hml0, findClass_of_methodNamed Bd.named, (name_of_methodNamed Bd.named Bd.method).1, Bd.returns, BodyLoose.notSynchronized Bd, r1, r2⟩
    (by rw [Nat.zero_add]; exact r3) (by rw [Nat.zero_add]; exact r4) ρ _ [] hL hLl rfl (by rw [e0]; exact hH) (Fr.nil n0)
  refine ⟨s₂, _, h1, h2, h3, v', L', rfl, ⟨h6, t, h4, h5⟩, ?_⟩
  rw [Nat.zero_add, Nat.zero_add] at h7
  exact h7
section Sound
variable {P : PD} {Z : State} {n0 : Nat} {a0 : Array Value} {l : Launch}
theorem Done.step {p : Program} {e : Env} {below : List Frame} {s : State} {ρ t : List Addr} {v : Option Value} {H' : AHeap} {kc ks : Nat} {t0 t1 : State} (h : Done P Z n0 p e below s (ρ ++ t) v H' kc ks t1) (k : ∀ target, Steps p.tables e below t1 target → Steps p.tables e below t0 target) : Done P Z n0 p e below s ρ v H' kc ks t0 := by
  obtain ⟨s₂, v', L', t', h1, h2, h3, h4, h5, h6, h7⟩ := h
  exact ⟨s₂, v', L', t ++ t', k _ h1, h2, h3, by rw [← List.append_assoc]; exact h4, by rw [← List.append_assoc]; exact h5, h6, h7⟩
theorem argsOf_spec {n : Nat} {S as rest : List Value} (h : argsOf n S = some (as, rest)) : n ≤ S.length ∧ as = (S.take n).reverse ∧ rest = S.drop n := by
  unfold argsOf at h
  split at h
  · rename_i z; cases h; exact ⟨z, rfl, rfl⟩
  · cases h
theorem res_ext {α : Type} {o : Option Res} {v : Option Value} {H' : AHeap} {kc ks c1 s1 : Nat} (h : (o.map fun r => addR r c1 s1) = some (v, H', kc, ks)) : ∃ kc' ks', o = some (v, H', kc', ks') ∧ kc = kc' + c1 ∧ ks = ks' + s1 := by
  obtain ⟨⟨v0, H0, c0, s0⟩, h1, h2⟩ := Option.map_eq_some_iff.mp h
  simp only [addR] at h2
  cases h2
  exact ⟨c0, s0, h1, rfl, rfl⟩
set_option maxHeartbeats 4000000 in
theorem sound (hP : chk P = true) (hW : ∀ w ∈ wordsOf P, w.before a0 Z = true) : ∀ n, Says P Z n0 l n
  | 0 => fun mi pc L S H v H' kc ks h => by simp [exe] at h
  | n + 1 => by
    have ih := sound hP hW n
    intro mi pc L S H v H' kc ks h d hmi
    unfold exe at h
    rw [hmi] at h
    simp only at h
    have hdm : d ∈ P.mth := List.mem_of_getElem? hmi
    split at h
    · cases h
    rename_i it i len er a b hft
    have hit := fetch_mem hft
    have hmc := mChk_of hP hdm
    simp only [mChk, Bool.and_eq_true] at hmc
    obtain ⟨⟨⟨⟨⟨⟨mc1, mc2⟩, mc3⟩, mc4⟩, mc5⟩, mc6⟩, mc7⟩ := hmc
    unfold codeChk at mc3
    rw [List.all_eq_true] at mc3
    have hci := mc3 _ hit
    simp only [Bool.and_eq_true, decide_eq_true_eq] at hci
    obtain ⟨hdec, hlenOk⟩ := hci
    -- a jump, or a fall through
    have jump : ∀ (q : Nat) (S1 : List Value) (h1 : exe P n mi q (forget er L) S1 H = some (v, H', kc, ks)),
        (∀ (p : Program) (e : Env) (R : Room) (s : State) (m : MethodId) (args : Array Value) (below : List Frame) (meth : Method) (c : Code) (T : State) (locs : List Loc) (cells slots : Nat),
          Stand p l e R s m args below meth c T locs cells slots → Cx P Z p R s m meth c d → ∀ (ρ : List Addr) (A : Array Slot) (Sc : List Value), LR ρ L A → SR ρ S Sc → ∃ Sc1, SR ρ S1 Sc1 ∧ ∀ target, Steps p.tables e below (T.setTop (mkF m q A Sc1)) target → Steps p.tables e below (T.setTop (mkF m pc A Sc)) target) →
        ∀ (p : Program) (e : Env) (R : Room) (s : State) (m : MethodId) (args : Array Value) (below : List Frame) (meth : Method) (c : Code) (T : State) (locs : List Loc) (cells slots : Nat),
          Stand p l e R s m args below meth c T locs cells slots → Cx P Z p R s m meth c d → cells + kc ≤ R.cells → slots + ks ≤ R.slots →
          ∀ (ρ : List Addr) (A : Array Slot) (Sc : List Value), LR ρ L A → L.length = d.maxL → SR ρ S Sc → HR P Z n0 T.heap ρ H → Fr n0 locs →
            Done P Z n0 p e below s ρ v H' (cells + kc) (slots + ks) (T.setTop (mkF m pc A Sc)) := by
      intro q S1 h1 st p e R s m args below meth c T locs cells slots X cx k1 k2 ρ A Sc hL hLl hS hH hF
      obtain ⟨Sc1, hS1, st1⟩ := st p e R s m args below meth c T locs cells slots X cx ρ A Sc hL hS
      have := ih mi q _ S1 H v H' kc ks h1 d hmi p e R s m args below meth c T locs cells slots X cx k1 k2 ρ A Sc1 (hL.forget er) (by rw [forget_len]; exact hLl) hS1 hH hF
      exact Done.step (t := []) (by rw [List.append_nil]; exact this) st1
    have dec : ∀ {c : Code}, c.code = d.bytes → decode c.code pc = .ok (i, len) := fun hc => by rw [hc]; exact hdec
    split at h
    · -- goto
      rename_i o
      split at h
      · rename_i q hq
        obtain ⟨t1, t2⟩ := tgt_spec hq
        have m3 := jump q S h
        obtain rfl : len = 3 := by simpa [lenOk] using hlenOk
        exact m3 fun p e R s m args below meth c T locs cells slots X cx ρ A Sc hL hS => ⟨Sc, hS, fun t z => XS.goto (g := mkF m pc A Sc) X.here cx.1 rfl (pc0 := pc) (pc' := q) rfl (dec cx.2.2.1) t1 t2 z⟩
      · cases h
    · -- if_icmp
      rename_i cd o
      split at h
      · rename_i y x S1
        obtain rfl : len = 3 := by simpa [lenOk] using hlenOk
        split at h
        · rename_i hc
          split at h
          · rename_i q hq
            obtain ⟨t1, t2⟩ := tgt_spec hq
            have m3 := jump q S1 h
            exact m3 fun p e R s m args below meth c T locs cells slots X cx ρ A Sc hL hS => by
              obtain ⟨Sa, rfl, ha⟩ := hS.int
              obtain ⟨Sb, rfl, hb⟩ := ha.int
              exact ⟨Sb, hb, fun t z => XS.icmpYes (g := mkF m pc A _) X.here cx.1 rfl (pc0 := pc) (pc' := q) rfl (dec cx.2.2.1) rfl hc t1 t2 z⟩
          · cases h
        · rename_i hc
          have m3 := jump (pc + 3) S1 h
          exact m3 fun p e R s m args below meth c T locs cells slots X cx ρ A Sc hL hS => by
            obtain ⟨Sa, rfl, ha⟩ := hS.int
            obtain ⟨Sb, rfl, hb⟩ := ha.int
            exact ⟨Sb, hb, fun t z => XS.icmpNo (g := mkF m pc A _) X.here cx.1 rfl (dec cx.2.2.1) rfl (by simpa using hc) z⟩
      · cases h
    · -- ifCond
      rename_i cd o
      split at h
      · rename_i x S1
        obtain rfl : len = 3 := by simpa [lenOk] using hlenOk
        split at h
        · rename_i hc
          split at h
          · rename_i q hq
            obtain ⟨t1, t2⟩ := tgt_spec hq
            have m3 := jump q S1 h
            exact m3 fun p e R s m args below meth c T locs cells slots X cx ρ A Sc hL hS => by
              obtain ⟨Sa, rfl, ha⟩ := hS.int
              exact ⟨Sa, ha, fun t z => XS.ifYes (g := mkF m pc A _) X.here cx.1 rfl (pc0 := pc) (pc' := q) rfl (dec cx.2.2.1) rfl hc t1 t2 z⟩
          · cases h
        · rename_i hc
          have m3 := jump (pc + 3) S1 h
          exact m3 fun p e R s m args below meth c T locs cells slots X cx ρ A Sc hL hS => by
            obtain ⟨Sa, rfl, ha⟩ := hS.int
            exact ⟨Sa, ha, fun t z => XS.ifNo (g := mkF m pc A _) X.here cx.1 rfl (dec cx.2.2.1) rfl (by simpa using hc) z⟩
      · cases h
    · -- ifnonnull
      rename_i o
      split at h
      · rename_i x S1
        split at h
        · rename_i q hq
          obtain ⟨t1, t2⟩ := tgt_spec hq
          have m3 := jump q S1 h
          obtain rfl : len = 3 := by simpa [lenOk] using hlenOk
          exact m3 fun p e R s m args below meth c T locs cells slots X cx ρ A Sc hL hS => by
            obtain ⟨ad, Sa, -, rfl, ha⟩ := hS.ref
            exact ⟨Sa, ha, fun t z => XT.ifnonnullYes (g := mkF m pc A _) X.here cx.1 rfl (pc0 := pc) (pc' := q) rfl (dec cx.2.2.1) rfl t1 t2 z⟩
        · cases h
      · cases h
    · -- ireturn
      split at h
      · rename_i x
        split at h
        · rename_i v0 hv0
          cases h
          obtain rfl : len = 1 := by simpa [lenOk] using hlenOk
          intro p e R s m args below meth c T locs cells slots X cx k1 k2 ρ A Sc hL hLl hS hH hF
          obtain ⟨hx, hZ, hby, hml, hown, hnm, hret, hlk, -, -⟩ := cx
          obtain ⟨Sa, rfl, ha⟩ := hS.int
          unfold retV at hv0
          split at hv0
          · rename_i hr0
            cases hv0
            obtain ⟨fs, hr, hrun, hended, hWm, hsame⟩ := X.leave (v := some (.int x)) (fun q => by rw [hret, hr0] at q; cases q) hlk
            exact ⟨_, _, locs, [], retI X hx (by rw [hret, hr0]) (dec hby) hr, hrun, hended, ⟨_, rfl, rfl⟩, by rw [List.append_nil]; exact hH, hF, ⟨_, rfl⟩, hWm, hsame⟩
          · rename_i hr0
            cases hv0
            obtain ⟨fs, hr, hrun, hended, hWm, hsame⟩ := X.leave (v := some (.int (x &&& 1))) (fun q => by rw [hret, hr0] at q; cases q) hlk
            exact ⟨_, _, locs, [], retN X hx (t := .boolean) (by rw [hret, hr0]) (by simp) (dec hby) hr, hrun, hended, ⟨_, rfl, rfl⟩, by rw [List.append_nil]; exact hH, hF, ⟨_, rfl⟩, hWm, hsame⟩
          · cases hv0
        · cases h
      · cases h
    · -- lreturn
      split at h
      · rename_i x
        split at h
        · rename_i hr0
          cases h
          obtain rfl : len = 1 := by simpa [lenOk] using hlenOk
          intro p e R s m args below meth c T locs cells slots X cx k1 k2 ρ A Sc hL hLl hS hH hF
          obtain ⟨hx, hZ, hby, hml, hown, hnm, hret, hlk, -, -⟩ := cx
          obtain ⟨Sa, rfl, ha⟩ := hS.long
          obtain rfl : Sa = [] := ha
          obtain ⟨fs, hr, hrun, hended, hWm, hsame⟩ := X.leave (v := some (.long x)) (fun q => by rw [hret, hr0] at q; cases q) hlk
          exact ⟨_, _, locs, [], X.lreturnOut hx (by rw [hret, hr0]) (dec hby) hr, hrun, hended, ⟨_, rfl, rfl⟩, by rw [List.append_nil]; exact hH, hF, ⟨_, rfl⟩, hWm, hsame⟩
        · cases h
      · cases h
    · -- return
      split at h
      · split at h
        · rename_i hr0
          cases h
          obtain rfl : len = 1 := by simpa [lenOk] using hlenOk
          intro p e R s m args below meth c T locs cells slots X cx k1 k2 ρ A Sc hL hLl hS hH hF
          obtain ⟨hx, hZ, hby, hml, hown, hnm, hret, hlk, -, -⟩ := cx
          obtain rfl : Sc = [] := hS
          obtain ⟨fs, hr, hrun, hended, hWm, hsame⟩ := X.leave (v := none) (fun _ => rfl) hlk
          exact ⟨_, _, locs, [], X.returnOut hx (by rw [hret, hr0]) (dec hby) hr, hrun, hended, rfl, by rw [List.append_nil]; exact hH, hF, ⟨_, rfl⟩, hWm, hsame⟩
        · cases h
      · cases h
    · -- a call, or a plain step
      split at h
      · rename_i hinv
        split at h
        · -- Object.<init>
          rename_i hb1
          subst hb1
          have hk : ∃ k x S1, i = .invokespecial k ∧ S = .ref x :: S1 ∧ (if 1 ≤ d.rf ∧ catSum S1 + 12 ≤ d.rw then exe P n mi (pc + 3) (forget er L) S1 H else none) = some (v, H', kc, ks) := by
            split at h
            · exact ⟨_, _, _, rfl, rfl, h⟩
            · cases h
          clear h
          obtain ⟨k, x, S1, rfl, rfl, h⟩ := hk
          · split at h
            · rename_i hroom
              have m3 := ih mi (pc + 3) _ S1 H v H' kc ks h d hmi
              obtain rfl : len = 3 := by simpa [lenOk] using hlenOk
              have hWi : ∀ w ∈ iWords P d (pc, .invokespecial k, 3, er, a, -1), w.before a0 Z = true := fun w q => hW w (in_wordsOf hdm hit q)
              have hWi' : ∀ w ∈ [Jvm.Cond.methodLink d.name.cls k Lib.objectInit, .instanceMethod Lib.objectInit, .code Lib.objectInit ⟨#[0xb1]⟩ 1 none], w.before a0 Z = true := hWi
              intro p e R s m args below meth c T locs cells slots X cx k1 k2 ρ A Sc hL hLl hS hH hF
              have cx0 := cx
              obtain ⟨hx, hZ, hby, hml, hown, hnm, hret, hlk, hrf, hrw⟩ := cx
              obtain ⟨ad, Sa, -, rfl, ha⟩ := hS.ref
              obtain ⟨T2, X2, e2, st2⟩ := initO X hx hZ hown (hWi' _ (by simp)) (hWi' _ (by simp)) (hWi' _ (by simp)) rfl (g := mkF m pc A (.ref ad :: Sa)) rfl (by rw [hml]; exact hL.1.trans hLl) rfl (dec hby) (by omega) (W := catSum S1) (by show 2 * 0 + _ ≤ _; rw [ha.cat]; omega) (by omega)
              have := m3 p e R s m args below meth c T2 locs cells slots X2 cx0 k1 k2 ρ A Sa (hL.forget er) (by rw [forget_len]; exact hLl) ha (by rw [e2]; exact hH) hF
              exact Done.step (t := []) (by rw [List.append_nil]; exact this) st2
            · cases h
        · rename_i hb1
          split at h
          · cases h
          rename_i y hy
          split at h
          · cases h
          rename_i as rest hao
          split at h
          · rename_i hcond
            simp only [Bool.and_eq_true, decide_eq_true_eq] at hcond
            obtain ⟨⟨⟨⟨hj, hik⟩, hrecv⟩, hroom⟩, hent⟩ := hcond
            split at h
            · rename_i v1 H1 c1 s1 hcal
              obtain ⟨c0, s0, hcon, rfl, rfl⟩ := res_ext (α := Unit) h
              have m3 := ih mi (pc + 3) _ _ H1 v H' c0 s0 hcon d hmi
              intro p e R s m args below meth c T locs cells slots X cx k1 k2 ρ A Sc hL hLl hS hH hF
              have cx0 := cx
              obtain ⟨hx, hZ, hby, hml, hown, hnm, hret, hlk, hrf, hrw⟩ := cx
              have hym : y ∈ P.mth := List.mem_of_getElem? hy
              have hyc := mChk_of hP hym
              simp only [mChk, Bool.and_eq_true, decide_eq_true_eq] at hyc
              obtain ⟨⟨⟨⟨⟨⟨yc1, yc2⟩, yc3⟩, yc4⟩, yc5⟩, yc6⟩, yc7⟩ := hyc
              simp only [fitsRoom, Bool.and_eq_true, decide_eq_true_eq] at hroom
              obtain ⟨hn, has, hrest⟩ := argsOf_spec hao
              have hnc : nargs y ≤ Sc.length := by rw [hS.len]; exact hn
              have hSa : SR ρ as (Sc.take (nargs y)).reverse := by rw [has]; exact (hS.take _).rev
              have hSr : SR ρ rest (Sc.drop (nargs y)) := by rw [hrest]; exact hS.drop _
              have hsplit : Sc = (Sc.take (nargs y)).reverse.reverse ++ Sc.drop (nargs y) := by rw [List.reverse_reverse, List.take_append_drop]
              obtain ⟨ws, hws⟩ : ∃ ws, ws = (Sc.take (nargs y)).reverse := ⟨_, rfl⟩
              obtain ⟨rc, hrc⟩ : ∃ rc, rc = Sc.drop (nargs y) := ⟨_, rfl⟩
              have hwl : ws.length = nargs y := by rw [hws]; simp; omega
              rw [← hws] at hSa hsplit
              rw [← hrc] at hSr hsplit
              have wcode := hW (.code y.name y.bytes y.maxL y.ret) (in_wordsM hy hj (List.mem_cons_self ..))
              have winit := hW (.initialized y.name.cls) (in_wordsM hy hj (List.mem_cons_of_mem _ (List.mem_cons_self ..)))
              have wmore : ∀ w ∈ (if y.kind = 0 then [Jvm.Cond.static y.name] else if y.kind = 1 then [.instanceMethod y.name] else if y.kind = 2 then [.instanceMethod y.name, .privateMethod y.name] else [.declares y.name, .selects y.name.cls y.name y.name, .instanceMethod y.name]), w.before a0 Z = true := fun w q => hW w (in_wordsM hy hj (List.mem_cons_of_mem _ (List.mem_cons_of_mem _ q)))
              have hMH : y.name.cls ≠ "java/lang/invoke/MethodHandle" ∧ y.name.cls ≠ "java/lang/invoke/VarHandle" := ⟨yc5, yc6⟩
              have back := backOf (W := catSum rest) (len := 3) (R := R) (p := p) (e := e) (below := below) (s := s) (args := args) (met_of ih hy yc1 hcal hSa hent hH [] ({ frames := y.rf, cells := c1, slots := s1, locals := y.rw } : Room) (Nat.le_refl _) (Nat.le_refl _) (Nat.le_refl _) (Nat.le_refl _)) hZ wcode winit (by show y.rf + 1 ≤ _; omega) (by show _ + y.rw ≤ _; omega)
              have hWW : 2 * (mkF m pc A Sc).monitorRoom + (rc.map fun v => v.category).sum ≤ catSum rest := by show 2 * 0 + _ ≤ _; rw [hSr.cat]; omega
              have hpar : ∀ sig, parseMethodDescriptor y.name.desc = some sig → sig.parameters.length = y.npar := fun sig q => by
                unfold sigChk at yc2
                rw [q] at yc2
                simpa using yc2
              have fin : ∀ (v1' : Option Value) (T2 : State) (Lc : List Loc), Stand p l e R s m args below meth c T2 (locs ++ Lc) (cells + c1) (slots + s1) → QQ P Z n0 ρ v1 H1 v1' T2.heap Lc →
                  (∀ target, Steps p.tables e below (T2.setTop (mkF m (pc + 3) A (v1'.toList ++ rc))) target → Steps p.tables e below (T.setTop (mkF m pc A Sc)) target) →
                  Done P Z n0 p e below s ρ v H' (cells + (c0 + c1)) (slots + (s0 + s1)) (T.setTop (mkF m pc A Sc)) := by
                intro v1' T2 Lc X2 hq st2
                obtain ⟨hF2, t, hov, hH2⟩ := hq
                have := m3 p e R s m args below meth c T2 (locs ++ Lc) _ _ X2 cx0 (by omega) (by omega) (ρ ++ t) A (v1'.toList ++ rc) (hL.forget er).mono (by rw [forget_len]; exact hLl) (hov.list.app hSr.mono) hH2 (hF.app hF2)
                have q1 : cells + c1 + c0 = cells + (c0 + c1) := by omega
                have q2 : slots + s1 + s0 = slots + (s0 + s1) := by omega
                rw [q1, q2] at this
                exact this.step st2
              have hcR : cells + c1 ≤ R.cells := by omega
              have hsR : slots + s1 ≤ R.slots := by omega
              cases i with
              | invokestatic k =>
                obtain rfl : len = 3 := by simpa [lenOk] using hlenOk
                have hk0 : y.kind = 0 := by simpa [invKind] using hik
                have wl := hW (.methodLink d.name.cls k y.name) (in_wordsOf hdm hit (by show _ ∈ mLink P d k a b; unfold mLink; rw [if_neg hb1, hy]; exact List.mem_singleton.mpr rfl))
                have wst := wmore (.static y.name) (by rw [if_pos hk0]; exact List.mem_singleton.mpr rfl)
                have hna : nargs y = y.npar := by simp [nargs, hk0]
                obtain ⟨v1', _, ⟨T2, L2, k2', n2⟩, -, X2, ⟨Lc, hQ, l2, y2, z2⟩, st2⟩ := Jvm.LawKit.callS X hx (y := y.name) hown (mvT hZ wl) (mvT hZ wst) (mvT hZ winit) (mvT hZ wcode) hMH back (g := mkF m pc A Sc) rfl (by rw [hml]; exact hL.1.trans hLl) (argsL := ws) (rest := rc) (fun sig q => by rw [hpar sig q, hwl, hna]) hsplit hWW (dec hby) (fun _ _ => ⟨rfl, rfl, hcR, hsR⟩)
                dsimp only [Pt.U, Pt.locs, Pt.cells, Pt.slots] at X2 l2 y2 z2 st2 hQ
                subst l2 y2 z2
                exact fin v1' T2 Lc X2 hQ st2
              | invokespecial k =>
                obtain rfl : len = 3 := by simpa [lenOk] using hlenOk
                have hk1 : y.kind = 1 := by simpa [invKind] using hik
                have wl := hW (.methodLink d.name.cls k y.name) (in_wordsOf hdm hit (by show _ ∈ mLink P d k a b; unfold mLink; rw [if_neg hb1, hy]; exact List.mem_singleton.mpr rfl))
                have wst := wmore (.instanceMethod y.name) (by rw [if_neg (by omega), if_pos hk1]; exact List.mem_singleton.mpr rfl)
                have hna : nargs y = y.npar + 1 := by simp [nargs, hk1]
                simp [hk1] at yc7
                have wcode' : (Jvm.Cond.code y.name y.bytes y.maxL none).before a0 Z = true := by rw [← yc7.2]; exact wcode
                unfold recvOk at hrecv
                rw [if_neg (by omega)] at hrecv
                split at hrecv
                · rename_i o as'
                  obtain ⟨ad, ws', g1, rfl, ha'⟩ := hSa.ref
                  have hst : Sc = ws'.reverse ++ .ref ad :: rc := by rw [hsplit]; simp
                  obtain ⟨v1', _, ⟨T2, L2, k2', n2⟩, -, X2, ⟨Lc, hQ, l2, y2, z2⟩, st2⟩ := X.specialBack hx (y := y.name) yc7.1 hown (mvT hZ wl) (mvT hZ wst) (mvT hZ wcode') hMH back (g := mkF m pc A Sc) rfl (by rw [hml]; exact hL.1.trans hLl) (Steps.refl _) (a := ad) (argsL := ws') (rest := rc) (fun sig q => by rw [hpar sig q]; simp [hna] at hwl; omega) hst hWW (dec hby) (fun _ _ => ⟨rfl, rfl, hcR, hsR⟩)
                  dsimp only [Pt.U, Pt.locs, Pt.cells, Pt.slots] at X2 l2 y2 z2 st2 hQ
                  subst l2 y2 z2
                  exact fin v1' T2 Lc X2 hQ fun t z => st2.trans z
                · cases hrecv
              | invokevirtual k =>
                obtain rfl : len = 3 := by simpa [lenOk] using hlenOk
                have wl := hW (.methodLink d.name.cls k y.name) (in_wordsOf hdm hit (by show _ ∈ mLink P d k a b; unfold mLink; rw [if_neg hb1, hy]; exact List.mem_singleton.mpr rfl))
                have hk23 : y.kind = 2 ∨ y.kind = 3 := by simpa [invKind] using hik
                have hk0 : ¬ y.kind = 0 := by omega
                have hk1 : ¬ y.kind = 1 := by omega
                have hna : nargs y = y.npar + 1 := by simp [nargs, hk0]
                unfold recvOk at hrecv
                rw [if_neg hk0] at hrecv
                split at hrecv
                · rename_i o as'
                  obtain ⟨ad, ws', g1, rfl, ha'⟩ := hSa.ref
                  have hst : Sc = ws'.reverse ++ .ref ad :: rc := by rw [hsplit]; simp
                  split at hrecv
                  · rename_i c0 fs hc0
                    obtain rfl : c0 = y.cid := by simpa using hrecv
                    obtain ⟨ad', g2, cd, q1, q2, q3, q4⟩ := hH.at hc0
                    rw [g1] at g2; cases g2
                    have hcd := cid_of hP hym q1
                    have hcm : cd ∈ P.cls := List.mem_of_getElem? q1
                    rw [hcd] at q2
                    by_cases hk2 : y.kind = 2
                    · have w1 := wmore (.instanceMethod y.name) (by rw [if_neg hk0, if_neg hk1, if_pos hk2]; simp)
                      have w2 := wmore (.privateMethod y.name) (by rw [if_neg hk0, if_neg hk1, if_pos hk2]; simp)
                      have w3 := hW (.instantiable cd.1 cd.2.1) (in_wordsC hcm (List.mem_cons_self ..))
                      rw [hcd] at w3
                      obtain ⟨cI, kI, i1, i2, i3, i4, -⟩ := Cond.instantiable_spec (mvT hZ w3 (args := args) : (Jvm.Cond.instantiable y.name.cls cd.2.1).before args s = true)
                      have hsel := selects_self_of_private (args := args) i1 i2 (by simp at i4; exact i4.1) (Cond.privateMethod_at (mvP hZ w2 (args := #[]))) (mvT hZ w1) hMH
                      obtain ⟨cq, hq1, hq2⟩ := q2.cell
                      obtain ⟨v1', _, ⟨T2, L2, k2', n2⟩, -, X2, ⟨Lc, hQ, l2, y2, z2⟩, st2⟩ := X.privateBack hx (y := y.name) hown (mvT hZ wl) (mvT hZ w1) hsel (Cond.privateMethod_at (mvP hZ w2 (args := #[]))) (mvT hZ wcode) hMH back (g := mkF m pc A Sc) rfl (by rw [hml]; exact hL.1.trans hLl) (Steps.refl _) (a := ad) hq1 hq2 (argsL := ws') (rest := rc) (fun sig q => by rw [hpar sig q]; simp [hna] at hwl; omega) hst hWW (dec hby) (fun _ _ => ⟨rfl, rfl, hcR, hsR⟩)
                      dsimp only [Pt.U, Pt.locs, Pt.cells, Pt.slots] at X2 l2 y2 z2 st2 hQ
                      subst l2 y2 z2
                      exact fin v1' T2 Lc X2 hQ fun t z => st2.trans z
                    · have w1 := wmore (.declares y.name) (by rw [if_neg hk0, if_neg hk1, if_neg hk2]; simp)
                      have w2 := wmore (.selects y.name.cls y.name y.name) (by rw [if_neg hk0, if_neg hk1, if_neg hk2]; simp)
                      have w3 := wmore (.instanceMethod y.name) (by rw [if_neg hk0, if_neg hk1, if_neg hk2]; simp)
                      obtain ⟨cq, kq, qa, qb, qc⟩ := isOf hZ rfl q2
                      obtain ⟨v1', _, ⟨T2, L2, k2', n2⟩, -, X2, ⟨Lc, hQ, l2, y2, z2⟩, st2⟩ := X.virtualBack hx (y := y.name) (z := y.name) hown (mvT hZ wl) (mvT hZ w1) (notFace_of_selects (args := #[]) (mvT hZ w2)) (mvT hZ w2) (mvT hZ w3) hMH back qa qc (g := mkF m pc A Sc) rfl (by rw [hml]; exact hL.1.trans hLl) (Steps.refl _) (argsL := ws') (rest := rc) (fun sig q => by rw [hpar sig q]; simp [hna] at hwl; omega) hst hWW (dec hby) (fun _ _ => ⟨rfl, rfl, hcR, hsR⟩)
                      dsimp only [Pt.U, Pt.locs, Pt.cells, Pt.slots] at X2 l2 y2 z2 st2 hQ
                      subst l2 y2 z2
                      exact fin v1' T2 Lc X2 hQ fun t z => st2.trans z
                  · cases hrecv
                · cases hrecv
              | _ => simp [isInv] at hinv
            · cases h
          · cases h
      · split at h
        · split at h
          · rename_i S1 H1 k1' hxN
            obtain ⟨c0, s0, hcon, rfl, rfl⟩ := res_ext (α := Unit) h
            have m3 := ih mi (pc + len) _ S1 H1 v H' c0 s0 hcon d hmi
            intro p e R s m args below meth c T locs cells slots X cx k1 k2 ρ A Sc hL hLl hS hH hF
            have cx0 := cx
            obtain ⟨hx, hZ, hby, hml, hown, hnm, hret, hlk, hrf, hrw⟩ := cx
            obtain ⟨T2, ad, Sc2, X2, hS2, hH2, st2⟩ := stepN (A := A) X hx hZ hown hP hW hdm hit (dec hby) hlenOk hS hH hxN (by omega) (by omega)
            have := m3 p e R s m args below meth c T2 locs _ _ X2 cx0 (by omega) (by omega) (ρ ++ [ad]) A Sc2 (hL.forget er).mono (by rw [forget_len]; exact hLl) hS2 hH2 hF
            have q1 : cells + 1 + c0 = cells + (c0 + 1) := by omega
            have q2 : slots + k1' + s0 = slots + (s0 + k1') := by omega
            rw [q1, q2] at this
            exact this.step st2
          · cases h
        · split at h
          · rename_i L1 S1 H1 hxI
            have m3 := ih mi (pc + len) L1 S1 H1 v H' kc ks h d hmi
            intro p e R s m args below meth c T locs cells slots X cx k1 k2 ρ A Sc hL hLl hS hH hF
            have cx0 := cx
            obtain ⟨hx, hZ, hby, hml, hown, hnm, hret, hlk, hrf, hrw⟩ := cx
            obtain ⟨T2, locs2, A2, Sc2, X2, x3, hL2, hS2, hH2, hF2, st2⟩ := stepX X hx hZ hown hnm hP hW hdm hit (dec hby) hlenOk (hL.forget er) hS hH hF hxI
            have := m3 p e R s m args below meth c T2 locs2 cells slots X2 cx0 k1 k2 ρ A2 Sc2 hL2 (by rw [x3, forget_len]; exact hLl) hS2 hH2 hF2
            exact Done.step (t := []) (by rw [List.append_nil]; exact this) st2
          · cases h
end Sound
end Jvm.Own
namespace Jvm.Own
open Jvm Jvm.ClassFile Sem Op Lib Jvm.Free Jvm.Stand Jvm.LawKit Jvm.RoadKit Bundle
/-! Runs of the plain machine, rule by rule -/
def OEnds (P : PD) (mi pc : Nat) (L : List Slot) (S : List Value) (H : AHeap) (r : Res) : Prop := ∃ n0, ∀ n, n0 ≤ n → exe P n mi pc L S H = some r
def plainI : Instr → Bool
  | .goto _ => false
  | .if_icmp _ _ => false
  | .ifCond _ _ => false
  | .ifnonnull _ => false
  | .ireturn => false
  | .lreturn => false
  | .return_ => false
  | .invokestatic _ => false
  | .invokespecial _ => false
  | .invokevirtual _ => false
  | .new _ => false
  | .newarray _ => false
  | _ => true
section Rules
variable {P : PD} {mi pc len a q : Nat} {er : List Bool} {b : Int} {i : Instr} {d y : MD} {L L' : List Slot} {S S' as rest : List Value} {H H' H1 : AHeap} {r : Res} {kc ks : Nat} {v : Option Value}
theorem OEnds.up (h : ∀ n, exe P n mi q L' S' H' = some r → exe P (n + 1) mi pc L S H = some r) (E : OEnds P mi q L' S' H' r) : OEnds P mi pc L S H r := by
  obtain ⟨n0, E⟩ := E
  refine ⟨n0 + 1, fun n hn => ?_⟩
  obtain ⟨k, rfl⟩ : ∃ k, n = k + 1 := ⟨n - 1, by omega⟩
  exact h k (E k (by omega))
theorem OEnds.plain (hm : P.mth[mi]? = some d) (hf : fetch d.code pc = some (i, len, er, a, b)) (hp : plainI i = true) (hx : xI P (d.name.name == "<init>") d.cid i a b (forget er L) S H = some (L', S', H')) (E : OEnds P mi (pc + len) L' S' H' r) : OEnds P mi pc L S H r := by
  refine E.up fun n h => ?_
  unfold exe
  rw [hm]
  simp only
  rw [hf]
  simp only
  split
  all_goals first | (simp [plainI] at hp; done) | skip
  have h1 : ¬ isInv i = true := by
    cases i <;> first | (simp [plainI] at hp; done) | simp [isInv]
  have h2 : ¬ isNew i = true := by
    cases i <;> first | (simp [plainI] at hp; done) | simp [isNew]
  rw [if_neg h1, if_neg h2, hx]
  exact h
theorem OEnds.goto {o : Int} (hm : P.mth[mi]? = some d) (hf : fetch d.code pc = some (.goto o, len, er, a, b)) (ht : tgt pc o = some q) (E : OEnds P mi q (forget er L) S H r) : OEnds P mi pc L S H r := by
  refine E.up fun n h => ?_
  unfold exe
  rw [hm]
  simp only
  rw [hf]
  simp only
  rw [ht]
  exact h
theorem OEnds.icmpT {o : Int} {cd : ClassFile.Cond} {x z : Int32} (hm : P.mth[mi]? = some d) (hf : fetch d.code pc = some (.if_icmp cd o, len, er, a, b)) (ht : tgt pc o = some q) (hc : if_icmp.holds cd x z = true) (E : OEnds P mi q (forget er L) S H r) : OEnds P mi pc L (.int z :: .int x :: S) H r := by
  refine E.up fun n h => ?_
  unfold exe
  rw [hm]
  simp only
  rw [hf]
  simp only
  rw [if_pos hc, ht]
  exact h
theorem OEnds.icmpF {o : Int} {cd : ClassFile.Cond} {x z : Int32} (hm : P.mth[mi]? = some d) (hf : fetch d.code pc = some (.if_icmp cd o, len, er, a, b)) (hc : if_icmp.holds cd x z = false) (E : OEnds P mi (pc + 3) (forget er L) S H r) : OEnds P mi pc L (.int z :: .int x :: S) H r := by
  refine E.up fun n h => ?_
  unfold exe
  rw [hm]
  simp only
  rw [hf]
  simp only
  rw [if_neg (by rw [hc]; exact Bool.false_ne_true)]
  exact h
theorem OEnds.ifT {o : Int} {cd : ClassFile.Cond} {x : Int32} (hm : P.mth[mi]? = some d) (hf : fetch d.code pc = some (.ifCond cd o, len, er, a, b)) (ht : tgt pc o = some q) (hc : if_icmp.holds cd x 0 = true) (E : OEnds P mi q (forget er L) S H r) : OEnds P mi pc L (.int x :: S) H r := by
  refine E.up fun n h => ?_
  unfold exe
  rw [hm]
  simp only
  rw [hf]
  simp only
  rw [if_pos ((if0 cd x).trans hc), ht]
  exact h
theorem OEnds.ifF {o : Int} {cd : ClassFile.Cond} {x : Int32} (hm : P.mth[mi]? = some d) (hf : fetch d.code pc = some (.ifCond cd o, len, er, a, b)) (hc : if_icmp.holds cd x 0 = false) (E : OEnds P mi (pc + 3) (forget er L) S H r) : OEnds P mi pc L (.int x :: S) H r := by
  refine E.up fun n h => ?_
  unfold exe
  rw [hm]
  simp only
  rw [hf]
  simp only
  rw [if_neg (by rw [if0 cd x, hc]; exact Bool.false_ne_true)]
  exact h
theorem OEnds.nonnull {o : Int} {x : Nat} (hm : P.mth[mi]? = some d) (hf : fetch d.code pc = some (.ifnonnull o, len, er, a, b)) (ht : tgt pc o = some q) (E : OEnds P mi q (forget er L) S H r) : OEnds P mi pc L (.ref x :: S) H r := by
  refine E.up fun n h => ?_
  unfold exe
  rw [hm]
  simp only
  rw [hf]
  simp only
  rw [ht]
  exact h
theorem OEnds.iret {x : Int32} {u : Value} (hm : P.mth[mi]? = some d) (hf : fetch d.code pc = some (.ireturn, len, er, a, b)) (hv : retV d.ret x = some u) : OEnds P mi pc L [.int x] H (some u, H, 0, 0) := by
  refine ⟨1, fun n hn => ?_⟩
  obtain ⟨k, rfl⟩ : ∃ k, n = k + 1 := ⟨n - 1, by omega⟩
  unfold exe
  rw [hm]
  simp only
  rw [hf]
  simp only
  rw [hv]
theorem OEnds.lret {x : Int64} (hm : P.mth[mi]? = some d) (hf : fetch d.code pc = some (.lreturn, len, er, a, b)) (hv : d.ret = some .long) : OEnds P mi pc L [.long x] H (some (.long x), H, 0, 0) := by
  refine ⟨1, fun n hn => ?_⟩
  obtain ⟨k, rfl⟩ : ∃ k, n = k + 1 := ⟨n - 1, by omega⟩
  unfold exe
  rw [hm]
  simp only
  rw [hf]
  simp only
  rw [if_pos hv]
theorem OEnds.vret (hm : P.mth[mi]? = some d) (hf : fetch d.code pc = some (.return_, len, er, a, b)) (hv : d.ret = none) : OEnds P mi pc L [] H (none, H, 0, 0) := by
  refine ⟨1, fun n hn => ?_⟩
  obtain ⟨k, rfl⟩ : ∃ k, n = k + 1 := ⟨n - 1, by omega⟩
  unfold exe
  rw [hm]
  simp only
  rw [hf]
  simp only
  rw [if_pos hv]
theorem OEnds.oinit {k x : Nat} (hm : P.mth[mi]? = some d) (hf : fetch d.code pc = some (.invokespecial k, len, er, a, -1)) (hr : 1 ≤ d.rf ∧ catSum S + 12 ≤ d.rw) (E : OEnds P mi (pc + 3) (forget er L) S H r) : OEnds P mi pc L (.ref x :: S) H r := by
  refine E.up fun n h => ?_
  unfold exe
  rw [hm]
  simp only
  rw [hf]
  simp only [isInv, if_true]
  rw [if_pos hr]
  exact h
theorem OEnds.call (hm : P.mth[mi]? = some d) (hf : fetch d.code pc = some (i, len, er, a, b)) (hi : isInv i = true) (hb : ¬ b = -1) (hy : P.mth[a]? = some y) (hao : argsOf (nargs y) S = some (as, rest))
    (hc : (decide (0 < a) && invKind i y.kind && recvOk P H y as && fitsRoom d y rest && decide ((entA as).length ≤ y.maxL)) = true) (E1 : OEnds P a 0 (entL as y.maxL) [] H (v, H1, kc, ks)) (E2 : OEnds P mi (pc + 3) (forget er L) (v.toList ++ rest) H1 r) : OEnds P mi pc L S H (addR r kc ks) := by
  obtain ⟨n1, E1⟩ := E1
  obtain ⟨n2, E2⟩ := E2
  refine ⟨n1 + n2 + 1, fun n hn => ?_⟩
  obtain ⟨k, rfl⟩ : ∃ k, n = k + 1 := ⟨n - 1, by omega⟩
  have e1 := E1 k (by omega)
  have e2 := E2 k (by omega)
  unfold exe
  rw [hm]
  simp only
  rw [hf]
  simp only
  split
  all_goals first | (simp [isInv] at hi; done) | skip
  rw [if_pos hi, if_neg hb, hy]
  simp only
  rw [hao]
  simp only
  rw [if_pos hc, e1]
  simp only
  rw [e2]
  rfl
theorem OEnds.call0 (hm : P.mth[mi]? = some d) (hf : fetch d.code pc = some (i, len, er, a, b)) (hi : isInv i = true) (hb : ¬ b = -1) (hy : P.mth[a]? = some y) (hao : argsOf (nargs y) S = some (as, rest))
    (hc : (decide (0 < a) && invKind i y.kind && recvOk P H y as && fitsRoom d y rest && decide ((entA as).length ≤ y.maxL)) = true) (E1 : OEnds P a 0 (entL as y.maxL) [] H (v, H1, 0, 0)) (E2 : OEnds P mi (pc + 3) (forget er L) (v.toList ++ rest) H1 r) : OEnds P mi pc L S H r :=
  OEnds.call (r := r) hm hf hi hb hy hao hc E1 E2
theorem OEnds.made (hm : P.mth[mi]? = some d) (hf : fetch d.code pc = some (i, len, er, a, b)) (hi : isNew i = true) (hx : xN P i a S H = some (S', H', ks)) (E : OEnds P mi (pc + len) (forget er L) S' H' r) : OEnds P mi pc L S H (addR r 1 ks) := by
  obtain ⟨n0, E⟩ := E
  refine ⟨n0 + 1, fun n hn => ?_⟩
  obtain ⟨k, rfl⟩ : ∃ k, n = k + 1 := ⟨n - 1, by omega⟩
  have e1 := E k (by omega)
  unfold exe
  rw [hm]
  simp only
  rw [hf]
  simp only
  split
  all_goals first | (simp [isNew] at hi; done) | skip
  have h1 : ¬ isInv i = true := by
    cases i <;> first | (simp [isNew] at hi; done) | simp [isInv]
  rw [if_neg h1, if_pos hi, hx]
  simp only
  rw [e1]
  rfl
end Rules
/-- k plain instructions and jumps in one go -/
def adv (P : PD) (d : MD) : Nat → Nat → List Slot → List Value → AHeap → Option (Nat × List Slot × List Value × AHeap)
  | 0, pc, L, S, H => some (pc, L, S, H)
  | k + 1, pc, L, S, H => match fetch d.code pc with
    | some (i, len, er, a, b) => match i with
      | .goto o => match tgt pc o with
        | some q => adv P d k q (forget er L) S H
        | none => none
      | i => if plainI i = true then match xI P (d.name.name == "<init>") d.cid i a b (forget er L) S H with
          | some (L', S', H') => adv P d k (pc + len) L' S' H'
          | none => none
        else none
    | none => none
theorem OEnds.adv {P : PD} {mi : Nat} {d : MD} (hm : P.mth[mi]? = some d) {r : Res} : ∀ (k : Nat) {pc pc' : Nat} {L L' : List Slot} {S S' : List Value} {H H' : AHeap}, adv P d k pc L S H = some (pc', L', S', H') → OEnds P mi pc' L' S' H' r → OEnds P mi pc L S H r
  | 0, _, _, _, _, _, _, _, _, h, E => by
    unfold Own.adv at h
    cases h
    exact E
  | k + 1, pc, pc', L, L', S, S', H, H', h, E => by
    unfold Own.adv at h
    split at h
    · rename_i it i len er a b hf
      split at h
      · rename_i o
        split at h
        · rename_i q hq
          exact OEnds.goto hm hf hq (OEnds.adv hm k h E)
        · cases h
      · split at h
        · rename_i hp
          split at h
          · rename_i L1 S1 H1 hx
            exact OEnds.plain hm hf hp hx (OEnds.adv hm k h E)
          · cases h
        · cases h
    · cases h
theorem x_iaload {P : PD} {ini : Bool} {cid a o : Nat} {b : Int} {L : List Slot} {S : List Value} {H : AHeap} {A : List Int32} {j x : Int32} (h : H[o]? = some (.inr (.inl (false, A)))) (hx : rdA A j = some x) : xI P ini cid .iaload a b L (.int j :: .ref o :: S) H = some (L, .int x :: S, H) := by simp [xI, h, hx]
theorem x_baload {P : PD} {ini : Bool} {cid a o : Nat} {b : Int} {L : List Slot} {S : List Value} {H : AHeap} {A : List Int32} {j x : Int32} (h : H[o]? = some (.inr (.inl (true, A)))) (hx : rdA A j = some x) : xI P ini cid .baload a b L (.int j :: .ref o :: S) H = some (L, .int x :: S, H) := by simp [xI, h, hx]
theorem x_laload {P : PD} {ini : Bool} {cid a o : Nat} {b : Int} {L : List Slot} {S : List Value} {H : AHeap} {A : List Int64} {j : Int32} {x : Int64} (h : H[o]? = some (.inr (.inr A))) (hx : rdA A j = some x) : xI P ini cid .laload a b L (.int j :: .ref o :: S) H = some (L, .long x :: S, H) := by simp [xI, h, hx]
theorem x_iastore {P : PD} {ini : Bool} {cid a o : Nat} {b : Int} {L : List Slot} {S : List Value} {H : AHeap} {A A' : List Int32} {j x : Int32} (h : H[o]? = some (.inr (.inl (false, A)))) (hn : P.nr ≤ o) (hx : wrA A j x = some A') : xI P ini cid .iastore a b L (.int x :: .int j :: .ref o :: S) H = some (L, S, H.set o (.inr (.inl (false, A')))) := by simp [xI, h, hx, hn]
theorem x_bastore {P : PD} {ini : Bool} {cid a o : Nat} {b : Int} {L : List Slot} {S : List Value} {H : AHeap} {A A' : List Int32} {j x : Int32} (h : H[o]? = some (.inr (.inl (true, A)))) (hn : P.nr ≤ o) (hx : wrA A j (x &&& 1) = some A') : xI P ini cid .bastore a b L (.int x :: .int j :: .ref o :: S) H = some (L, S, H.set o (.inr (.inl (true, A')))) := by simp [xI, h, hx, hn]
theorem x_lastore {P : PD} {ini : Bool} {cid a o : Nat} {b : Int} {L : List Slot} {S : List Value} {H : AHeap} {A A' : List Int64} {j : Int32} {x : Int64} (h : H[o]? = some (.inr (.inr A))) (hn : P.nr ≤ o) (hx : wrA A j x = some A') : xI P ini cid .lastore a b L (.long x :: .int j :: .ref o :: S) H = some (L, S, H.set o (.inr (.inr A'))) := by simp [xI, h, hx, hn]
theorem x_irem {P : PD} {ini : Bool} {cid a : Nat} {b : Int} {L : List Slot} {S : List Value} {H : AHeap} {x y : Int32} (h : ¬ y = 0) : xI P ini cid .irem a b L (.int y :: .int x :: S) H = some (L, .int (x % y) :: S, H) := by simp [xI, h]
theorem x_idiv {P : PD} {ini : Bool} {cid a : Nat} {b : Int} {L : List Slot} {S : List Value} {H : AHeap} {x y : Int32} (h : ¬ y = 0) : xI P ini cid .idiv a b L (.int y :: .int x :: S) H = some (L, .int (x / y) :: S, H) := by simp [xI, h]
theorem x_lrem {P : PD} {ini : Bool} {cid a : Nat} {b : Int} {L : List Slot} {S : List Value} {H : AHeap} {x y : Int64} (h : ¬ y = 0) : xI P ini cid .lrem a b L (.long y :: .long x :: S) H = some (L, .long (x % y) :: S, H) := by simp [xI, h]
theorem x_ldiv {P : PD} {ini : Bool} {cid a : Nat} {b : Int} {L : List Slot} {S : List Value} {H : AHeap} {x y : Int64} (h : ¬ y = 0) : xI P ini cid .ldiv a b L (.long y :: .long x :: S) H = some (L, .long (x / y) :: S, H) := by simp [xI, h]
theorem c_lt {x y : Int64} : XT.cmpL x y < 0 ↔ x < y := by
  unfold XT.cmpL; split <;> (try split) <;> simp_all [Int64.lt_iff_toInt_lt, ← Int64.toInt_inj] <;> omega
theorem c_gt {x y : Int64} : 0 < XT.cmpL x y ↔ y < x := by
  unfold XT.cmpL; split <;> (try split) <;> simp_all [Int64.lt_iff_toInt_lt, ← Int64.toInt_inj] <;> omega
theorem c_eq {x y : Int64} : XT.cmpL x y = 0 ↔ x = y := by
  unfold XT.cmpL; split <;> (try split) <;> simp_all [Int64.lt_iff_toInt_lt, ← Int64.toInt_inj] <;> omega
end Jvm.Own
namespace Jvm.Own
open Jvm Jvm.ClassFile Sem Op Lib Jvm.Free Jvm.Stand Jvm.LawKit Jvm.RoadKit Bundle
theorem bnd {α β : Type} {o : Option α} {f : α → Option β} {b : β} (h : o.bind f = some b) : ∃ a, o = some a ∧ f a = some b := Option.bind_eq_some_iff.mp h
theorem x_putZ {P : PD} {ini : Bool} {k cid a o : Nat} {b : Int} {L : List Slot} {S : List Value} {H : AHeap} {fs : List Value} {nm ds : String} {x : Int32} (h : H[o]? = some (.inl (cid, fs))) (hn : P.nr ≤ o) (hf : ((P.cls[cid]?).bind fun cd => cd.2.2[a]?) = some (nm, ds, .boolean, false)) (hx : x = 0 ∨ x = 1) :
    xI P ini cid (.putfield k) a b L (.int x :: .ref o :: S) H = some (L, S, H.set o (.inl (cid, fs.set a (.int x)))) := by
  rcases hx with rfl | rfl <;> simp [xI, h, hn, hf, putOk]
section Rules
variable {P : PD} {mi pc len a q : Nat} {er : List Bool} {b : Int} {i : Instr} {d y : MD} {L L' : List Slot} {S S' as rest : List Value} {H H' H1 : AHeap} {r : Res} {kc ks : Nat} {v : Option Value}
theorem OEnds.made1 {w : Option Value} {Hf : AHeap} (hm : P.mth[mi]? = some d) (hf : fetch d.code pc = some (i, len, er, a, b)) (hi : isNew i = true) (hx : xN P i a S H = some (S', H', ks)) {c0 s0 c1 s1 : Nat} (hr : (c1, s1) = (c0 + 1, s0 + ks)) (E : OEnds P mi (pc + len) (forget er L) S' H' (w, Hf, c0, s0)) : OEnds P mi pc L S H (w, Hf, c1, s1) := by
  cases hr
  exact OEnds.made (r := (w, Hf, c0, s0)) hm hf hi hx E
/-! The same, of a run whose end is told by a property -/
def OEndsQ (P : PD) (mi pc : Nat) (L : List Slot) (S : List Value) (H : AHeap) (Q : Res → Prop) : Prop := ∃ r, OEnds P mi pc L S H r ∧ Q r
variable {Q : Res → Prop}
theorem OEndsQ.plain (hm : P.mth[mi]? = some d) (hf : fetch d.code pc = some (i, len, er, a, b)) (hp : plainI i = true) (hx : xI P (d.name.name == "<init>") d.cid i a b (forget er L) S H = some (L', S', H')) (E : OEndsQ P mi (pc + len) L' S' H' Q) : OEndsQ P mi pc L S H Q := by
  obtain ⟨r, E, hq⟩ := E; exact ⟨r, OEnds.plain hm hf hp hx E, hq⟩
theorem OEndsQ.icmpT {o : Int} {cd : ClassFile.Cond} {x z : Int32} (hm : P.mth[mi]? = some d) (hf : fetch d.code pc = some (.if_icmp cd o, len, er, a, b)) (ht : tgt pc o = some q) (hc : if_icmp.holds cd x z = true) (E : OEndsQ P mi q (forget er L) S H Q) : OEndsQ P mi pc L (.int z :: .int x :: S) H Q := by
  obtain ⟨r, E, hq⟩ := E; exact ⟨r, OEnds.icmpT hm hf ht hc E, hq⟩
theorem OEndsQ.icmpF {o : Int} {cd : ClassFile.Cond} {x z : Int32} (hm : P.mth[mi]? = some d) (hf : fetch d.code pc = some (.if_icmp cd o, len, er, a, b)) (hc : if_icmp.holds cd x z = false) (E : OEndsQ P mi (pc + 3) (forget er L) S H Q) : OEndsQ P mi pc L (.int z :: .int x :: S) H Q := by
  obtain ⟨r, E, hq⟩ := E; exact ⟨r, OEnds.icmpF hm hf hc E, hq⟩
theorem OEndsQ.ifT {o : Int} {cd : ClassFile.Cond} {x : Int32} (hm : P.mth[mi]? = some d) (hf : fetch d.code pc = some (.ifCond cd o, len, er, a, b)) (ht : tgt pc o = some q) (hc : if_icmp.holds cd x 0 = true) (E : OEndsQ P mi q (forget er L) S H Q) : OEndsQ P mi pc L (.int x :: S) H Q := by
  obtain ⟨r, E, hq⟩ := E; exact ⟨r, OEnds.ifT hm hf ht hc E, hq⟩
theorem OEndsQ.ifF {o : Int} {cd : ClassFile.Cond} {x : Int32} (hm : P.mth[mi]? = some d) (hf : fetch d.code pc = some (.ifCond cd o, len, er, a, b)) (hc : if_icmp.holds cd x 0 = false) (E : OEndsQ P mi (pc + 3) (forget er L) S H Q) : OEndsQ P mi pc L (.int x :: S) H Q := by
  obtain ⟨r, E, hq⟩ := E; exact ⟨r, OEnds.ifF hm hf hc E, hq⟩
theorem OEndsQ.nonnull {o : Int} {x : Nat} (hm : P.mth[mi]? = some d) (hf : fetch d.code pc = some (.ifnonnull o, len, er, a, b)) (ht : tgt pc o = some q) (E : OEndsQ P mi q (forget er L) S H Q) : OEndsQ P mi pc L (.ref x :: S) H Q := by
  obtain ⟨r, E, hq⟩ := E; exact ⟨r, OEnds.nonnull hm hf ht E, hq⟩
theorem OEndsQ.call0 (hm : P.mth[mi]? = some d) (hf : fetch d.code pc = some (i, len, er, a, b)) (hi : isInv i = true) (hb : ¬ b = -1) (hy : P.mth[a]? = some y) (hao : argsOf (nargs y) S = some (as, rest))
    (hc : (decide (0 < a) && invKind i y.kind && recvOk P H y as && fitsRoom d y rest && decide ((entA as).length ≤ y.maxL)) = true) (E1 : OEnds P a 0 (entL as y.maxL) [] H (v, H1, 0, 0)) (E2 : OEndsQ P mi (pc + 3) (forget er L) (v.toList ++ rest) H1 Q) : OEndsQ P mi pc L S H Q := by
  obtain ⟨r, E, hq⟩ := E2; exact ⟨r, OEnds.call0 hm hf hi hb hy hao hc E1 E, hq⟩
theorem OEndsQ.adv (hm : P.mth[mi]? = some d) (k : Nat) {pc' : Nat} (h : adv P d k pc L S H = some (pc', L', S', H')) (E : OEndsQ P mi pc' L' S' H' Q) : OEndsQ P mi pc L S H Q := by
  obtain ⟨r, E, hq⟩ := E; exact ⟨r, OEnds.adv hm k h E, hq⟩
/-- what a law's run ends with: its answer, and at the most so many cells and slots made -/
def LawQ (x : Int32) (kc ks : Nat) (r : Res) : Prop := r.1 = some (.int x) ∧ r.2.2.1 ≤ kc ∧ r.2.2.2 ≤ ks
theorem OEndsQ.iret {x u : Int32} (hm : P.mth[mi]? = some d) (hf : fetch d.code pc = some (.ireturn, len, er, a, b)) (hv : retV d.ret x = some (.int u)) : OEndsQ P mi pc L [.int x] H (LawQ u kc ks) :=
  ⟨_, OEnds.iret hm hf hv, rfl, Nat.zero_le _, Nat.zero_le _⟩
theorem OEndsQ.weak {x : Int32} {c0 s0 : Nat} (h1 : c0 ≤ kc) (h2 : s0 ≤ ks) (E : OEndsQ P mi pc L S H (LawQ x c0 s0)) : OEndsQ P mi pc L S H (LawQ x kc ks) := by
  obtain ⟨r, E, q1, q2, q3⟩ := E; exact ⟨r, E, q1, Nat.le_trans q2 h1, Nat.le_trans q3 h2⟩
theorem OEndsQ.made {x : Int32} {c0 s0 c1 s1 : Nat} (hm : P.mth[mi]? = some d) (hf : fetch d.code pc = some (i, len, er, a, b)) (hi : isNew i = true) (hx : xN P i a S H = some (S', H', ks)) (h1 : c0 + 1 ≤ c1) (h2 : s0 + ks ≤ s1) (E : OEndsQ P mi (pc + len) (forget er L) S' H' (LawQ x c0 s0)) : OEndsQ P mi pc L S H (LawQ x c1 s1) := by
  obtain ⟨⟨v, Hf, k, n⟩, E, q1, q2, q3⟩ := E
  dsimp only at q1 q2 q3
  exact ⟨_, OEnds.made hm hf hi hx E, q1, by show k + 1 ≤ c1; omega, by show n + ks ≤ s1; omega⟩
theorem OEndsQ.callN {x : Int32} {c0 s0 c1 s1 : Nat} (hm : P.mth[mi]? = some d) (hf : fetch d.code pc = some (i, len, er, a, b)) (hi : isInv i = true) (hb : ¬ b = -1) (hy : P.mth[a]? = some y) (hao : argsOf (nargs y) S = some (as, rest))
    (hc : (decide (0 < a) && invKind i y.kind && recvOk P H y as && fitsRoom d y rest && decide ((entA as).length ≤ y.maxL)) = true) (E1 : OEnds P a 0 (entL as y.maxL) [] H (v, H1, kc, ks)) (h1 : c0 + kc ≤ c1) (h2 : s0 + ks ≤ s1) (E2 : OEndsQ P mi (pc + 3) (forget er L) (v.toList ++ rest) H1 (LawQ x c0 s0)) : OEndsQ P mi pc L S H (LawQ x c1 s1) := by
  obtain ⟨⟨v, Hf, k, n⟩, E, q1, q2, q3⟩ := E2
  dsimp only at q1 q2 q3
  exact ⟨_, OEnds.call hm hf hi hb hy hao hc E1 E, q1, by show k + kc ≤ c1; omega, by show n + ks ≤ s1; omega⟩
end Rules
/-! From the machine to the claim -/
theorem law_met {P : PD} {Z : State} {a0 : Array Value} {l : Launch} {y : MD} {as ws : List Value} {H : AHeap} {ρ : List Addr} {n0 kc ks : Nat} {h : Heap} (hP : chk P = true) (hW : ∀ w ∈ wordsOf P, w.before a0 Z = true) (hy : P.mth[0]? = some y)
    (E : OEndsQ P 0 0 (entL as y.maxL) [] H (LawQ 1 kc ks)) (hS : SR ρ as ws) (hlen : (entA as).length ≤ y.maxL) (hH : HR P Z n0 h ρ H) (w0 : List Jvm.Cond) (rm : Room) (r1 : y.rf ≤ rm.frames) (r2 : y.rw ≤ rm.locals) (r3 : kc ≤ rm.cells) (r4 : ks ≤ rm.slots) :
    MetFree l y.name (head1 (Jvm.Cond.code y.name y.bytes y.maxL y.ret :: w0) rm) (fun a U => a = ws.toArray ∧ Z.Warmed39 U.vm ∧ U.heap = h) (fun _ _ _ _ _ => True)
      (fun _ U o U' => ∃ L, o = .returned (some (.int 1)) ∧ Fr n0 L ∧ FrameEnd U o U' L kc ks) := by
  obtain ⟨⟨v, H1, c1, s1⟩, ⟨n, E⟩, q1, q2, q3⟩ := E
  dsimp only at q1 q2 q3
  subst q1
  have hpn : plainName y.name.cls = true := by
    have := mChk_of hP (List.mem_of_getElem? hy)
    simp only [mChk, Bool.and_eq_true] at this
    exact this.1.1.1.1.1.1
  have M := met_of (l := l) (n := n) (sound hP hW n) hy hpn (E n (Nat.le_refl _)) hS hlen hH w0 rm r1 r2 (Nat.le_trans q2 r3) (Nat.le_trans q3 r4)
  intro p e ha hc hk s m args below hf happ hp hK
  obtain ⟨n', o, h1, h2, h3, v', L, rfl, ⟨hF, t, ⟨u, rfl, hu⟩, -⟩, hq⟩ := M p e ha hc hk s m args below hf happ hp hK
  obtain rfl : u = .int 1 := hu
  exact ⟨n', _, h1, h2, h3, L, rfl, hF, hq.1, hq.2.1, hq.2.2.mono q2 q3⟩
end Jvm.Own
namespace Jvm.Own
open Jvm Jvm.ClassFile Sem Op Lib Jvm.Free Jvm.Stand Jvm.LawKit Jvm.RoadKit Bundle
/-- the law's script: an int array of at most 260 -/
theorem script_of {s : State} {ad : Addr} {cl : Cell} (hf : Fit s) (A : Arr s s.heap ad cl .int) (e0 : (Term.arg 0).eval #[.ref ad] s none [] s = some (.ref ad)) (hn : (Jvm.Cond.le (.length (.arg 0)) (.int 260)).value #[.ref ad] s none s [] = some true) :
    ∃ scr : List Int32, cl.slots.size = scr.length ∧ scr.length ≤ 260 ∧ ∀ (i : Nat) x, scr[i]? = some x → cl.slots[i]? = some (.int x) := by
  obtain ⟨u, v, g1, g2, -, -⟩ := cmp_v (Or.inr (Or.inr hn))
  obtain ⟨a', cl', z1, z2, z3⟩ := Term.length_spec g1
  have hat := A.fin (Vm.Alike.refl _)
  rw [e0] at z1
  cases z1
  rw [hat] at z2
  cases z2
  have hsz : cl.slots.size < 2 ^ 31 := by
    rcases Nat.lt_or_ge cl.slots.size (2 ^ 31) with q | q
    · exact q
    · exfalso
      simp [Term.eval, hat] at g1
      omega
  subst z3
  have hv : v = .int 260 := by simpa [Term.eval] using g2.symm
  subst hv
  have hle : cl.slots.size.toInt32 ≤ 260 := by
    simpa [Cond.value, g1, g2] using hn
  have hle' : cl.slots.size ≤ 260 := by
    rw [Int32.le_iff_toInt_le, len_toInt hsz] at hle
    have : (260 : Int32).toInt = 260 := rfl
    rw [this] at hle
    omega
  have key : ∀ i, i < cl.slots.size → ∃ x, cl.slots[i]? = some (.int x) := fun i hi => by
    have hj := idx_in hi hsz
    obtain ⟨v, e1, e2⟩ := elem_fit hf A hj
    have : i.toInt32.toNatClampNeg = i := by
      have h1 : i.toInt32.toInt = i := len_toInt (by omega)
      simp [Int32.toNatClampNeg, h1]
    rw [this] at e1
    obtain ⟨x, rfl⟩ := fit_I e2 (Or.inl rfl)
    exact ⟨x, e1⟩
  refine ⟨cl.slots.toList.map fun v => match v with | .int x => x | _ => 0, by simp, by simpa using hle', fun i x hx => ?_⟩
  rw [List.getElem?_map] at hx
  obtain ⟨v, h1, h2⟩ := Option.map_eq_some_iff.mp hx
  have h1' : cl.slots[i]? = some v := by simpa using h1
  obtain ⟨y, hy⟩ := key i (Array.getElem?_eq_some_iff.mp h1').1
  rw [h1'] at hy
  cases hy
  rw [h1']
  simp at h2
  rw [h2]
theorem hr_script {P : PD} {s : State} {ad : Addr} {cl : Cell} {scr : List Int32} (hnr : P.nr = 1) (A : Arr s s.heap ad cl .int) (h1 : cl.slots.size = scr.length) (h2 : scr.length ≤ 260) (h3 : ∀ (i : Nat) x, scr[i]? = some x → cl.slots[i]? = some (.int x)) : HR P s s.heap.size s.heap [ad] [.inr (.inl (false, scr))] := by
  refine ⟨Nat.le_refl _, rfl, fun i j a g1 g2 => ?_, fun k a g1 g2 => ?_, fun k a c g1 g2 => ?_⟩
  · match i, j, g1, g2 with
    | 0, 0, _, _ => rfl
    | i + 1, _, g1, _ => simp at g1
    | 0, j + 1, _, g2 => simp at g2
  · match k, g1, g2 with
    | 0, _, g2 => rw [hnr] at g2; omega
    | k + 1, g1, _ => simp at g1
  · match k, g1, g2 with
    | 0, g1, g2 =>
      simp at g1 g2
      subst g1 g2
      exact ⟨cl, A, h1, by omega, h3⟩
    | k + 1, g1, _ => simp at g1
end Jvm.Own
namespace Jvm.Own
open Jvm
/-! Ints in range, arrays -/
theorem ilt {a b : Int32} : a < b ↔ a.toInt < b.toInt := Int32.lt_iff_toInt_lt
theorem ile {a b : Int32} : a ≤ b ↔ a.toInt ≤ b.toInt := Int32.le_iff_toInt_le
theorem ieq {a b : Int32} : a = b ↔ a.toInt = b.toInt := Int32.toInt_inj.symm
theorem irng (a : Int32) : -2147483648 ≤ a.toInt ∧ a.toInt < 2147483648 := ⟨Int32.le_toInt a, Int32.toInt_lt a⟩
theorem iadd_i {a b : Int32} (h1 : -2147483648 ≤ a.toInt + b.toInt) (h2 : a.toInt + b.toInt < 2147483648) : (a + b).toInt = a.toInt + b.toInt := by
  rw [Int32.toInt_add]; exact Int.bmod_eq_of_le (by omega) (by omega)
theorem isub_i {a b : Int32} (h1 : -2147483648 ≤ a.toInt - b.toInt) (h2 : a.toInt - b.toInt < 2147483648) : (a - b).toInt = a.toInt - b.toInt := by
  rw [Int32.toInt_sub]; exact Int.bmod_eq_of_le (by omega) (by omega)
theorem imul_i {a b : Int32} (h1 : -2147483648 ≤ a.toInt * b.toInt) (h2 : a.toInt * b.toInt < 2147483648) : (a * b).toInt = a.toInt * b.toInt := by
  rw [Int32.toInt_mul]; exact Int.bmod_eq_of_le (by omega) (by omega)
theorem rdA_nn {α : Type} {L : List α} {j : Int32} (h0 : 0 ≤ j.toInt) : rdA L j = L[j.toInt.toNat]? := by
  unfold rdA
  rw [if_neg (by rw [ilt]; exact Int.not_lt.mpr h0)]
  rfl
theorem rdA_in {α : Type} {L : List α} {j : Int32} (h0 : 0 ≤ j.toInt) (h1 : j.toInt.toNat < L.length) : rdA L j = some L[j.toInt.toNat] := by
  rw [rdA_nn h0, List.getElem?_eq_getElem h1]
theorem wrA_in {α : Type} {L : List α} {j : Int32} {x : α} (h0 : 0 ≤ j.toInt) (h1 : j.toInt.toNat < L.length) : wrA L j x = some (L.set j.toInt.toNat x) := by
  unfold wrA
  rw [if_neg (by rw [ilt]; exact Int.not_lt.mpr h0)]
  exact if_pos h1
theorem rdA_rep {α : Type} {n : Nat} {x : α} {j : Int32} (h0 : 0 ≤ j.toInt) (h1 : j.toInt < n) : rdA (List.replicate n x) j = some x := by
  rw [rdA_nn h0, List.getElem?_replicate, if_pos (by omega)]
end Jvm.Own
namespace Jvm.Own
open Jvm
/-! Sums of ints with their wrap, for omega; runs that answer, and what they answer -/
theorem bmod32 (x : Int) : x.bmod (2 ^ 32) = (x + 2147483648) % 4294967296 - 2147483648 := by
  rw [Int.bmod_def]
  split <;> omega
theorem iadd_e (a b : Int32) : (a + b).toInt = (a.toInt + b.toInt + 2147483648) % 4294967296 - 2147483648 := by
  rw [Int32.toInt_add, bmod32]
theorem isub_e (a b : Int32) : (a - b).toInt = (a.toInt - b.toInt + 2147483648) % 4294967296 - 2147483648 := by
  rw [Int32.toInt_sub, bmod32]
theorem imul_e (a b : Int32) : (a * b).toInt = (a.toInt * b.toInt + 2147483648) % 4294967296 - 2147483648 := by
  rw [Int32.toInt_mul, bmod32]
theorem iscr {n : Nat} (h : n ≤ 260) : (n.toInt32).toInt = n := Int32.toInt_ofNat_of_lt (by omega)
def Tot {α : Type} (x : Option α) (P : α → Prop) : Prop := ∃ r, x = some r ∧ P r
theorem Tot.mk {α : Type} {P : α → Prop} {a : α} (h : P a) : Tot (some a) P := ⟨a, rfl, h⟩
theorem Tot.bind {α β : Type} {x : Option α} {f : α → Option β} {P : α → Prop} {Q : β → Prop} (h : Tot x P) (g : ∀ a, P a → Tot (f a) Q) : Tot (x.bind f) Q := by
  obtain ⟨r, e, p⟩ := h
  rw [e]
  exact g r p
theorem Tot.mono {α : Type} {x : Option α} {P Q : α → Prop} (h : Tot x P) (g : ∀ a, P a → Q a) : Tot x Q := by
  obtain ⟨r, e, p⟩ := h
  exact ⟨r, e, g r p⟩
theorem Tot.ite {α : Type} {c : Prop} [Decidable c] {a b : Option α} {Q : α → Prop} (h1 : c → Tot a Q) (h2 : ¬ c → Tot b Q) : Tot (if c then a else b) Q := by
  by_cases h : c
  · rw [if_pos h]; exact h1 h
  · rw [if_neg h]; exact h2 h
theorem Tot.rd {α β : Type} {L : List α} {j : Int32} {f : α → Option β} {Q : β → Prop} (h0 : 0 ≤ j.toInt) (h1 : j.toInt < L.length) (g : ∀ a, L[j.toInt.toNat]? = some a → Tot (f a) Q) : Tot ((rdA L j).bind f) Q := by
  have h2 : j.toInt.toNat < L.length := by omega
  rw [rdA_in h0 h2]
  exact g _ (List.getElem?_eq_getElem h2)
theorem Tot.wr {α β : Type} {L : List α} {j : Int32} {x : α} {f : List α → Option β} {Q : β → Prop} (h0 : 0 ≤ j.toInt) (h1 : j.toInt < L.length) (g : ∀ L' : List α, L' = L.set j.toInt.toNat x → L'.length = L.length → Tot (f L') Q) : Tot ((wrA L j x).bind f) Q := by
  rw [wrA_in h0 (by omega)]
  exact g _ rfl (by simp)
theorem Tot.eq {α : Type} {x : Option α} {a : α} (h : Tot x (fun r => r = a)) : x = some a := by
  obtain ⟨r, e, p⟩ := h
  rw [e, p]
theorem Tot.of {α : Type} {x : Option α} {a : α} {P : α → Prop} (e : x = some a) (p : P a) : Tot x P := ⟨a, e, p⟩
/-- a bit mask at 15, 31 .. -/
theorem iand_rng (x : Int32) (m : Int32) (h : 0 ≤ m.toInt) : 0 ≤ (x &&& m).toInt ∧ (x &&& m).toInt ≤ m.toInt := by
  have hm : m.toBitVec.msb = false := by
    rw [BitVec.msb_eq_toInt]; simpa using h
  have hx : (x &&& m).toBitVec.msb = false := by
    rw [Int32.toBitVec_and, BitVec.msb_and, hm, Bool.and_false]
  have e1 : m.toInt = (m.toBitVec.toNat : Int) := BitVec.toInt_eq_toNat_of_msb hm
  have e2 : (x &&& m).toInt = (((x &&& m).toBitVec).toNat : Int) := BitVec.toInt_eq_toNat_of_msb hx
  have e3 : ((x &&& m).toBitVec).toNat ≤ m.toBitVec.toNat := by
    rw [Int32.toBitVec_and, BitVec.toNat_and]; exact Nat.and_le_right
  omega
def gI (L : List Int32) (j : Int32) : Int32 := (rdA L j).getD 0
theorem rdg {L : List Int32} {j : Int32} (h0 : 0 ≤ j.toInt) (h1 : j.toInt < L.length) : rdA L j = some (gI L j) := by
  have h2 : j.toInt.toNat < L.length := by omega
  unfold gI
  rw [rdA_in h0 h2]
  (first | done | rfl | simp)
theorem gset {L : List Int32} {i j : Int32} {x : Int32} (hi : 0 ≤ i.toInt) (hl : i.toInt < L.length) (hj : 0 ≤ j.toInt) : gI (L.set i.toInt.toNat x) j = if i = j then x else gI L j := by
  unfold gI
  rw [rdA_nn hj, rdA_nn hj]
  by_cases h : i = j
  · subst h
    rw [if_pos rfl, List.getElem?_set_self (by omega)]
    (first | done | rfl | simp)
  · rw [if_neg h, List.getElem?_set_ne (by rw [ieq] at h; omega)]
theorem gext {A B : List Int32} (hl : A.length < 100000) (ha : A.length = B.length) (h : ∀ i : Int32, 0 ≤ i.toInt → i.toInt < A.length → gI A i = gI B i) : A = B := by
  apply List.ext_getElem ha
  intro k h1 h2
  have e : (Int32.ofNat k).toInt = k := Int32.toInt_ofNat_of_lt (by omega)
  have q := h (Int32.ofNat k) (by omega) (by omega)
  unfold gI at q
  rw [rdA_nn (by omega), rdA_nn (by omega), e] at q
  simpa [h1, h2] using q
theorem Tot.rdI {β : Type} {L : List Int32} {j : Int32} {f : Int32 → Option β} {Q : β → Prop} (h0 : 0 ≤ j.toInt) (h1 : j.toInt < L.length) (g : Tot (f (gI L j)) Q) : Tot ((rdA L j).bind f) Q := by
  rw [rdg h0 h1]
  exact g
theorem gI_rep {n : Nat} {x : Int32} {j : Int32} (h0 : 0 ≤ j.toInt) (h1 : j.toInt < n) : gI (List.replicate n x) j = x := by
  unfold gI
  rw [rdA_rep h0 h1]
  (first | done | rfl | simp)
/-! Longs -/
theorem lltI {a b : Int64} : a < b ↔ a.toInt < b.toInt := Int64.lt_iff_toInt_lt
theorem leqI {a b : Int64} : a = b ↔ a.toInt = b.toInt := Int64.toInt_inj.symm
theorem lrng (a : Int64) : -9223372036854775808 ≤ a.toInt ∧ a.toInt < 9223372036854775808 := ⟨Int64.le_toInt a, Int64.toInt_lt a⟩
theorem ladd_i {a b : Int64} (h1 : -9223372036854775808 ≤ a.toInt + b.toInt) (h2 : a.toInt + b.toInt < 9223372036854775808) : (a + b).toInt = a.toInt + b.toInt := by
  rw [Int64.toInt_add]; exact Int.bmod_eq_of_le (by omega) (by omega)
theorem lsub_i {a b : Int64} (h1 : -9223372036854775808 ≤ a.toInt - b.toInt) (h2 : a.toInt - b.toInt < 9223372036854775808) : (a - b).toInt = a.toInt - b.toInt := by
  rw [Int64.toInt_sub]; exact Int.bmod_eq_of_le (by omega) (by omega)
theorem lmul_i {a b : Int64} (h1 : -9223372036854775808 ≤ a.toInt * b.toInt) (h2 : a.toInt * b.toInt < 9223372036854775808) : (a * b).toInt = a.toInt * b.toInt := by
  rw [Int64.toInt_mul]; exact Int.bmod_eq_of_le (by omega) (by omega)
theorem lmod_i {a b : Int64} (h : 0 ≤ a.toInt) : (a % b).toInt = a.toInt % b.toInt := by
  rw [Int64.toInt_mod, Int.tmod_eq_emod_of_nonneg h]
theorem lback {a : Int64} (h1 : -2147483648 ≤ a.toInt) (h2 : a.toInt < 2147483648) : a.toInt32.toInt64 = a := by
  rw [leqI, Int32.toInt_toInt64, Int64.toInt_toInt32, bmod32]
  omega
theorem mulb {a b M : Int} (h0 : 0 ≤ a) (h1 : a ≤ M) (h2 : 0 ≤ b) (h3 : b ≤ M) : 0 ≤ a * b ∧ a * b ≤ M * M :=
  ⟨Int.mul_nonneg h0 h2, Int.mul_le_mul h1 h3 h2 (by omega)⟩
end Jvm.Own
namespace Jvm.Pilot.@@N@@
open Jvm Jvm.ClassFile Sem Op Lib Jvm.Free Jvm.Stand Jvm.LawKit Jvm.RoadKit Bundle Jvm.Own Jvm.Pilot.@@N@@.Jvm.D
def d_0 : MD := (x, code, maxLocals, ret, 0, 5, 999, 5, 73, [(0, .bipush 97, 2, [], 0, 0), (2, .iload_n 1, 1, [], 0, 0), (3, .iconst 3, 1, [], 0, 0), (4, .iand, 1, [], 0, 0), (5, .iadd, 1, [], 0, 0), (6, .istore 5, 2, [], 0, 0), (8, .bipush 97, 2, [], 0, 0), (10, .iload_n 2, 1, [], 0, 0), (11, .iconst 3, 1, [], 0, 0), (12, .iand, 1, [], 0, 0), (13, .iadd, 1, [], 0, 0), (14, .istore 6, 2, [], 0, 0), (16, .bipush 65, 2, [], 0, 0), (18, .iload_n 3, 1, [], 0, 0), (19, .bipush 7, 2, [], 0, 0), (21, .iand, 1, [], 0, 0), (22, .iadd, 1, [], 0, 0), (23, .istore 7, 2, [], 0, 0), (25, .bipush 73, 2, [], 0, 0), (27, .iload_n 3, 1, [], 0, 0), (28, .iconst 3, 1, [], 0, 0), (29, .ishr, 1, [], 0, 0), (30, .bipush 7, 2, [], 0, 0), (32, .iand, 1, [], 0, 0), (33, .iadd, 1, [], 0, 0), (34, .istore 8, 2, [], 0, 0), (36, .new 7, 3, [], 0, 0), (39, .dup, 1, [], 0, 0), (40, .iconst 2, 1, [], 0, 0), (41, .iload_n 0, 1, [], 0, 0), (42, .bipush 15, 2, [], 0, 0), (44, .iand, 1, [], 0, 0), (45, .iadd, 1, [], 0, 0), (46, .iconst 2, 1, [], 0, 0), (47, .iload_n 0, 1, [], 0, 0), (48, .iconst 4, 1, [], 0, 0), (49, .ishr, 1, [], 0, 0), (50, .bipush 7, 2, [], 0, 0), (52, .iand, 1, [], 0, 0), (53, .iadd, 1, [], 0, 0), (54, .invokespecial 9, 3, [], 1, 0), (57, .astore 9, 2, [], 0, 0), (59, .aload 9, 2, [], 0, 0), (61, .iload 5, 2, [], 0, 0), (63, .invokevirtual 12, 3, [], 3, 0), (66, .iconst 1, 1, [], 0, 0), (67, .if_icmp .eq 5, 3, [], 0, 0), (70, .iconst 0, 1, [], 0, 0), (71, .ireturn, 1, [], 0, 0), (72, .aload 9, 2, [], 0, 0), (74, .iload 6, 2, [], 0, 0), (76, .invokevirtual 12, 3, [], 3, 0), (79, .iconst 2, 1, [], 0, 0), (80, .if_icmp .eq 5, 3, [], 0, 0), (83, .iconst 0, 1, [], 0, 0), (84, .ireturn, 1, [], 0, 0), (85, .aload 9, 2, [], 0, 0), (87, .iload 7, 2, [], 0, 0), (89, .invokevirtual 16, 3, [], 5, 0), (92, .ifCond .eq 5, 3, [], 0, 0), (95, .iconst 0, 1, [], 0, 0), (96, .ireturn, 1, [], 0, 0), (97, .aload 9, 2, [], 0, 0), (99, .iload 6, 2, [], 0, 0), (101, .invokevirtual 12, 3, [], 3, 0), (104, .iconst 1, 1, [], 0, 0), (105, .if_icmp .eq 5, 3, [], 0, 0), (108, .iconst 0, 1, [], 0, 0), (109, .ireturn, 1, [], 0, 0), (110, .aload 9, 2, [], 0, 0), (112, .iload 8, 2, [], 0, 0), (114, .invokevirtual 16, 3, [], 5, 0), (117, .iconst 1, 1, [], 0, 0), (118, .if_icmp .eq 5, 3, [], 0, 0), (121, .iconst 0, 1, [], 0, 0), (122, .ireturn, 1, [], 0, 0), (123, .aload 9, 2, [], 0, 0), (125, .invokevirtual 19, 3, [], 10, 0), (128, .ifCond .eq 5, 3, [], 0, 0), (131, .iconst 0, 1, [], 0, 0), (132, .ireturn, 1, [], 0, 0), (133, .iconst 0, 1, [], 0, 0), (134, .istore 10, 2, [], 0, 0), (136, .iconst 0, 1, [], 0, 0), (137, .istore 11, 2, [], 0, 0), (139, .iload 11, 2, [true, true, true, true, false, false, false, false, false, false, false, false, true, true, true, true, true], 0, 0), (141, .iconst 4, 1, [], 0, 0), (142, .if_icmp .ge 143, 3, [], 0, 0), (145, .iload 4, 2, [], 0, 0), (147, .iload 11, 2, [], 0, 0), (149, .invokestatic 23, 3, [], 15, 0), (152, .istore 12, 2, [], 0, 0), (154, .iload 11, 2, [], 0, 0), (156, .iconst 1, 1, [], 0, 0), (157, .if_icmp .lt 28, 3, [], 0, 0), (160, .iload 4, 2, [], 0, 0), (162, .iload 11, 2, [], 0, 0), (164, .iconst 1, 1, [], 0, 0), (165, .isub, 1, [], 0, 0), (166, .invokestatic 23, 3, [], 15, 0), (169, .iload 5, 2, [], 0, 0), (171, .if_icmp .ne 14, 3, [], 0, 0), (174, .iload 12, 2, [], 0, 0), (176, .iload 6, 2, [], 0, 0), (178, .if_icmp .ne 7, 3, [], 0, 0), (181, .iconst 1, 1, [], 0, 0), (182, .goto 4, 3, [], 0, 0), (185, .iconst 0, 1, [], 0, 0), (186, .istore 13, 2, [true, true, true, true, false, false, false, false, false, false, false, false, false, true, true, true, true], 0, 0), (188, .iload 12, 2, [], 0, 0), (190, .iload 6, 2, [], 0, 0), (192, .if_icmp .ne 7, 3, [], 0, 0), (195, .iconst 1, 1, [], 0, 0), (196, .goto 4, 3, [], 0, 0), (199, .iconst 0, 1, [], 0, 0), (200, .istore 14, 2, [true, true, true, true, false, false, false, false, false, false, false, false, false, false, true, true, true], 0, 0), (202, .iload 13, 2, [], 0, 0), (204, .ifCond .eq 7, 3, [], 0, 0), (207, .iconst 1, 1, [], 0, 0), (208, .goto 4, 3, [], 0, 0), (211, .iconst 0, 1, [], 0, 0), (212, .iload 14, 2, [true, true, true, true, false, false, false, false, false, false, false, false, false, false, false, true, true], 0, 0), (214, .ifCond .eq 7, 3, [], 0, 0), (217, .iconst 1, 1, [], 0, 0), (218, .goto 4, 3, [], 0, 0), (221, .iconst 0, 1, [], 0, 0), (222, .iadd, 1, [true, true, true, true, false, false, false, false, false, false, false, false, false, false, false, true, true], 0, 0), (223, .istore 15, 2, [], 0, 0), (225, .aload 9, 2, [], 0, 0), (227, .iload 12, 2, [], 0, 0), (229, .invokevirtual 29, 3, [], 16, 0), (232, .iload 15, 2, [], 0, 0), (234, .if_icmp .eq 5, 3, [], 0, 0), (237, .iconst 0, 1, [], 0, 0), (238, .ireturn, 1, [], 0, 0), (239, .aload 9, 2, [], 0, 0), (241, .iload 11, 2, [], 0, 0), (243, .invokevirtual 32, 3, [], 22, 0), (246, .iload 13, 2, [], 0, 0), (248, .ifCond .eq 7, 3, [], 0, 0), (251, .iconst 1, 1, [], 0, 0), (252, .goto 4, 3, [], 0, 0), (255, .iconst 0, 1, [], 0, 0), (256, .iload 14, 2, [true, true, true, true, false, false, false, false, false, false, false, false, true, true, false, false, true], 0, 0), (258, .ifCond .eq 7, 3, [], 0, 0), (261, .iconst 2, 1, [], 0, 0), (262, .goto 4, 3, [], 0, 0), (265, .iconst 0, 1, [], 0, 0), (266, .iadd, 1, [true, true, true, true, false, false, false, false, false, false, false, false, true, true, true, false, true], 0, 0), (267, .if_icmp .eq 5, 3, [], 0, 0), (270, .iconst 0, 1, [], 0, 0), (271, .ireturn, 1, [], 0, 0), (272, .iload 10, 2, [], 0, 0), (274, .iload 15, 2, [], 0, 0), (276, .iadd, 1, [], 0, 0), (277, .istore 10, 2, [], 0, 0), (279, .iinc 11 1, 3, [], 0, 0), (282, .goto (-143), 3, [], 0, 0), (285, .aload 9, 2, [true, true, true, true, false, false, false, false, false, false, false, true, true, true, true, true, true], 0, 0), (287, .invokevirtual 35, 3, [], 24, 0), (290, .iconst 4, 1, [], 0, 0), (291, .if_icmp .eq 5, 3, [], 0, 0), (294, .iconst 0, 1, [], 0, 0), (295, .ireturn, 1, [], 0, 0), (296, .aload 9, 2, [], 0, 0), (298, .invokevirtual 38, 3, [], 25, 0), (301, .iload 10, 2, [], 0, 0), (303, .if_icmp .eq 5, 3, [], 0, 0), (306, .iconst 0, 1, [], 0, 0), (307, .ireturn, 1, [], 0, 0), (308, .iload 4, 2, [], 0, 0), (310, .iconst 2, 1, [], 0, 0), (311, .invokestatic 23, 3, [], 15, 0), (314, .iload 5, 2, [], 0, 0), (316, .if_icmp .ne 18, 3, [], 0, 0), (319, .iload 4, 2, [], 0, 0), (321, .iconst 3, 1, [], 0, 0), (322, .invokestatic 23, 3, [], 15, 0), (325, .iload 6, 2, [], 0, 0), (327, .if_icmp .ne 7, 3, [], 0, 0), (330, .iconst 2, 1, [], 0, 0), (331, .goto 30, 3, [], 0, 0), (334, .iload 4, 2, [true, true, true, true, false, false, false, false, false, false, true, true, true, true, true, true, true], 0, 0), (336, .iconst 3, 1, [], 0, 0), (337, .invokestatic 23, 3, [], 15, 0), (340, .iload 5, 2, [], 0, 0), (342, .if_icmp .eq 14, 3, [], 0, 0), (345, .iload 4, 2, [], 0, 0), (347, .iconst 3, 1, [], 0, 0), (348, .invokestatic 23, 3, [], 15, 0), (351, .iload 6, 2, [], 0, 0), (353, .if_icmp .ne 7, 3, [], 0, 0), (356, .iconst 1, 1, [], 0, 0), (357, .goto 4, 3, [], 0, 0), (360, .iconst 0, 1, [], 0, 0), (361, .istore 11, 2, [true, true, true, true, false, false, false, false, false, false, true, true, true, true, true, true, true], 0, 0), (363, .aload 9, 2, [], 0, 0), (365, .invokevirtual 41, 3, [], 26, 0), (368, .iload 11, 2, [], 0, 0), (370, .if_icmp .eq 5, 3, [], 0, 0), (373, .iconst 0, 1, [], 0, 0), (374, .ireturn, 1, [], 0, 0), (375, .iconst 0, 1, [], 0, 0), (376, .istore 12, 2, [], 0, 0), (378, .iconst 0, 1, [], 0, 0), (379, .istore 13, 2, [], 0, 0), (381, .iconst 0, 1, [], 0, 0), (382, .istore 14, 2, [], 0, 0), (384, .iload 14, 2, [true, true, true, true, false, false, false, false, false, false, true, true, false, false, false, true, true], 0, 0), (386, .iconst 4, 1, [], 0, 0), (387, .if_icmp .ge 104, 3, [], 0, 0), (390, .iload 12, 2, [], 0, 0), (392, .iconst 4, 1, [], 0, 0), (393, .if_icmp .ge 92, 3, [], 0, 0), (396, .iload 4, 2, [], 0, 0), (398, .iload 12, 2, [], 0, 0), (400, .invokestatic 23, 3, [], 15, 0), (403, .istore 15, 2, [], 0, 0), (405, .iload 12, 2, [], 0, 0), (407, .iconst 1, 1, [], 0, 0), (408, .iadd, 1, [], 0, 0), (409, .iconst 4, 1, [], 0, 0), (410, .if_icmp .ge 34, 3, [], 0, 0), (413, .iload 15, 2, [], 0, 0), (415, .iload 5, 2, [], 0, 0), (417, .if_icmp .ne 27, 3, [], 0, 0), (420, .iload 4, 2, [], 0, 0), (422, .iload 12, 2, [], 0, 0), (424, .iconst 1, 1, [], 0, 0), (425, .iadd, 1, [], 0, 0), (426, .invokestatic 23, 3, [], 15, 0), (429, .iload 6, 2, [], 0, 0), (431, .if_icmp .ne 13, 3, [], 0, 0), (434, .iload 7, 2, [], 0, 0), (436, .istore 16, 2, [], 0, 0), (438, .iinc 12 2, 3, [], 0, 0), (441, .goto 27, 3, [], 0, 0), (444, .iload 15, 2, [true, true, true, true, false, false, false, false, false, false, true, true, false, false, false, false, true], 0, 0), (446, .iload 6, 2, [], 0, 0), (448, .if_icmp .ne 13, 3, [], 0, 0), (451, .iload 8, 2, [], 0, 0), (453, .istore 16, 2, [], 0, 0), (455, .iinc 12 1, 3, [], 0, 0), (458, .goto 10, 3, [], 0, 0), (461, .iload 15, 2, [], 0, 0), (463, .istore 16, 2, [], 0, 0), (465, .iinc 12 1, 3, [], 0, 0), (468, .aload 9, 2, [true, true, true, true, false, false, false, false, false, false, true, true, false, false, false, true], 0, 0), (470, .iload 13, 2, [], 0, 0), (472, .invokevirtual 44, 3, [], 27, 0), (475, .iload 16, 2, [], 0, 0), (477, .if_icmp .eq 5, 3, [], 0, 0), (480, .iconst 0, 1, [], 0, 0), (481, .ireturn, 1, [], 0, 0), (482, .iinc 13 1, 3, [], 0, 0), (485, .iinc 14 1, 3, [], 0, 0), (488, .goto (-104), 3, [], 0, 0), (491, .aload 9, 2, [true, true, true, true, true, true, true, true, true, false, true, true, true, false, true, true, true], 0, 0), (493, .invokevirtual 47, 3, [], 28, 0), (496, .iload 13, 2, [], 0, 0), (498, .if_icmp .ne 18, 3, [], 0, 0), (501, .aload 9, 2, [], 0, 0), (503, .iload 13, 2, [], 0, 0), (505, .invokevirtual 44, 3, [], 27, 0), (508, .iconst (-1), 1, [], 0, 0), (509, .if_icmp .ne 7, 3, [], 0, 0), (512, .iconst 1, 1, [], 0, 0), (513, .goto 4, 3, [], 0, 0), (516, .iconst 0, 1, [], 0, 0), (517, .ireturn, 1, [], 0, 0)])
def d_1 : MD := (⟨"MultiPatternScan", "<init>", "(II)V"⟩, prog_1_method_1_code, 6, none, 1, 2, 0, 1, 12, [(0, .aload_n 0, 1, [], 0, 0), (1, .invokespecial 1, 3, [], 0, -1), (4, .aload_n 0, 1, [], 0, 0), (5, .sipush 128, 3, [], 0, 0), (8, .newarray .int, 2, [], 0, 0), (10, .putfield 7, 3, [], 0, 0), (13, .aload_n 0, 1, [], 0, 0), (14, .bipush 16, 2, [], 0, 0), (16, .newarray .int, 2, [], 0, 0), (18, .putfield 13, 3, [], 1, 0), (21, .aload_n 0, 1, [], 0, 0), (22, .bipush 16, 2, [], 0, 0), (24, .newarray .int, 2, [], 0, 0), (26, .putfield 16, 3, [], 2, 0), (29, .aload_n 0, 1, [], 0, 0), (30, .bipush 8, 2, [], 0, 0), (32, .newarray .int, 2, [], 0, 0), (34, .putfield 19, 3, [], 3, 0), (37, .aload_n 0, 1, [], 0, 0), (38, .sipush 3354, 3, [], 0, 0), (41, .newarray .int, 2, [], 0, 0), (43, .putfield 22, 3, [], 4, 0), (46, .aload_n 0, 1, [], 0, 0), (47, .sipush 3354, 3, [], 0, 0), (50, .newarray .int, 2, [], 0, 0), (52, .putfield 25, 3, [], 5, 0), (55, .aload_n 0, 1, [], 0, 0), (56, .sipush 129, 3, [], 0, 0), (59, .newarray .int, 2, [], 0, 0), (61, .putfield 28, 3, [], 6, 0), (64, .aload_n 0, 1, [], 0, 0), (65, .sipush 129, 3, [], 0, 0), (68, .newarray .int, 2, [], 0, 0), (70, .putfield 31, 3, [], 7, 0), (73, .aload_n 0, 1, [], 0, 0), (74, .sipush 129, 3, [], 0, 0), (77, .newarray .int, 2, [], 0, 0), (79, .putfield 34, 3, [], 8, 0), (82, .aload_n 0, 1, [], 0, 0), (83, .sipush 129, 3, [], 0, 0), (86, .newarray .int, 2, [], 0, 0), (88, .putfield 37, 3, [], 9, 0), (91, .aload_n 0, 1, [], 0, 0), (92, .sipush 129, 3, [], 0, 0), (95, .newarray .int, 2, [], 0, 0), (97, .putfield 40, 3, [], 10, 0), (100, .aload_n 0, 1, [], 0, 0), (101, .sipush 240, 3, [], 0, 0), (104, .newarray .int, 2, [], 0, 0), (106, .putfield 43, 3, [], 11, 0), (109, .aload_n 0, 1, [], 0, 0), (110, .sipush 240, 3, [], 0, 0), (113, .newarray .int, 2, [], 0, 0), (115, .putfield 46, 3, [], 12, 0), (118, .aload_n 0, 1, [], 0, 0), (119, .sipush 240, 3, [], 0, 0), (122, .newarray .int, 2, [], 0, 0), (124, .putfield 49, 3, [], 13, 0), (127, .aload_n 0, 1, [], 0, 0), (128, .bipush 8, 2, [], 0, 0), (130, .newarray .int, 2, [], 0, 0), (132, .putfield 52, 3, [], 14, 0), (135, .iload_n 1, 1, [], 0, 0), (136, .istore_n 3, 1, [], 0, 0), (137, .iload_n 3, 1, [], 0, 0), (138, .iconst 1, 1, [], 0, 0), (139, .if_icmp .ge 5, 3, [], 0, 0), (142, .iconst 1, 1, [], 0, 0), (143, .istore_n 3, 1, [], 0, 0), (144, .iload_n 3, 1, [false, true, false, false, true, true], 0, 0), (145, .bipush 16, 2, [], 0, 0), (147, .if_icmp .le 6, 3, [], 0, 0), (150, .bipush 16, 2, [], 0, 0), (152, .istore_n 3, 1, [], 0, 0), (153, .iload_n 2, 1, [false, true, false, false, true, true], 0, 0), (154, .istore 4, 2, [], 0, 0), (156, .iload 4, 2, [], 0, 0), (158, .iconst 1, 1, [], 0, 0), (159, .if_icmp .ge 6, 3, [], 0, 0), (162, .iconst 1, 1, [], 0, 0), (163, .istore 4, 2, [], 0, 0), (165, .iload 4, 2, [false, true, true, false, false, true], 0, 0), (167, .bipush 8, 2, [], 0, 0), (169, .if_icmp .le 7, 3, [], 0, 0), (172, .bipush 8, 2, [], 0, 0), (174, .istore 4, 2, [], 0, 0), (176, .aload_n 0, 1, [false, true, true, false, false, true], 0, 0), (177, .iload_n 3, 1, [], 0, 0), (178, .putfield 55, 3, [], 15, 0), (181, .aload_n 0, 1, [], 0, 0), (182, .iload 4, 2, [], 0, 0), (184, .putfield 59, 3, [], 16, 0), (187, .aload_n 0, 1, [], 0, 0), (188, .iconst 0, 1, [], 0, 0), (189, .putfield 62, 3, [], 17, 0), (192, .aload_n 0, 1, [], 0, 0), (193, .iconst 0, 1, [], 0, 0), (194, .putfield 65, 3, [], 18, 0), (197, .aload_n 0, 1, [], 0, 0), (198, .iconst 0, 1, [], 0, 0), (199, .putfield 68, 3, [], 19, 0), (202, .aload_n 0, 1, [], 0, 0), (203, .iconst 1, 1, [], 0, 0), (204, .putfield 71, 3, [], 20, 0), (207, .aload_n 0, 1, [], 0, 0), (208, .iconst 1, 1, [], 0, 0), (209, .putfield 74, 3, [], 21, 0), (212, .iconst 0, 1, [], 0, 0), (213, .istore 5, 2, [], 0, 0), (215, .iload 5, 2, [false, true, true, true, true], 0, 0), (217, .sipush 129, 3, [], 0, 0), (220, .if_icmp .ge 17, 3, [], 0, 0), (223, .aload_n 0, 1, [], 0, 0), (224, .getfield 34, 3, [], 8, 0), (227, .iload 5, 2, [], 0, 0), (229, .iconst (-1), 1, [], 0, 0), (230, .iastore, 1, [], 0, 0), (231, .iinc 5 1, 3, [], 0, 0), (234, .goto (-19), 3, [], 0, 0), (237, .aload_n 0, 1, [false, true, true, true, true, true], 0, 0), (238, .invokevirtual 77, 3, [], 2, 0), (241, .return_, 1, [], 0, 0)])
def d_2 : MD := (⟨"MultiPatternScan", "clearText", "()V"⟩, prog_1_method_27_code, 1, none, 2, 0, 0, 0, 0, [(0, .aload_n 0, 1, [], 0, 0), (1, .iconst 0, 1, [], 0, 0), (2, .putfield 101, 3, [], 22, 0), (5, .aload_n 0, 1, [], 0, 0), (6, .iconst 0, 1, [], 0, 0), (7, .putfield 104, 3, [], 23, 0), (10, .aload_n 0, 1, [], 0, 0), (11, .iconst 0, 1, [], 0, 0), (12, .putfield 115, 3, [], 24, 0), (15, .aload_n 0, 1, [], 0, 0), (16, .iconst 0, 1, [], 0, 0), (17, .putfield 127, 3, [], 25, 0), (20, .aload_n 0, 1, [], 0, 0), (21, .iconst 0, 1, [], 0, 0), (22, .putfield 142, 3, [], 26, 0), (25, .aload_n 0, 1, [], 0, 0), (26, .iconst 0, 1, [], 0, 0), (27, .putfield 130, 3, [], 27, 0), (30, .return_, 1, [], 0, 0)])
def d_3 : MD := (⟨"MultiPatternScan", "addChar", "(I)I"⟩, prog_1_method_2_code, 2, some .int, 3, 1, 0, 1, 13, [(0, .aload_n 0, 1, [], 0, 0), (1, .getfield 62, 3, [], 17, 0), (4, .ifCond .eq 5, 3, [], 0, 0), (7, .iconst (-1), 1, [], 0, 0), (8, .ireturn, 1, [], 0, 0), (9, .aload_n 0, 1, [], 0, 0), (10, .iload_n 1, 1, [], 0, 0), (11, .invokevirtual 80, 3, [], 4, 0), (14, .ifCond .ne 6, 3, [], 0, 0), (17, .bipush (-2), 2, [], 0, 0), (19, .ireturn, 1, [], 0, 0), (20, .aload_n 0, 1, [], 0, 0), (21, .getfield 65, 3, [], 18, 0), (24, .aload_n 0, 1, [], 0, 0), (25, .getfield 55, 3, [], 15, 0), (28, .if_icmp .lt 6, 3, [], 0, 0), (31, .bipush (-3), 2, [], 0, 0), (33, .ireturn, 1, [], 0, 0), (34, .aload_n 0, 1, [], 0, 0), (35, .getfield 68, 3, [], 19, 0), (38, .aload_n 0, 1, [], 0, 0), (39, .getfield 59, 3, [], 16, 0), (42, .if_icmp .ge 12, 3, [], 0, 0), (45, .aload_n 0, 1, [], 0, 0), (46, .getfield 68, 3, [], 19, 0), (49, .bipush 8, 2, [], 0, 0), (51, .if_icmp .lt 6, 3, [], 0, 0), (54, .bipush (-3), 2, [], 0, 0), (56, .ireturn, 1, [], 0, 0), (57, .aload_n 0, 1, [], 0, 0), (58, .getfield 19, 3, [], 3, 0), (61, .aload_n 0, 1, [], 0, 0), (62, .getfield 68, 3, [], 19, 0), (65, .iload_n 1, 1, [], 0, 0), (66, .iastore, 1, [], 0, 0), (67, .aload_n 0, 1, [], 0, 0), (68, .dup, 1, [], 0, 0), (69, .getfield 68, 3, [], 19, 0), (72, .iconst 1, 1, [], 0, 0), (73, .iadd, 1, [], 0, 0), (74, .putfield 68, 3, [], 19, 0), (77, .aload_n 0, 1, [], 0, 0), (78, .getfield 68, 3, [], 19, 0), (81, .ireturn, 1, [], 0, 0)])
def d_4 : MD := (⟨"MultiPatternScan", "isLetter", "(I)Z"⟩, prog_1_method_32_code, 2, some .boolean, 2, 1, 0, 0, 0, [(0, .iload_n 1, 1, [], 0, 0), (1, .bipush 97, 2, [], 0, 0), (3, .if_icmp .lt 13, 3, [], 0, 0), (6, .iload_n 1, 1, [], 0, 0), (7, .bipush 122, 2, [], 0, 0), (9, .if_icmp .gt 7, 3, [], 0, 0), (12, .iconst 1, 1, [], 0, 0), (13, .goto 4, 3, [], 0, 0), (16, .iconst 0, 1, [], 0, 0), (17, .ireturn, 1, [], 0, 0)])
def d_5 : MD := (⟨"MultiPatternScan", "endKeyword", "(I)I"⟩, prog_1_method_3_code, 2, some .int, 3, 1, 0, 2, 28, [(0, .aload_n 0, 1, [], 0, 0), (1, .getfield 62, 3, [], 17, 0), (4, .ifCond .eq 5, 3, [], 0, 0), (7, .iconst (-1), 1, [], 0, 0), (8, .ireturn, 1, [], 0, 0), (9, .aload_n 0, 1, [], 0, 0), (10, .getfield 68, 3, [], 19, 0), (13, .ifCond .ne 6, 3, [], 0, 0), (16, .bipush (-4), 2, [], 0, 0), (18, .ireturn, 1, [], 0, 0), (19, .aload_n 0, 1, [], 0, 0), (20, .iload_n 1, 1, [], 0, 0), (21, .invokevirtual 84, 3, [], 6, 0), (24, .ifCond .ne 6, 3, [], 0, 0), (27, .bipush (-6), 2, [], 0, 0), (29, .ireturn, 1, [], 0, 0), (30, .aload_n 0, 1, [], 0, 0), (31, .invokevirtual 87, 3, [], 7, 0), (34, .ifCond .eq 6, 3, [], 0, 0), (37, .bipush (-5), 2, [], 0, 0), (39, .ireturn, 1, [], 0, 0), (40, .aload_n 0, 1, [], 0, 0), (41, .getfield 65, 3, [], 18, 0), (44, .bipush 16, 2, [], 0, 0), (46, .if_icmp .lt 6, 3, [], 0, 0), (49, .bipush (-3), 2, [], 0, 0), (51, .ireturn, 1, [], 0, 0), (52, .aload_n 0, 1, [], 0, 0), (53, .iload_n 1, 1, [], 0, 0), (54, .invokevirtual 91, 3, [], 8, 0), (57, .aload_n 0, 1, [], 0, 0), (58, .getfield 65, 3, [], 18, 0), (61, .iconst 1, 1, [], 0, 0), (62, .isub, 1, [], 0, 0), (63, .ireturn, 1, [], 0, 0)])
def d_6 : MD := (⟨"MultiPatternScan", "isPrintable", "(I)Z"⟩, prog_1_method_33_code, 2, some .boolean, 2, 1, 0, 0, 0, [(0, .iload_n 1, 1, [], 0, 0), (1, .bipush 32, 2, [], 0, 0), (3, .if_icmp .lt 13, 3, [], 0, 0), (6, .iload_n 1, 1, [], 0, 0), (7, .bipush 126, 2, [], 0, 0), (9, .if_icmp .gt 7, 3, [], 0, 0), (12, .iconst 1, 1, [], 0, 0), (13, .goto 4, 3, [], 0, 0), (16, .iconst 0, 1, [], 0, 0), (17, .ireturn, 1, [], 0, 0)])
def d_7 : MD := (⟨"MultiPatternScan", "pendingIsDuplicate", "()Z"⟩, prog_1_method_19_code, 2, some .boolean, 2, 0, 0, 1, 15, [(0, .iconst 0, 1, [], 0, 0), (1, .istore_n 1, 1, [], 0, 0), (2, .iload_n 1, 1, [], 0, 0), (3, .aload_n 0, 1, [], 0, 0), (4, .getfield 65, 3, [], 18, 0), (7, .if_icmp .ge 25, 3, [], 0, 0), (10, .iload_n 1, 1, [], 0, 0), (11, .bipush 16, 2, [], 0, 0), (13, .if_icmp .ge 19, 3, [], 0, 0), (16, .aload_n 0, 1, [], 0, 0), (17, .iload_n 1, 1, [], 0, 0), (18, .invokevirtual 133, 3, [], 9, 0), (21, .ifCond .eq 5, 3, [], 0, 0), (24, .iconst 1, 1, [], 0, 0), (25, .ireturn, 1, [], 0, 0), (26, .iinc 1 1, 3, [], 0, 0), (29, .goto (-27), 3, [], 0, 0), (32, .iconst 0, 1, [], 0, 0), (33, .ireturn, 1, [], 0, 0)])
def d_8 : MD := (⟨"MultiPatternScan", "storePending", "(I)V"⟩, prog_1_method_21_code, 4, none, 2, 1, 0, 0, 0, [(0, .aload_n 0, 1, [], 0, 0), (1, .getfield 65, 3, [], 18, 0), (4, .bipush 8, 2, [], 0, 0), (6, .imul, 1, [], 0, 0), (7, .istore_n 2, 1, [], 0, 0), (8, .iconst 0, 1, [], 0, 0), (9, .istore_n 3, 1, [], 0, 0), (10, .iload_n 3, 1, [], 0, 0), (11, .aload_n 0, 1, [], 0, 0), (12, .getfield 68, 3, [], 19, 0), (15, .if_icmp .ge 29, 3, [], 0, 0), (18, .iload_n 3, 1, [], 0, 0), (19, .bipush 8, 2, [], 0, 0), (21, .if_icmp .ge 23, 3, [], 0, 0), (24, .aload_n 0, 1, [], 0, 0), (25, .getfield 7, 3, [], 0, 0), (28, .iload_n 2, 1, [], 0, 0), (29, .iload_n 3, 1, [], 0, 0), (30, .iadd, 1, [], 0, 0), (31, .aload_n 0, 1, [], 0, 0), (32, .getfield 19, 3, [], 3, 0), (35, .iload_n 3, 1, [], 0, 0), (36, .iaload, 1, [], 0, 0), (37, .iastore, 1, [], 0, 0), (38, .iinc 3 1, 3, [], 0, 0), (41, .goto (-31), 3, [], 0, 0), (44, .aload_n 0, 1, [false, false, true, true], 0, 0), (45, .getfield 13, 3, [], 1, 0), (48, .aload_n 0, 1, [], 0, 0), (49, .getfield 65, 3, [], 18, 0), (52, .aload_n 0, 1, [], 0, 0), (53, .getfield 68, 3, [], 19, 0), (56, .iastore, 1, [], 0, 0), (57, .aload_n 0, 1, [], 0, 0), (58, .getfield 16, 3, [], 2, 0), (61, .aload_n 0, 1, [], 0, 0), (62, .getfield 65, 3, [], 18, 0), (65, .iload_n 1, 1, [], 0, 0), (66, .iastore, 1, [], 0, 0), (67, .aload_n 0, 1, [], 0, 0), (68, .dup, 1, [], 0, 0), (69, .getfield 65, 3, [], 18, 0), (72, .iconst 1, 1, [], 0, 0), (73, .iadd, 1, [], 0, 0), (74, .putfield 65, 3, [], 18, 0), (77, .aload_n 0, 1, [], 0, 0), (78, .iconst 0, 1, [], 0, 0), (79, .putfield 68, 3, [], 19, 0), (82, .return_, 1, [], 0, 0)])
def d_9 : MD := (⟨"MultiPatternScan", "pendingEquals", "(I)Z"⟩, prog_1_method_20_code, 4, some .boolean, 2, 1, 0, 0, 0, [(0, .aload_n 0, 1, [], 0, 0), (1, .getfield 13, 3, [], 1, 0), (4, .iload_n 1, 1, [], 0, 0), (5, .iaload, 1, [], 0, 0), (6, .aload_n 0, 1, [], 0, 0), (7, .getfield 68, 3, [], 19, 0), (10, .if_icmp .eq 5, 3, [], 0, 0), (13, .iconst 0, 1, [], 0, 0), (14, .ireturn, 1, [], 0, 0), (15, .iload_n 1, 1, [], 0, 0), (16, .bipush 8, 2, [], 0, 0), (18, .imul, 1, [], 0, 0), (19, .istore_n 2, 1, [], 0, 0), (20, .iconst 0, 1, [], 0, 0), (21, .istore_n 3, 1, [], 0, 0), (22, .iload_n 3, 1, [false, true], 0, 0), (23, .aload_n 0, 1, [], 0, 0), (24, .getfield 68, 3, [], 19, 0), (27, .if_icmp .ge 34, 3, [], 0, 0), (30, .iload_n 3, 1, [], 0, 0), (31, .bipush 8, 2, [], 0, 0), (33, .if_icmp .ge 28, 3, [], 0, 0), (36, .aload_n 0, 1, [], 0, 0), (37, .getfield 7, 3, [], 0, 0), (40, .iload_n 2, 1, [], 0, 0), (41, .iload_n 3, 1, [], 0, 0), (42, .iadd, 1, [], 0, 0), (43, .iaload, 1, [], 0, 0), (44, .aload_n 0, 1, [], 0, 0), (45, .getfield 19, 3, [], 3, 0), (48, .iload_n 3, 1, [], 0, 0), (49, .iaload, 1, [], 0, 0), (50, .if_icmp .eq 5, 3, [], 0, 0), (53, .iconst 0, 1, [], 0, 0), (54, .ireturn, 1, [], 0, 0), (55, .iinc 3 1, 3, [], 0, 0), (58, .goto (-36), 3, [], 0, 0), (61, .iconst 1, 1, [], 0, 0), (62, .ireturn, 1, [], 0, 0)])
def d_10 : MD := (⟨"MultiPatternScan", "build", "()I"⟩, prog_1_method_4_code, 1, some .int, 3, 0, 0, 2, 35, [(0, .aload_n 0, 1, [], 0, 0), (1, .getfield 62, 3, [], 17, 0), (4, .ifCond .eq 5, 3, [], 0, 0), (7, .iconst (-1), 1, [], 0, 0), (8, .ireturn, 1, [], 0, 0), (9, .aload_n 0, 1, [], 0, 0), (10, .getfield 68, 3, [], 19, 0), (13, .ifCond .eq 6, 3, [], 0, 0), (16, .bipush (-7), 2, [], 0, 0), (18, .ireturn, 1, [], 0, 0), (19, .aload_n 0, 1, [], 0, 0), (20, .getfield 65, 3, [], 18, 0), (23, .ifCond .ne 6, 3, [], 0, 0), (26, .bipush (-4), 2, [], 0, 0), (28, .ireturn, 1, [], 0, 0), (29, .aload_n 0, 1, [], 0, 0), (30, .invokevirtual 95, 3, [], 11, 0), (33, .aload_n 0, 1, [], 0, 0), (34, .invokevirtual 98, 3, [], 13, 0), (37, .aload_n 0, 1, [], 0, 0), (38, .iconst 1, 1, [], 0, 0), (39, .putfield 62, 3, [], 17, 0), (42, .aload_n 0, 1, [], 0, 0), (43, .invokevirtual 77, 3, [], 2, 0), (46, .iconst 0, 1, [], 0, 0), (47, .ireturn, 1, [], 0, 0)])
def d_11 : MD := (⟨"MultiPatternScan", "buildTrie", "()V"⟩, prog_1_method_22_code, 2, none, 2, 0, 0, 1, 18, [(0, .aload_n 0, 1, [], 0, 0), (1, .iconst 1, 1, [], 0, 0), (2, .putfield 71, 3, [], 20, 0), (5, .aload_n 0, 1, [], 0, 0), (6, .iconst 1, 1, [], 0, 0), (7, .putfield 74, 3, [], 21, 0), (10, .iconst 0, 1, [], 0, 0), (11, .istore_n 1, 1, [], 0, 0), (12, .iload_n 1, 1, [], 0, 0), (13, .aload_n 0, 1, [], 0, 0), (14, .getfield 65, 3, [], 18, 0), (17, .if_icmp .ge 43, 3, [], 0, 0), (20, .iload_n 1, 1, [], 0, 0), (21, .bipush 16, 2, [], 0, 0), (23, .if_icmp .ge 37, 3, [], 0, 0), (26, .aload_n 0, 1, [], 0, 0), (27, .iload_n 1, 1, [], 0, 0), (28, .invokevirtual 136, 3, [], 12, 0), (31, .aload_n 0, 1, [], 0, 0), (32, .getfield 13, 3, [], 1, 0), (35, .iload_n 1, 1, [], 0, 0), (36, .iaload, 1, [], 0, 0), (37, .aload_n 0, 1, [], 0, 0), (38, .getfield 74, 3, [], 21, 0), (41, .if_icmp .le 13, 3, [], 0, 0), (44, .aload_n 0, 1, [], 0, 0), (45, .aload_n 0, 1, [], 0, 0), (46, .getfield 13, 3, [], 1, 0), (49, .iload_n 1, 1, [], 0, 0), (50, .iaload, 1, [], 0, 0), (51, .putfield 74, 3, [], 21, 0), (54, .iinc 1 1, 3, [], 0, 0), (57, .goto (-45), 3, [], 0, 0), (60, .return_, 1, [], 0, 0)])
def d_12 : MD := (⟨"MultiPatternScan", "insertKeyword", "(I)V"⟩, prog_1_method_23_code, 7, none, 2, 1, 0, 0, 0, [(0, .iconst 0, 1, [], 0, 0), (1, .istore_n 2, 1, [], 0, 0), (2, .iload_n 1, 1, [], 0, 0), (3, .bipush 8, 2, [], 0, 0), (5, .imul, 1, [], 0, 0), (6, .istore_n 3, 1, [], 0, 0), (7, .iconst 0, 1, [], 0, 0), (8, .istore 4, 2, [], 0, 0), (10, .iload 4, 2, [false, false, false, false, false, true, true], 0, 0), (12, .aload_n 0, 1, [], 0, 0), (13, .getfield 13, 3, [], 1, 0), (16, .iload_n 1, 1, [], 0, 0), (17, .iaload, 1, [], 0, 0), (18, .if_icmp .ge 119, 3, [], 0, 0), (21, .iload 4, 2, [], 0, 0), (23, .bipush 8, 2, [], 0, 0), (25, .if_icmp .ge 112, 3, [], 0, 0), (28, .aload_n 0, 1, [], 0, 0), (29, .getfield 7, 3, [], 0, 0), (32, .iload_n 3, 1, [], 0, 0), (33, .iload 4, 2, [], 0, 0), (35, .iadd, 1, [], 0, 0), (36, .iaload, 1, [], 0, 0), (37, .bipush 97, 2, [], 0, 0), (39, .isub, 1, [], 0, 0), (40, .istore 5, 2, [], 0, 0), (42, .iload 5, 2, [], 0, 0), (44, .ifCond .lt 10, 3, [], 0, 0), (47, .iload 5, 2, [], 0, 0), (49, .bipush 26, 2, [], 0, 0), (51, .if_icmp .lt 4, 3, [], 0, 0), (54, .return_, 1, [], 0, 0), (55, .iload_n 2, 1, [], 0, 0), (56, .bipush 26, 2, [], 0, 0), (58, .imul, 1, [], 0, 0), (59, .iload 5, 2, [], 0, 0), (61, .iadd, 1, [], 0, 0), (62, .istore 6, 2, [], 0, 0), (64, .aload_n 0, 1, [], 0, 0), (65, .getfield 22, 3, [], 4, 0), (68, .iload 6, 2, [], 0, 0), (70, .iaload, 1, [], 0, 0), (71, .ifCond .ne 52, 3, [], 0, 0), (74, .aload_n 0, 1, [], 0, 0), (75, .getfield 71, 3, [], 20, 0), (78, .sipush 129, 3, [], 0, 0), (81, .if_icmp .lt 4, 3, [], 0, 0), (84, .return_, 1, [], 0, 0), (85, .aload_n 0, 1, [], 0, 0), (86, .getfield 22, 3, [], 4, 0), (89, .iload 6, 2, [], 0, 0), (91, .aload_n 0, 1, [], 0, 0), (92, .getfield 71, 3, [], 20, 0), (95, .iastore, 1, [], 0, 0), (96, .aload_n 0, 1, [], 0, 0), (97, .getfield 31, 3, [], 7, 0), (100, .aload_n 0, 1, [], 0, 0), (101, .getfield 71, 3, [], 20, 0), (104, .aload_n 0, 1, [], 0, 0), (105, .getfield 31, 3, [], 7, 0), (108, .iload_n 2, 1, [], 0, 0), (109, .iaload, 1, [], 0, 0), (110, .iconst 1, 1, [], 0, 0), (111, .iadd, 1, [], 0, 0), (112, .iastore, 1, [], 0, 0), (113, .aload_n 0, 1, [], 0, 0), (114, .dup, 1, [], 0, 0), (115, .getfield 71, 3, [], 20, 0), (118, .iconst 1, 1, [], 0, 0), (119, .iadd, 1, [], 0, 0), (120, .putfield 71, 3, [], 20, 0), (123, .aload_n 0, 1, [false, false, true, false, false, true], 0, 0), (124, .getfield 22, 3, [], 4, 0), (127, .iload 6, 2, [], 0, 0), (129, .iaload, 1, [], 0, 0), (130, .istore_n 2, 1, [], 0, 0), (131, .iinc 4 1, 3, [], 0, 0), (134, .goto (-124), 3, [], 0, 0), (137, .aload_n 0, 1, [false, false, false, true, true, true, true], 0, 0), (138, .getfield 34, 3, [], 8, 0), (141, .iload_n 2, 1, [], 0, 0), (142, .iload_n 1, 1, [], 0, 0), (143, .iastore, 1, [], 0, 0), (144, .aload_n 0, 1, [], 0, 0), (145, .getfield 37, 3, [], 9, 0), (148, .iload_n 2, 1, [], 0, 0), (149, .aload_n 0, 1, [], 0, 0), (150, .getfield 37, 3, [], 9, 0), (153, .iload_n 2, 1, [], 0, 0), (154, .iaload, 1, [], 0, 0), (155, .iconst 1, 1, [], 0, 0), (156, .iload_n 1, 1, [], 0, 0), (157, .ishl, 1, [], 0, 0), (158, .ior, 1, [], 0, 0), (159, .iastore, 1, [], 0, 0), (160, .return_, 1, [], 0, 0)])
def d_13 : MD := (⟨"MultiPatternScan", "computeLinks", "()V"⟩, prog_1_method_24_code, 5, none, 2, 0, 0, 1, 19, [(0, .iconst 0, 1, [], 0, 0), (1, .istore_n 1, 1, [], 0, 0), (2, .iconst 0, 1, [], 0, 0), (3, .istore_n 2, 1, [], 0, 0), (4, .aload_n 0, 1, [], 0, 0), (5, .getfield 28, 3, [], 6, 0), (8, .iconst 0, 1, [], 0, 0), (9, .iconst 0, 1, [], 0, 0), (10, .iastore, 1, [], 0, 0), (11, .iconst 0, 1, [], 0, 0), (12, .istore_n 3, 1, [], 0, 0), (13, .iload_n 3, 1, [false, false, false, false, true], 0, 0), (14, .bipush 26, 2, [], 0, 0), (16, .if_icmp .ge 56, 3, [], 0, 0), (19, .aload_n 0, 1, [], 0, 0), (20, .getfield 22, 3, [], 4, 0), (23, .iload_n 3, 1, [], 0, 0), (24, .iaload, 1, [], 0, 0), (25, .istore 4, 2, [], 0, 0), (27, .aload_n 0, 1, [], 0, 0), (28, .getfield 25, 3, [], 5, 0), (31, .iload_n 3, 1, [], 0, 0), (32, .iload 4, 2, [], 0, 0), (34, .iastore, 1, [], 0, 0), (35, .iload 4, 2, [], 0, 0), (37, .ifCond .eq 29, 3, [], 0, 0), (40, .iload_n 2, 1, [], 0, 0), (41, .sipush 129, 3, [], 0, 0), (44, .if_icmp .ge 22, 3, [], 0, 0), (47, .aload_n 0, 1, [], 0, 0), (48, .getfield 28, 3, [], 6, 0), (51, .iload 4, 2, [], 0, 0), (53, .iconst 0, 1, [], 0, 0), (54, .iastore, 1, [], 0, 0), (55, .aload_n 0, 1, [], 0, 0), (56, .getfield 40, 3, [], 10, 0), (59, .iload_n 2, 1, [], 0, 0), (60, .iload 4, 2, [], 0, 0), (62, .iastore, 1, [], 0, 0), (63, .iinc 2 1, 3, [], 0, 0), (66, .iinc 3 1, 3, [], 0, 0), (69, .goto (-56), 3, [], 0, 0), (72, .iconst 0, 1, [], 0, 0), (73, .istore_n 3, 1, [], 0, 0), (74, .iload_n 3, 1, [false, false, false, false, true], 0, 0), (75, .sipush 129, 3, [], 0, 0), (78, .if_icmp .ge 34, 3, [], 0, 0), (81, .iload_n 1, 1, [], 0, 0), (82, .iload_n 2, 1, [], 0, 0), (83, .if_icmp .lt 4, 3, [], 0, 0), (86, .return_, 1, [], 0, 0), (87, .aload_n 0, 1, [], 0, 0), (88, .getfield 40, 3, [], 10, 0), (91, .iload_n 1, 1, [], 0, 0), (92, .iaload, 1, [], 0, 0), (93, .istore 4, 2, [], 0, 0), (95, .iinc 1 1, 3, [], 0, 0), (98, .aload_n 0, 1, [], 0, 0), (99, .iload 4, 2, [], 0, 0), (101, .iload_n 2, 1, [], 0, 0), (102, .invokevirtual 139, 3, [], 14, 0), (105, .istore_n 2, 1, [], 0, 0), (106, .iinc 3 1, 3, [], 0, 0), (109, .goto (-35), 3, [], 0, 0), (112, .return_, 1, [], 0, 0)])
def d_14 : MD := (⟨"MultiPatternScan", "expandNode", "(II)I"⟩, prog_1_method_25_code, 8, some .int, 2, 2, 0, 0, 0, [(0, .iload_n 1, 1, [], 0, 0), (1, .ifCond .le 10, 3, [], 0, 0), (4, .iload_n 1, 1, [], 0, 0), (5, .sipush 129, 3, [], 0, 0), (8, .if_icmp .lt 5, 3, [], 0, 0), (11, .iload_n 2, 1, [], 0, 0), (12, .ireturn, 1, [], 0, 0), (13, .aload_n 0, 1, [], 0, 0), (14, .getfield 28, 3, [], 6, 0), (17, .iload_n 1, 1, [], 0, 0), (18, .iaload, 1, [], 0, 0), (19, .istore_n 3, 1, [], 0, 0), (20, .iload_n 3, 1, [], 0, 0), (21, .ifCond .lt 10, 3, [], 0, 0), (24, .iload_n 3, 1, [], 0, 0), (25, .sipush 129, 3, [], 0, 0), (28, .if_icmp .lt 5, 3, [], 0, 0), (31, .iconst 0, 1, [], 0, 0), (32, .istore_n 3, 1, [], 0, 0), (33, .aload_n 0, 1, [false, false, false, false, true, true, true, true], 0, 0), (34, .getfield 37, 3, [], 9, 0), (37, .iload_n 1, 1, [], 0, 0), (38, .aload_n 0, 1, [], 0, 0), (39, .getfield 37, 3, [], 9, 0), (42, .iload_n 1, 1, [], 0, 0), (43, .iaload, 1, [], 0, 0), (44, .aload_n 0, 1, [], 0, 0), (45, .getfield 37, 3, [], 9, 0), (48, .iload_n 3, 1, [], 0, 0), (49, .iaload, 1, [], 0, 0), (50, .ior, 1, [], 0, 0), (51, .iastore, 1, [], 0, 0), (52, .iload_n 2, 1, [], 0, 0), (53, .istore 4, 2, [], 0, 0), (55, .iconst 0, 1, [], 0, 0), (56, .istore 5, 2, [], 0, 0), (58, .iload 5, 2, [false, false, true, false, false, false, true, true], 0, 0), (60, .bipush 26, 2, [], 0, 0), (62, .if_icmp .ge 102, 3, [], 0, 0), (65, .aload_n 0, 1, [], 0, 0), (66, .getfield 22, 3, [], 4, 0), (69, .iload_n 1, 1, [], 0, 0), (70, .bipush 26, 2, [], 0, 0), (72, .imul, 1, [], 0, 0), (73, .iload 5, 2, [], 0, 0), (75, .iadd, 1, [], 0, 0), (76, .iaload, 1, [], 0, 0), (77, .istore 6, 2, [], 0, 0), (79, .aload_n 0, 1, [], 0, 0), (80, .getfield 25, 3, [], 5, 0), (83, .iload_n 3, 1, [], 0, 0), (84, .bipush 26, 2, [], 0, 0), (86, .imul, 1, [], 0, 0), (87, .iload 5, 2, [], 0, 0), (89, .iadd, 1, [], 0, 0), (90, .iaload, 1, [], 0, 0), (91, .istore 7, 2, [], 0, 0), (93, .iload 6, 2, [], 0, 0), (95, .ifCond .eq 49, 3, [], 0, 0), (98, .aload_n 0, 1, [], 0, 0), (99, .getfield 28, 3, [], 6, 0), (102, .iload 6, 2, [], 0, 0), (104, .iload 7, 2, [], 0, 0), (106, .iastore, 1, [], 0, 0), (107, .aload_n 0, 1, [], 0, 0), (108, .getfield 25, 3, [], 5, 0), (111, .iload_n 1, 1, [], 0, 0), (112, .bipush 26, 2, [], 0, 0), (114, .imul, 1, [], 0, 0), (115, .iload 5, 2, [], 0, 0), (117, .iadd, 1, [], 0, 0), (118, .iload 6, 2, [], 0, 0), (120, .iastore, 1, [], 0, 0), (121, .iload 4, 2, [], 0, 0), (123, .sipush 129, 3, [], 0, 0), (126, .if_icmp .ge 32, 3, [], 0, 0), (129, .aload_n 0, 1, [], 0, 0), (130, .getfield 40, 3, [], 10, 0), (133, .iload 4, 2, [], 0, 0), (135, .iload 6, 2, [], 0, 0), (137, .iastore, 1, [], 0, 0), (138, .iinc 4 1, 3, [], 0, 0), (141, .goto 17, 3, [], 0, 0), (144, .aload_n 0, 1, [], 0, 0), (145, .getfield 25, 3, [], 5, 0), (148, .iload_n 1, 1, [], 0, 0), (149, .bipush 26, 2, [], 0, 0), (151, .imul, 1, [], 0, 0), (152, .iload 5, 2, [], 0, 0), (154, .iadd, 1, [], 0, 0), (155, .iload 7, 2, [], 0, 0), (157, .iastore, 1, [], 0, 0), (158, .iinc 5 1, 3, [], 0, 0), (161, .goto (-103), 3, [], 0, 0), (164, .iload 4, 2, [], 0, 0), (166, .ireturn, 1, [], 0, 0)])
def d_15 : MD := (⟨"MultiPatternScanL3", "tc", "(II)I"⟩, method_2_code, 2, some .int, 0, 2, 999, 0, 0, [(0, .bipush 97, 2, [], 0, 0), (2, .iload_n 0, 1, [], 0, 0), (3, .iconst 2, 1, [], 0, 0), (4, .iload_n 1, 1, [], 0, 0), (5, .imul, 1, [], 0, 0), (6, .ishr, 1, [], 0, 0), (7, .iconst 3, 1, [], 0, 0), (8, .iand, 1, [], 0, 0), (9, .iadd, 1, [], 0, 0), (10, .ireturn, 1, [], 0, 0)])
def d_16 : MD := (⟨"MultiPatternScan", "feed", "(I)I"⟩, prog_1_method_5_code, 4, some .int, 3, 1, 0, 4, 58, [(0, .aload_n 0, 1, [], 0, 0), (1, .getfield 62, 3, [], 17, 0), (4, .iconst 1, 1, [], 0, 0), (5, .if_icmp .eq 5, 3, [], 0, 0), (8, .iconst (-1), 1, [], 0, 0), (9, .ireturn, 1, [], 0, 0), (10, .aload_n 0, 1, [], 0, 0), (11, .iload_n 1, 1, [], 0, 0), (12, .invokevirtual 84, 3, [], 6, 0), (15, .ifCond .ne 6, 3, [], 0, 0), (18, .bipush (-2), 2, [], 0, 0), (20, .ireturn, 1, [], 0, 0), (21, .aload_n 0, 1, [], 0, 0), (22, .getfield 101, 3, [], 22, 0), (25, .sipush 240, 3, [], 0, 0), (28, .if_icmp .lt 6, 3, [], 0, 0), (31, .bipush (-3), 2, [], 0, 0), (33, .ireturn, 1, [], 0, 0), (34, .aload_n 0, 1, [], 0, 0), (35, .aload_n 0, 1, [], 0, 0), (36, .aload_n 0, 1, [], 0, 0), (37, .getfield 104, 3, [], 23, 0), (40, .iload_n 1, 1, [], 0, 0), (41, .invokevirtual 107, 3, [], 17, 0), (44, .putfield 104, 3, [], 23, 0), (47, .aload_n 0, 1, [], 0, 0), (48, .getfield 37, 3, [], 9, 0), (51, .aload_n 0, 1, [], 0, 0), (52, .getfield 104, 3, [], 23, 0), (55, .iaload, 1, [], 0, 0), (56, .istore_n 2, 1, [], 0, 0), (57, .aload_n 0, 1, [], 0, 0), (58, .getfield 43, 3, [], 11, 0), (61, .aload_n 0, 1, [], 0, 0), (62, .getfield 101, 3, [], 22, 0), (65, .iload_n 1, 1, [], 0, 0), (66, .iastore, 1, [], 0, 0), (67, .aload_n 0, 1, [], 0, 0), (68, .getfield 46, 3, [], 12, 0), (71, .aload_n 0, 1, [], 0, 0), (72, .getfield 101, 3, [], 22, 0), (75, .iload_n 2, 1, [], 0, 0), (76, .iastore, 1, [], 0, 0), (77, .aload_n 0, 1, [], 0, 0), (78, .dup, 1, [], 0, 0), (79, .getfield 101, 3, [], 22, 0), (82, .iconst 1, 1, [], 0, 0), (83, .iadd, 1, [], 0, 0), (84, .putfield 101, 3, [], 22, 0), (87, .aload_n 0, 1, [], 0, 0), (88, .iload_n 2, 1, [], 0, 0), (89, .invokevirtual 111, 3, [], 18, 0), (92, .istore_n 3, 1, [], 0, 0), (93, .aload_n 0, 1, [], 0, 0), (94, .dup, 1, [], 0, 0), (95, .getfield 115, 3, [], 24, 0), (98, .iload_n 3, 1, [], 0, 0), (99, .iadd, 1, [], 0, 0), (100, .putfield 115, 3, [], 24, 0), (103, .aload_n 0, 1, [], 0, 0), (104, .invokevirtual 118, 3, [], 19, 0), (107, .aload_n 0, 1, [], 0, 0), (108, .invokevirtual 121, 3, [], 20, 0), (111, .iload_n 3, 1, [], 0, 0), (112, .ireturn, 1, [], 0, 0)])
def d_17 : MD := (⟨"MultiPatternScan", "nextState", "(II)I"⟩, prog_1_method_26_code, 3, some .int, 2, 2, 0, 1, 13, [(0, .aload_n 0, 1, [], 0, 0), (1, .iload_n 2, 1, [], 0, 0), (2, .invokevirtual 80, 3, [], 4, 0), (5, .ifCond .ne 5, 3, [], 0, 0), (8, .iconst 0, 1, [], 0, 0), (9, .ireturn, 1, [], 0, 0), (10, .iload_n 1, 1, [], 0, 0), (11, .ifCond .lt 10, 3, [], 0, 0), (14, .iload_n 1, 1, [], 0, 0), (15, .sipush 129, 3, [], 0, 0), (18, .if_icmp .lt 5, 3, [], 0, 0), (21, .iconst 0, 1, [], 0, 0), (22, .ireturn, 1, [], 0, 0), (23, .aload_n 0, 1, [], 0, 0), (24, .getfield 25, 3, [], 5, 0), (27, .iload_n 1, 1, [], 0, 0), (28, .bipush 26, 2, [], 0, 0), (30, .imul, 1, [], 0, 0), (31, .iload_n 2, 1, [], 0, 0), (32, .bipush 97, 2, [], 0, 0), (34, .isub, 1, [], 0, 0), (35, .iadd, 1, [], 0, 0), (36, .iaload, 1, [], 0, 0), (37, .ireturn, 1, [], 0, 0)])
def d_18 : MD := (⟨"MultiPatternScan", "popCount", "(I)I"⟩, prog_1_method_34_code, 4, some .int, 2, 1, 0, 0, 0, [(0, .iconst 0, 1, [], 0, 0), (1, .istore_n 2, 1, [], 0, 0), (2, .iconst 0, 1, [], 0, 0), (3, .istore_n 3, 1, [], 0, 0), (4, .iload_n 3, 1, [true], 0, 0), (5, .bipush 16, 2, [], 0, 0), (7, .if_icmp .ge 20, 3, [], 0, 0), (10, .iload_n 1, 1, [], 0, 0), (11, .iload_n 3, 1, [], 0, 0), (12, .ishr, 1, [], 0, 0), (13, .iconst 1, 1, [], 0, 0), (14, .iand, 1, [], 0, 0), (15, .ifCond .eq 6, 3, [], 0, 0), (18, .iinc 2 1, 3, [], 0, 0), (21, .iinc 3 1, 3, [], 0, 0), (24, .goto (-20), 3, [], 0, 0), (27, .iload_n 2, 1, [], 0, 0), (28, .ireturn, 1, [], 0, 0)])
def d_19 : MD := (⟨"MultiPatternScan", "commitReady", "()V"⟩, prog_1_method_29_code, 2, none, 2, 0, 0, 3, 45, [(0, .iconst 0, 1, [], 0, 0), (1, .istore_n 1, 1, [], 0, 0), (2, .iload_n 1, 1, [], 0, 0), (3, .sipush 240, 3, [], 0, 0), (6, .if_icmp .ge 59, 3, [], 0, 0), (9, .aload_n 0, 1, [], 0, 0), (10, .getfield 142, 3, [], 26, 0), (13, .ifCond .lt 30, 3, [], 0, 0), (16, .aload_n 0, 1, [], 0, 0), (17, .getfield 142, 3, [], 26, 0), (20, .aload_n 0, 1, [], 0, 0), (21, .getfield 101, 3, [], 22, 0), (24, .if_icmp .ge 19, 3, [], 0, 0), (27, .aload_n 0, 1, [], 0, 0), (28, .getfield 142, 3, [], 26, 0), (31, .aload_n 0, 1, [], 0, 0), (32, .getfield 74, 3, [], 21, 0), (35, .iadd, 1, [], 0, 0), (36, .aload_n 0, 1, [], 0, 0), (37, .getfield 101, 3, [], 22, 0), (40, .if_icmp .le 4, 3, [], 0, 0), (43, .return_, 1, [], 0, 0), (44, .aload_n 0, 1, [], 0, 0), (45, .getfield 127, 3, [], 25, 0), (48, .sipush 240, 3, [], 0, 0), (51, .if_icmp .lt 4, 3, [], 0, 0), (54, .return_, 1, [], 0, 0), (55, .aload_n 0, 1, [], 0, 0), (56, .invokevirtual 145, 3, [], 23, 0), (59, .iinc 1 1, 3, [], 0, 0), (62, .goto (-60), 3, [], 0, 0), (65, .return_, 1, [], 0, 0)])
def d_20 : MD := (⟨"MultiPatternScan", "rebuildTail", "()V"⟩, prog_1_method_31_code, 4, none, 2, 0, 0, 2, 32, [(0, .aload_n 0, 1, [], 0, 0), (1, .iconst 0, 1, [], 0, 0), (2, .putfield 130, 3, [], 27, 0), (5, .aload_n 0, 1, [], 0, 0), (6, .getfield 142, 3, [], 26, 0), (9, .istore_n 1, 1, [], 0, 0), (10, .iconst 0, 1, [], 0, 0), (11, .istore_n 2, 1, [], 0, 0), (12, .iload_n 2, 1, [false, false, false, true], 0, 0), (13, .bipush 8, 2, [], 0, 0), (15, .if_icmp .ge 96, 3, [], 0, 0), (18, .iload_n 1, 1, [], 0, 0), (19, .ifCond .lt 20, 3, [], 0, 0), (22, .iload_n 1, 1, [], 0, 0), (23, .aload_n 0, 1, [], 0, 0), (24, .getfield 101, 3, [], 22, 0), (27, .if_icmp .ge 12, 3, [], 0, 0), (30, .aload_n 0, 1, [], 0, 0), (31, .getfield 130, 3, [], 27, 0), (34, .bipush 8, 2, [], 0, 0), (36, .if_icmp .lt 4, 3, [], 0, 0), (39, .return_, 1, [], 0, 0), (40, .aload_n 0, 1, [], 0, 0), (41, .iload_n 1, 1, [], 0, 0), (42, .invokevirtual 148, 3, [], 21, 0), (45, .istore_n 3, 1, [], 0, 0), (46, .iload_n 3, 1, [], 0, 0), (47, .ifCond .lt 30, 3, [], 0, 0), (50, .aload_n 0, 1, [], 0, 0), (51, .getfield 52, 3, [], 14, 0), (54, .aload_n 0, 1, [], 0, 0), (55, .getfield 130, 3, [], 27, 0), (58, .aload_n 0, 1, [], 0, 0), (59, .getfield 16, 3, [], 2, 0), (62, .iload_n 3, 1, [], 0, 0), (63, .iaload, 1, [], 0, 0), (64, .iastore, 1, [], 0, 0), (65, .iload_n 1, 1, [], 0, 0), (66, .aload_n 0, 1, [], 0, 0), (67, .getfield 13, 3, [], 1, 0), (70, .iload_n 3, 1, [], 0, 0), (71, .iaload, 1, [], 0, 0), (72, .iadd, 1, [], 0, 0), (73, .istore_n 1, 1, [], 0, 0), (74, .goto 21, 3, [], 0, 0), (77, .aload_n 0, 1, [], 0, 0), (78, .getfield 52, 3, [], 14, 0), (81, .aload_n 0, 1, [], 0, 0), (82, .getfield 130, 3, [], 27, 0), (85, .aload_n 0, 1, [], 0, 0), (86, .getfield 43, 3, [], 11, 0), (89, .iload_n 1, 1, [], 0, 0), (90, .iaload, 1, [], 0, 0), (91, .iastore, 1, [], 0, 0), (92, .iinc 1 1, 3, [], 0, 0), (95, .aload_n 0, 1, [false, false, false, true], 0, 0), (96, .dup, 1, [], 0, 0), (97, .getfield 130, 3, [], 27, 0), (100, .iconst 1, 1, [], 0, 0), (101, .iadd, 1, [], 0, 0), (102, .putfield 130, 3, [], 27, 0), (105, .iinc 2 1, 3, [], 0, 0), (108, .goto (-96), 3, [], 0, 0), (111, .return_, 1, [], 0, 0)])
def d_21 : MD := (⟨"MultiPatternScan", "longestAt", "(I)I"⟩, prog_1_method_28_code, 8, some .int, 2, 1, 0, 1, 13, [(0, .iconst (-1), 1, [], 0, 0), (1, .istore_n 2, 1, [], 0, 0), (2, .iconst 0, 1, [], 0, 0), (3, .istore_n 3, 1, [], 0, 0), (4, .iconst 0, 1, [], 0, 0), (5, .istore 4, 2, [], 0, 0), (7, .iload 4, 2, [false, false, false, false, false, true, true, true], 0, 0), (9, .bipush 8, 2, [], 0, 0), (11, .if_icmp .ge 94, 3, [], 0, 0), (14, .iload_n 1, 1, [], 0, 0), (15, .iload 4, 2, [], 0, 0), (17, .iadd, 1, [], 0, 0), (18, .istore 5, 2, [], 0, 0), (20, .iload 5, 2, [], 0, 0), (22, .ifCond .lt 12, 3, [], 0, 0), (25, .iload 5, 2, [], 0, 0), (27, .aload_n 0, 1, [], 0, 0), (28, .getfield 101, 3, [], 22, 0), (31, .if_icmp .lt 5, 3, [], 0, 0), (34, .iload_n 2, 1, [], 0, 0), (35, .ireturn, 1, [], 0, 0), (36, .aload_n 0, 1, [], 0, 0), (37, .getfield 43, 3, [], 11, 0), (40, .iload 5, 2, [], 0, 0), (42, .iaload, 1, [], 0, 0), (43, .istore 6, 2, [], 0, 0), (45, .aload_n 0, 1, [], 0, 0), (46, .iload 6, 2, [], 0, 0), (48, .invokevirtual 80, 3, [], 4, 0), (51, .ifCond .ne 5, 3, [], 0, 0), (54, .iload_n 2, 1, [], 0, 0), (55, .ireturn, 1, [], 0, 0), (56, .aload_n 0, 1, [], 0, 0), (57, .getfield 22, 3, [], 4, 0), (60, .iload_n 3, 1, [], 0, 0), (61, .bipush 26, 2, [], 0, 0), (63, .imul, 1, [], 0, 0), (64, .iload 6, 2, [], 0, 0), (66, .bipush 97, 2, [], 0, 0), (68, .isub, 1, [], 0, 0), (69, .iadd, 1, [], 0, 0), (70, .iaload, 1, [], 0, 0), (71, .istore 7, 2, [], 0, 0), (73, .iload 7, 2, [], 0, 0), (75, .ifCond .ne 5, 3, [], 0, 0), (78, .iload_n 2, 1, [], 0, 0), (79, .ireturn, 1, [], 0, 0), (80, .iload 7, 2, [], 0, 0), (82, .istore_n 3, 1, [], 0, 0), (83, .aload_n 0, 1, [], 0, 0), (84, .getfield 34, 3, [], 8, 0), (87, .iload_n 3, 1, [], 0, 0), (88, .iaload, 1, [], 0, 0), (89, .ifCond .lt 10, 3, [], 0, 0), (92, .aload_n 0, 1, [], 0, 0), (93, .getfield 34, 3, [], 8, 0), (96, .iload_n 3, 1, [], 0, 0), (97, .iaload, 1, [], 0, 0), (98, .istore_n 2, 1, [], 0, 0), (99, .iinc 4 1, 3, [], 0, 0), (102, .goto (-95), 3, [], 0, 0), (105, .iload_n 2, 1, [], 0, 0), (106, .ireturn, 1, [], 0, 0)])
def d_22 : MD := (⟨"MultiPatternScan", "occurrenceMask", "(I)I"⟩, prog_1_method_13_code, 2, some .int, 3, 1, 0, 0, 0, [(0, .iload_n 1, 1, [], 0, 0), (1, .ifCond .lt 11, 3, [], 0, 0), (4, .iload_n 1, 1, [], 0, 0), (5, .aload_n 0, 1, [], 0, 0), (6, .getfield 101, 3, [], 22, 0), (9, .if_icmp .lt 5, 3, [], 0, 0), (12, .iconst (-1), 1, [], 0, 0), (13, .ireturn, 1, [], 0, 0), (14, .aload_n 0, 1, [], 0, 0), (15, .getfield 46, 3, [], 12, 0), (18, .iload_n 1, 1, [], 0, 0), (19, .iaload, 1, [], 0, 0), (20, .ireturn, 1, [], 0, 0)])
def d_23 : MD := (⟨"MultiPatternScan", "commitOne", "()V"⟩, prog_1_method_30_code, 2, none, 2, 0, 0, 2, 32, [(0, .aload_n 0, 1, [], 0, 0), (1, .aload_n 0, 1, [], 0, 0), (2, .getfield 142, 3, [], 26, 0), (5, .invokevirtual 148, 3, [], 21, 0), (8, .istore_n 1, 1, [], 0, 0), (9, .iload_n 1, 1, [], 0, 0), (10, .ifCond .lt 36, 3, [], 0, 0), (13, .aload_n 0, 1, [], 0, 0), (14, .getfield 49, 3, [], 13, 0), (17, .aload_n 0, 1, [], 0, 0), (18, .getfield 127, 3, [], 25, 0), (21, .aload_n 0, 1, [], 0, 0), (22, .getfield 16, 3, [], 2, 0), (25, .iload_n 1, 1, [], 0, 0), (26, .iaload, 1, [], 0, 0), (27, .iastore, 1, [], 0, 0), (28, .aload_n 0, 1, [], 0, 0), (29, .dup, 1, [], 0, 0), (30, .getfield 142, 3, [], 26, 0), (33, .aload_n 0, 1, [], 0, 0), (34, .getfield 13, 3, [], 1, 0), (37, .iload_n 1, 1, [], 0, 0), (38, .iaload, 1, [], 0, 0), (39, .iadd, 1, [], 0, 0), (40, .putfield 142, 3, [], 26, 0), (43, .goto 31, 3, [], 0, 0), (46, .aload_n 0, 1, [], 0, 0), (47, .getfield 49, 3, [], 13, 0), (50, .aload_n 0, 1, [], 0, 0), (51, .getfield 127, 3, [], 25, 0), (54, .aload_n 0, 1, [], 0, 0), (55, .getfield 43, 3, [], 11, 0), (58, .aload_n 0, 1, [], 0, 0), (59, .getfield 142, 3, [], 26, 0), (62, .iaload, 1, [], 0, 0), (63, .iastore, 1, [], 0, 0), (64, .aload_n 0, 1, [], 0, 0), (65, .dup, 1, [], 0, 0), (66, .getfield 142, 3, [], 26, 0), (69, .iconst 1, 1, [], 0, 0), (70, .iadd, 1, [], 0, 0), (71, .putfield 142, 3, [], 26, 0), (74, .aload_n 0, 1, [false, true], 0, 0), (75, .dup, 1, [], 0, 0), (76, .getfield 127, 3, [], 25, 0), (79, .iconst 1, 1, [], 0, 0), (80, .iadd, 1, [], 0, 0), (81, .putfield 127, 3, [], 25, 0), (84, .return_, 1, [], 0, 0)])
def d_24 : MD := (⟨"MultiPatternScan", "textLength", "()I"⟩, prog_1_method_11_code, 1, some .int, 3, 0, 0, 0, 0, [(0, .aload_n 0, 1, [], 0, 0), (1, .getfield 101, 3, [], 22, 0), (4, .ireturn, 1, [], 0, 0)])
def d_25 : MD := (⟨"MultiPatternScan", "totalOccurrences", "()I"⟩, prog_1_method_14_code, 1, some .int, 3, 0, 0, 0, 0, [(0, .aload_n 0, 1, [], 0, 0), (1, .getfield 115, 3, [], 24, 0), (4, .ireturn, 1, [], 0, 0)])
def d_26 : MD := (⟨"MultiPatternScan", "longestPartial", "()I"⟩, prog_1_method_15_code, 1, some .int, 3, 0, 0, 0, 0, [(0, .aload_n 0, 1, [], 0, 0), (1, .getfield 101, 3, [], 22, 0), (4, .ifCond .eq 20, 3, [], 0, 0), (7, .aload_n 0, 1, [], 0, 0), (8, .getfield 104, 3, [], 23, 0), (11, .ifCond .lt 13, 3, [], 0, 0), (14, .aload_n 0, 1, [], 0, 0), (15, .getfield 104, 3, [], 23, 0), (18, .sipush 129, 3, [], 0, 0), (21, .if_icmp .lt 5, 3, [], 0, 0), (24, .iconst 0, 1, [], 0, 0), (25, .ireturn, 1, [], 0, 0), (26, .aload_n 0, 1, [], 0, 0), (27, .getfield 31, 3, [], 7, 0), (30, .aload_n 0, 1, [], 0, 0), (31, .getfield 104, 3, [], 23, 0), (34, .iaload, 1, [], 0, 0), (35, .ireturn, 1, [], 0, 0)])
def d_27 : MD := (⟨"MultiPatternScan", "outChar", "(I)I"⟩, prog_1_method_17_code, 3, some .int, 3, 1, 0, 0, 0, [(0, .iload_n 1, 1, [], 0, 0), (1, .ifCond .ge 5, 3, [], 0, 0), (4, .iconst (-1), 1, [], 0, 0), (5, .ireturn, 1, [], 0, 0), (6, .iload_n 1, 1, [], 0, 0), (7, .aload_n 0, 1, [], 0, 0), (8, .getfield 127, 3, [], 25, 0), (11, .if_icmp .ge 10, 3, [], 0, 0), (14, .aload_n 0, 1, [], 0, 0), (15, .getfield 49, 3, [], 13, 0), (18, .iload_n 1, 1, [], 0, 0), (19, .iaload, 1, [], 0, 0), (20, .ireturn, 1, [], 0, 0), (21, .iload_n 1, 1, [], 0, 0), (22, .aload_n 0, 1, [], 0, 0), (23, .getfield 127, 3, [], 25, 0), (26, .isub, 1, [], 0, 0), (27, .istore_n 2, 1, [], 0, 0), (28, .iload_n 2, 1, [], 0, 0), (29, .aload_n 0, 1, [], 0, 0), (30, .getfield 130, 3, [], 27, 0), (33, .if_icmp .ge 16, 3, [], 0, 0), (36, .iload_n 2, 1, [], 0, 0), (37, .bipush 8, 2, [], 0, 0), (39, .if_icmp .ge 10, 3, [], 0, 0), (42, .aload_n 0, 1, [], 0, 0), (43, .getfield 52, 3, [], 14, 0), (46, .iload_n 2, 1, [], 0, 0), (47, .iaload, 1, [], 0, 0), (48, .ireturn, 1, [], 0, 0), (49, .iconst (-1), 1, [], 0, 0), (50, .ireturn, 1, [], 0, 0)])
def d_28 : MD := (⟨"MultiPatternScan", "outLength", "()I"⟩, prog_1_method_16_code, 1, some .int, 3, 0, 0, 0, 0, [(0, .aload_n 0, 1, [], 0, 0), (1, .getfield 127, 3, [], 25, 0), (4, .aload_n 0, 1, [], 0, 0), (5, .getfield 130, 3, [], 27, 0), (8, .iadd, 1, [], 0, 0), (9, .ireturn, 1, [], 0, 0)])
def own_P : PD := ([("MultiPatternScan", 28, [("kwChars", "[I", (.array .int), false), ("kwLen", "[I", (.array .int), false), ("kwRepl", "[I", (.array .int), false), ("pend", "[I", (.array .int), false), ("child", "[I", (.array .int), false), ("delta", "[I", (.array .int), false), ("fail", "[I", (.array .int), false), ("depth", "[I", (.array .int), false), ("term", "[I", (.array .int), false), ("outMask", "[I", (.array .int), false), ("queue", "[I", (.array .int), false), ("text", "[I", (.array .int), false), ("masks", "[I", (.array .int), false), ("out", "[I", (.array .int), false), ("tail", "[I", (.array .int), false), ("maxKw", "I", .int, false), ("maxLen", "I", .int, false), ("phaseNow", "I", .int, false), ("count", "I", .int, false), ("pendLen", "I", .int, false), ("nodeCount", "I", .int, false), ("longestKw", "I", .int, false), ("n", "I", .int, false), ("state", "I", .int, false), ("total", "I", .int, false), ("outLen", "I", .int, false), ("commitPos", "I", .int, false), ("tailLen", "I", .int, false)])], [d_0, d_1, d_2, d_3, d_4, d_5, d_6, d_7, d_8, d_9, d_10, d_11, d_12, d_13, d_14, d_15, d_16, d_17, d_18, d_19, d_20, d_21, d_22, d_23, d_24, d_25, d_26, d_27, d_28], 0)
theorem hm_0 : own_P.mth[0]? = some d_0 := rfl
theorem hm_1 : own_P.mth[1]? = some d_1 := rfl
theorem hm_2 : own_P.mth[2]? = some d_2 := rfl
theorem hm_3 : own_P.mth[3]? = some d_3 := rfl
theorem hm_4 : own_P.mth[4]? = some d_4 := rfl
theorem hm_5 : own_P.mth[5]? = some d_5 := rfl
theorem hm_6 : own_P.mth[6]? = some d_6 := rfl
theorem hm_7 : own_P.mth[7]? = some d_7 := rfl
theorem hm_8 : own_P.mth[8]? = some d_8 := rfl
theorem hm_9 : own_P.mth[9]? = some d_9 := rfl
theorem hm_10 : own_P.mth[10]? = some d_10 := rfl
theorem hm_11 : own_P.mth[11]? = some d_11 := rfl
theorem hm_12 : own_P.mth[12]? = some d_12 := rfl
theorem hm_13 : own_P.mth[13]? = some d_13 := rfl
theorem hm_14 : own_P.mth[14]? = some d_14 := rfl
theorem hm_15 : own_P.mth[15]? = some d_15 := rfl
theorem hm_16 : own_P.mth[16]? = some d_16 := rfl
theorem hm_17 : own_P.mth[17]? = some d_17 := rfl
theorem hm_18 : own_P.mth[18]? = some d_18 := rfl
theorem hm_19 : own_P.mth[19]? = some d_19 := rfl
theorem hm_20 : own_P.mth[20]? = some d_20 := rfl
theorem hm_21 : own_P.mth[21]? = some d_21 := rfl
theorem hm_22 : own_P.mth[22]? = some d_22 := rfl
theorem hm_23 : own_P.mth[23]? = some d_23 := rfl
theorem hm_24 : own_P.mth[24]? = some d_24 := rfl
theorem hm_25 : own_P.mth[25]? = some d_25 := rfl
theorem hm_26 : own_P.mth[26]? = some d_26 := rfl
theorem hm_27 : own_P.mth[27]? = some d_27 := rfl
theorem hm_28 : own_P.mth[28]? = some d_28 := rfl
set_option maxRecDepth 100000 in
theorem own_chk : chk own_P = true := by decide +kernel
def own_ix : List Nat := [1, 2, 11, 13, 15, 17, 19, 21, 23, 25, 27, 29, 31, 33, 35, 37, 39, 41, 43, 45, 47, 49, 51, 53, 59, 61, 63, 65, 67, 69, 5, 2, 4, 57, 2, 55, 56, 74, 2, 71, 73, 72, 78, 2, 76, 77, 83, 2, 80, 82, 81, 87, 2, 85, 86, 91, 2, 89, 90, 95, 2, 93, 94, 99, 2, 97, 98, 104, 2, 101, 103, 102, 108, 2, 106, 107, 112, 2, 110, 111, 116, 2, 114, 115, 120, 2, 118, 119, 124, 123, 122, 129, 2, 126, 128, 127, 133, 2, 131, 132, 137, 2, 135, 136, 141, 2, 139, 140, 145, 2, 143, 144, 149, 2, 147, 148, 154, 2, 151, 153, 152, 158, 2, 156, 157, 163, 2, 160, 162, 161, 168, 2, 165, 167, 166, 173, 2, 170, 172, 171, 178, 2, 175, 177, 176, 183, 2, 180, 182, 181, 0, 3, 70, 70, 79, 70, 79, 100, 121, 121, 125, 150, 159, 164, 121, 121, 121, 121, 169, 121, 121, 174, 179, 174, 6, 7, 8, 9, 10, 9, 12, 9, 14, 9, 16, 9, 18, 9, 20, 9, 22, 9, 24, 9, 26, 9, 28, 9, 30, 9, 32, 9, 34, 9, 36, 9, 38, 40, 42, 44, 46, 48, 50, 52, 26, 54, 58, 60, 62, 64, 66, 68, 44, 75, 46, 40, 48, 42, 48, 16, 48, 48, 48, 48, 44, 48, 84, 88, 46, 92, 46, 46, 96, 46, 48, 10, 16, 12, 46, 48, 14, 46, 46, 46, 48, 12, 48, 48, 10, 16, 44, 48, 46, 105, 113, 44, 54, 50, 52, 46, 109, 12, 52, 12, 52, 12, 10, 18, 50, 18, 50, 24, 50, 24, 50, 50, 18, 26, 28, 28, 22, 18, 20, 22, 30, 30, 117, 22, 28, 28, 28, 18, 20, 22, 20, 30, 20, 44, 84, 58, 60, 130, 60, 28, 60, 32, 58, 34, 58, 58, 58, 134, 62, 62, 138, 142, 75, 20, 66, 66, 58, 66, 52, 58, 64, 155, 68, 66, 58, 68, 146, 38, 68, 14, 12, 38, 68, 32, 68, 68, 58, 32, 75, 18, 26, 26, 58, 34, 66, 146, 36, 64, 14, 66, 12, 66, 36, 64, 32, 66, 66, 66, 64, 64, 58, 62, 58, 60, 60, 24, 60, 64, 36, 64, 68, 38, 64, 68]
set_option maxRecDepth 100000 in
theorem own_words : (wordsOf own_P).map some = own_ix.map fun k => tables_1[k]? := rfl
theorem own_in : ∀ d ∈ wordsOf own_P, d ∈ tables_1 := fun d hd => by
  have h1 : some d ∈ (wordsOf own_P).map some := List.mem_map.mpr ⟨d, hd, rfl⟩
  rw [own_words] at h1
  obtain ⟨k, -, hk⟩ := List.mem_map.mp h1
  exact List.mem_of_getElem? hk
abbrev bk0 (s_kwChars : List Int32) (s_kwLen : List Int32) (s_kwRepl : List Int32) (s_pend : List Int32) (s_child : List Int32) (s_delta : List Int32) (s_fail : List Int32) (s_depth : List Int32) (s_term : List Int32) (s_outMask : List Int32) (s_queue : List Int32) (s_text : List Int32) (s_masks : List Int32) (s_out : List Int32) (s_tail : List Int32) (s_maxKw : Int32) (s_maxLen : Int32) (s_phaseNow : Int32) (s_count : Int32) (s_pendLen : Int32) (s_nodeCount : Int32) (s_longestKw : Int32) (s_n : Int32) (s_state : Int32) (s_total : Int32) (s_outLen : Int32) (s_commitPos : Int32) (s_tailLen : Int32) (po : List ACell) : List ACell := .inl (0, [.ref 1, .ref 2, .ref 3, .ref 4, .ref 5, .ref 6, .ref 7, .ref 8, .ref 9, .ref 10, .ref 11, .ref 12, .ref 13, .ref 14, .ref 15, .int s_maxKw, .int s_maxLen, .int s_phaseNow, .int s_count, .int s_pendLen, .int s_nodeCount, .int s_longestKw, .int s_n, .int s_state, .int s_total, .int s_outLen, .int s_commitPos, .int s_tailLen]) :: .inr (.inl (false, s_kwChars)) :: .inr (.inl (false, s_kwLen)) :: .inr (.inl (false, s_kwRepl)) :: .inr (.inl (false, s_pend)) :: .inr (.inl (false, s_child)) :: .inr (.inl (false, s_delta)) :: .inr (.inl (false, s_fail)) :: .inr (.inl (false, s_depth)) :: .inr (.inl (false, s_term)) :: .inr (.inl (false, s_outMask)) :: .inr (.inl (false, s_queue)) :: .inr (.inl (false, s_text)) :: .inr (.inl (false, s_masks)) :: .inr (.inl (false, s_out)) :: .inr (.inl (false, s_tail)) :: po
def f_clearText (o_n : Int32) (o_state : Int32) (o_total : Int32) (o_outLen : Int32) (o_commitPos : Int32) (o_tailLen : Int32) : Option (Int32 × Int32 × Int32 × Int32 × Int32 × Int32) :=
  some ((0 : Int32), (0 : Int32), (0 : Int32), (0 : Int32), (0 : Int32), (0 : Int32))
def f_init_237 (o_kwChars : List Int32) (o_kwLen : List Int32) (o_kwRepl : List Int32) (o_pend : List Int32) (o_child : List Int32) (o_delta : List Int32) (o_fail : List Int32) (o_depth : List Int32) (o_term : List Int32) (o_outMask : List Int32) (o_queue : List Int32) (o_text : List Int32) (o_masks : List Int32) (o_out : List Int32) (o_tail : List Int32) (o_maxKw : Int32) (o_maxLen : Int32) (o_phaseNow : Int32) (o_count : Int32) (o_pendLen : Int32) (o_nodeCount : Int32) (o_longestKw : Int32) (o_n : Int32) (o_state : Int32) (o_total : Int32) (o_outLen : Int32) (o_commitPos : Int32) (o_tailLen : Int32) : Option (List Int32 × List Int32 × List Int32 × List Int32 × List Int32 × List Int32 × List Int32 × List Int32 × List Int32 × List Int32 × List Int32 × List Int32 × List Int32 × List Int32 × List Int32 × Int32 × Int32 × Int32 × Int32 × Int32 × Int32 × Int32 × Int32 × Int32 × Int32 × Int32 × Int32 × Int32) :=
  (f_clearText o_n o_state o_total o_outLen o_commitPos o_tailLen).bind fun (s2, s3, s4, s5, s6, s7) =>
  some (o_kwChars, o_kwLen, o_kwRepl, o_pend, o_child, o_delta, o_fail, o_depth, o_term, o_outMask, o_queue, o_text, o_masks, o_out, o_tail, o_maxKw, o_maxLen, o_phaseNow, o_count, o_pendLen, o_nodeCount, o_longestKw, s2, s3, s4, s5, s6, s7)
def f_init_215 (k237 : List Int32 → List Int32 → List Int32 → List Int32 → List Int32 → List Int32 → List Int32 → List Int32 → List Int32 → List Int32 → List Int32 → List Int32 → List Int32 → List Int32 → List Int32 → Int32 → Int32 → Int32 → Int32 → Int32 → Int32 → Int32 → Int32 → Int32 → Int32 → Int32 → Int32 → Int32 → Option (List Int32 × List Int32 × List Int32 × List Int32 × List Int32 × List Int32 × List Int32 × List Int32 × List Int32 × List Int32 × List Int32 × List Int32 × List Int32 × List Int32 × List Int32 × Int32 × Int32 × Int32 × Int32 × Int32 × Int32 × Int32 × Int32 × Int32 × Int32 × Int32 × Int32 × Int32)) : Nat → List Int32 → List Int32 → List Int32 → List Int32 → List Int32 → List Int32 → List Int32 → List Int32 → List Int32 → List Int32 → List Int32 → List Int32 → List Int32 → List Int32 → List Int32 → Int32 → Int32 → Int32 → Int32 → Int32 → Int32 → Int32 → Int32 → Int32 → Int32 → Int32 → Int32 → Int32 → Int32 → Option (List Int32 × List Int32 × List Int32 × List Int32 × List Int32 × List Int32 × List Int32 × List Int32 × List Int32 × List Int32 × List Int32 × List Int32 × List Int32 × List Int32 × List Int32 × Int32 × Int32 × Int32 × Int32 × Int32 × Int32 × Int32 × Int32 × Int32 × Int32 × Int32 × Int32 × Int32)
  | 0, _, _, _, _, _, _, _, _, _, _, _, _, _, _, _, _, _, _, _, _, _, _, _, _, _, _, _, _, _ => none
  | n + 1, o_kwChars, o_kwLen, o_kwRepl, o_pend, o_child, o_delta, o_fail, o_depth, o_term, o_outMask, o_queue, o_text, o_masks, o_out, o_tail, o_maxKw, o_maxLen, o_phaseNow, o_count, o_pendLen, o_nodeCount, o_longestKw, o_n, o_state, o_total, o_outLen, o_commitPos, o_tailLen, v5 =>
    if v5 < (129 : Int32) then
      (wrA o_term v5 (-1 : Int32)).bind fun A1 =>
      f_init_215 k237 n o_kwChars o_kwLen o_kwRepl o_pend o_child o_delta o_fail o_depth A1 o_outMask o_queue o_text o_masks o_out o_tail o_maxKw o_maxLen o_phaseNow o_count o_pendLen o_nodeCount o_longestKw o_n o_state o_total o_outLen o_commitPos o_tailLen (v5 + (1 : Int32))
    else
      k237 o_kwChars o_kwLen o_kwRepl o_pend o_child o_delta o_fail o_depth o_term o_outMask o_queue o_text o_masks o_out o_tail o_maxKw o_maxLen o_phaseNow o_count o_pendLen o_nodeCount o_longestKw o_n o_state o_total o_outLen o_commitPos o_tailLen
def f_init_176 (o_kwChars : List Int32) (o_kwLen : List Int32) (o_kwRepl : List Int32) (o_pend : List Int32) (o_child : List Int32) (o_delta : List Int32) (o_fail : List Int32) (o_depth : List Int32) (o_term : List Int32) (o_outMask : List Int32) (o_queue : List Int32) (o_text : List Int32) (o_masks : List Int32) (o_out : List Int32) (o_tail : List Int32) (o_maxKw : Int32) (o_maxLen : Int32) (o_phaseNow : Int32) (o_count : Int32) (o_pendLen : Int32) (o_nodeCount : Int32) (o_longestKw : Int32) (o_n : Int32) (o_state : Int32) (o_total : Int32) (o_outLen : Int32) (o_commitPos : Int32) (o_tailLen : Int32) (v3 : Int32) (v4 : Int32) : Option (List Int32 × List Int32 × List Int32 × List Int32 × List Int32 × List Int32 × List Int32 × List Int32 × List Int32 × List Int32 × List Int32 × List Int32 × List Int32 × List Int32 × List Int32 × Int32 × Int32 × Int32 × Int32 × Int32 × Int32 × Int32 × Int32 × Int32 × Int32 × Int32 × Int32 × Int32) :=
  f_init_215 f_init_237 100000 o_kwChars o_kwLen o_kwRepl o_pend o_child o_delta o_fail o_depth o_term o_outMask o_queue o_text o_masks o_out o_tail v3 v4 (0 : Int32) (0 : Int32) (0 : Int32) (1 : Int32) (1 : Int32) o_n o_state o_total o_outLen o_commitPos o_tailLen (0 : Int32)
def f_init_165 (o_kwChars : List Int32) (o_kwLen : List Int32) (o_kwRepl : List Int32) (o_pend : List Int32) (o_child : List Int32) (o_delta : List Int32) (o_fail : List Int32) (o_depth : List Int32) (o_term : List Int32) (o_outMask : List Int32) (o_queue : List Int32) (o_text : List Int32) (o_masks : List Int32) (o_out : List Int32) (o_tail : List Int32) (o_maxKw : Int32) (o_maxLen : Int32) (o_phaseNow : Int32) (o_count : Int32) (o_pendLen : Int32) (o_nodeCount : Int32) (o_longestKw : Int32) (o_n : Int32) (o_state : Int32) (o_total : Int32) (o_outLen : Int32) (o_commitPos : Int32) (o_tailLen : Int32) (v3 : Int32) (v4 : Int32) : Option (List Int32 × List Int32 × List Int32 × List Int32 × List Int32 × List Int32 × List Int32 × List Int32 × List Int32 × List Int32 × List Int32 × List Int32 × List Int32 × List Int32 × List Int32 × Int32 × Int32 × Int32 × Int32 × Int32 × Int32 × Int32 × Int32 × Int32 × Int32 × Int32 × Int32 × Int32) :=
  f_init_176 o_kwChars o_kwLen o_kwRepl o_pend o_child o_delta o_fail o_depth o_term o_outMask o_queue o_text o_masks o_out o_tail o_maxKw o_maxLen o_phaseNow o_count o_pendLen o_nodeCount o_longestKw o_n o_state o_total o_outLen o_commitPos o_tailLen v3 (if (8 : Int32) < v4 then (8 : Int32) else v4)
def f_init_153 (o_kwChars : List Int32) (o_kwLen : List Int32) (o_kwRepl : List Int32) (o_pend : List Int32) (o_child : List Int32) (o_delta : List Int32) (o_fail : List Int32) (o_depth : List Int32) (o_term : List Int32) (o_outMask : List Int32) (o_queue : List Int32) (o_text : List Int32) (o_masks : List Int32) (o_out : List Int32) (o_tail : List Int32) (o_maxKw : Int32) (o_maxLen : Int32) (o_phaseNow : Int32) (o_count : Int32) (o_pendLen : Int32) (o_nodeCount : Int32) (o_longestKw : Int32) (o_n : Int32) (o_state : Int32) (o_total : Int32) (o_outLen : Int32) (o_commitPos : Int32) (o_tailLen : Int32) (v2 : Int32) (v3 : Int32) : Option (List Int32 × List Int32 × List Int32 × List Int32 × List Int32 × List Int32 × List Int32 × List Int32 × List Int32 × List Int32 × List Int32 × List Int32 × List Int32 × List Int32 × List Int32 × Int32 × Int32 × Int32 × Int32 × Int32 × Int32 × Int32 × Int32 × Int32 × Int32 × Int32 × Int32 × Int32) :=
  f_init_165 o_kwChars o_kwLen o_kwRepl o_pend o_child o_delta o_fail o_depth o_term o_outMask o_queue o_text o_masks o_out o_tail o_maxKw o_maxLen o_phaseNow o_count o_pendLen o_nodeCount o_longestKw o_n o_state o_total o_outLen o_commitPos o_tailLen v3 (if v2 < (1 : Int32) then (1 : Int32) else v2)
def f_init_144 (o_kwChars : List Int32) (o_kwLen : List Int32) (o_kwRepl : List Int32) (o_pend : List Int32) (o_child : List Int32) (o_delta : List Int32) (o_fail : List Int32) (o_depth : List Int32) (o_term : List Int32) (o_outMask : List Int32) (o_queue : List Int32) (o_text : List Int32) (o_masks : List Int32) (o_out : List Int32) (o_tail : List Int32) (o_maxKw : Int32) (o_maxLen : Int32) (o_phaseNow : Int32) (o_count : Int32) (o_pendLen : Int32) (o_nodeCount : Int32) (o_longestKw : Int32) (o_n : Int32) (o_state : Int32) (o_total : Int32) (o_outLen : Int32) (o_commitPos : Int32) (o_tailLen : Int32) (v2 : Int32) (v3 : Int32) : Option (List Int32 × List Int32 × List Int32 × List Int32 × List Int32 × List Int32 × List Int32 × List Int32 × List Int32 × List Int32 × List Int32 × List Int32 × List Int32 × List Int32 × List Int32 × Int32 × Int32 × Int32 × Int32 × Int32 × Int32 × Int32 × Int32 × Int32 × Int32 × Int32 × Int32 × Int32) :=
  f_init_153 o_kwChars o_kwLen o_kwRepl o_pend o_child o_delta o_fail o_depth o_term o_outMask o_queue o_text o_masks o_out o_tail o_maxKw o_maxLen o_phaseNow o_count o_pendLen o_nodeCount o_longestKw o_n o_state o_total o_outLen o_commitPos o_tailLen v2 (if (16 : Int32) < v3 then (16 : Int32) else v3)
def f_init (v1 : Int32) (v2 : Int32) : Option (List Int32 × List Int32 × List Int32 × List Int32 × List Int32 × List Int32 × List Int32 × List Int32 × List Int32 × List Int32 × List Int32 × List Int32 × List Int32 × List Int32 × List Int32 × Int32 × Int32 × Int32 × Int32 × Int32 × Int32 × Int32 × Int32 × Int32 × Int32 × Int32 × Int32 × Int32) :=
  f_init_144 (List.replicate 128 0) (List.replicate 16 0) (List.replicate 16 0) (List.replicate 8 0) (List.replicate 3354 0) (List.replicate 3354 0) (List.replicate 129 0) (List.replicate 129 0) (List.replicate 129 0) (List.replicate 129 0) (List.replicate 129 0) (List.replicate 240 0) (List.replicate 240 0) (List.replicate 240 0) (List.replicate 8 0) (0 : Int32) (0 : Int32) (0 : Int32) (0 : Int32) (0 : Int32) (0 : Int32) (0 : Int32) (0 : Int32) (0 : Int32) (0 : Int32) (0 : Int32) (0 : Int32) (0 : Int32) v2 (if v1 < (1 : Int32) then (1 : Int32) else v1)
def f_isLetter (v1 : Int32) : Option (Int32) :=
  some (if v1 < (97 : Int32) then (0 : Int32) else (if (122 : Int32) < v1 then (0 : Int32) else (1 : Int32)))
def f_addChar (o_maxKw : Int32) (o_maxLen : Int32) (o_phaseNow : Int32) (o_count : Int32) (o_pend : List Int32) (o_pendLen : Int32) (v1 : Int32) : Option (Int32 × List Int32 × Int32) :=
  if o_phaseNow = (0 : Int32) then
    (f_isLetter v1).bind fun r8 =>
    if r8 = (0 : Int32) then
      some ((-2 : Int32), o_pend, o_pendLen)
    else
      if o_count < o_maxKw then
        if o_pendLen < o_maxLen then
          if o_pendLen < (8 : Int32) then
            (wrA o_pend o_pendLen v1).bind fun A9 =>
            some ((o_pendLen + (1 : Int32)), A9, (o_pendLen + (1 : Int32)))
          else
            some ((-3 : Int32), o_pend, o_pendLen)
        else
          some ((-3 : Int32), o_pend, o_pendLen)
      else
        some ((-3 : Int32), o_pend, o_pendLen)
  else
    some ((-1 : Int32), o_pend, o_pendLen)
def f_isPrintable (v1 : Int32) : Option (Int32) :=
  some (if v1 < (32 : Int32) then (0 : Int32) else (if (126 : Int32) < v1 then (0 : Int32) else (1 : Int32)))
def f_pendingEquals_22 (o_kwChars : List Int32) (o_kwLen : List Int32) (o_pend : List Int32) (o_pendLen : Int32) : Nat → Int32 → Int32 → Option (Int32)
  | 0, _, _ => none
  | n + 1, v2, v3 =>
    if v3 < o_pendLen then
      if v3 < (8 : Int32) then
        (rdA o_kwChars (v2 + v3)).bind fun x11 =>
        (rdA o_pend v3).bind fun x12 =>
        if x11 = x12 then
          f_pendingEquals_22 o_kwChars o_kwLen o_pend o_pendLen n v2 (v3 + (1 : Int32))
        else
          some (0 : Int32)
      else
        some (1 : Int32)
    else
      some (1 : Int32)
def f_pendingEquals (o_kwChars : List Int32) (o_kwLen : List Int32) (o_pend : List Int32) (o_pendLen : Int32) (v1 : Int32) : Option (Int32) :=
  (rdA o_kwLen v1).bind fun x10 =>
  if x10 = o_pendLen then
    f_pendingEquals_22 o_kwChars o_kwLen o_pend o_pendLen 100000 (v1 * (8 : Int32)) (0 : Int32)
  else
    some (0 : Int32)
def f_pendingIsDuplicate_2 (o_kwChars : List Int32) (o_kwLen : List Int32) (o_pend : List Int32) (o_count : Int32) (o_pendLen : Int32) : Nat → Int32 → Option (Int32)
  | 0, _ => none
  | n + 1, v1 =>
    if v1 < o_count then
      if v1 < (16 : Int32) then
        (f_pendingEquals o_kwChars o_kwLen o_pend o_pendLen v1).bind fun r13 =>
        if r13 = (0 : Int32) then
          f_pendingIsDuplicate_2 o_kwChars o_kwLen o_pend o_count o_pendLen n (v1 + (1 : Int32))
        else
          some (1 : Int32)
      else
        some (0 : Int32)
    else
      some (0 : Int32)
def f_pendingIsDuplicate (o_kwChars : List Int32) (o_kwLen : List Int32) (o_pend : List Int32) (o_count : Int32) (o_pendLen : Int32) : Option (Int32) :=
  f_pendingIsDuplicate_2 o_kwChars o_kwLen o_pend o_count o_pendLen 100000 (0 : Int32)
def f_storePending_44 (o_pend : List Int32) (o_kwChars : List Int32) (o_kwLen : List Int32) (o_kwRepl : List Int32) (o_count : Int32) (o_pendLen : Int32) (v1 : Int32) : Option (List Int32 × List Int32 × List Int32 × Int32 × Int32) :=
  (wrA o_kwLen o_count o_pendLen).bind fun A16 =>
  (wrA o_kwRepl o_count v1).bind fun A17 =>
  some (o_kwChars, A16, A17, (o_count + (1 : Int32)), (0 : Int32))
def f_storePending_10 (k44 : List Int32 → List Int32 → List Int32 → Int32 → Int32 → Int32 → Option (List Int32 × List Int32 × List Int32 × Int32 × Int32)) (o_pend : List Int32) : Nat → List Int32 → List Int32 → List Int32 → Int32 → Int32 → Int32 → Int32 → Int32 → Option (List Int32 × List Int32 × List Int32 × Int32 × Int32)
  | 0, _, _, _, _, _, _, _, _ => none
  | n + 1, o_kwChars, o_kwLen, o_kwRepl, o_count, o_pendLen, v1, v2, v3 =>
    if v3 < o_pendLen then
      if v3 < (8 : Int32) then
        (rdA o_pend v3).bind fun x14 =>
        (wrA o_kwChars (v2 + v3) x14).bind fun A15 =>
        f_storePending_10 k44 o_pend n A15 o_kwLen o_kwRepl o_count o_pendLen v1 v2 (v3 + (1 : Int32))
      else
        k44 o_kwChars o_kwLen o_kwRepl o_count o_pendLen v1
    else
      k44 o_kwChars o_kwLen o_kwRepl o_count o_pendLen v1
def f_storePending (o_pend : List Int32) (o_kwChars : List Int32) (o_kwLen : List Int32) (o_kwRepl : List Int32) (o_count : Int32) (o_pendLen : Int32) (v1 : Int32) : Option (List Int32 × List Int32 × List Int32 × Int32 × Int32) :=
  f_storePending_10 (f_storePending_44 o_pend) o_pend 100000 o_kwChars o_kwLen o_kwRepl o_count o_pendLen v1 (o_count * (8 : Int32)) (0 : Int32)
def f_endKeyword (o_pend : List Int32) (o_phaseNow : Int32) (o_kwChars : List Int32) (o_kwLen : List Int32) (o_kwRepl : List Int32) (o_count : Int32) (o_pendLen : Int32) (v1 : Int32) : Option (Int32 × List Int32 × List Int32 × List Int32 × Int32 × Int32) :=
  if o_phaseNow = (0 : Int32) then
    if o_pendLen = (0 : Int32) then
      some ((-4 : Int32), o_kwChars, o_kwLen, o_kwRepl, o_count, o_pendLen)
    else
      (f_isPrintable v1).bind fun r18 =>
      if r18 = (0 : Int32) then
        some ((-6 : Int32), o_kwChars, o_kwLen, o_kwRepl, o_count, o_pendLen)
      else
        (f_pendingIsDuplicate o_kwChars o_kwLen o_pend o_count o_pendLen).bind fun r19 =>
        if r19 = (0 : Int32) then
          if o_count < (16 : Int32) then
            (f_storePending o_pend o_kwChars o_kwLen o_kwRepl o_count o_pendLen v1).bind fun (s20, s21, s22, s23, s24) =>
            some ((s23 - (1 : Int32)), s20, s21, s22, s23, s24)
          else
            some ((-3 : Int32), o_kwChars, o_kwLen, o_kwRepl, o_count, o_pendLen)
        else
          some ((-5 : Int32), o_kwChars, o_kwLen, o_kwRepl, o_count, o_pendLen)
  else
    some ((-1 : Int32), o_kwChars, o_kwLen, o_kwRepl, o_count, o_pendLen)
def f_insertKeyword_137 (o_kwChars : List Int32) (o_kwLen : List Int32) (o_child : List Int32) (o_depth : List Int32) (o_term : List Int32) (o_outMask : List Int32) (o_nodeCount : Int32) (v1 : Int32) (v2 : Int32) : Option (List Int32 × List Int32 × List Int32 × List Int32 × Int32) :=
  (wrA o_term v2 v1).bind fun A32 =>
  (rdA o_outMask v2).bind fun x33 =>
  (wrA o_outMask v2 (x33 ||| ((1 : Int32) <<< (v1 &&& 31)))).bind fun A34 =>
  some (o_child, o_depth, A32, A34, o_nodeCount)
def f_insertKeyword_123 (kb : List Int32 → List Int32 → List Int32 → List Int32 → Int32 → Int32 → Int32 → Int32 → Int32 → Option (List Int32 × List Int32 × List Int32 × List Int32 × Int32)) (k137 : List Int32 → List Int32 → List Int32 → List Int32 → Int32 → Int32 → Int32 → Option (List Int32 × List Int32 × List Int32 × List Int32 × Int32)) (o_kwChars : List Int32) (o_kwLen : List Int32) (o_child : List Int32) (o_depth : List Int32) (o_term : List Int32) (o_outMask : List Int32) (o_nodeCount : Int32) (v1 : Int32) (v3 : Int32) (v4 : Int32) (v6 : Int32) : Option (List Int32 × List Int32 × List Int32 × List Int32 × Int32) :=
  (rdA o_child v6).bind fun x31 =>
  kb o_child o_depth o_term o_outMask o_nodeCount v1 x31 v3 (v4 + (1 : Int32))
def f_insertKeyword_10 (k137 : List Int32 → List Int32 → List Int32 → List Int32 → Int32 → Int32 → Int32 → Option (List Int32 × List Int32 × List Int32 × List Int32 × Int32)) (o_kwChars : List Int32) (o_kwLen : List Int32) : Nat → List Int32 → List Int32 → List Int32 → List Int32 → Int32 → Int32 → Int32 → Int32 → Int32 → Option (List Int32 × List Int32 × List Int32 × List Int32 × Int32)
  | 0, _, _, _, _, _, _, _, _, _ => none
  | n + 1, o_child, o_depth, o_term, o_outMask, o_nodeCount, v1, v2, v3, v4 =>
    (rdA o_kwLen v1).bind fun x25 =>
    if v4 < x25 then
      if v4 < (8 : Int32) then
        (rdA o_kwChars (v3 + v4)).bind fun x26 =>
        if (x26 - (97 : Int32)) < (0 : Int32) then
          some (o_child, o_depth, o_term, o_outMask, o_nodeCount)
        else
          if (x26 - (97 : Int32)) < (26 : Int32) then
            (rdA o_child ((v2 * (26 : Int32)) + (x26 - (97 : Int32)))).bind fun x27 =>
            if x27 = (0 : Int32) then
              if o_nodeCount < (129 : Int32) then
                (wrA o_child ((v2 * (26 : Int32)) + (x26 - (97 : Int32))) o_nodeCount).bind fun A28 =>
                (rdA o_depth v2).bind fun x29 =>
                (wrA o_depth o_nodeCount (x29 + (1 : Int32))).bind fun A30 =>
                f_insertKeyword_123 (f_insertKeyword_10 k137 o_kwChars o_kwLen n) k137 o_kwChars o_kwLen A28 A30 o_term o_outMask (o_nodeCount + (1 : Int32)) v1 v3 v4 ((v2 * (26 : Int32)) + (x26 - (97 : Int32)))
              else
                some (o_child, o_depth, o_term, o_outMask, o_nodeCount)
            else
              f_insertKeyword_123 (f_insertKeyword_10 k137 o_kwChars o_kwLen n) k137 o_kwChars o_kwLen o_child o_depth o_term o_outMask o_nodeCount v1 v3 v4 ((v2 * (26 : Int32)) + (x26 - (97 : Int32)))
          else
            some (o_child, o_depth, o_term, o_outMask, o_nodeCount)
      else
        k137 o_child o_depth o_term o_outMask o_nodeCount v1 v2
    else
      k137 o_child o_depth o_term o_outMask o_nodeCount v1 v2
def f_insertKeyword (o_kwChars : List Int32) (o_kwLen : List Int32) (o_child : List Int32) (o_depth : List Int32) (o_term : List Int32) (o_outMask : List Int32) (o_nodeCount : Int32) (v1 : Int32) : Option (List Int32 × List Int32 × List Int32 × List Int32 × Int32) :=
  f_insertKeyword_10 (f_insertKeyword_137 o_kwChars o_kwLen) o_kwChars o_kwLen 100000 o_child o_depth o_term o_outMask o_nodeCount v1 (0 : Int32) (v1 * (8 : Int32)) (0 : Int32)
def f_buildTrie_12 (o_kwChars : List Int32) (o_kwLen : List Int32) (o_count : Int32) : Nat → List Int32 → List Int32 → List Int32 → List Int32 → Int32 → Int32 → Int32 → Option (List Int32 × List Int32 × List Int32 × List Int32 × Int32 × Int32)
  | 0, _, _, _, _, _, _, _ => none
  | n + 1, o_child, o_depth, o_term, o_outMask, o_nodeCount, o_longestKw, v1 =>
    if v1 < o_count then
      if v1 < (16 : Int32) then
        (f_insertKeyword o_kwChars o_kwLen o_child o_depth o_term o_outMask o_nodeCount v1).bind fun (s35, s36, s37, s38, s39) =>
        (rdA o_kwLen v1).bind fun x40 =>
        if o_longestKw < x40 then
          (rdA o_kwLen v1).bind fun x41 =>
          f_buildTrie_12 o_kwChars o_kwLen o_count n s35 s36 s37 s38 s39 x41 (v1 + (1 : Int32))
        else
          f_buildTrie_12 o_kwChars o_kwLen o_count n s35 s36 s37 s38 s39 o_longestKw (v1 + (1 : Int32))
      else
        some (o_child, o_depth, o_term, o_outMask, o_nodeCount, o_longestKw)
    else
      some (o_child, o_depth, o_term, o_outMask, o_nodeCount, o_longestKw)
def f_buildTrie (o_kwChars : List Int32) (o_kwLen : List Int32) (o_count : Int32) (o_child : List Int32) (o_depth : List Int32) (o_term : List Int32) (o_outMask : List Int32) (o_nodeCount : Int32) (o_longestKw : Int32) : Option (List Int32 × List Int32 × List Int32 × List Int32 × Int32 × Int32) :=
  f_buildTrie_12 o_kwChars o_kwLen o_count 100000 o_child o_depth o_term o_outMask (1 : Int32) (1 : Int32) (0 : Int32)
def f_expandNode_58 (o_child : List Int32) : Nat → List Int32 → List Int32 → List Int32 → List Int32 → Int32 → Int32 → Int32 → Int32 → Option (Int32 × List Int32 × List Int32 × List Int32 × List Int32)
  | 0, _, _, _, _, _, _, _, _ => none
  | n + 1, o_delta, o_fail, o_outMask, o_queue, v1, v3, v4, v5 =>
    if v5 < (26 : Int32) then
      (rdA o_child ((v1 * (26 : Int32)) + v5)).bind fun x46 =>
      (rdA o_delta ((v3 * (26 : Int32)) + v5)).bind fun x47 =>
      if x46 = (0 : Int32) then
        (wrA o_delta ((v1 * (26 : Int32)) + v5) x47).bind fun A48 =>
        f_expandNode_58 o_child n A48 o_fail o_outMask o_queue v1 v3 v4 (v5 + (1 : Int32))
      else
        (wrA o_fail x46 x47).bind fun A49 =>
        (wrA o_delta ((v1 * (26 : Int32)) + v5) x46).bind fun A50 =>
        if v4 < (129 : Int32) then
          (wrA o_queue v4 x46).bind fun A51 =>
          f_expandNode_58 o_child n A50 A49 o_outMask A51 v1 v3 (v4 + (1 : Int32)) (v5 + (1 : Int32))
        else
          f_expandNode_58 o_child n A50 A49 o_outMask o_queue v1 v3 v4 (v5 + (1 : Int32))
    else
      some (v4, o_delta, o_fail, o_outMask, o_queue)
def f_expandNode_33 (o_child : List Int32) (o_delta : List Int32) (o_fail : List Int32) (o_outMask : List Int32) (o_queue : List Int32) (v1 : Int32) (v2 : Int32) (v3 : Int32) : Option (Int32 × List Int32 × List Int32 × List Int32 × List Int32) :=
  (rdA o_outMask v1).bind fun x43 =>
  (rdA o_outMask v3).bind fun x44 =>
  (wrA o_outMask v1 (x43 ||| x44)).bind fun A45 =>
  f_expandNode_58 o_child 100000 o_delta o_fail A45 o_queue v1 v3 v2 (0 : Int32)
def f_expandNode (o_child : List Int32) (o_delta : List Int32) (o_fail : List Int32) (o_outMask : List Int32) (o_queue : List Int32) (v1 : Int32) (v2 : Int32) : Option (Int32 × List Int32 × List Int32 × List Int32 × List Int32) :=
  if (0 : Int32) < v1 then
    if v1 < (129 : Int32) then
      (rdA o_fail v1).bind fun x42 =>
      f_expandNode_33 o_child o_delta o_fail o_outMask o_queue v1 v2 (if x42 < (0 : Int32) then (0 : Int32) else (if x42 < (129 : Int32) then x42 else (0 : Int32)))
    else
      some (v2, o_delta, o_fail, o_outMask, o_queue)
  else
    some (v2, o_delta, o_fail, o_outMask, o_queue)
def f_computeLinks_74 (o_child : List Int32) : Nat → List Int32 → List Int32 → List Int32 → List Int32 → Int32 → Int32 → Int32 → Option (List Int32 × List Int32 × List Int32 × List Int32)
  | 0, _, _, _, _, _, _, _ => none
  | n + 1, o_delta, o_fail, o_outMask, o_queue, v1, v2, v3 =>
    if v3 < (129 : Int32) then
      if v1 < v2 then
        (rdA o_queue v1).bind fun x57 =>
        (f_expandNode o_child o_delta o_fail o_outMask o_queue x57 v2).bind fun (r58, s59, s60, s61, s62) =>
        f_computeLinks_74 o_child n s59 s60 s61 s62 (v1 + (1 : Int32)) r58 (v3 + (1 : Int32))
      else
        some (o_delta, o_fail, o_outMask, o_queue)
    else
      some (o_delta, o_fail, o_outMask, o_queue)
def f_computeLinks_13 (k74 : List Int32 → List Int32 → List Int32 → List Int32 → Int32 → Int32 → Int32 → Option (List Int32 × List Int32 × List Int32 × List Int32)) (o_child : List Int32) : Nat → List Int32 → List Int32 → List Int32 → List Int32 → Int32 → Int32 → Int32 → Option (List Int32 × List Int32 × List Int32 × List Int32)
  | 0, _, _, _, _, _, _, _ => none
  | n + 1, o_delta, o_fail, o_outMask, o_queue, v1, v2, v3 =>
    if v3 < (26 : Int32) then
      (rdA o_child v3).bind fun x53 =>
      (wrA o_delta v3 x53).bind fun A54 =>
      if x53 = (0 : Int32) then
        f_computeLinks_13 k74 o_child n A54 o_fail o_outMask o_queue v1 v2 (v3 + (1 : Int32))
      else
        if v2 < (129 : Int32) then
          (wrA o_fail x53 (0 : Int32)).bind fun A55 =>
          (wrA o_queue v2 x53).bind fun A56 =>
          f_computeLinks_13 k74 o_child n A54 A55 o_outMask A56 v1 (v2 + (1 : Int32)) (v3 + (1 : Int32))
        else
          f_computeLinks_13 k74 o_child n A54 o_fail o_outMask o_queue v1 v2 (v3 + (1 : Int32))
    else
      k74 o_delta o_fail o_outMask o_queue v1 v2 (0 : Int32)
def f_computeLinks (o_child : List Int32) (o_delta : List Int32) (o_fail : List Int32) (o_outMask : List Int32) (o_queue : List Int32) : Option (List Int32 × List Int32 × List Int32 × List Int32) :=
  (wrA o_fail (0 : Int32) (0 : Int32)).bind fun A52 =>
  f_computeLinks_13 (f_computeLinks_74 o_child 100000) o_child 100000 o_delta A52 o_outMask o_queue (0 : Int32) (0 : Int32) (0 : Int32)
def f_build (o_kwChars : List Int32) (o_kwLen : List Int32) (o_count : Int32) (o_pendLen : Int32) (o_child : List Int32) (o_delta : List Int32) (o_fail : List Int32) (o_depth : List Int32) (o_term : List Int32) (o_outMask : List Int32) (o_queue : List Int32) (o_phaseNow : Int32) (o_nodeCount : Int32) (o_longestKw : Int32) (o_n : Int32) (o_state : Int32) (o_total : Int32) (o_outLen : Int32) (o_commitPos : Int32) (o_tailLen : Int32) : Option (Int32 × List Int32 × List Int32 × List Int32 × List Int32 × List Int32 × List Int32 × List Int32 × Int32 × Int32 × Int32 × Int32 × Int32 × Int32 × Int32 × Int32 × Int32) :=
  if o_phaseNow = (0 : Int32) then
    if o_pendLen = (0 : Int32) then
      if o_count = (0 : Int32) then
        some ((-4 : Int32), o_child, o_delta, o_fail, o_depth, o_term, o_outMask, o_queue, o_phaseNow, o_nodeCount, o_longestKw, o_n, o_state, o_total, o_outLen, o_commitPos, o_tailLen)
      else
        (f_buildTrie o_kwChars o_kwLen o_count o_child o_depth o_term o_outMask o_nodeCount o_longestKw).bind fun (s63, s64, s65, s66, s67, s68) =>
        (f_computeLinks s63 o_delta o_fail s66 o_queue).bind fun (s69, s70, s71, s72) =>
        (f_clearText o_n o_state o_total o_outLen o_commitPos o_tailLen).bind fun (s73, s74, s75, s76, s77, s78) =>
        some ((0 : Int32), s63, s69, s70, s64, s65, s71, s72, (1 : Int32), s67, s68, s73, s74, s75, s76, s77, s78)
    else
      some ((-7 : Int32), o_child, o_delta, o_fail, o_depth, o_term, o_outMask, o_queue, o_phaseNow, o_nodeCount, o_longestKw, o_n, o_state, o_total, o_outLen, o_commitPos, o_tailLen)
  else
    some ((-1 : Int32), o_child, o_delta, o_fail, o_depth, o_term, o_outMask, o_queue, o_phaseNow, o_nodeCount, o_longestKw, o_n, o_state, o_total, o_outLen, o_commitPos, o_tailLen)
def f_L_tc (v0 : Int32) (v1 : Int32) : Option (Int32) :=
  some ((97 : Int32) + ((v0 >>> (((2 : Int32) * v1) &&& 31)) &&& (3 : Int32)))
def f_nextState (o_delta : List Int32) (v1 : Int32) (v2 : Int32) : Option (Int32) :=
  (f_isLetter v2).bind fun r79 =>
  if r79 = (0 : Int32) then
    some (0 : Int32)
  else
    if v1 < (0 : Int32) then
      some (0 : Int32)
    else
      if v1 < (129 : Int32) then
        (rdA o_delta ((v1 * (26 : Int32)) + (v2 - (97 : Int32)))).bind fun x80 =>
        some x80
      else
        some (0 : Int32)
def f_popCount_4 : Nat → Int32 → Int32 → Int32 → Option (Int32)
  | 0, _, _, _ => none
  | n + 1, v1, v2, v3 =>
    if v3 < (16 : Int32) then
      f_popCount_4 n v1 (if ((v1 >>> (v3 &&& 31)) &&& (1 : Int32)) = (0 : Int32) then v2 else (v2 + (1 : Int32))) (v3 + (1 : Int32))
    else
      some v2
def f_popCount (v1 : Int32) : Option (Int32) :=
  f_popCount_4 100000 v1 (0 : Int32) (0 : Int32)
def f_longestAt_7 (o_child : List Int32) (o_term : List Int32) (o_text : List Int32) (o_n : Int32) : Nat → Int32 → Int32 → Int32 → Int32 → Option (Int32)
  | 0, _, _, _, _ => none
  | n + 1, v1, v2, v3, v4 =>
    if v4 < (8 : Int32) then
      if (v1 + v4) < (0 : Int32) then
        some v2
      else
        if (v1 + v4) < o_n then
          (rdA o_text (v1 + v4)).bind fun x81 =>
          (f_isLetter x81).bind fun r82 =>
          if r82 = (0 : Int32) then
            some v2
          else
            (rdA o_child ((v3 * (26 : Int32)) + (x81 - (97 : Int32)))).bind fun x83 =>
            if x83 = (0 : Int32) then
              some v2
            else
              (rdA o_term x83).bind fun x84 =>
              if x84 < (0 : Int32) then
                f_longestAt_7 o_child o_term o_text o_n n v1 v2 x83 (v4 + (1 : Int32))
              else
                (rdA o_term x83).bind fun x85 =>
                f_longestAt_7 o_child o_term o_text o_n n v1 x85 x83 (v4 + (1 : Int32))
        else
          some v2
    else
      some v2
def f_longestAt (o_child : List Int32) (o_term : List Int32) (o_text : List Int32) (o_n : Int32) (v1 : Int32) : Option (Int32) :=
  f_longestAt_7 o_child o_term o_text o_n 100000 v1 (-1 : Int32) (0 : Int32) (0 : Int32)
def f_commitOne_74 (o_kwLen : List Int32) (o_kwRepl : List Int32) (o_child : List Int32) (o_term : List Int32) (o_text : List Int32) (o_n : Int32) (o_out : List Int32) (o_outLen : Int32) (o_commitPos : Int32) : Option (List Int32 × Int32 × Int32) :=
  some (o_out, (o_outLen + (1 : Int32)), o_commitPos)
def f_commitOne (o_kwLen : List Int32) (o_kwRepl : List Int32) (o_child : List Int32) (o_term : List Int32) (o_text : List Int32) (o_n : Int32) (o_out : List Int32) (o_outLen : Int32) (o_commitPos : Int32) : Option (List Int32 × Int32 × Int32) :=
  (f_longestAt o_child o_term o_text o_n o_commitPos).bind fun r86 =>
  if r86 < (0 : Int32) then
    (rdA o_text o_commitPos).bind fun x87 =>
    (wrA o_out o_outLen x87).bind fun A88 =>
    f_commitOne_74 o_kwLen o_kwRepl o_child o_term o_text o_n A88 o_outLen (o_commitPos + (1 : Int32))
  else
    (rdA o_kwRepl r86).bind fun x89 =>
    (wrA o_out o_outLen x89).bind fun A90 =>
    (rdA o_kwLen r86).bind fun x91 =>
    f_commitOne_74 o_kwLen o_kwRepl o_child o_term o_text o_n A90 o_outLen (o_commitPos + x91)
def f_commitReady_2 (o_kwLen : List Int32) (o_kwRepl : List Int32) (o_child : List Int32) (o_term : List Int32) (o_text : List Int32) (o_longestKw : Int32) (o_n : Int32) : Nat → List Int32 → Int32 → Int32 → Int32 → Option (List Int32 × Int32 × Int32)
  | 0, _, _, _, _ => none
  | n + 1, o_out, o_outLen, o_commitPos, v1 =>
    if v1 < (240 : Int32) then
      if o_commitPos < (0 : Int32) then
        some (o_out, o_outLen, o_commitPos)
      else
        if o_commitPos < o_n then
          if o_n < (o_commitPos + o_longestKw) then
            some (o_out, o_outLen, o_commitPos)
          else
            if o_outLen < (240 : Int32) then
              (f_commitOne o_kwLen o_kwRepl o_child o_term o_text o_n o_out o_outLen o_commitPos).bind fun (s92, s93, s94) =>
              f_commitReady_2 o_kwLen o_kwRepl o_child o_term o_text o_longestKw o_n n s92 s93 s94 (v1 + (1 : Int32))
            else
              some (o_out, o_outLen, o_commitPos)
        else
          some (o_out, o_outLen, o_commitPos)
    else
      some (o_out, o_outLen, o_commitPos)
def f_commitReady (o_kwLen : List Int32) (o_kwRepl : List Int32) (o_child : List Int32) (o_term : List Int32) (o_text : List Int32) (o_longestKw : Int32) (o_n : Int32) (o_out : List Int32) (o_outLen : Int32) (o_commitPos : Int32) : Option (List Int32 × Int32 × Int32) :=
  f_commitReady_2 o_kwLen o_kwRepl o_child o_term o_text o_longestKw o_n 100000 o_out o_outLen o_commitPos (0 : Int32)
def f_rebuildTail_95 (kb : List Int32 → Int32 → Int32 → Int32 → Option (List Int32 × Int32)) (o_kwLen : List Int32) (o_kwRepl : List Int32) (o_child : List Int32) (o_term : List Int32) (o_text : List Int32) (o_n : Int32) (o_commitPos : Int32) (o_tail : List Int32) (o_tailLen : Int32) (v1 : Int32) (v2 : Int32) : Option (List Int32 × Int32) :=
  kb o_tail (o_tailLen + (1 : Int32)) v1 (v2 + (1 : Int32))
def f_rebuildTail_12 (o_kwLen : List Int32) (o_kwRepl : List Int32) (o_child : List Int32) (o_term : List Int32) (o_text : List Int32) (o_n : Int32) (o_commitPos : Int32) : Nat → List Int32 → Int32 → Int32 → Int32 → Option (List Int32 × Int32)
  | 0, _, _, _, _ => none
  | n + 1, o_tail, o_tailLen, v1, v2 =>
    if v2 < (8 : Int32) then
      if v1 < (0 : Int32) then
        some (o_tail, o_tailLen)
      else
        if v1 < o_n then
          if o_tailLen < (8 : Int32) then
            (f_longestAt o_child o_term o_text o_n v1).bind fun r95 =>
            if r95 < (0 : Int32) then
              (rdA o_text v1).bind fun x96 =>
              (wrA o_tail o_tailLen x96).bind fun A97 =>
              f_rebuildTail_95 (f_rebuildTail_12 o_kwLen o_kwRepl o_child o_term o_text o_n o_commitPos n) o_kwLen o_kwRepl o_child o_term o_text o_n o_commitPos A97 o_tailLen (v1 + (1 : Int32)) v2
            else
              (rdA o_kwRepl r95).bind fun x98 =>
              (wrA o_tail o_tailLen x98).bind fun A99 =>
              (rdA o_kwLen r95).bind fun x100 =>
              f_rebuildTail_95 (f_rebuildTail_12 o_kwLen o_kwRepl o_child o_term o_text o_n o_commitPos n) o_kwLen o_kwRepl o_child o_term o_text o_n o_commitPos A99 o_tailLen (v1 + x100) v2
          else
            some (o_tail, o_tailLen)
        else
          some (o_tail, o_tailLen)
    else
      some (o_tail, o_tailLen)
def f_rebuildTail (o_kwLen : List Int32) (o_kwRepl : List Int32) (o_child : List Int32) (o_term : List Int32) (o_text : List Int32) (o_n : Int32) (o_commitPos : Int32) (o_tail : List Int32) (o_tailLen : Int32) : Option (List Int32 × Int32) :=
  f_rebuildTail_12 o_kwLen o_kwRepl o_child o_term o_text o_n o_commitPos 100000 o_tail (0 : Int32) o_commitPos (0 : Int32)
def f_feed (o_kwLen : List Int32) (o_kwRepl : List Int32) (o_child : List Int32) (o_delta : List Int32) (o_term : List Int32) (o_outMask : List Int32) (o_phaseNow : Int32) (o_longestKw : Int32) (o_text : List Int32) (o_masks : List Int32) (o_out : List Int32) (o_tail : List Int32) (o_n : Int32) (o_state : Int32) (o_total : Int32) (o_outLen : Int32) (o_commitPos : Int32) (o_tailLen : Int32) (v1 : Int32) : Option (Int32 × List Int32 × List Int32 × List Int32 × List Int32 × Int32 × Int32 × Int32 × Int32 × Int32 × Int32) :=
  if o_phaseNow = (1 : Int32) then
    (f_isPrintable v1).bind fun r101 =>
    if r101 = (0 : Int32) then
      some ((-2 : Int32), o_text, o_masks, o_out, o_tail, o_n, o_state, o_total, o_outLen, o_commitPos, o_tailLen)
    else
      if o_n < (240 : Int32) then
        (f_nextState o_delta o_state v1).bind fun r102 =>
        (rdA o_outMask r102).bind fun x103 =>
        (wrA o_text o_n v1).bind fun A104 =>
        (wrA o_masks o_n x103).bind fun A105 =>
        (f_popCount x103).bind fun r106 =>
        (f_commitReady o_kwLen o_kwRepl o_child o_term A104 o_longestKw (o_n + (1 : Int32)) o_out o_outLen o_commitPos).bind fun (s107, s108, s109) =>
        (f_rebuildTail o_kwLen o_kwRepl o_child o_term A104 (o_n + (1 : Int32)) s109 o_tail o_tailLen).bind fun (s110, s111) =>
        some (r106, A104, A105, s107, s110, (o_n + (1 : Int32)), r102, (o_total + r106), s108, s109, s111)
      else
        some ((-3 : Int32), o_text, o_masks, o_out, o_tail, o_n, o_state, o_total, o_outLen, o_commitPos, o_tailLen)
  else
    some ((-1 : Int32), o_text, o_masks, o_out, o_tail, o_n, o_state, o_total, o_outLen, o_commitPos, o_tailLen)
def f_occurrenceMask (o_masks : List Int32) (o_n : Int32) (v1 : Int32) : Option (Int32) :=
  if v1 < (0 : Int32) then
    some (-1 : Int32)
  else
    if v1 < o_n then
      (rdA o_masks v1).bind fun x112 =>
      some x112
    else
      some (-1 : Int32)
def f_textLength (o_n : Int32) : Option (Int32) :=
  some o_n
def f_totalOccurrences (o_total : Int32) : Option (Int32) :=
  some o_total
def f_longestPartial (o_depth : List Int32) (o_n : Int32) (o_state : Int32) : Option (Int32) :=
  if o_n = (0 : Int32) then
    some (0 : Int32)
  else
    if o_state < (0 : Int32) then
      some (0 : Int32)
    else
      if o_state < (129 : Int32) then
        (rdA o_depth o_state).bind fun x113 =>
        some x113
      else
        some (0 : Int32)
def f_outChar (o_out : List Int32) (o_tail : List Int32) (o_outLen : Int32) (o_tailLen : Int32) (v1 : Int32) : Option (Int32) :=
  if v1 < (0 : Int32) then
    some (-1 : Int32)
  else
    if v1 < o_outLen then
      (rdA o_out v1).bind fun x115 =>
      some x115
    else
      if (v1 - o_outLen) < o_tailLen then
        if (v1 - o_outLen) < (8 : Int32) then
          (rdA o_tail (v1 - o_outLen)).bind fun x114 =>
          some x114
        else
          some (-1 : Int32)
      else
        some (-1 : Int32)
def f_outLength (o_outLen : Int32) (o_tailLen : Int32) : Option (Int32) :=
  some (o_outLen + o_tailLen)
def f_L_law_491 (n0_out : List Int32) (n0_tail : List Int32) (n0_outLen : Int32) (n0_tailLen : Int32) (v13 : Int32) : Option (Int32) :=
  (f_outLength n0_outLen n0_tailLen).bind fun r204 =>
  if r204 = v13 then
    (f_outChar n0_out n0_tail n0_outLen n0_tailLen v13).bind fun r205 =>
    some (if r205 = (-1 : Int32) then (1 : Int32) else (0 : Int32))
  else
    some (0 : Int32)
def f_L_law_468 (kb : List Int32 → List Int32 → Int32 → Int32 → Int32 → Int32 → Int32 → Int32 → Int32 → Int32 → Int32 → Int32 → Option (Int32)) (k491 : List Int32 → List Int32 → Int32 → Int32 → Int32 → Option (Int32)) (n0_out : List Int32) (n0_tail : List Int32) (n0_outLen : Int32) (n0_tailLen : Int32) (v4 : Int32) (v5 : Int32) (v6 : Int32) (v7 : Int32) (v8 : Int32) (v12 : Int32) (v13 : Int32) (v14 : Int32) (v16 : Int32) : Option (Int32) :=
  (f_outChar n0_out n0_tail n0_outLen n0_tailLen v13).bind fun r203 =>
  if r203 = v16 then
    kb n0_out n0_tail n0_outLen n0_tailLen v4 v5 v6 v7 v8 v12 (v13 + (1 : Int32)) (v14 + (1 : Int32))
  else
    some (0 : Int32)
def f_L_law_444 (kb : List Int32 → List Int32 → Int32 → Int32 → Int32 → Int32 → Int32 → Int32 → Int32 → Int32 → Int32 → Int32 → Option (Int32)) (k491 : List Int32 → List Int32 → Int32 → Int32 → Int32 → Option (Int32)) (n0_out : List Int32) (n0_tail : List Int32) (n0_outLen : Int32) (n0_tailLen : Int32) (v4 : Int32) (v5 : Int32) (v6 : Int32) (v7 : Int32) (v8 : Int32) (v12 : Int32) (v13 : Int32) (v14 : Int32) (v15 : Int32) : Option (Int32) :=
  f_L_law_468 kb k491 n0_out n0_tail n0_outLen n0_tailLen v4 v5 v6 v7 v8 (v12 + (1 : Int32)) v13 v14 (if v15 = v6 then v8 else v15)
def f_L_law_384 (k491 : List Int32 → List Int32 → Int32 → Int32 → Int32 → Option (Int32)) : Nat → List Int32 → List Int32 → Int32 → Int32 → Int32 → Int32 → Int32 → Int32 → Int32 → Int32 → Int32 → Int32 → Option (Int32)
  | 0, _, _, _, _, _, _, _, _, _, _, _, _ => none
  | n + 1, n0_out, n0_tail, n0_outLen, n0_tailLen, v4, v5, v6, v7, v8, v12, v13, v14 =>
    if v14 < (4 : Int32) then
      if v12 < (4 : Int32) then
        (f_L_tc v4 v12).bind fun r201 =>
        if (v12 + (1 : Int32)) < (4 : Int32) then
          if r201 = v5 then
            (f_L_tc v4 (v12 + (1 : Int32))).bind fun r202 =>
            if r202 = v6 then
              f_L_law_468 (f_L_law_384 k491 n) k491 n0_out n0_tail n0_outLen n0_tailLen v4 v5 v6 v7 v8 (v12 + (2 : Int32)) v13 v14 v7
            else
              f_L_law_444 (f_L_law_384 k491 n) k491 n0_out n0_tail n0_outLen n0_tailLen v4 v5 v6 v7 v8 v12 v13 v14 r201
          else
            f_L_law_444 (f_L_law_384 k491 n) k491 n0_out n0_tail n0_outLen n0_tailLen v4 v5 v6 v7 v8 v12 v13 v14 r201
        else
          f_L_law_444 (f_L_law_384 k491 n) k491 n0_out n0_tail n0_outLen n0_tailLen v4 v5 v6 v7 v8 v12 v13 v14 r201
      else
        f_L_law_384 k491 n n0_out n0_tail n0_outLen n0_tailLen v4 v5 v6 v7 v8 v12 v13 (v14 + (1 : Int32))
    else
      k491 n0_out n0_tail n0_outLen n0_tailLen v13
def f_L_law_361 (n0_depth : List Int32) (n0_out : List Int32) (n0_tail : List Int32) (n0_n : Int32) (n0_state : Int32) (n0_outLen : Int32) (n0_tailLen : Int32) (v4 : Int32) (v5 : Int32) (v6 : Int32) (v7 : Int32) (v8 : Int32) (t0 : Int32) : Option (Int32) :=
  (f_longestPartial n0_depth n0_n n0_state).bind fun r200 =>
  if r200 = t0 then
    f_L_law_384 f_L_law_491 100000 n0_out n0_tail n0_outLen n0_tailLen v4 v5 v6 v7 v8 (0 : Int32) (0 : Int32) (0 : Int32)
  else
    some (0 : Int32)
def f_L_law_334 (n0_depth : List Int32) (n0_out : List Int32) (n0_tail : List Int32) (n0_n : Int32) (n0_state : Int32) (n0_outLen : Int32) (n0_tailLen : Int32) (v4 : Int32) (v5 : Int32) (v6 : Int32) (v7 : Int32) (v8 : Int32) : Option (Int32) :=
  (f_L_tc v4 (3 : Int32)).bind fun r206 =>
  if r206 = v5 then
    f_L_law_361 n0_depth n0_out n0_tail n0_n n0_state n0_outLen n0_tailLen v4 v5 v6 v7 v8 (1 : Int32)
  else
    (f_L_tc v4 (3 : Int32)).bind fun r207 =>
    f_L_law_361 n0_depth n0_out n0_tail n0_n n0_state n0_outLen n0_tailLen v4 v5 v6 v7 v8 (if r207 = v6 then (1 : Int32) else (0 : Int32))
def f_L_law_285 (n0_depth : List Int32) (n0_out : List Int32) (n0_tail : List Int32) (n0_n : Int32) (n0_state : Int32) (n0_total : Int32) (n0_outLen : Int32) (n0_tailLen : Int32) (v4 : Int32) (v5 : Int32) (v6 : Int32) (v7 : Int32) (v8 : Int32) (v10 : Int32) : Option (Int32) :=
  (f_textLength n0_n).bind fun r196 =>
  if r196 = (4 : Int32) then
    (f_totalOccurrences n0_total).bind fun r197 =>
    if r197 = v10 then
      (f_L_tc v4 (2 : Int32)).bind fun r198 =>
      if r198 = v5 then
        (f_L_tc v4 (3 : Int32)).bind fun r199 =>
        if r199 = v6 then
          f_L_law_361 n0_depth n0_out n0_tail n0_n n0_state n0_outLen n0_tailLen v4 v5 v6 v7 v8 (2 : Int32)
        else
          f_L_law_334 n0_depth n0_out n0_tail n0_n n0_state n0_outLen n0_tailLen v4 v5 v6 v7 v8
      else
        f_L_law_334 n0_depth n0_out n0_tail n0_n n0_state n0_outLen n0_tailLen v4 v5 v6 v7 v8
    else
      some (0 : Int32)
  else
    some (0 : Int32)
def f_L_law_266 (kb : List Int32 → List Int32 → List Int32 → List Int32 → List Int32 → List Int32 → List Int32 → List Int32 → List Int32 → List Int32 → List Int32 → Int32 → Int32 → Int32 → Int32 → Int32 → Int32 → Int32 → Int32 → Int32 → Int32 → Int32 → Int32 → Int32 → Int32 → Int32 → Option (Int32)) (k285 : List Int32 → List Int32 → List Int32 → Int32 → Int32 → Int32 → Int32 → Int32 → Int32 → Int32 → Int32 → Int32 → Int32 → Int32 → Option (Int32)) (n0_kwLen : List Int32) (n0_kwRepl : List Int32) (n0_child : List Int32) (n0_delta : List Int32) (n0_depth : List Int32) (n0_term : List Int32) (n0_outMask : List Int32) (n0_text : List Int32) (n0_masks : List Int32) (n0_out : List Int32) (n0_tail : List Int32) (n0_phaseNow : Int32) (n0_longestKw : Int32) (n0_n : Int32) (n0_state : Int32) (n0_total : Int32) (n0_outLen : Int32) (n0_commitPos : Int32) (n0_tailLen : Int32) (v4 : Int32) (v5 : Int32) (v6 : Int32) (v7 : Int32) (v8 : Int32) (v10 : Int32) (v11 : Int32) (v15 : Int32) (t0 : Int32) (t1 : Int32) (t2 : Int32) : Option (Int32) :=
  if t2 = (t1 + t0) then
    kb n0_kwLen n0_kwRepl n0_child n0_delta n0_depth n0_term n0_outMask n0_text n0_masks n0_out n0_tail n0_phaseNow n0_longestKw n0_n n0_state n0_total n0_outLen n0_commitPos n0_tailLen v4 v5 v6 v7 v8 (v10 + v15) (v11 + (1 : Int32))
  else
    some (0 : Int32)
def f_L_law_256 (kb : List Int32 → List Int32 → List Int32 → List Int32 → List Int32 → List Int32 → List Int32 → List Int32 → List Int32 → List Int32 → List Int32 → Int32 → Int32 → Int32 → Int32 → Int32 → Int32 → Int32 → Int32 → Int32 → Int32 → Int32 → Int32 → Int32 → Int32 → Int32 → Option (Int32)) (k285 : List Int32 → List Int32 → List Int32 → Int32 → Int32 → Int32 → Int32 → Int32 → Int32 → Int32 → Int32 → Int32 → Int32 → Int32 → Option (Int32)) (n0_kwLen : List Int32) (n0_kwRepl : List Int32) (n0_child : List Int32) (n0_delta : List Int32) (n0_depth : List Int32) (n0_term : List Int32) (n0_outMask : List Int32) (n0_text : List Int32) (n0_masks : List Int32) (n0_out : List Int32) (n0_tail : List Int32) (n0_phaseNow : Int32) (n0_longestKw : Int32) (n0_n : Int32) (n0_state : Int32) (n0_total : Int32) (n0_outLen : Int32) (n0_commitPos : Int32) (n0_tailLen : Int32) (v4 : Int32) (v5 : Int32) (v6 : Int32) (v7 : Int32) (v8 : Int32) (v10 : Int32) (v11 : Int32) (v14 : Int32) (v15 : Int32) (t0 : Int32) (t1 : Int32) : Option (Int32) :=
  f_L_law_266 kb k285 n0_kwLen n0_kwRepl n0_child n0_delta n0_depth n0_term n0_outMask n0_text n0_masks n0_out n0_tail n0_phaseNow n0_longestKw n0_n n0_state n0_total n0_outLen n0_commitPos n0_tailLen v4 v5 v6 v7 v8 v10 v11 v15 (if v14 = (0 : Int32) then (0 : Int32) else (2 : Int32)) t0 t1
def f_L_law_222 (kb : List Int32 → List Int32 → List Int32 → List Int32 → List Int32 → List Int32 → List Int32 → List Int32 → List Int32 → List Int32 → List Int32 → Int32 → Int32 → Int32 → Int32 → Int32 → Int32 → Int32 → Int32 → Int32 → Int32 → Int32 → Int32 → Int32 → Int32 → Int32 → Option (Int32)) (k285 : List Int32 → List Int32 → List Int32 → Int32 → Int32 → Int32 → Int32 → Int32 → Int32 → Int32 → Int32 → Int32 → Int32 → Int32 → Option (Int32)) (n0_kwLen : List Int32) (n0_kwRepl : List Int32) (n0_child : List Int32) (n0_delta : List Int32) (n0_depth : List Int32) (n0_term : List Int32) (n0_outMask : List Int32) (n0_text : List Int32) (n0_masks : List Int32) (n0_out : List Int32) (n0_tail : List Int32) (n0_phaseNow : Int32) (n0_longestKw : Int32) (n0_n : Int32) (n0_state : Int32) (n0_total : Int32) (n0_outLen : Int32) (n0_commitPos : Int32) (n0_tailLen : Int32) (v4 : Int32) (v5 : Int32) (v6 : Int32) (v7 : Int32) (v8 : Int32) (v10 : Int32) (v11 : Int32) (v12 : Int32) (v13 : Int32) (v14 : Int32) (t0 : Int32) (t1 : Int32) : Option (Int32) :=
  (f_feed n0_kwLen n0_kwRepl n0_child n0_delta n0_term n0_outMask n0_phaseNow n0_longestKw n0_text n0_masks n0_out n0_tail n0_n n0_state n0_total n0_outLen n0_commitPos n0_tailLen v12).bind fun (r184, s185, s186, s187, s188, s189, s190, s191, s192, s193, s194) =>
  if r184 = (t1 + t0) then
    (f_occurrenceMask s186 s189 v11).bind fun r195 =>
    f_L_law_256 kb k285 n0_kwLen n0_kwRepl n0_child n0_delta n0_depth n0_term n0_outMask s185 s186 s187 s188 n0_phaseNow n0_longestKw s189 s190 s191 s192 s193 s194 v4 v5 v6 v7 v8 v10 v11 v14 (t1 + t0) (if v13 = (0 : Int32) then (0 : Int32) else (1 : Int32)) r195
  else
    some (0 : Int32)
def f_L_law_212 (kb : List Int32 → List Int32 → List Int32 → List Int32 → List Int32 → List Int32 → List Int32 → List Int32 → List Int32 → List Int32 → List Int32 → Int32 → Int32 → Int32 → Int32 → Int32 → Int32 → Int32 → Int32 → Int32 → Int32 → Int32 → Int32 → Int32 → Int32 → Int32 → Option (Int32)) (k285 : List Int32 → List Int32 → List Int32 → Int32 → Int32 → Int32 → Int32 → Int32 → Int32 → Int32 → Int32 → Int32 → Int32 → Int32 → Option (Int32)) (n0_kwLen : List Int32) (n0_kwRepl : List Int32) (n0_child : List Int32) (n0_delta : List Int32) (n0_depth : List Int32) (n0_term : List Int32) (n0_outMask : List Int32) (n0_text : List Int32) (n0_masks : List Int32) (n0_out : List Int32) (n0_tail : List Int32) (n0_phaseNow : Int32) (n0_longestKw : Int32) (n0_n : Int32) (n0_state : Int32) (n0_total : Int32) (n0_outLen : Int32) (n0_commitPos : Int32) (n0_tailLen : Int32) (v4 : Int32) (v5 : Int32) (v6 : Int32) (v7 : Int32) (v8 : Int32) (v10 : Int32) (v11 : Int32) (v12 : Int32) (v13 : Int32) (v14 : Int32) (t0 : Int32) : Option (Int32) :=
  f_L_law_222 kb k285 n0_kwLen n0_kwRepl n0_child n0_delta n0_depth n0_term n0_outMask n0_text n0_masks n0_out n0_tail n0_phaseNow n0_longestKw n0_n n0_state n0_total n0_outLen n0_commitPos n0_tailLen v4 v5 v6 v7 v8 v10 v11 v12 v13 v14 (if v14 = (0 : Int32) then (0 : Int32) else (1 : Int32)) t0
def f_L_law_200 (kb : List Int32 → List Int32 → List Int32 → List Int32 → List Int32 → List Int32 → List Int32 → List Int32 → List Int32 → List Int32 → List Int32 → Int32 → Int32 → Int32 → Int32 → Int32 → Int32 → Int32 → Int32 → Int32 → Int32 → Int32 → Int32 → Int32 → Int32 → Int32 → Option (Int32)) (k285 : List Int32 → List Int32 → List Int32 → Int32 → Int32 → Int32 → Int32 → Int32 → Int32 → Int32 → Int32 → Int32 → Int32 → Int32 → Option (Int32)) (n0_kwLen : List Int32) (n0_kwRepl : List Int32) (n0_child : List Int32) (n0_delta : List Int32) (n0_depth : List Int32) (n0_term : List Int32) (n0_outMask : List Int32) (n0_text : List Int32) (n0_masks : List Int32) (n0_out : List Int32) (n0_tail : List Int32) (n0_phaseNow : Int32) (n0_longestKw : Int32) (n0_n : Int32) (n0_state : Int32) (n0_total : Int32) (n0_outLen : Int32) (n0_commitPos : Int32) (n0_tailLen : Int32) (v4 : Int32) (v5 : Int32) (v6 : Int32) (v7 : Int32) (v8 : Int32) (v10 : Int32) (v11 : Int32) (v12 : Int32) (v13 : Int32) (t0 : Int32) : Option (Int32) :=
  f_L_law_212 kb k285 n0_kwLen n0_kwRepl n0_child n0_delta n0_depth n0_term n0_outMask n0_text n0_masks n0_out n0_tail n0_phaseNow n0_longestKw n0_n n0_state n0_total n0_outLen n0_commitPos n0_tailLen v4 v5 v6 v7 v8 v10 v11 v12 v13 t0 (if v13 = (0 : Int32) then (0 : Int32) else (1 : Int32))
def f_L_law_186 (kb : List Int32 → List Int32 → List Int32 → List Int32 → List Int32 → List Int32 → List Int32 → List Int32 → List Int32 → List Int32 → List Int32 → Int32 → Int32 → Int32 → Int32 → Int32 → Int32 → Int32 → Int32 → Int32 → Int32 → Int32 → Int32 → Int32 → Int32 → Int32 → Option (Int32)) (k285 : List Int32 → List Int32 → List Int32 → Int32 → Int32 → Int32 → Int32 → Int32 → Int32 → Int32 → Int32 → Int32 → Int32 → Int32 → Option (Int32)) (n0_kwLen : List Int32) (n0_kwRepl : List Int32) (n0_child : List Int32) (n0_delta : List Int32) (n0_depth : List Int32) (n0_term : List Int32) (n0_outMask : List Int32) (n0_text : List Int32) (n0_masks : List Int32) (n0_out : List Int32) (n0_tail : List Int32) (n0_phaseNow : Int32) (n0_longestKw : Int32) (n0_n : Int32) (n0_state : Int32) (n0_total : Int32) (n0_outLen : Int32) (n0_commitPos : Int32) (n0_tailLen : Int32) (v4 : Int32) (v5 : Int32) (v6 : Int32) (v7 : Int32) (v8 : Int32) (v10 : Int32) (v11 : Int32) (v12 : Int32) (t0 : Int32) : Option (Int32) :=
  f_L_law_200 kb k285 n0_kwLen n0_kwRepl n0_child n0_delta n0_depth n0_term n0_outMask n0_text n0_masks n0_out n0_tail n0_phaseNow n0_longestKw n0_n n0_state n0_total n0_outLen n0_commitPos n0_tailLen v4 v5 v6 v7 v8 v10 v11 v12 t0 (if v12 = v6 then (1 : Int32) else (0 : Int32))
def f_L_law_139 (k285 : List Int32 → List Int32 → List Int32 → Int32 → Int32 → Int32 → Int32 → Int32 → Int32 → Int32 → Int32 → Int32 → Int32 → Int32 → Option (Int32)) : Nat → List Int32 → List Int32 → List Int32 → List Int32 → List Int32 → List Int32 → List Int32 → List Int32 → List Int32 → List Int32 → List Int32 → Int32 → Int32 → Int32 → Int32 → Int32 → Int32 → Int32 → Int32 → Int32 → Int32 → Int32 → Int32 → Int32 → Int32 → Int32 → Option (Int32)
  | 0, _, _, _, _, _, _, _, _, _, _, _, _, _, _, _, _, _, _, _, _, _, _, _, _, _, _ => none
  | n + 1, n0_kwLen, n0_kwRepl, n0_child, n0_delta, n0_depth, n0_term, n0_outMask, n0_text, n0_masks, n0_out, n0_tail, n0_phaseNow, n0_longestKw, n0_n, n0_state, n0_total, n0_outLen, n0_commitPos, n0_tailLen, v4, v5, v6, v7, v8, v10, v11 =>
    if v11 < (4 : Int32) then
      (f_L_tc v4 v11).bind fun r182 =>
      if v11 < (1 : Int32) then
        f_L_law_186 (f_L_law_139 k285 n) k285 n0_kwLen n0_kwRepl n0_child n0_delta n0_depth n0_term n0_outMask n0_text n0_masks n0_out n0_tail n0_phaseNow n0_longestKw n0_n n0_state n0_total n0_outLen n0_commitPos n0_tailLen v4 v5 v6 v7 v8 v10 v11 r182 (0 : Int32)
      else
        (f_L_tc v4 (v11 - (1 : Int32))).bind fun r183 =>
        f_L_law_186 (f_L_law_139 k285 n) k285 n0_kwLen n0_kwRepl n0_child n0_delta n0_depth n0_term n0_outMask n0_text n0_masks n0_out n0_tail n0_phaseNow n0_longestKw n0_n n0_state n0_total n0_outLen n0_commitPos n0_tailLen v4 v5 v6 v7 v8 v10 v11 r182 (if r183 = v5 then (if r182 = v6 then (1 : Int32) else (0 : Int32)) else (0 : Int32))
    else
      k285 n0_depth n0_out n0_tail n0_n n0_state n0_total n0_outLen n0_tailLen v4 v5 v6 v7 v8 v10
def f_L_law (v0 : Int32) (v1 : Int32) (v2 : Int32) (v3 : Int32) (v4 : Int32) : Option (Int32) :=
  (f_init ((2 : Int32) + (v0 &&& (15 : Int32))) ((2 : Int32) + ((v0 >>> ((4 : Int32) &&& 31)) &&& (7 : Int32)))).bind fun (s116, s117, s118, s119, s120, s121, s122, s123, s124, s125, s126, s127, s128, s129, s130, s131, s132, s133, s134, s135, s136, s137, s138, s139, s140, s141, s142, s143) =>
  (f_addChar s131 s132 s133 s134 s119 s135 ((97 : Int32) + (v1 &&& (3 : Int32)))).bind fun (r144, s145, s146) =>
  if r144 = (1 : Int32) then
    (f_addChar s131 s132 s133 s134 s145 s146 ((97 : Int32) + (v2 &&& (3 : Int32)))).bind fun (r147, s148, s149) =>
    if r147 = (2 : Int32) then
      (f_endKeyword s148 s133 s116 s117 s118 s134 s149 ((65 : Int32) + (v3 &&& (7 : Int32)))).bind fun (r150, s151, s152, s153, s154, s155) =>
      if r150 = (0 : Int32) then
        (f_addChar s131 s132 s133 s154 s148 s155 ((97 : Int32) + (v2 &&& (3 : Int32)))).bind fun (r156, s157, s158) =>
        if r156 = (1 : Int32) then
          (f_endKeyword s157 s133 s151 s152 s153 s154 s158 ((73 : Int32) + ((v3 >>> ((3 : Int32) &&& 31)) &&& (7 : Int32)))).bind fun (r159, s160, s161, s162, s163, s164) =>
          if r159 = (1 : Int32) then
            (f_build s160 s161 s163 s164 s120 s121 s122 s123 s124 s125 s126 s133 s136 s137 s138 s139 s140 s141 s142 s143).bind fun (r165, s166, s167, s168, s169, s170, s171, s172, s173, s174, s175, s176, s177, s178, s179, s180, s181) =>
            if r165 = (0 : Int32) then
              f_L_law_139 f_L_law_285 100000 s161 s162 s166 s167 s169 s170 s171 s127 s128 s129 s130 s173 s175 s176 s177 s178 s179 s180 s181 v4 ((97 : Int32) + (v1 &&& (3 : Int32))) ((97 : Int32) + (v2 &&& (3 : Int32))) ((65 : Int32) + (v3 &&& (7 : Int32))) ((73 : Int32) + ((v3 >>> ((3 : Int32) &&& 31)) &&& (7 : Int32))) (0 : Int32) (0 : Int32)
            else
              some (0 : Int32)
          else
            some (0 : Int32)
        else
          some (0 : Int32)
      else
        some (0 : Int32)
    else
      some (0 : Int32)
  else
    some (0 : Int32)
set_option maxHeartbeats 4000000
set_option maxRecDepth 10000
theorem ok_clearText {o_kwChars : List Int32} {o_kwLen : List Int32} {o_kwRepl : List Int32} {o_pend : List Int32} {o_child : List Int32} {o_delta : List Int32} {o_fail : List Int32} {o_depth : List Int32} {o_term : List Int32} {o_outMask : List Int32} {o_queue : List Int32} {o_text : List Int32} {o_masks : List Int32} {o_out : List Int32} {o_tail : List Int32} {o_maxKw : Int32} {o_maxLen : Int32} {o_phaseNow : Int32} {o_count : Int32} {o_pendLen : Int32} {o_nodeCount : Int32} {o_longestKw : Int32} {po : List ACell} {o_n : Int32} {o_state : Int32} {o_total : Int32} {o_outLen : Int32} {o_commitPos : Int32} {o_tailLen : Int32} {w_o_n : Int32} {w_o_state : Int32} {w_o_total : Int32} {w_o_outLen : Int32} {w_o_commitPos : Int32} {w_o_tailLen : Int32} (h : f_clearText o_n o_state o_total o_outLen o_commitPos o_tailLen = some (w_o_n, w_o_state, w_o_total, w_o_outLen, w_o_commitPos, w_o_tailLen)) : OEnds own_P 2 0 [.val (.ref 0)] [] (bk0 o_kwChars o_kwLen o_kwRepl o_pend o_child o_delta o_fail o_depth o_term o_outMask o_queue o_text o_masks o_out o_tail o_maxKw o_maxLen o_phaseNow o_count o_pendLen o_nodeCount o_longestKw o_n o_state o_total o_outLen o_commitPos o_tailLen po) (none, (bk0 o_kwChars o_kwLen o_kwRepl o_pend o_child o_delta o_fail o_depth o_term o_outMask o_queue o_text o_masks o_out o_tail o_maxKw o_maxLen o_phaseNow o_count o_pendLen o_nodeCount o_longestKw w_o_n w_o_state w_o_total w_o_outLen w_o_commitPos w_o_tailLen po), 0, 0) := by
  unfold f_clearText at h
  refine OEnds.adv hm_2 18 (pc' := 30) (L' := [.val (.ref 0)]) (S' := []) (H' := (bk0 o_kwChars o_kwLen o_kwRepl o_pend o_child o_delta o_fail o_depth o_term o_outMask o_queue o_text o_masks o_out o_tail o_maxKw o_maxLen o_phaseNow o_count o_pendLen o_nodeCount o_longestKw 0 0 0 0 0 0 po)) rfl ?_
  cases h
  exact OEnds.vret hm_2 rfl rfl
theorem ok_init_237 : ∀ {o_kwChars : List Int32} {o_kwLen : List Int32} {o_kwRepl : List Int32} {o_pend : List Int32} {o_child : List Int32} {o_delta : List Int32} {o_fail : List Int32} {o_depth : List Int32} {o_term : List Int32} {o_outMask : List Int32} {o_queue : List Int32} {o_text : List Int32} {o_masks : List Int32} {o_out : List Int32} {o_tail : List Int32} {o_maxKw : Int32} {o_maxLen : Int32} {o_phaseNow : Int32} {o_count : Int32} {o_pendLen : Int32} {o_nodeCount : Int32} {o_longestKw : Int32} {o_n : Int32} {o_state : Int32} {o_total : Int32} {o_outLen : Int32} {o_commitPos : Int32} {o_tailLen : Int32} {d1 d2 d3 d4 d5 : Slot} {w_o_kwChars : List Int32} {w_o_kwLen : List Int32} {w_o_kwRepl : List Int32} {w_o_pend : List Int32} {w_o_child : List Int32} {w_o_delta : List Int32} {w_o_fail : List Int32} {w_o_depth : List Int32} {w_o_term : List Int32} {w_o_outMask : List Int32} {w_o_queue : List Int32} {w_o_text : List Int32} {w_o_masks : List Int32} {w_o_out : List Int32} {w_o_tail : List Int32} {w_o_maxKw : Int32} {w_o_maxLen : Int32} {w_o_phaseNow : Int32} {w_o_count : Int32} {w_o_pendLen : Int32} {w_o_nodeCount : Int32} {w_o_longestKw : Int32} {w_o_n : Int32} {w_o_state : Int32} {w_o_total : Int32} {w_o_outLen : Int32} {w_o_commitPos : Int32} {w_o_tailLen : Int32}, f_init_237 o_kwChars o_kwLen o_kwRepl o_pend o_child o_delta o_fail o_depth o_term o_outMask o_queue o_text o_masks o_out o_tail o_maxKw o_maxLen o_phaseNow o_count o_pendLen o_nodeCount o_longestKw o_n o_state o_total o_outLen o_commitPos o_tailLen = some (w_o_kwChars, w_o_kwLen, w_o_kwRepl, w_o_pend, w_o_child, w_o_delta, w_o_fail, w_o_depth, w_o_term, w_o_outMask, w_o_queue, w_o_text, w_o_masks, w_o_out, w_o_tail, w_o_maxKw, w_o_maxLen, w_o_phaseNow, w_o_count, w_o_pendLen, w_o_nodeCount, w_o_longestKw, w_o_n, w_o_state, w_o_total, w_o_outLen, w_o_commitPos, w_o_tailLen) → OEnds own_P 1 237 [.val (.ref 0), d1, d2, d3, d4, d5] [] (bk0 o_kwChars o_kwLen o_kwRepl o_pend o_child o_delta o_fail o_depth o_term o_outMask o_queue o_text o_masks o_out o_tail o_maxKw o_maxLen o_phaseNow o_count o_pendLen o_nodeCount o_longestKw o_n o_state o_total o_outLen o_commitPos o_tailLen []) (none, (bk0 w_o_kwChars w_o_kwLen w_o_kwRepl w_o_pend w_o_child w_o_delta w_o_fail w_o_depth w_o_term w_o_outMask w_o_queue w_o_text w_o_masks w_o_out w_o_tail w_o_maxKw w_o_maxLen w_o_phaseNow w_o_count w_o_pendLen w_o_nodeCount w_o_longestKw w_o_n w_o_state w_o_total w_o_outLen w_o_commitPos w_o_tailLen []), 0, 0) := by
  intro o_kwChars o_kwLen o_kwRepl o_pend o_child o_delta o_fail o_depth o_term o_outMask o_queue o_text o_masks o_out o_tail o_maxKw o_maxLen o_phaseNow o_count o_pendLen o_nodeCount o_longestKw o_n o_state o_total o_outLen o_commitPos o_tailLen d1 d2 d3 d4 d5 w_o_kwChars w_o_kwLen w_o_kwRepl w_o_pend w_o_child w_o_delta w_o_fail w_o_depth w_o_term w_o_outMask w_o_queue w_o_text w_o_masks w_o_out w_o_tail w_o_maxKw w_o_maxLen w_o_phaseNow w_o_count w_o_pendLen w_o_nodeCount w_o_longestKw w_o_n w_o_state w_o_total w_o_outLen w_o_commitPos w_o_tailLen h
  unfold f_init_237 at h
  refine OEnds.adv hm_1 1 (pc' := 238) (L' := [.val (.ref 0), .unset, .unset, .unset, .unset, .unset]) (S' := [.ref 0]) (H' := (bk0 o_kwChars o_kwLen o_kwRepl o_pend o_child o_delta o_fail o_depth o_term o_outMask o_queue o_text o_masks o_out o_tail o_maxKw o_maxLen o_phaseNow o_count o_pendLen o_nodeCount o_longestKw o_n o_state o_total o_outLen o_commitPos o_tailLen [])) rfl ?_
  obtain ⟨⟨s2, s3, s4, s5, s6, s7⟩, hq1, h⟩ := bnd h
  refine OEnds.call0 hm_1 rfl rfl (by decide) rfl (as := [.ref 0]) (rest := []) rfl rfl (ok_clearText hq1) ?_
  show OEnds own_P 1 241 [.val (.ref 0), .unset, .unset, .unset, .unset, .unset] [] (bk0 o_kwChars o_kwLen o_kwRepl o_pend o_child o_delta o_fail o_depth o_term o_outMask o_queue o_text o_masks o_out o_tail o_maxKw o_maxLen o_phaseNow o_count o_pendLen o_nodeCount o_longestKw s2 s3 s4 s5 s6 s7 []) _
  cases h
  exact OEnds.vret hm_1 rfl rfl
theorem ok_init_215 {k237 : List Int32 → List Int32 → List Int32 → List Int32 → List Int32 → List Int32 → List Int32 → List Int32 → List Int32 → List Int32 → List Int32 → List Int32 → List Int32 → List Int32 → List Int32 → Int32 → Int32 → Int32 → Int32 → Int32 → Int32 → Int32 → Int32 → Int32 → Int32 → Int32 → Int32 → Int32 → Option (List Int32 × List Int32 × List Int32 × List Int32 × List Int32 × List Int32 × List Int32 × List Int32 × List Int32 × List Int32 × List Int32 × List Int32 × List Int32 × List Int32 × List Int32 × Int32 × Int32 × Int32 × Int32 × Int32 × Int32 × Int32 × Int32 × Int32 × Int32 × Int32 × Int32 × Int32)} (hk237 : ∀ {o_kwChars : List Int32} {o_kwLen : List Int32} {o_kwRepl : List Int32} {o_pend : List Int32} {o_child : List Int32} {o_delta : List Int32} {o_fail : List Int32} {o_depth : List Int32} {o_term : List Int32} {o_outMask : List Int32} {o_queue : List Int32} {o_text : List Int32} {o_masks : List Int32} {o_out : List Int32} {o_tail : List Int32} {o_maxKw : Int32} {o_maxLen : Int32} {o_phaseNow : Int32} {o_count : Int32} {o_pendLen : Int32} {o_nodeCount : Int32} {o_longestKw : Int32} {o_n : Int32} {o_state : Int32} {o_total : Int32} {o_outLen : Int32} {o_commitPos : Int32} {o_tailLen : Int32} {d1 d2 d3 d4 d5 : Slot} {w_o_kwChars : List Int32} {w_o_kwLen : List Int32} {w_o_kwRepl : List Int32} {w_o_pend : List Int32} {w_o_child : List Int32} {w_o_delta : List Int32} {w_o_fail : List Int32} {w_o_depth : List Int32} {w_o_term : List Int32} {w_o_outMask : List Int32} {w_o_queue : List Int32} {w_o_text : List Int32} {w_o_masks : List Int32} {w_o_out : List Int32} {w_o_tail : List Int32} {w_o_maxKw : Int32} {w_o_maxLen : Int32} {w_o_phaseNow : Int32} {w_o_count : Int32} {w_o_pendLen : Int32} {w_o_nodeCount : Int32} {w_o_longestKw : Int32} {w_o_n : Int32} {w_o_state : Int32} {w_o_total : Int32} {w_o_outLen : Int32} {w_o_commitPos : Int32} {w_o_tailLen : Int32}, k237 o_kwChars o_kwLen o_kwRepl o_pend o_child o_delta o_fail o_depth o_term o_outMask o_queue o_text o_masks o_out o_tail o_maxKw o_maxLen o_phaseNow o_count o_pendLen o_nodeCount o_longestKw o_n o_state o_total o_outLen o_commitPos o_tailLen = some (w_o_kwChars, w_o_kwLen, w_o_kwRepl, w_o_pend, w_o_child, w_o_delta, w_o_fail, w_o_depth, w_o_term, w_o_outMask, w_o_queue, w_o_text, w_o_masks, w_o_out, w_o_tail, w_o_maxKw, w_o_maxLen, w_o_phaseNow, w_o_count, w_o_pendLen, w_o_nodeCount, w_o_longestKw, w_o_n, w_o_state, w_o_total, w_o_outLen, w_o_commitPos, w_o_tailLen) → OEnds own_P 1 237 [.val (.ref 0), d1, d2, d3, d4, d5] [] (bk0 o_kwChars o_kwLen o_kwRepl o_pend o_child o_delta o_fail o_depth o_term o_outMask o_queue o_text o_masks o_out o_tail o_maxKw o_maxLen o_phaseNow o_count o_pendLen o_nodeCount o_longestKw o_n o_state o_total o_outLen o_commitPos o_tailLen []) (none, (bk0 w_o_kwChars w_o_kwLen w_o_kwRepl w_o_pend w_o_child w_o_delta w_o_fail w_o_depth w_o_term w_o_outMask w_o_queue w_o_text w_o_masks w_o_out w_o_tail w_o_maxKw w_o_maxLen w_o_phaseNow w_o_count w_o_pendLen w_o_nodeCount w_o_longestKw w_o_n w_o_state w_o_total w_o_outLen w_o_commitPos w_o_tailLen []), 0, 0)) : ∀ (n : Nat), ∀ {o_kwChars : List Int32} {o_kwLen : List Int32} {o_kwRepl : List Int32} {o_pend : List Int32} {o_child : List Int32} {o_delta : List Int32} {o_fail : List Int32} {o_depth : List Int32} {o_term : List Int32} {o_outMask : List Int32} {o_queue : List Int32} {o_text : List Int32} {o_masks : List Int32} {o_out : List Int32} {o_tail : List Int32} {o_maxKw : Int32} {o_maxLen : Int32} {o_phaseNow : Int32} {o_count : Int32} {o_pendLen : Int32} {o_nodeCount : Int32} {o_longestKw : Int32} {o_n : Int32} {o_state : Int32} {o_total : Int32} {o_outLen : Int32} {o_commitPos : Int32} {o_tailLen : Int32} {v5 : Int32} {d1 d2 d3 d4 : Slot} {w_o_kwChars : List Int32} {w_o_kwLen : List Int32} {w_o_kwRepl : List Int32} {w_o_pend : List Int32} {w_o_child : List Int32} {w_o_delta : List Int32} {w_o_fail : List Int32} {w_o_depth : List Int32} {w_o_term : List Int32} {w_o_outMask : List Int32} {w_o_queue : List Int32} {w_o_text : List Int32} {w_o_masks : List Int32} {w_o_out : List Int32} {w_o_tail : List Int32} {w_o_maxKw : Int32} {w_o_maxLen : Int32} {w_o_phaseNow : Int32} {w_o_count : Int32} {w_o_pendLen : Int32} {w_o_nodeCount : Int32} {w_o_longestKw : Int32} {w_o_n : Int32} {w_o_state : Int32} {w_o_total : Int32} {w_o_outLen : Int32} {w_o_commitPos : Int32} {w_o_tailLen : Int32}, f_init_215 k237 n o_kwChars o_kwLen o_kwRepl o_pend o_child o_delta o_fail o_depth o_term o_outMask o_queue o_text o_masks o_out o_tail o_maxKw o_maxLen o_phaseNow o_count o_pendLen o_nodeCount o_longestKw o_n o_state o_total o_outLen o_commitPos o_tailLen v5 = some (w_o_kwChars, w_o_kwLen, w_o_kwRepl, w_o_pend, w_o_child, w_o_delta, w_o_fail, w_o_depth, w_o_term, w_o_outMask, w_o_queue, w_o_text, w_o_masks, w_o_out, w_o_tail, w_o_maxKw, w_o_maxLen, w_o_phaseNow, w_o_count, w_o_pendLen, w_o_nodeCount, w_o_longestKw, w_o_n, w_o_state, w_o_total, w_o_outLen, w_o_commitPos, w_o_tailLen) → OEnds own_P 1 215 [.val (.ref 0), d1, d2, d3, d4, .val (.int v5)] [] (bk0 o_kwChars o_kwLen o_kwRepl o_pend o_child o_delta o_fail o_depth o_term o_outMask o_queue o_text o_masks o_out o_tail o_maxKw o_maxLen o_phaseNow o_count o_pendLen o_nodeCount o_longestKw o_n o_state o_total o_outLen o_commitPos o_tailLen []) (none, (bk0 w_o_kwChars w_o_kwLen w_o_kwRepl w_o_pend w_o_child w_o_delta w_o_fail w_o_depth w_o_term w_o_outMask w_o_queue w_o_text w_o_masks w_o_out w_o_tail w_o_maxKw w_o_maxLen w_o_phaseNow w_o_count w_o_pendLen w_o_nodeCount w_o_longestKw w_o_n w_o_state w_o_total w_o_outLen w_o_commitPos w_o_tailLen []), 0, 0) := by
  intro n
  induction n with
  | zero => intro o_kwChars o_kwLen o_kwRepl o_pend o_child o_delta o_fail o_depth o_term o_outMask o_queue o_text o_masks o_out o_tail o_maxKw o_maxLen o_phaseNow o_count o_pendLen o_nodeCount o_longestKw o_n o_state o_total o_outLen o_commitPos o_tailLen v5 d1 d2 d3 d4 w_o_kwChars w_o_kwLen w_o_kwRepl w_o_pend w_o_child w_o_delta w_o_fail w_o_depth w_o_term w_o_outMask w_o_queue w_o_text w_o_masks w_o_out w_o_tail w_o_maxKw w_o_maxLen w_o_phaseNow w_o_count w_o_pendLen w_o_nodeCount w_o_longestKw w_o_n w_o_state w_o_total w_o_outLen w_o_commitPos w_o_tailLen h; cases h
  | succ n ih =>
    intro o_kwChars o_kwLen o_kwRepl o_pend o_child o_delta o_fail o_depth o_term o_outMask o_queue o_text o_masks o_out o_tail o_maxKw o_maxLen o_phaseNow o_count o_pendLen o_nodeCount o_longestKw o_n o_state o_total o_outLen o_commitPos o_tailLen v5 d1 d2 d3 d4 w_o_kwChars w_o_kwLen w_o_kwRepl w_o_pend w_o_child w_o_delta w_o_fail w_o_depth w_o_term w_o_outMask w_o_queue w_o_text w_o_masks w_o_out w_o_tail w_o_maxKw w_o_maxLen w_o_phaseNow w_o_count w_o_pendLen w_o_nodeCount w_o_longestKw w_o_n w_o_state w_o_total w_o_outLen w_o_commitPos w_o_tailLen h
    unfold f_init_215 at h
    refine OEnds.adv hm_1 2 (pc' := 220) (L' := [.val (.ref 0), .unset, .unset, .unset, .unset, .val (.int v5)]) (S' := [.int 129, .int v5]) (H' := (bk0 o_kwChars o_kwLen o_kwRepl o_pend o_child o_delta o_fail o_depth o_term o_outMask o_queue o_text o_masks o_out o_tail o_maxKw o_maxLen o_phaseNow o_count o_pendLen o_nodeCount o_longestKw o_n o_state o_total o_outLen o_commitPos o_tailLen [])) rfl ?_
    by_cases hc2 : v5 < (129 : Int32)
    · simp only [if_pos hc2] at h
      refine OEnds.icmpF hm_1 rfl ((tlt hc2).2.1) ?_
      refine OEnds.adv hm_1 4 (pc' := 230) (L' := [.val (.ref 0), .unset, .unset, .unset, .unset, .val (.int v5)]) (S' := [.int (-1), .int v5, .ref 9]) (H' := (bk0 o_kwChars o_kwLen o_kwRepl o_pend o_child o_delta o_fail o_depth o_term o_outMask o_queue o_text o_masks o_out o_tail o_maxKw o_maxLen o_phaseNow o_count o_pendLen o_nodeCount o_longestKw o_n o_state o_total o_outLen o_commitPos o_tailLen [])) rfl ?_
      obtain ⟨A1, hA1, h⟩ := bnd h
      refine OEnds.plain hm_1 rfl rfl (x_iastore rfl (Nat.le_of_ble_eq_true rfl) hA1) ?_
      refine OEnds.adv hm_1 2 (pc' := 215) (L' := [.val (.ref 0), .unset, .unset, .unset, .unset, .val (.int (v5 + (1 : Int32)))]) (S' := []) (H' := (bk0 o_kwChars o_kwLen o_kwRepl o_pend o_child o_delta o_fail o_depth A1 o_outMask o_queue o_text o_masks o_out o_tail o_maxKw o_maxLen o_phaseNow o_count o_pendLen o_nodeCount o_longestKw o_n o_state o_total o_outLen o_commitPos o_tailLen [])) rfl ?_
      exact ih h
    · simp only [if_neg hc2] at h
      refine OEnds.icmpT hm_1 rfl (q := 237) rfl ((flt hc2).2.1) ?_
      show OEnds own_P 1 237 [.val (.ref 0), .unset, .unset, .unset, .unset, .val (.int v5)] [] (bk0 o_kwChars o_kwLen o_kwRepl o_pend o_child o_delta o_fail o_depth o_term o_outMask o_queue o_text o_masks o_out o_tail o_maxKw o_maxLen o_phaseNow o_count o_pendLen o_nodeCount o_longestKw o_n o_state o_total o_outLen o_commitPos o_tailLen []) _
      exact hk237 h
theorem ok_init_176 : ∀ {o_kwChars : List Int32} {o_kwLen : List Int32} {o_kwRepl : List Int32} {o_pend : List Int32} {o_child : List Int32} {o_delta : List Int32} {o_fail : List Int32} {o_depth : List Int32} {o_term : List Int32} {o_outMask : List Int32} {o_queue : List Int32} {o_text : List Int32} {o_masks : List Int32} {o_out : List Int32} {o_tail : List Int32} {o_maxKw : Int32} {o_maxLen : Int32} {o_phaseNow : Int32} {o_count : Int32} {o_pendLen : Int32} {o_nodeCount : Int32} {o_longestKw : Int32} {o_n : Int32} {o_state : Int32} {o_total : Int32} {o_outLen : Int32} {o_commitPos : Int32} {o_tailLen : Int32} {v3 : Int32} {v4 : Int32} {d1 d2 d5 : Slot} {w_o_kwChars : List Int32} {w_o_kwLen : List Int32} {w_o_kwRepl : List Int32} {w_o_pend : List Int32} {w_o_child : List Int32} {w_o_delta : List Int32} {w_o_fail : List Int32} {w_o_depth : List Int32} {w_o_term : List Int32} {w_o_outMask : List Int32} {w_o_queue : List Int32} {w_o_text : List Int32} {w_o_masks : List Int32} {w_o_out : List Int32} {w_o_tail : List Int32} {w_o_maxKw : Int32} {w_o_maxLen : Int32} {w_o_phaseNow : Int32} {w_o_count : Int32} {w_o_pendLen : Int32} {w_o_nodeCount : Int32} {w_o_longestKw : Int32} {w_o_n : Int32} {w_o_state : Int32} {w_o_total : Int32} {w_o_outLen : Int32} {w_o_commitPos : Int32} {w_o_tailLen : Int32}, f_init_176 o_kwChars o_kwLen o_kwRepl o_pend o_child o_delta o_fail o_depth o_term o_outMask o_queue o_text o_masks o_out o_tail o_maxKw o_maxLen o_phaseNow o_count o_pendLen o_nodeCount o_longestKw o_n o_state o_total o_outLen o_commitPos o_tailLen v3 v4 = some (w_o_kwChars, w_o_kwLen, w_o_kwRepl, w_o_pend, w_o_child, w_o_delta, w_o_fail, w_o_depth, w_o_term, w_o_outMask, w_o_queue, w_o_text, w_o_masks, w_o_out, w_o_tail, w_o_maxKw, w_o_maxLen, w_o_phaseNow, w_o_count, w_o_pendLen, w_o_nodeCount, w_o_longestKw, w_o_n, w_o_state, w_o_total, w_o_outLen, w_o_commitPos, w_o_tailLen) → OEnds own_P 1 176 [.val (.ref 0), d1, d2, .val (.int v3), .val (.int v4), d5] [] (bk0 o_kwChars o_kwLen o_kwRepl o_pend o_child o_delta o_fail o_depth o_term o_outMask o_queue o_text o_masks o_out o_tail o_maxKw o_maxLen o_phaseNow o_count o_pendLen o_nodeCount o_longestKw o_n o_state o_total o_outLen o_commitPos o_tailLen []) (none, (bk0 w_o_kwChars w_o_kwLen w_o_kwRepl w_o_pend w_o_child w_o_delta w_o_fail w_o_depth w_o_term w_o_outMask w_o_queue w_o_text w_o_masks w_o_out w_o_tail w_o_maxKw w_o_maxLen w_o_phaseNow w_o_count w_o_pendLen w_o_nodeCount w_o_longestKw w_o_n w_o_state w_o_total w_o_outLen w_o_commitPos w_o_tailLen []), 0, 0) := by
  intro o_kwChars o_kwLen o_kwRepl o_pend o_child o_delta o_fail o_depth o_term o_outMask o_queue o_text o_masks o_out o_tail o_maxKw o_maxLen o_phaseNow o_count o_pendLen o_nodeCount o_longestKw o_n o_state o_total o_outLen o_commitPos o_tailLen v3 v4 d1 d2 d5 w_o_kwChars w_o_kwLen w_o_kwRepl w_o_pend w_o_child w_o_delta w_o_fail w_o_depth w_o_term w_o_outMask w_o_queue w_o_text w_o_masks w_o_out w_o_tail w_o_maxKw w_o_maxLen w_o_phaseNow w_o_count w_o_pendLen w_o_nodeCount w_o_longestKw w_o_n w_o_state w_o_total w_o_outLen w_o_commitPos w_o_tailLen h
  unfold f_init_176 at h
  refine OEnds.adv hm_1 23 (pc' := 215) (L' := [.val (.ref 0), .unset, .unset, .val (.int v3), .val (.int v4), .val (.int 0)]) (S' := []) (H' := (bk0 o_kwChars o_kwLen o_kwRepl o_pend o_child o_delta o_fail o_depth o_term o_outMask o_queue o_text o_masks o_out o_tail v3 v4 0 0 0 1 1 o_n o_state o_total o_outLen o_commitPos o_tailLen [])) rfl ?_
  exact ok_init_215 (k237 := f_init_237) ok_init_237 100000 h
theorem ok_init_165 : ∀ {o_kwChars : List Int32} {o_kwLen : List Int32} {o_kwRepl : List Int32} {o_pend : List Int32} {o_child : List Int32} {o_delta : List Int32} {o_fail : List Int32} {o_depth : List Int32} {o_term : List Int32} {o_outMask : List Int32} {o_queue : List Int32} {o_text : List Int32} {o_masks : List Int32} {o_out : List Int32} {o_tail : List Int32} {o_maxKw : Int32} {o_maxLen : Int32} {o_phaseNow : Int32} {o_count : Int32} {o_pendLen : Int32} {o_nodeCount : Int32} {o_longestKw : Int32} {o_n : Int32} {o_state : Int32} {o_total : Int32} {o_outLen : Int32} {o_commitPos : Int32} {o_tailLen : Int32} {v3 : Int32} {v4 : Int32} {d1 d2 d5 : Slot} {w_o_kwChars : List Int32} {w_o_kwLen : List Int32} {w_o_kwRepl : List Int32} {w_o_pend : List Int32} {w_o_child : List Int32} {w_o_delta : List Int32} {w_o_fail : List Int32} {w_o_depth : List Int32} {w_o_term : List Int32} {w_o_outMask : List Int32} {w_o_queue : List Int32} {w_o_text : List Int32} {w_o_masks : List Int32} {w_o_out : List Int32} {w_o_tail : List Int32} {w_o_maxKw : Int32} {w_o_maxLen : Int32} {w_o_phaseNow : Int32} {w_o_count : Int32} {w_o_pendLen : Int32} {w_o_nodeCount : Int32} {w_o_longestKw : Int32} {w_o_n : Int32} {w_o_state : Int32} {w_o_total : Int32} {w_o_outLen : Int32} {w_o_commitPos : Int32} {w_o_tailLen : Int32}, f_init_165 o_kwChars o_kwLen o_kwRepl o_pend o_child o_delta o_fail o_depth o_term o_outMask o_queue o_text o_masks o_out o_tail o_maxKw o_maxLen o_phaseNow o_count o_pendLen o_nodeCount o_longestKw o_n o_state o_total o_outLen o_commitPos o_tailLen v3 v4 = some (w_o_kwChars, w_o_kwLen, w_o_kwRepl, w_o_pend, w_o_child, w_o_delta, w_o_fail, w_o_depth, w_o_term, w_o_outMask, w_o_queue, w_o_text, w_o_masks, w_o_out, w_o_tail, w_o_maxKw, w_o_maxLen, w_o_phaseNow, w_o_count, w_o_pendLen, w_o_nodeCount, w_o_longestKw, w_o_n, w_o_state, w_o_total, w_o_outLen, w_o_commitPos, w_o_tailLen) → OEnds own_P 1 165 [.val (.ref 0), d1, d2, .val (.int v3), .val (.int v4), d5] [] (bk0 o_kwChars o_kwLen o_kwRepl o_pend o_child o_delta o_fail o_depth o_term o_outMask o_queue o_text o_masks o_out o_tail o_maxKw o_maxLen o_phaseNow o_count o_pendLen o_nodeCount o_longestKw o_n o_state o_total o_outLen o_commitPos o_tailLen []) (none, (bk0 w_o_kwChars w_o_kwLen w_o_kwRepl w_o_pend w_o_child w_o_delta w_o_fail w_o_depth w_o_term w_o_outMask w_o_queue w_o_text w_o_masks w_o_out w_o_tail w_o_maxKw w_o_maxLen w_o_phaseNow w_o_count w_o_pendLen w_o_nodeCount w_o_longestKw w_o_n w_o_state w_o_total w_o_outLen w_o_commitPos w_o_tailLen []), 0, 0) := by
  intro o_kwChars o_kwLen o_kwRepl o_pend o_child o_delta o_fail o_depth o_term o_outMask o_queue o_text o_masks o_out o_tail o_maxKw o_maxLen o_phaseNow o_count o_pendLen o_nodeCount o_longestKw o_n o_state o_total o_outLen o_commitPos o_tailLen v3 v4 d1 d2 d5 w_o_kwChars w_o_kwLen w_o_kwRepl w_o_pend w_o_child w_o_delta w_o_fail w_o_depth w_o_term w_o_outMask w_o_queue w_o_text w_o_masks w_o_out w_o_tail w_o_maxKw w_o_maxLen w_o_phaseNow w_o_count w_o_pendLen w_o_nodeCount w_o_longestKw w_o_n w_o_state w_o_total w_o_outLen w_o_commitPos w_o_tailLen h
  unfold f_init_165 at h
  refine OEnds.adv hm_1 2 (pc' := 169) (L' := [.val (.ref 0), .unset, .unset, .val (.int v3), .val (.int v4), .unset]) (S' := [.int 8, .int v4]) (H' := (bk0 o_kwChars o_kwLen o_kwRepl o_pend o_child o_delta o_fail o_depth o_term o_outMask o_queue o_text o_masks o_out o_tail o_maxKw o_maxLen o_phaseNow o_count o_pendLen o_nodeCount o_longestKw o_n o_state o_total o_outLen o_commitPos o_tailLen [])) rfl ?_
  by_cases hc3 : (8 : Int32) < v4
  · simp only [if_pos hc3] at h
    refine OEnds.icmpF hm_1 rfl ((tlt hc3).2.2.2) ?_
    refine OEnds.adv hm_1 2 (pc' := 176) (L' := [.val (.ref 0), .unset, .unset, .val (.int v3), .val (.int 8), .unset]) (S' := []) (H' := (bk0 o_kwChars o_kwLen o_kwRepl o_pend o_child o_delta o_fail o_depth o_term o_outMask o_queue o_text o_masks o_out o_tail o_maxKw o_maxLen o_phaseNow o_count o_pendLen o_nodeCount o_longestKw o_n o_state o_total o_outLen o_commitPos o_tailLen [])) rfl ?_
    exact ok_init_176 h
  · simp only [if_neg hc3] at h
    refine OEnds.icmpT hm_1 rfl (q := 176) rfl ((flt hc3).2.2.2) ?_
    show OEnds own_P 1 176 [.val (.ref 0), .unset, .unset, .val (.int v3), .val (.int v4), .unset] [] (bk0 o_kwChars o_kwLen o_kwRepl o_pend o_child o_delta o_fail o_depth o_term o_outMask o_queue o_text o_masks o_out o_tail o_maxKw o_maxLen o_phaseNow o_count o_pendLen o_nodeCount o_longestKw o_n o_state o_total o_outLen o_commitPos o_tailLen []) _
    exact ok_init_176 h
theorem ok_init_153 : ∀ {o_kwChars : List Int32} {o_kwLen : List Int32} {o_kwRepl : List Int32} {o_pend : List Int32} {o_child : List Int32} {o_delta : List Int32} {o_fail : List Int32} {o_depth : List Int32} {o_term : List Int32} {o_outMask : List Int32} {o_queue : List Int32} {o_text : List Int32} {o_masks : List Int32} {o_out : List Int32} {o_tail : List Int32} {o_maxKw : Int32} {o_maxLen : Int32} {o_phaseNow : Int32} {o_count : Int32} {o_pendLen : Int32} {o_nodeCount : Int32} {o_longestKw : Int32} {o_n : Int32} {o_state : Int32} {o_total : Int32} {o_outLen : Int32} {o_commitPos : Int32} {o_tailLen : Int32} {v2 : Int32} {v3 : Int32} {d1 d4 d5 : Slot} {w_o_kwChars : List Int32} {w_o_kwLen : List Int32} {w_o_kwRepl : List Int32} {w_o_pend : List Int32} {w_o_child : List Int32} {w_o_delta : List Int32} {w_o_fail : List Int32} {w_o_depth : List Int32} {w_o_term : List Int32} {w_o_outMask : List Int32} {w_o_queue : List Int32} {w_o_text : List Int32} {w_o_masks : List Int32} {w_o_out : List Int32} {w_o_tail : List Int32} {w_o_maxKw : Int32} {w_o_maxLen : Int32} {w_o_phaseNow : Int32} {w_o_count : Int32} {w_o_pendLen : Int32} {w_o_nodeCount : Int32} {w_o_longestKw : Int32} {w_o_n : Int32} {w_o_state : Int32} {w_o_total : Int32} {w_o_outLen : Int32} {w_o_commitPos : Int32} {w_o_tailLen : Int32}, f_init_153 o_kwChars o_kwLen o_kwRepl o_pend o_child o_delta o_fail o_depth o_term o_outMask o_queue o_text o_masks o_out o_tail o_maxKw o_maxLen o_phaseNow o_count o_pendLen o_nodeCount o_longestKw o_n o_state o_total o_outLen o_commitPos o_tailLen v2 v3 = some (w_o_kwChars, w_o_kwLen, w_o_kwRepl, w_o_pend, w_o_child, w_o_delta, w_o_fail, w_o_depth, w_o_term, w_o_outMask, w_o_queue, w_o_text, w_o_masks, w_o_out, w_o_tail, w_o_maxKw, w_o_maxLen, w_o_phaseNow, w_o_count, w_o_pendLen, w_o_nodeCount, w_o_longestKw, w_o_n, w_o_state, w_o_total, w_o_outLen, w_o_commitPos, w_o_tailLen) → OEnds own_P 1 153 [.val (.ref 0), d1, .val (.int v2), .val (.int v3), d4, d5] [] (bk0 o_kwChars o_kwLen o_kwRepl o_pend o_child o_delta o_fail o_depth o_term o_outMask o_queue o_text o_masks o_out o_tail o_maxKw o_maxLen o_phaseNow o_count o_pendLen o_nodeCount o_longestKw o_n o_state o_total o_outLen o_commitPos o_tailLen []) (none, (bk0 w_o_kwChars w_o_kwLen w_o_kwRepl w_o_pend w_o_child w_o_delta w_o_fail w_o_depth w_o_term w_o_outMask w_o_queue w_o_text w_o_masks w_o_out w_o_tail w_o_maxKw w_o_maxLen w_o_phaseNow w_o_count w_o_pendLen w_o_nodeCount w_o_longestKw w_o_n w_o_state w_o_total w_o_outLen w_o_commitPos w_o_tailLen []), 0, 0) := by
  intro o_kwChars o_kwLen o_kwRepl o_pend o_child o_delta o_fail o_depth o_term o_outMask o_queue o_text o_masks o_out o_tail o_maxKw o_maxLen o_phaseNow o_count o_pendLen o_nodeCount o_longestKw o_n o_state o_total o_outLen o_commitPos o_tailLen v2 v3 d1 d4 d5 w_o_kwChars w_o_kwLen w_o_kwRepl w_o_pend w_o_child w_o_delta w_o_fail w_o_depth w_o_term w_o_outMask w_o_queue w_o_text w_o_masks w_o_out w_o_tail w_o_maxKw w_o_maxLen w_o_phaseNow w_o_count w_o_pendLen w_o_nodeCount w_o_longestKw w_o_n w_o_state w_o_total w_o_outLen w_o_commitPos w_o_tailLen h
  unfold f_init_153 at h
  refine OEnds.adv hm_1 4 (pc' := 159) (L' := [.val (.ref 0), .unset, .val (.int v2), .val (.int v3), .val (.int v2), .unset]) (S' := [.int 1, .int v2]) (H' := (bk0 o_kwChars o_kwLen o_kwRepl o_pend o_child o_delta o_fail o_depth o_term o_outMask o_queue o_text o_masks o_out o_tail o_maxKw o_maxLen o_phaseNow o_count o_pendLen o_nodeCount o_longestKw o_n o_state o_total o_outLen o_commitPos o_tailLen [])) rfl ?_
  by_cases hc4 : v2 < (1 : Int32)
  · simp only [if_pos hc4] at h
    refine OEnds.icmpF hm_1 rfl ((tlt hc4).2.1) ?_
    refine OEnds.adv hm_1 2 (pc' := 165) (L' := [.val (.ref 0), .unset, .val (.int v2), .val (.int v3), .val (.int 1), .unset]) (S' := []) (H' := (bk0 o_kwChars o_kwLen o_kwRepl o_pend o_child o_delta o_fail o_depth o_term o_outMask o_queue o_text o_masks o_out o_tail o_maxKw o_maxLen o_phaseNow o_count o_pendLen o_nodeCount o_longestKw o_n o_state o_total o_outLen o_commitPos o_tailLen [])) rfl ?_
    exact ok_init_165 h
  · simp only [if_neg hc4] at h
    refine OEnds.icmpT hm_1 rfl (q := 165) rfl ((flt hc4).2.1) ?_
    show OEnds own_P 1 165 [.val (.ref 0), .unset, .val (.int v2), .val (.int v3), .val (.int v2), .unset] [] (bk0 o_kwChars o_kwLen o_kwRepl o_pend o_child o_delta o_fail o_depth o_term o_outMask o_queue o_text o_masks o_out o_tail o_maxKw o_maxLen o_phaseNow o_count o_pendLen o_nodeCount o_longestKw o_n o_state o_total o_outLen o_commitPos o_tailLen []) _
    exact ok_init_165 h
theorem ok_init_144 : ∀ {o_kwChars : List Int32} {o_kwLen : List Int32} {o_kwRepl : List Int32} {o_pend : List Int32} {o_child : List Int32} {o_delta : List Int32} {o_fail : List Int32} {o_depth : List Int32} {o_term : List Int32} {o_outMask : List Int32} {o_queue : List Int32} {o_text : List Int32} {o_masks : List Int32} {o_out : List Int32} {o_tail : List Int32} {o_maxKw : Int32} {o_maxLen : Int32} {o_phaseNow : Int32} {o_count : Int32} {o_pendLen : Int32} {o_nodeCount : Int32} {o_longestKw : Int32} {o_n : Int32} {o_state : Int32} {o_total : Int32} {o_outLen : Int32} {o_commitPos : Int32} {o_tailLen : Int32} {v2 : Int32} {v3 : Int32} {d1 d4 d5 : Slot} {w_o_kwChars : List Int32} {w_o_kwLen : List Int32} {w_o_kwRepl : List Int32} {w_o_pend : List Int32} {w_o_child : List Int32} {w_o_delta : List Int32} {w_o_fail : List Int32} {w_o_depth : List Int32} {w_o_term : List Int32} {w_o_outMask : List Int32} {w_o_queue : List Int32} {w_o_text : List Int32} {w_o_masks : List Int32} {w_o_out : List Int32} {w_o_tail : List Int32} {w_o_maxKw : Int32} {w_o_maxLen : Int32} {w_o_phaseNow : Int32} {w_o_count : Int32} {w_o_pendLen : Int32} {w_o_nodeCount : Int32} {w_o_longestKw : Int32} {w_o_n : Int32} {w_o_state : Int32} {w_o_total : Int32} {w_o_outLen : Int32} {w_o_commitPos : Int32} {w_o_tailLen : Int32}, f_init_144 o_kwChars o_kwLen o_kwRepl o_pend o_child o_delta o_fail o_depth o_term o_outMask o_queue o_text o_masks o_out o_tail o_maxKw o_maxLen o_phaseNow o_count o_pendLen o_nodeCount o_longestKw o_n o_state o_total o_outLen o_commitPos o_tailLen v2 v3 = some (w_o_kwChars, w_o_kwLen, w_o_kwRepl, w_o_pend, w_o_child, w_o_delta, w_o_fail, w_o_depth, w_o_term, w_o_outMask, w_o_queue, w_o_text, w_o_masks, w_o_out, w_o_tail, w_o_maxKw, w_o_maxLen, w_o_phaseNow, w_o_count, w_o_pendLen, w_o_nodeCount, w_o_longestKw, w_o_n, w_o_state, w_o_total, w_o_outLen, w_o_commitPos, w_o_tailLen) → OEnds own_P 1 144 [.val (.ref 0), d1, .val (.int v2), .val (.int v3), d4, d5] [] (bk0 o_kwChars o_kwLen o_kwRepl o_pend o_child o_delta o_fail o_depth o_term o_outMask o_queue o_text o_masks o_out o_tail o_maxKw o_maxLen o_phaseNow o_count o_pendLen o_nodeCount o_longestKw o_n o_state o_total o_outLen o_commitPos o_tailLen []) (none, (bk0 w_o_kwChars w_o_kwLen w_o_kwRepl w_o_pend w_o_child w_o_delta w_o_fail w_o_depth w_o_term w_o_outMask w_o_queue w_o_text w_o_masks w_o_out w_o_tail w_o_maxKw w_o_maxLen w_o_phaseNow w_o_count w_o_pendLen w_o_nodeCount w_o_longestKw w_o_n w_o_state w_o_total w_o_outLen w_o_commitPos w_o_tailLen []), 0, 0) := by
  intro o_kwChars o_kwLen o_kwRepl o_pend o_child o_delta o_fail o_depth o_term o_outMask o_queue o_text o_masks o_out o_tail o_maxKw o_maxLen o_phaseNow o_count o_pendLen o_nodeCount o_longestKw o_n o_state o_total o_outLen o_commitPos o_tailLen v2 v3 d1 d4 d5 w_o_kwChars w_o_kwLen w_o_kwRepl w_o_pend w_o_child w_o_delta w_o_fail w_o_depth w_o_term w_o_outMask w_o_queue w_o_text w_o_masks w_o_out w_o_tail w_o_maxKw w_o_maxLen w_o_phaseNow w_o_count w_o_pendLen w_o_nodeCount w_o_longestKw w_o_n w_o_state w_o_total w_o_outLen w_o_commitPos w_o_tailLen h
  unfold f_init_144 at h
  refine OEnds.adv hm_1 2 (pc' := 147) (L' := [.val (.ref 0), .unset, .val (.int v2), .val (.int v3), .unset, .unset]) (S' := [.int 16, .int v3]) (H' := (bk0 o_kwChars o_kwLen o_kwRepl o_pend o_child o_delta o_fail o_depth o_term o_outMask o_queue o_text o_masks o_out o_tail o_maxKw o_maxLen o_phaseNow o_count o_pendLen o_nodeCount o_longestKw o_n o_state o_total o_outLen o_commitPos o_tailLen [])) rfl ?_
  by_cases hc5 : (16 : Int32) < v3
  · simp only [if_pos hc5] at h
    refine OEnds.icmpF hm_1 rfl ((tlt hc5).2.2.2) ?_
    refine OEnds.adv hm_1 2 (pc' := 153) (L' := [.val (.ref 0), .unset, .val (.int v2), .val (.int 16), .unset, .unset]) (S' := []) (H' := (bk0 o_kwChars o_kwLen o_kwRepl o_pend o_child o_delta o_fail o_depth o_term o_outMask o_queue o_text o_masks o_out o_tail o_maxKw o_maxLen o_phaseNow o_count o_pendLen o_nodeCount o_longestKw o_n o_state o_total o_outLen o_commitPos o_tailLen [])) rfl ?_
    exact ok_init_153 h
  · simp only [if_neg hc5] at h
    refine OEnds.icmpT hm_1 rfl (q := 153) rfl ((flt hc5).2.2.2) ?_
    show OEnds own_P 1 153 [.val (.ref 0), .unset, .val (.int v2), .val (.int v3), .unset, .unset] [] (bk0 o_kwChars o_kwLen o_kwRepl o_pend o_child o_delta o_fail o_depth o_term o_outMask o_queue o_text o_masks o_out o_tail o_maxKw o_maxLen o_phaseNow o_count o_pendLen o_nodeCount o_longestKw o_n o_state o_total o_outLen o_commitPos o_tailLen []) _
    exact ok_init_153 h
theorem ok_init {v1 : Int32} {v2 : Int32} {w_o_kwChars : List Int32} {w_o_kwLen : List Int32} {w_o_kwRepl : List Int32} {w_o_pend : List Int32} {w_o_child : List Int32} {w_o_delta : List Int32} {w_o_fail : List Int32} {w_o_depth : List Int32} {w_o_term : List Int32} {w_o_outMask : List Int32} {w_o_queue : List Int32} {w_o_text : List Int32} {w_o_masks : List Int32} {w_o_out : List Int32} {w_o_tail : List Int32} {w_o_maxKw : Int32} {w_o_maxLen : Int32} {w_o_phaseNow : Int32} {w_o_count : Int32} {w_o_pendLen : Int32} {w_o_nodeCount : Int32} {w_o_longestKw : Int32} {w_o_n : Int32} {w_o_state : Int32} {w_o_total : Int32} {w_o_outLen : Int32} {w_o_commitPos : Int32} {w_o_tailLen : Int32} (h : f_init v1 v2 = some (w_o_kwChars, w_o_kwLen, w_o_kwRepl, w_o_pend, w_o_child, w_o_delta, w_o_fail, w_o_depth, w_o_term, w_o_outMask, w_o_queue, w_o_text, w_o_masks, w_o_out, w_o_tail, w_o_maxKw, w_o_maxLen, w_o_phaseNow, w_o_count, w_o_pendLen, w_o_nodeCount, w_o_longestKw, w_o_n, w_o_state, w_o_total, w_o_outLen, w_o_commitPos, w_o_tailLen)) : OEnds own_P 1 0 [.val (.ref 0), .val (.int v1), .val (.int v2), .unset, .unset, .unset] [] ((.inl (0, [.null, .null, .null, .null, .null, .null, .null, .null, .null, .null, .null, .null, .null, .null, .null, .int 0, .int 0, .int 0, .int 0, .int 0, .int 0, .int 0, .int 0, .int 0, .int 0, .int 0, .int 0, .int 0]) : ACell) :: []) (none, (bk0 w_o_kwChars w_o_kwLen w_o_kwRepl w_o_pend w_o_child w_o_delta w_o_fail w_o_depth w_o_term w_o_outMask w_o_queue w_o_text w_o_masks w_o_out w_o_tail w_o_maxKw w_o_maxLen w_o_phaseNow w_o_count w_o_pendLen w_o_nodeCount w_o_longestKw w_o_n w_o_state w_o_total w_o_outLen w_o_commitPos w_o_tailLen []), 15, 8249) := by
  unfold f_init at h
  refine OEnds.adv hm_1 1 (pc' := 1) (L' := [.val (.ref 0), .val (.int v1), .val (.int v2), .unset, .unset, .unset]) (S' := [.ref 0]) (H' := ((.inl (0, [.null, .null, .null, .null, .null, .null, .null, .null, .null, .null, .null, .null, .null, .null, .null, .int 0, .int 0, .int 0, .int 0, .int 0, .int 0, .int 0, .int 0, .int 0, .int 0, .int 0, .int 0, .int 0]) : ACell) :: [])) rfl ?_
  refine OEnds.oinit hm_1 rfl ⟨Nat.le_of_ble_eq_true rfl, Nat.le_of_ble_eq_true rfl⟩ ?_
  refine OEnds.adv hm_1 2 (pc' := 8) (L' := [.val (.ref 0), .val (.int v1), .val (.int v2), .unset, .unset, .unset]) (S' := [.int 128, .ref 0]) (H' := ((.inl (0, [.null, .null, .null, .null, .null, .null, .null, .null, .null, .null, .null, .null, .null, .null, .null, .int 0, .int 0, .int 0, .int 0, .int 0, .int 0, .int 0, .int 0, .int 0, .int 0, .int 0, .int 0, .int 0]) : ACell) :: [])) rfl ?_
  refine OEnds.made1 hm_1 rfl rfl (ks := 128) rfl rfl ?_
  refine OEnds.adv hm_1 3 (pc' := 16) (L' := [.val (.ref 0), .val (.int v1), .val (.int v2), .unset, .unset, .unset]) (S' := [.int 16, .ref 0]) (H' := ((.inl (0, [.ref 1, .null, .null, .null, .null, .null, .null, .null, .null, .null, .null, .null, .null, .null, .null, .int 0, .int 0, .int 0, .int 0, .int 0, .int 0, .int 0, .int 0, .int 0, .int 0, .int 0, .int 0, .int 0]) : ACell) :: .inr (.inl (false, (List.replicate 128 0))) :: [])) rfl ?_
  refine OEnds.made1 hm_1 rfl rfl (ks := 16) rfl rfl ?_
  refine OEnds.adv hm_1 3 (pc' := 24) (L' := [.val (.ref 0), .val (.int v1), .val (.int v2), .unset, .unset, .unset]) (S' := [.int 16, .ref 0]) (H' := ((.inl (0, [.ref 1, .ref 2, .null, .null, .null, .null, .null, .null, .null, .null, .null, .null, .null, .null, .null, .int 0, .int 0, .int 0, .int 0, .int 0, .int 0, .int 0, .int 0, .int 0, .int 0, .int 0, .int 0, .int 0]) : ACell) :: .inr (.inl (false, (List.replicate 128 0))) :: .inr (.inl (false, (List.replicate 16 0))) :: [])) rfl ?_
  refine OEnds.made1 hm_1 rfl rfl (ks := 16) rfl rfl ?_
  refine OEnds.adv hm_1 3 (pc' := 32) (L' := [.val (.ref 0), .val (.int v1), .val (.int v2), .unset, .unset, .unset]) (S' := [.int 8, .ref 0]) (H' := ((.inl (0, [.ref 1, .ref 2, .ref 3, .null, .null, .null, .null, .null, .null, .null, .null, .null, .null, .null, .null, .int 0, .int 0, .int 0, .int 0, .int 0, .int 0, .int 0, .int 0, .int 0, .int 0, .int 0, .int 0, .int 0]) : ACell) :: .inr (.inl (false, (List.replicate 128 0))) :: .inr (.inl (false, (List.replicate 16 0))) :: .inr (.inl (false, (List.replicate 16 0))) :: [])) rfl ?_
  refine OEnds.made1 hm_1 rfl rfl (ks := 8) rfl rfl ?_
  refine OEnds.adv hm_1 3 (pc' := 41) (L' := [.val (.ref 0), .val (.int v1), .val (.int v2), .unset, .unset, .unset]) (S' := [.int 3354, .ref 0]) (H' := ((.inl (0, [.ref 1, .ref 2, .ref 3, .ref 4, .null, .null, .null, .null, .null, .null, .null, .null, .null, .null, .null, .int 0, .int 0, .int 0, .int 0, .int 0, .int 0, .int 0, .int 0, .int 0, .int 0, .int 0, .int 0, .int 0]) : ACell) :: .inr (.inl (false, (List.replicate 128 0))) :: .inr (.inl (false, (List.replicate 16 0))) :: .inr (.inl (false, (List.replicate 16 0))) :: .inr (.inl (false, (List.replicate 8 0))) :: [])) rfl ?_
  refine OEnds.made1 hm_1 rfl rfl (ks := 3354) rfl rfl ?_
  refine OEnds.adv hm_1 3 (pc' := 50) (L' := [.val (.ref 0), .val (.int v1), .val (.int v2), .unset, .unset, .unset]) (S' := [.int 3354, .ref 0]) (H' := ((.inl (0, [.ref 1, .ref 2, .ref 3, .ref 4, .ref 5, .null, .null, .null, .null, .null, .null, .null, .null, .null, .null, .int 0, .int 0, .int 0, .int 0, .int 0, .int 0, .int 0, .int 0, .int 0, .int 0, .int 0, .int 0, .int 0]) : ACell) :: .inr (.inl (false, (List.replicate 128 0))) :: .inr (.inl (false, (List.replicate 16 0))) :: .inr (.inl (false, (List.replicate 16 0))) :: .inr (.inl (false, (List.replicate 8 0))) :: .inr (.inl (false, (List.replicate 3354 0))) :: [])) rfl ?_
  refine OEnds.made1 hm_1 rfl rfl (ks := 3354) rfl rfl ?_
  refine OEnds.adv hm_1 3 (pc' := 59) (L' := [.val (.ref 0), .val (.int v1), .val (.int v2), .unset, .unset, .unset]) (S' := [.int 129, .ref 0]) (H' := ((.inl (0, [.ref 1, .ref 2, .ref 3, .ref 4, .ref 5, .ref 6, .null, .null, .null, .null, .null, .null, .null, .null, .null, .int 0, .int 0, .int 0, .int 0, .int 0, .int 0, .int 0, .int 0, .int 0, .int 0, .int 0, .int 0, .int 0]) : ACell) :: .inr (.inl (false, (List.replicate 128 0))) :: .inr (.inl (false, (List.replicate 16 0))) :: .inr (.inl (false, (List.replicate 16 0))) :: .inr (.inl (false, (List.replicate 8 0))) :: .inr (.inl (false, (List.replicate 3354 0))) :: .inr (.inl (false, (List.replicate 3354 0))) :: [])) rfl ?_
  refine OEnds.made1 hm_1 rfl rfl (ks := 129) rfl rfl ?_
  refine OEnds.adv hm_1 3 (pc' := 68) (L' := [.val (.ref 0), .val (.int v1), .val (.int v2), .unset, .unset, .unset]) (S' := [.int 129, .ref 0]) (H' := ((.inl (0, [.ref 1, .ref 2, .ref 3, .ref 4, .ref 5, .ref 6, .ref 7, .null, .null, .null, .null, .null, .null, .null, .null, .int 0, .int 0, .int 0, .int 0, .int 0, .int 0, .int 0, .int 0, .int 0, .int 0, .int 0, .int 0, .int 0]) : ACell) :: .inr (.inl (false, (List.replicate 128 0))) :: .inr (.inl (false, (List.replicate 16 0))) :: .inr (.inl (false, (List.replicate 16 0))) :: .inr (.inl (false, (List.replicate 8 0))) :: .inr (.inl (false, (List.replicate 3354 0))) :: .inr (.inl (false, (List.replicate 3354 0))) :: .inr (.inl (false, (List.replicate 129 0))) :: [])) rfl ?_
  refine OEnds.made1 hm_1 rfl rfl (ks := 129) rfl rfl ?_
  refine OEnds.adv hm_1 3 (pc' := 77) (L' := [.val (.ref 0), .val (.int v1), .val (.int v2), .unset, .unset, .unset]) (S' := [.int 129, .ref 0]) (H' := ((.inl (0, [.ref 1, .ref 2, .ref 3, .ref 4, .ref 5, .ref 6, .ref 7, .ref 8, .null, .null, .null, .null, .null, .null, .null, .int 0, .int 0, .int 0, .int 0, .int 0, .int 0, .int 0, .int 0, .int 0, .int 0, .int 0, .int 0, .int 0]) : ACell) :: .inr (.inl (false, (List.replicate 128 0))) :: .inr (.inl (false, (List.replicate 16 0))) :: .inr (.inl (false, (List.replicate 16 0))) :: .inr (.inl (false, (List.replicate 8 0))) :: .inr (.inl (false, (List.replicate 3354 0))) :: .inr (.inl (false, (List.replicate 3354 0))) :: .inr (.inl (false, (List.replicate 129 0))) :: .inr (.inl (false, (List.replicate 129 0))) :: [])) rfl ?_
  refine OEnds.made1 hm_1 rfl rfl (ks := 129) rfl rfl ?_
  refine OEnds.adv hm_1 3 (pc' := 86) (L' := [.val (.ref 0), .val (.int v1), .val (.int v2), .unset, .unset, .unset]) (S' := [.int 129, .ref 0]) (H' := ((.inl (0, [.ref 1, .ref 2, .ref 3, .ref 4, .ref 5, .ref 6, .ref 7, .ref 8, .ref 9, .null, .null, .null, .null, .null, .null, .int 0, .int 0, .int 0, .int 0, .int 0, .int 0, .int 0, .int 0, .int 0, .int 0, .int 0, .int 0, .int 0]) : ACell) :: .inr (.inl (false, (List.replicate 128 0))) :: .inr (.inl (false, (List.replicate 16 0))) :: .inr (.inl (false, (List.replicate 16 0))) :: .inr (.inl (false, (List.replicate 8 0))) :: .inr (.inl (false, (List.replicate 3354 0))) :: .inr (.inl (false, (List.replicate 3354 0))) :: .inr (.inl (false, (List.replicate 129 0))) :: .inr (.inl (false, (List.replicate 129 0))) :: .inr (.inl (false, (List.replicate 129 0))) :: [])) rfl ?_
  refine OEnds.made1 hm_1 rfl rfl (ks := 129) rfl rfl ?_
  refine OEnds.adv hm_1 3 (pc' := 95) (L' := [.val (.ref 0), .val (.int v1), .val (.int v2), .unset, .unset, .unset]) (S' := [.int 129, .ref 0]) (H' := ((.inl (0, [.ref 1, .ref 2, .ref 3, .ref 4, .ref 5, .ref 6, .ref 7, .ref 8, .ref 9, .ref 10, .null, .null, .null, .null, .null, .int 0, .int 0, .int 0, .int 0, .int 0, .int 0, .int 0, .int 0, .int 0, .int 0, .int 0, .int 0, .int 0]) : ACell) :: .inr (.inl (false, (List.replicate 128 0))) :: .inr (.inl (false, (List.replicate 16 0))) :: .inr (.inl (false, (List.replicate 16 0))) :: .inr (.inl (false, (List.replicate 8 0))) :: .inr (.inl (false, (List.replicate 3354 0))) :: .inr (.inl (false, (List.replicate 3354 0))) :: .inr (.inl (false, (List.replicate 129 0))) :: .inr (.inl (false, (List.replicate 129 0))) :: .inr (.inl (false, (List.replicate 129 0))) :: .inr (.inl (false, (List.replicate 129 0))) :: [])) rfl ?_
  refine OEnds.made1 hm_1 rfl rfl (ks := 129) rfl rfl ?_
  refine OEnds.adv hm_1 3 (pc' := 104) (L' := [.val (.ref 0), .val (.int v1), .val (.int v2), .unset, .unset, .unset]) (S' := [.int 240, .ref 0]) (H' := ((.inl (0, [.ref 1, .ref 2, .ref 3, .ref 4, .ref 5, .ref 6, .ref 7, .ref 8, .ref 9, .ref 10, .ref 11, .null, .null, .null, .null, .int 0, .int 0, .int 0, .int 0, .int 0, .int 0, .int 0, .int 0, .int 0, .int 0, .int 0, .int 0, .int 0]) : ACell) :: .inr (.inl (false, (List.replicate 128 0))) :: .inr (.inl (false, (List.replicate 16 0))) :: .inr (.inl (false, (List.replicate 16 0))) :: .inr (.inl (false, (List.replicate 8 0))) :: .inr (.inl (false, (List.replicate 3354 0))) :: .inr (.inl (false, (List.replicate 3354 0))) :: .inr (.inl (false, (List.replicate 129 0))) :: .inr (.inl (false, (List.replicate 129 0))) :: .inr (.inl (false, (List.replicate 129 0))) :: .inr (.inl (false, (List.replicate 129 0))) :: .inr (.inl (false, (List.replicate 129 0))) :: [])) rfl ?_
  refine OEnds.made1 hm_1 rfl rfl (ks := 240) rfl rfl ?_
  refine OEnds.adv hm_1 3 (pc' := 113) (L' := [.val (.ref 0), .val (.int v1), .val (.int v2), .unset, .unset, .unset]) (S' := [.int 240, .ref 0]) (H' := ((.inl (0, [.ref 1, .ref 2, .ref 3, .ref 4, .ref 5, .ref 6, .ref 7, .ref 8, .ref 9, .ref 10, .ref 11, .ref 12, .null, .null, .null, .int 0, .int 0, .int 0, .int 0, .int 0, .int 0, .int 0, .int 0, .int 0, .int 0, .int 0, .int 0, .int 0]) : ACell) :: .inr (.inl (false, (List.replicate 128 0))) :: .inr (.inl (false, (List.replicate 16 0))) :: .inr (.inl (false, (List.replicate 16 0))) :: .inr (.inl (false, (List.replicate 8 0))) :: .inr (.inl (false, (List.replicate 3354 0))) :: .inr (.inl (false, (List.replicate 3354 0))) :: .inr (.inl (false, (List.replicate 129 0))) :: .inr (.inl (false, (List.replicate 129 0))) :: .inr (.inl (false, (List.replicate 129 0))) :: .inr (.inl (false, (List.replicate 129 0))) :: .inr (.inl (false, (List.replicate 129 0))) :: .inr (.inl (false, (List.replicate 240 0))) :: [])) rfl ?_
  refine OEnds.made1 hm_1 rfl rfl (ks := 240) rfl rfl ?_
  refine OEnds.adv hm_1 3 (pc' := 122) (L' := [.val (.ref 0), .val (.int v1), .val (.int v2), .unset, .unset, .unset]) (S' := [.int 240, .ref 0]) (H' := ((.inl (0, [.ref 1, .ref 2, .ref 3, .ref 4, .ref 5, .ref 6, .ref 7, .ref 8, .ref 9, .ref 10, .ref 11, .ref 12, .ref 13, .null, .null, .int 0, .int 0, .int 0, .int 0, .int 0, .int 0, .int 0, .int 0, .int 0, .int 0, .int 0, .int 0, .int 0]) : ACell) :: .inr (.inl (false, (List.replicate 128 0))) :: .inr (.inl (false, (List.replicate 16 0))) :: .inr (.inl (false, (List.replicate 16 0))) :: .inr (.inl (false, (List.replicate 8 0))) :: .inr (.inl (false, (List.replicate 3354 0))) :: .inr (.inl (false, (List.replicate 3354 0))) :: .inr (.inl (false, (List.replicate 129 0))) :: .inr (.inl (false, (List.replicate 129 0))) :: .inr (.inl (false, (List.replicate 129 0))) :: .inr (.inl (false, (List.replicate 129 0))) :: .inr (.inl (false, (List.replicate 129 0))) :: .inr (.inl (false, (List.replicate 240 0))) :: .inr (.inl (false, (List.replicate 240 0))) :: [])) rfl ?_
  refine OEnds.made1 hm_1 rfl rfl (ks := 240) rfl rfl ?_
  refine OEnds.adv hm_1 3 (pc' := 130) (L' := [.val (.ref 0), .val (.int v1), .val (.int v2), .unset, .unset, .unset]) (S' := [.int 8, .ref 0]) (H' := ((.inl (0, [.ref 1, .ref 2, .ref 3, .ref 4, .ref 5, .ref 6, .ref 7, .ref 8, .ref 9, .ref 10, .ref 11, .ref 12, .ref 13, .ref 14, .null, .int 0, .int 0, .int 0, .int 0, .int 0, .int 0, .int 0, .int 0, .int 0, .int 0, .int 0, .int 0, .int 0]) : ACell) :: .inr (.inl (false, (List.replicate 128 0))) :: .inr (.inl (false, (List.replicate 16 0))) :: .inr (.inl (false, (List.replicate 16 0))) :: .inr (.inl (false, (List.replicate 8 0))) :: .inr (.inl (false, (List.replicate 3354 0))) :: .inr (.inl (false, (List.replicate 3354 0))) :: .inr (.inl (false, (List.replicate 129 0))) :: .inr (.inl (false, (List.replicate 129 0))) :: .inr (.inl (false, (List.replicate 129 0))) :: .inr (.inl (false, (List.replicate 129 0))) :: .inr (.inl (false, (List.replicate 129 0))) :: .inr (.inl (false, (List.replicate 240 0))) :: .inr (.inl (false, (List.replicate 240 0))) :: .inr (.inl (false, (List.replicate 240 0))) :: [])) rfl ?_
  refine OEnds.made1 hm_1 rfl rfl (ks := 8) rfl rfl ?_
  refine OEnds.adv hm_1 5 (pc' := 139) (L' := [.val (.ref 0), .val (.int v1), .val (.int v2), .val (.int v1), .unset, .unset]) (S' := [.int 1, .int v1]) (H' := (bk0 (List.replicate 128 0) (List.replicate 16 0) (List.replicate 16 0) (List.replicate 8 0) (List.replicate 3354 0) (List.replicate 3354 0) (List.replicate 129 0) (List.replicate 129 0) (List.replicate 129 0) (List.replicate 129 0) (List.replicate 129 0) (List.replicate 240 0) (List.replicate 240 0) (List.replicate 240 0) (List.replicate 8 0) 0 0 0 0 0 0 0 0 0 0 0 0 0 [])) rfl ?_
  by_cases hc6 : v1 < (1 : Int32)
  · simp only [if_pos hc6] at h
    refine OEnds.icmpF hm_1 rfl ((tlt hc6).2.1) ?_
    refine OEnds.adv hm_1 2 (pc' := 144) (L' := [.val (.ref 0), .val (.int v1), .val (.int v2), .val (.int 1), .unset, .unset]) (S' := []) (H' := (bk0 (List.replicate 128 0) (List.replicate 16 0) (List.replicate 16 0) (List.replicate 8 0) (List.replicate 3354 0) (List.replicate 3354 0) (List.replicate 129 0) (List.replicate 129 0) (List.replicate 129 0) (List.replicate 129 0) (List.replicate 129 0) (List.replicate 240 0) (List.replicate 240 0) (List.replicate 240 0) (List.replicate 8 0) 0 0 0 0 0 0 0 0 0 0 0 0 0 [])) rfl ?_
    exact ok_init_144 h
  · simp only [if_neg hc6] at h
    refine OEnds.icmpT hm_1 rfl (q := 144) rfl ((flt hc6).2.1) ?_
    show OEnds own_P 1 144 [.val (.ref 0), .val (.int v1), .val (.int v2), .val (.int v1), .unset, .unset] [] (bk0 (List.replicate 128 0) (List.replicate 16 0) (List.replicate 16 0) (List.replicate 8 0) (List.replicate 3354 0) (List.replicate 3354 0) (List.replicate 129 0) (List.replicate 129 0) (List.replicate 129 0) (List.replicate 129 0) (List.replicate 129 0) (List.replicate 240 0) (List.replicate 240 0) (List.replicate 240 0) (List.replicate 8 0) 0 0 0 0 0 0 0 0 0 0 0 0 0 []) _
    exact ok_init_144 h
theorem ok_isLetter {o_kwChars : List Int32} {o_kwLen : List Int32} {o_kwRepl : List Int32} {o_pend : List Int32} {o_child : List Int32} {o_delta : List Int32} {o_fail : List Int32} {o_depth : List Int32} {o_term : List Int32} {o_outMask : List Int32} {o_queue : List Int32} {o_text : List Int32} {o_masks : List Int32} {o_out : List Int32} {o_tail : List Int32} {o_maxKw : Int32} {o_maxLen : Int32} {o_phaseNow : Int32} {o_count : Int32} {o_pendLen : Int32} {o_nodeCount : Int32} {o_longestKw : Int32} {o_n : Int32} {o_state : Int32} {o_total : Int32} {o_outLen : Int32} {o_commitPos : Int32} {o_tailLen : Int32} {po : List ACell} {v1 : Int32} {res : Int32} (h : f_isLetter v1 = some res) : OEnds own_P 4 0 [.val (.ref 0), .val (.int v1)] [] (bk0 o_kwChars o_kwLen o_kwRepl o_pend o_child o_delta o_fail o_depth o_term o_outMask o_queue o_text o_masks o_out o_tail o_maxKw o_maxLen o_phaseNow o_count o_pendLen o_nodeCount o_longestKw o_n o_state o_total o_outLen o_commitPos o_tailLen po) (some (.int res), (bk0 o_kwChars o_kwLen o_kwRepl o_pend o_child o_delta o_fail o_depth o_term o_outMask o_queue o_text o_masks o_out o_tail o_maxKw o_maxLen o_phaseNow o_count o_pendLen o_nodeCount o_longestKw o_n o_state o_total o_outLen o_commitPos o_tailLen po), 0, 0) := by
  unfold f_isLetter at h
  refine OEnds.adv hm_4 2 (pc' := 3) (L' := [.val (.ref 0), .val (.int v1)]) (S' := [.int 97, .int v1]) (H' := (bk0 o_kwChars o_kwLen o_kwRepl o_pend o_child o_delta o_fail o_depth o_term o_outMask o_queue o_text o_masks o_out o_tail o_maxKw o_maxLen o_phaseNow o_count o_pendLen o_nodeCount o_longestKw o_n o_state o_total o_outLen o_commitPos o_tailLen po)) rfl ?_
  by_cases hc7 : v1 < (97 : Int32)
  · simp only [if_pos hc7] at h
    refine OEnds.icmpT hm_4 rfl (q := 16) rfl ((tlt hc7).1) ?_
    refine OEnds.adv hm_4 1 (pc' := 17) (L' := [.val (.ref 0), .val (.int v1)]) (S' := [.int 0]) (H' := (bk0 o_kwChars o_kwLen o_kwRepl o_pend o_child o_delta o_fail o_depth o_term o_outMask o_queue o_text o_masks o_out o_tail o_maxKw o_maxLen o_phaseNow o_count o_pendLen o_nodeCount o_longestKw o_n o_state o_total o_outLen o_commitPos o_tailLen po)) rfl ?_
    cases h
    exact OEnds.iret hm_4 rfl rfl
  · simp only [if_neg hc7] at h
    refine OEnds.icmpF hm_4 rfl ((flt hc7).1) ?_
    refine OEnds.adv hm_4 2 (pc' := 9) (L' := [.val (.ref 0), .val (.int v1)]) (S' := [.int 122, .int v1]) (H' := (bk0 o_kwChars o_kwLen o_kwRepl o_pend o_child o_delta o_fail o_depth o_term o_outMask o_queue o_text o_masks o_out o_tail o_maxKw o_maxLen o_phaseNow o_count o_pendLen o_nodeCount o_longestKw o_n o_state o_total o_outLen o_commitPos o_tailLen po)) rfl ?_
    by_cases hc8 : (122 : Int32) < v1
    · simp only [if_pos hc8] at h
      refine OEnds.icmpT hm_4 rfl (q := 16) rfl ((tlt hc8).2.2.1) ?_
      refine OEnds.adv hm_4 1 (pc' := 17) (L' := [.val (.ref 0), .val (.int v1)]) (S' := [.int 0]) (H' := (bk0 o_kwChars o_kwLen o_kwRepl o_pend o_child o_delta o_fail o_depth o_term o_outMask o_queue o_text o_masks o_out o_tail o_maxKw o_maxLen o_phaseNow o_count o_pendLen o_nodeCount o_longestKw o_n o_state o_total o_outLen o_commitPos o_tailLen po)) rfl ?_
      cases h
      exact OEnds.iret hm_4 rfl rfl
    · simp only [if_neg hc8] at h
      refine OEnds.icmpF hm_4 rfl ((flt hc8).2.2.1) ?_
      refine OEnds.adv hm_4 2 (pc' := 17) (L' := [.val (.ref 0), .val (.int v1)]) (S' := [.int 1]) (H' := (bk0 o_kwChars o_kwLen o_kwRepl o_pend o_child o_delta o_fail o_depth o_term o_outMask o_queue o_text o_masks o_out o_tail o_maxKw o_maxLen o_phaseNow o_count o_pendLen o_nodeCount o_longestKw o_n o_state o_total o_outLen o_commitPos o_tailLen po)) rfl ?_
      cases h
      exact OEnds.iret hm_4 rfl rfl
theorem ok_addChar {o_kwChars : List Int32} {o_kwLen : List Int32} {o_kwRepl : List Int32} {o_child : List Int32} {o_delta : List Int32} {o_fail : List Int32} {o_depth : List Int32} {o_term : List Int32} {o_outMask : List Int32} {o_queue : List Int32} {o_text : List Int32} {o_masks : List Int32} {o_out : List Int32} {o_tail : List Int32} {o_maxKw : Int32} {o_maxLen : Int32} {o_phaseNow : Int32} {o_count : Int32} {o_nodeCount : Int32} {o_longestKw : Int32} {o_n : Int32} {o_state : Int32} {o_total : Int32} {o_outLen : Int32} {o_commitPos : Int32} {o_tailLen : Int32} {po : List ACell} {o_pend : List Int32} {o_pendLen : Int32} {v1 : Int32} {res : Int32} {w_o_pend : List Int32} {w_o_pendLen : Int32} (h : f_addChar o_maxKw o_maxLen o_phaseNow o_count o_pend o_pendLen v1 = some (res, w_o_pend, w_o_pendLen)) : OEnds own_P 3 0 [.val (.ref 0), .val (.int v1)] [] (bk0 o_kwChars o_kwLen o_kwRepl o_pend o_child o_delta o_fail o_depth o_term o_outMask o_queue o_text o_masks o_out o_tail o_maxKw o_maxLen o_phaseNow o_count o_pendLen o_nodeCount o_longestKw o_n o_state o_total o_outLen o_commitPos o_tailLen po) (some (.int res), (bk0 o_kwChars o_kwLen o_kwRepl w_o_pend o_child o_delta o_fail o_depth o_term o_outMask o_queue o_text o_masks o_out o_tail o_maxKw o_maxLen o_phaseNow o_count w_o_pendLen o_nodeCount o_longestKw o_n o_state o_total o_outLen o_commitPos o_tailLen po), 0, 0) := by
  unfold f_addChar at h
  refine OEnds.adv hm_3 2 (pc' := 4) (L' := [.val (.ref 0), .val (.int v1)]) (S' := [.int o_phaseNow]) (H' := (bk0 o_kwChars o_kwLen o_kwRepl o_pend o_child o_delta o_fail o_depth o_term o_outMask o_queue o_text o_masks o_out o_tail o_maxKw o_maxLen o_phaseNow o_count o_pendLen o_nodeCount o_longestKw o_n o_state o_total o_outLen o_commitPos o_tailLen po)) rfl ?_
  by_cases hc9 : o_phaseNow = (0 : Int32)
  · simp only [if_pos hc9] at h
    refine OEnds.ifT hm_3 rfl (q := 9) rfl ((teq hc9).1) ?_
    refine OEnds.adv hm_3 2 (pc' := 11) (L' := [.val (.ref 0), .val (.int v1)]) (S' := [.int v1, .ref 0]) (H' := (bk0 o_kwChars o_kwLen o_kwRepl o_pend o_child o_delta o_fail o_depth o_term o_outMask o_queue o_text o_masks o_out o_tail o_maxKw o_maxLen o_phaseNow o_count o_pendLen o_nodeCount o_longestKw o_n o_state o_total o_outLen o_commitPos o_tailLen po)) rfl ?_
    obtain ⟨r8, hq10, h⟩ := bnd h
    refine OEnds.call0 hm_3 rfl rfl (by decide) rfl (as := [.ref 0, .int v1]) (rest := []) rfl rfl (ok_isLetter hq10) ?_
    show OEnds own_P 3 14 [.val (.ref 0), .val (.int v1)] [.int r8] (bk0 o_kwChars o_kwLen o_kwRepl o_pend o_child o_delta o_fail o_depth o_term o_outMask o_queue o_text o_masks o_out o_tail o_maxKw o_maxLen o_phaseNow o_count o_pendLen o_nodeCount o_longestKw o_n o_state o_total o_outLen o_commitPos o_tailLen po) _
    by_cases hc11 : r8 = (0 : Int32)
    · simp only [if_pos hc11] at h
      refine OEnds.ifF hm_3 rfl ((teq hc11).2) ?_
      refine OEnds.adv hm_3 1 (pc' := 19) (L' := [.val (.ref 0), .val (.int v1)]) (S' := [.int (-2)]) (H' := (bk0 o_kwChars o_kwLen o_kwRepl o_pend o_child o_delta o_fail o_depth o_term o_outMask o_queue o_text o_masks o_out o_tail o_maxKw o_maxLen o_phaseNow o_count o_pendLen o_nodeCount o_longestKw o_n o_state o_total o_outLen o_commitPos o_tailLen po)) rfl ?_
      cases h
      exact OEnds.iret hm_3 rfl rfl
    · simp only [if_neg hc11] at h
      refine OEnds.ifT hm_3 rfl (q := 20) rfl ((feq hc11).2) ?_
      refine OEnds.adv hm_3 4 (pc' := 28) (L' := [.val (.ref 0), .val (.int v1)]) (S' := [.int o_maxKw, .int o_count]) (H' := (bk0 o_kwChars o_kwLen o_kwRepl o_pend o_child o_delta o_fail o_depth o_term o_outMask o_queue o_text o_masks o_out o_tail o_maxKw o_maxLen o_phaseNow o_count o_pendLen o_nodeCount o_longestKw o_n o_state o_total o_outLen o_commitPos o_tailLen po)) rfl ?_
      by_cases hc12 : o_count < o_maxKw
      · simp only [if_pos hc12] at h
        refine OEnds.icmpT hm_3 rfl (q := 34) rfl ((tlt hc12).1) ?_
        refine OEnds.adv hm_3 4 (pc' := 42) (L' := [.val (.ref 0), .val (.int v1)]) (S' := [.int o_maxLen, .int o_pendLen]) (H' := (bk0 o_kwChars o_kwLen o_kwRepl o_pend o_child o_delta o_fail o_depth o_term o_outMask o_queue o_text o_masks o_out o_tail o_maxKw o_maxLen o_phaseNow o_count o_pendLen o_nodeCount o_longestKw o_n o_state o_total o_outLen o_commitPos o_tailLen po)) rfl ?_
        by_cases hc13 : o_pendLen < o_maxLen
        · simp only [if_pos hc13] at h
          refine OEnds.icmpF hm_3 rfl ((tlt hc13).2.1) ?_
          refine OEnds.adv hm_3 3 (pc' := 51) (L' := [.val (.ref 0), .val (.int v1)]) (S' := [.int 8, .int o_pendLen]) (H' := (bk0 o_kwChars o_kwLen o_kwRepl o_pend o_child o_delta o_fail o_depth o_term o_outMask o_queue o_text o_masks o_out o_tail o_maxKw o_maxLen o_phaseNow o_count o_pendLen o_nodeCount o_longestKw o_n o_state o_total o_outLen o_commitPos o_tailLen po)) rfl ?_
          by_cases hc14 : o_pendLen < (8 : Int32)
          · simp only [if_pos hc14] at h
            refine OEnds.icmpT hm_3 rfl (q := 57) rfl ((tlt hc14).1) ?_
            refine OEnds.adv hm_3 5 (pc' := 66) (L' := [.val (.ref 0), .val (.int v1)]) (S' := [.int v1, .int o_pendLen, .ref 4]) (H' := (bk0 o_kwChars o_kwLen o_kwRepl o_pend o_child o_delta o_fail o_depth o_term o_outMask o_queue o_text o_masks o_out o_tail o_maxKw o_maxLen o_phaseNow o_count o_pendLen o_nodeCount o_longestKw o_n o_state o_total o_outLen o_commitPos o_tailLen po)) rfl ?_
            obtain ⟨A9, hA9, h⟩ := bnd h
            refine OEnds.plain hm_3 rfl rfl (x_iastore rfl (Nat.le_of_ble_eq_true rfl) hA9) ?_
            refine OEnds.adv hm_3 8 (pc' := 81) (L' := [.val (.ref 0), .val (.int v1)]) (S' := [.int (o_pendLen + (1 : Int32))]) (H' := (bk0 o_kwChars o_kwLen o_kwRepl A9 o_child o_delta o_fail o_depth o_term o_outMask o_queue o_text o_masks o_out o_tail o_maxKw o_maxLen o_phaseNow o_count (o_pendLen + (1 : Int32)) o_nodeCount o_longestKw o_n o_state o_total o_outLen o_commitPos o_tailLen po)) rfl ?_
            cases h
            exact OEnds.iret hm_3 rfl rfl
          · simp only [if_neg hc14] at h
            refine OEnds.icmpF hm_3 rfl ((flt hc14).1) ?_
            refine OEnds.adv hm_3 1 (pc' := 56) (L' := [.val (.ref 0), .val (.int v1)]) (S' := [.int (-3)]) (H' := (bk0 o_kwChars o_kwLen o_kwRepl o_pend o_child o_delta o_fail o_depth o_term o_outMask o_queue o_text o_masks o_out o_tail o_maxKw o_maxLen o_phaseNow o_count o_pendLen o_nodeCount o_longestKw o_n o_state o_total o_outLen o_commitPos o_tailLen po)) rfl ?_
            cases h
            exact OEnds.iret hm_3 rfl rfl
        · simp only [if_neg hc13] at h
          refine OEnds.icmpT hm_3 rfl (q := 54) rfl ((flt hc13).2.1) ?_
          refine OEnds.adv hm_3 1 (pc' := 56) (L' := [.val (.ref 0), .val (.int v1)]) (S' := [.int (-3)]) (H' := (bk0 o_kwChars o_kwLen o_kwRepl o_pend o_child o_delta o_fail o_depth o_term o_outMask o_queue o_text o_masks o_out o_tail o_maxKw o_maxLen o_phaseNow o_count o_pendLen o_nodeCount o_longestKw o_n o_state o_total o_outLen o_commitPos o_tailLen po)) rfl ?_
          cases h
          exact OEnds.iret hm_3 rfl rfl
      · simp only [if_neg hc12] at h
        refine OEnds.icmpF hm_3 rfl ((flt hc12).1) ?_
        refine OEnds.adv hm_3 1 (pc' := 33) (L' := [.val (.ref 0), .val (.int v1)]) (S' := [.int (-3)]) (H' := (bk0 o_kwChars o_kwLen o_kwRepl o_pend o_child o_delta o_fail o_depth o_term o_outMask o_queue o_text o_masks o_out o_tail o_maxKw o_maxLen o_phaseNow o_count o_pendLen o_nodeCount o_longestKw o_n o_state o_total o_outLen o_commitPos o_tailLen po)) rfl ?_
        cases h
        exact OEnds.iret hm_3 rfl rfl
  · simp only [if_neg hc9] at h
    refine OEnds.ifF hm_3 rfl ((feq hc9).1) ?_
    refine OEnds.adv hm_3 1 (pc' := 8) (L' := [.val (.ref 0), .val (.int v1)]) (S' := [.int (-1)]) (H' := (bk0 o_kwChars o_kwLen o_kwRepl o_pend o_child o_delta o_fail o_depth o_term o_outMask o_queue o_text o_masks o_out o_tail o_maxKw o_maxLen o_phaseNow o_count o_pendLen o_nodeCount o_longestKw o_n o_state o_total o_outLen o_commitPos o_tailLen po)) rfl ?_
    cases h
    exact OEnds.iret hm_3 rfl rfl
theorem ok_isPrintable {o_kwChars : List Int32} {o_kwLen : List Int32} {o_kwRepl : List Int32} {o_pend : List Int32} {o_child : List Int32} {o_delta : List Int32} {o_fail : List Int32} {o_depth : List Int32} {o_term : List Int32} {o_outMask : List Int32} {o_queue : List Int32} {o_text : List Int32} {o_masks : List Int32} {o_out : List Int32} {o_tail : List Int32} {o_maxKw : Int32} {o_maxLen : Int32} {o_phaseNow : Int32} {o_count : Int32} {o_pendLen : Int32} {o_nodeCount : Int32} {o_longestKw : Int32} {o_n : Int32} {o_state : Int32} {o_total : Int32} {o_outLen : Int32} {o_commitPos : Int32} {o_tailLen : Int32} {po : List ACell} {v1 : Int32} {res : Int32} (h : f_isPrintable v1 = some res) : OEnds own_P 6 0 [.val (.ref 0), .val (.int v1)] [] (bk0 o_kwChars o_kwLen o_kwRepl o_pend o_child o_delta o_fail o_depth o_term o_outMask o_queue o_text o_masks o_out o_tail o_maxKw o_maxLen o_phaseNow o_count o_pendLen o_nodeCount o_longestKw o_n o_state o_total o_outLen o_commitPos o_tailLen po) (some (.int res), (bk0 o_kwChars o_kwLen o_kwRepl o_pend o_child o_delta o_fail o_depth o_term o_outMask o_queue o_text o_masks o_out o_tail o_maxKw o_maxLen o_phaseNow o_count o_pendLen o_nodeCount o_longestKw o_n o_state o_total o_outLen o_commitPos o_tailLen po), 0, 0) := by
  unfold f_isPrintable at h
  refine OEnds.adv hm_6 2 (pc' := 3) (L' := [.val (.ref 0), .val (.int v1)]) (S' := [.int 32, .int v1]) (H' := (bk0 o_kwChars o_kwLen o_kwRepl o_pend o_child o_delta o_fail o_depth o_term o_outMask o_queue o_text o_masks o_out o_tail o_maxKw o_maxLen o_phaseNow o_count o_pendLen o_nodeCount o_longestKw o_n o_state o_total o_outLen o_commitPos o_tailLen po)) rfl ?_
  by_cases hc15 : v1 < (32 : Int32)
  · simp only [if_pos hc15] at h
    refine OEnds.icmpT hm_6 rfl (q := 16) rfl ((tlt hc15).1) ?_
    refine OEnds.adv hm_6 1 (pc' := 17) (L' := [.val (.ref 0), .val (.int v1)]) (S' := [.int 0]) (H' := (bk0 o_kwChars o_kwLen o_kwRepl o_pend o_child o_delta o_fail o_depth o_term o_outMask o_queue o_text o_masks o_out o_tail o_maxKw o_maxLen o_phaseNow o_count o_pendLen o_nodeCount o_longestKw o_n o_state o_total o_outLen o_commitPos o_tailLen po)) rfl ?_
    cases h
    exact OEnds.iret hm_6 rfl rfl
  · simp only [if_neg hc15] at h
    refine OEnds.icmpF hm_6 rfl ((flt hc15).1) ?_
    refine OEnds.adv hm_6 2 (pc' := 9) (L' := [.val (.ref 0), .val (.int v1)]) (S' := [.int 126, .int v1]) (H' := (bk0 o_kwChars o_kwLen o_kwRepl o_pend o_child o_delta o_fail o_depth o_term o_outMask o_queue o_text o_masks o_out o_tail o_maxKw o_maxLen o_phaseNow o_count o_pendLen o_nodeCount o_longestKw o_n o_state o_total o_outLen o_commitPos o_tailLen po)) rfl ?_
    by_cases hc16 : (126 : Int32) < v1
    · simp only [if_pos hc16] at h
      refine OEnds.icmpT hm_6 rfl (q := 16) rfl ((tlt hc16).2.2.1) ?_
      refine OEnds.adv hm_6 1 (pc' := 17) (L' := [.val (.ref 0), .val (.int v1)]) (S' := [.int 0]) (H' := (bk0 o_kwChars o_kwLen o_kwRepl o_pend o_child o_delta o_fail o_depth o_term o_outMask o_queue o_text o_masks o_out o_tail o_maxKw o_maxLen o_phaseNow o_count o_pendLen o_nodeCount o_longestKw o_n o_state o_total o_outLen o_commitPos o_tailLen po)) rfl ?_
      cases h
      exact OEnds.iret hm_6 rfl rfl
    · simp only [if_neg hc16] at h
      refine OEnds.icmpF hm_6 rfl ((flt hc16).2.2.1) ?_
      refine OEnds.adv hm_6 2 (pc' := 17) (L' := [.val (.ref 0), .val (.int v1)]) (S' := [.int 1]) (H' := (bk0 o_kwChars o_kwLen o_kwRepl o_pend o_child o_delta o_fail o_depth o_term o_outMask o_queue o_text o_masks o_out o_tail o_maxKw o_maxLen o_phaseNow o_count o_pendLen o_nodeCount o_longestKw o_n o_state o_total o_outLen o_commitPos o_tailLen po)) rfl ?_
      cases h
      exact OEnds.iret hm_6 rfl rfl
theorem ok_pendingEquals_22 {o_kwChars : List Int32} {o_kwLen : List Int32} {o_kwRepl : List Int32} {o_pend : List Int32} {o_child : List Int32} {o_delta : List Int32} {o_fail : List Int32} {o_depth : List Int32} {o_term : List Int32} {o_outMask : List Int32} {o_queue : List Int32} {o_text : List Int32} {o_masks : List Int32} {o_out : List Int32} {o_tail : List Int32} {o_maxKw : Int32} {o_maxLen : Int32} {o_phaseNow : Int32} {o_count : Int32} {o_pendLen : Int32} {o_nodeCount : Int32} {o_longestKw : Int32} {o_n : Int32} {o_state : Int32} {o_total : Int32} {o_outLen : Int32} {o_commitPos : Int32} {o_tailLen : Int32} {po : List ACell} : ∀ (n : Nat), ∀ {v2 : Int32} {v3 : Int32} {d1 : Slot} {res : Int32}, f_pendingEquals_22 o_kwChars o_kwLen o_pend o_pendLen n v2 v3 = some res → OEnds own_P 9 22 [.val (.ref 0), d1, .val (.int v2), .val (.int v3)] [] (bk0 o_kwChars o_kwLen o_kwRepl o_pend o_child o_delta o_fail o_depth o_term o_outMask o_queue o_text o_masks o_out o_tail o_maxKw o_maxLen o_phaseNow o_count o_pendLen o_nodeCount o_longestKw o_n o_state o_total o_outLen o_commitPos o_tailLen po) (some (.int res), (bk0 o_kwChars o_kwLen o_kwRepl o_pend o_child o_delta o_fail o_depth o_term o_outMask o_queue o_text o_masks o_out o_tail o_maxKw o_maxLen o_phaseNow o_count o_pendLen o_nodeCount o_longestKw o_n o_state o_total o_outLen o_commitPos o_tailLen po), 0, 0) := by
  intro n
  induction n with
  | zero => intro v2 v3 d1 res h; cases h
  | succ n ih =>
    intro v2 v3 d1 res h
    unfold f_pendingEquals_22 at h
    refine OEnds.adv hm_9 3 (pc' := 27) (L' := [.val (.ref 0), .unset, .val (.int v2), .val (.int v3)]) (S' := [.int o_pendLen, .int v3]) (H' := (bk0 o_kwChars o_kwLen o_kwRepl o_pend o_child o_delta o_fail o_depth o_term o_outMask o_queue o_text o_masks o_out o_tail o_maxKw o_maxLen o_phaseNow o_count o_pendLen o_nodeCount o_longestKw o_n o_state o_total o_outLen o_commitPos o_tailLen po)) rfl ?_
    by_cases hc17 : v3 < o_pendLen
    · simp only [if_pos hc17] at h
      refine OEnds.icmpF hm_9 rfl ((tlt hc17).2.1) ?_
      refine OEnds.adv hm_9 2 (pc' := 33) (L' := [.val (.ref 0), .unset, .val (.int v2), .val (.int v3)]) (S' := [.int 8, .int v3]) (H' := (bk0 o_kwChars o_kwLen o_kwRepl o_pend o_child o_delta o_fail o_depth o_term o_outMask o_queue o_text o_masks o_out o_tail o_maxKw o_maxLen o_phaseNow o_count o_pendLen o_nodeCount o_longestKw o_n o_state o_total o_outLen o_commitPos o_tailLen po)) rfl ?_
      by_cases hc18 : v3 < (8 : Int32)
      · simp only [if_pos hc18] at h
        refine OEnds.icmpF hm_9 rfl ((tlt hc18).2.1) ?_
        refine OEnds.adv hm_9 5 (pc' := 43) (L' := [.val (.ref 0), .unset, .val (.int v2), .val (.int v3)]) (S' := [.int (v2 + v3), .ref 1]) (H' := (bk0 o_kwChars o_kwLen o_kwRepl o_pend o_child o_delta o_fail o_depth o_term o_outMask o_queue o_text o_masks o_out o_tail o_maxKw o_maxLen o_phaseNow o_count o_pendLen o_nodeCount o_longestKw o_n o_state o_total o_outLen o_commitPos o_tailLen po)) rfl ?_
        obtain ⟨x11, hx11, h⟩ := bnd h
        refine OEnds.plain hm_9 rfl rfl (x_iaload rfl hx11) ?_
        refine OEnds.adv hm_9 3 (pc' := 49) (L' := [.val (.ref 0), .unset, .val (.int v2), .val (.int v3)]) (S' := [.int v3, .ref 4, .int x11]) (H' := (bk0 o_kwChars o_kwLen o_kwRepl o_pend o_child o_delta o_fail o_depth o_term o_outMask o_queue o_text o_masks o_out o_tail o_maxKw o_maxLen o_phaseNow o_count o_pendLen o_nodeCount o_longestKw o_n o_state o_total o_outLen o_commitPos o_tailLen po)) rfl ?_
        obtain ⟨x12, hx12, h⟩ := bnd h
        refine OEnds.plain hm_9 rfl rfl (x_iaload rfl hx12) ?_
        show OEnds own_P 9 50 [.val (.ref 0), .unset, .val (.int v2), .val (.int v3)] [.int x12, .int x11] (bk0 o_kwChars o_kwLen o_kwRepl o_pend o_child o_delta o_fail o_depth o_term o_outMask o_queue o_text o_masks o_out o_tail o_maxKw o_maxLen o_phaseNow o_count o_pendLen o_nodeCount o_longestKw o_n o_state o_total o_outLen o_commitPos o_tailLen po) _
        by_cases hc19 : x11 = x12
        · simp only [if_pos hc19] at h
          refine OEnds.icmpT hm_9 rfl (q := 55) rfl ((teq hc19).1) ?_
          refine OEnds.adv hm_9 2 (pc' := 22) (L' := [.val (.ref 0), .unset, .val (.int v2), .val (.int (v3 + (1 : Int32)))]) (S' := []) (H' := (bk0 o_kwChars o_kwLen o_kwRepl o_pend o_child o_delta o_fail o_depth o_term o_outMask o_queue o_text o_masks o_out o_tail o_maxKw o_maxLen o_phaseNow o_count o_pendLen o_nodeCount o_longestKw o_n o_state o_total o_outLen o_commitPos o_tailLen po)) rfl ?_
          exact ih h
        · simp only [if_neg hc19] at h
          refine OEnds.icmpF hm_9 rfl ((feq hc19).1) ?_
          refine OEnds.adv hm_9 1 (pc' := 54) (L' := [.val (.ref 0), .unset, .val (.int v2), .val (.int v3)]) (S' := [.int 0]) (H' := (bk0 o_kwChars o_kwLen o_kwRepl o_pend o_child o_delta o_fail o_depth o_term o_outMask o_queue o_text o_masks o_out o_tail o_maxKw o_maxLen o_phaseNow o_count o_pendLen o_nodeCount o_longestKw o_n o_state o_total o_outLen o_commitPos o_tailLen po)) rfl ?_
          cases h
          exact OEnds.iret hm_9 rfl rfl
      · simp only [if_neg hc18] at h
        refine OEnds.icmpT hm_9 rfl (q := 61) rfl ((flt hc18).2.1) ?_
        refine OEnds.adv hm_9 1 (pc' := 62) (L' := [.val (.ref 0), .unset, .val (.int v2), .val (.int v3)]) (S' := [.int 1]) (H' := (bk0 o_kwChars o_kwLen o_kwRepl o_pend o_child o_delta o_fail o_depth o_term o_outMask o_queue o_text o_masks o_out o_tail o_maxKw o_maxLen o_phaseNow o_count o_pendLen o_nodeCount o_longestKw o_n o_state o_total o_outLen o_commitPos o_tailLen po)) rfl ?_
        cases h
        exact OEnds.iret hm_9 rfl rfl
    · simp only [if_neg hc17] at h
      refine OEnds.icmpT hm_9 rfl (q := 61) rfl ((flt hc17).2.1) ?_
      refine OEnds.adv hm_9 1 (pc' := 62) (L' := [.val (.ref 0), .unset, .val (.int v2), .val (.int v3)]) (S' := [.int 1]) (H' := (bk0 o_kwChars o_kwLen o_kwRepl o_pend o_child o_delta o_fail o_depth o_term o_outMask o_queue o_text o_masks o_out o_tail o_maxKw o_maxLen o_phaseNow o_count o_pendLen o_nodeCount o_longestKw o_n o_state o_total o_outLen o_commitPos o_tailLen po)) rfl ?_
      cases h
      exact OEnds.iret hm_9 rfl rfl
theorem ok_pendingEquals {o_kwChars : List Int32} {o_kwLen : List Int32} {o_kwRepl : List Int32} {o_pend : List Int32} {o_child : List Int32} {o_delta : List Int32} {o_fail : List Int32} {o_depth : List Int32} {o_term : List Int32} {o_outMask : List Int32} {o_queue : List Int32} {o_text : List Int32} {o_masks : List Int32} {o_out : List Int32} {o_tail : List Int32} {o_maxKw : Int32} {o_maxLen : Int32} {o_phaseNow : Int32} {o_count : Int32} {o_pendLen : Int32} {o_nodeCount : Int32} {o_longestKw : Int32} {o_n : Int32} {o_state : Int32} {o_total : Int32} {o_outLen : Int32} {o_commitPos : Int32} {o_tailLen : Int32} {po : List ACell} {v1 : Int32} {res : Int32} (h : f_pendingEquals o_kwChars o_kwLen o_pend o_pendLen v1 = some res) : OEnds own_P 9 0 [.val (.ref 0), .val (.int v1), .unset, .unset] [] (bk0 o_kwChars o_kwLen o_kwRepl o_pend o_child o_delta o_fail o_depth o_term o_outMask o_queue o_text o_masks o_out o_tail o_maxKw o_maxLen o_phaseNow o_count o_pendLen o_nodeCount o_longestKw o_n o_state o_total o_outLen o_commitPos o_tailLen po) (some (.int res), (bk0 o_kwChars o_kwLen o_kwRepl o_pend o_child o_delta o_fail o_depth o_term o_outMask o_queue o_text o_masks o_out o_tail o_maxKw o_maxLen o_phaseNow o_count o_pendLen o_nodeCount o_longestKw o_n o_state o_total o_outLen o_commitPos o_tailLen po), 0, 0) := by
  unfold f_pendingEquals at h
  refine OEnds.adv hm_9 3 (pc' := 5) (L' := [.val (.ref 0), .val (.int v1), .unset, .unset]) (S' := [.int v1, .ref 2]) (H' := (bk0 o_kwChars o_kwLen o_kwRepl o_pend o_child o_delta o_fail o_depth o_term o_outMask o_queue o_text o_masks o_out o_tail o_maxKw o_maxLen o_phaseNow o_count o_pendLen o_nodeCount o_longestKw o_n o_state o_total o_outLen o_commitPos o_tailLen po)) rfl ?_
  obtain ⟨x10, hx10, h⟩ := bnd h
  refine OEnds.plain hm_9 rfl rfl (x_iaload rfl hx10) ?_
  refine OEnds.adv hm_9 2 (pc' := 10) (L' := [.val (.ref 0), .val (.int v1), .unset, .unset]) (S' := [.int o_pendLen, .int x10]) (H' := (bk0 o_kwChars o_kwLen o_kwRepl o_pend o_child o_delta o_fail o_depth o_term o_outMask o_queue o_text o_masks o_out o_tail o_maxKw o_maxLen o_phaseNow o_count o_pendLen o_nodeCount o_longestKw o_n o_state o_total o_outLen o_commitPos o_tailLen po)) rfl ?_
  by_cases hc20 : x10 = o_pendLen
  · simp only [if_pos hc20] at h
    refine OEnds.icmpT hm_9 rfl (q := 15) rfl ((teq hc20).1) ?_
    refine OEnds.adv hm_9 6 (pc' := 22) (L' := [.val (.ref 0), .val (.int v1), .val (.int (v1 * (8 : Int32))), .val (.int 0)]) (S' := []) (H' := (bk0 o_kwChars o_kwLen o_kwRepl o_pend o_child o_delta o_fail o_depth o_term o_outMask o_queue o_text o_masks o_out o_tail o_maxKw o_maxLen o_phaseNow o_count o_pendLen o_nodeCount o_longestKw o_n o_state o_total o_outLen o_commitPos o_tailLen po)) rfl ?_
    exact ok_pendingEquals_22 100000 h
  · simp only [if_neg hc20] at h
    refine OEnds.icmpF hm_9 rfl ((feq hc20).1) ?_
    refine OEnds.adv hm_9 1 (pc' := 14) (L' := [.val (.ref 0), .val (.int v1), .unset, .unset]) (S' := [.int 0]) (H' := (bk0 o_kwChars o_kwLen o_kwRepl o_pend o_child o_delta o_fail o_depth o_term o_outMask o_queue o_text o_masks o_out o_tail o_maxKw o_maxLen o_phaseNow o_count o_pendLen o_nodeCount o_longestKw o_n o_state o_total o_outLen o_commitPos o_tailLen po)) rfl ?_
    cases h
    exact OEnds.iret hm_9 rfl rfl
theorem ok_pendingIsDuplicate_2 {o_kwChars : List Int32} {o_kwLen : List Int32} {o_kwRepl : List Int32} {o_pend : List Int32} {o_child : List Int32} {o_delta : List Int32} {o_fail : List Int32} {o_depth : List Int32} {o_term : List Int32} {o_outMask : List Int32} {o_queue : List Int32} {o_text : List Int32} {o_masks : List Int32} {o_out : List Int32} {o_tail : List Int32} {o_maxKw : Int32} {o_maxLen : Int32} {o_phaseNow : Int32} {o_count : Int32} {o_pendLen : Int32} {o_nodeCount : Int32} {o_longestKw : Int32} {o_n : Int32} {o_state : Int32} {o_total : Int32} {o_outLen : Int32} {o_commitPos : Int32} {o_tailLen : Int32} {po : List ACell} : ∀ (n : Nat), ∀ {v1 : Int32} {res : Int32}, f_pendingIsDuplicate_2 o_kwChars o_kwLen o_pend o_count o_pendLen n v1 = some res → OEnds own_P 7 2 [.val (.ref 0), .val (.int v1)] [] (bk0 o_kwChars o_kwLen o_kwRepl o_pend o_child o_delta o_fail o_depth o_term o_outMask o_queue o_text o_masks o_out o_tail o_maxKw o_maxLen o_phaseNow o_count o_pendLen o_nodeCount o_longestKw o_n o_state o_total o_outLen o_commitPos o_tailLen po) (some (.int res), (bk0 o_kwChars o_kwLen o_kwRepl o_pend o_child o_delta o_fail o_depth o_term o_outMask o_queue o_text o_masks o_out o_tail o_maxKw o_maxLen o_phaseNow o_count o_pendLen o_nodeCount o_longestKw o_n o_state o_total o_outLen o_commitPos o_tailLen po), 0, 0) := by
  intro n
  induction n with
  | zero => intro v1 res h; cases h
  | succ n ih =>
    intro v1 res h
    unfold f_pendingIsDuplicate_2 at h
    refine OEnds.adv hm_7 3 (pc' := 7) (L' := [.val (.ref 0), .val (.int v1)]) (S' := [.int o_count, .int v1]) (H' := (bk0 o_kwChars o_kwLen o_kwRepl o_pend o_child o_delta o_fail o_depth o_term o_outMask o_queue o_text o_masks o_out o_tail o_maxKw o_maxLen o_phaseNow o_count o_pendLen o_nodeCount o_longestKw o_n o_state o_total o_outLen o_commitPos o_tailLen po)) rfl ?_
    by_cases hc21 : v1 < o_count
    · simp only [if_pos hc21] at h
      refine OEnds.icmpF hm_7 rfl ((tlt hc21).2.1) ?_
      refine OEnds.adv hm_7 2 (pc' := 13) (L' := [.val (.ref 0), .val (.int v1)]) (S' := [.int 16, .int v1]) (H' := (bk0 o_kwChars o_kwLen o_kwRepl o_pend o_child o_delta o_fail o_depth o_term o_outMask o_queue o_text o_masks o_out o_tail o_maxKw o_maxLen o_phaseNow o_count o_pendLen o_nodeCount o_longestKw o_n o_state o_total o_outLen o_commitPos o_tailLen po)) rfl ?_
      by_cases hc22 : v1 < (16 : Int32)
      · simp only [if_pos hc22] at h
        refine OEnds.icmpF hm_7 rfl ((tlt hc22).2.1) ?_
        refine OEnds.adv hm_7 2 (pc' := 18) (L' := [.val (.ref 0), .val (.int v1)]) (S' := [.int v1, .ref 0]) (H' := (bk0 o_kwChars o_kwLen o_kwRepl o_pend o_child o_delta o_fail o_depth o_term o_outMask o_queue o_text o_masks o_out o_tail o_maxKw o_maxLen o_phaseNow o_count o_pendLen o_nodeCount o_longestKw o_n o_state o_total o_outLen o_commitPos o_tailLen po)) rfl ?_
        obtain ⟨r13, hq23, h⟩ := bnd h
        refine OEnds.call0 hm_7 rfl rfl (by decide) rfl (as := [.ref 0, .int v1]) (rest := []) rfl rfl (ok_pendingEquals hq23) ?_
        show OEnds own_P 7 21 [.val (.ref 0), .val (.int v1)] [.int r13] (bk0 o_kwChars o_kwLen o_kwRepl o_pend o_child o_delta o_fail o_depth o_term o_outMask o_queue o_text o_masks o_out o_tail o_maxKw o_maxLen o_phaseNow o_count o_pendLen o_nodeCount o_longestKw o_n o_state o_total o_outLen o_commitPos o_tailLen po) _
        by_cases hc24 : r13 = (0 : Int32)
        · simp only [if_pos hc24] at h
          refine OEnds.ifT hm_7 rfl (q := 26) rfl ((teq hc24).1) ?_
          refine OEnds.adv hm_7 2 (pc' := 2) (L' := [.val (.ref 0), .val (.int (v1 + (1 : Int32)))]) (S' := []) (H' := (bk0 o_kwChars o_kwLen o_kwRepl o_pend o_child o_delta o_fail o_depth o_term o_outMask o_queue o_text o_masks o_out o_tail o_maxKw o_maxLen o_phaseNow o_count o_pendLen o_nodeCount o_longestKw o_n o_state o_total o_outLen o_commitPos o_tailLen po)) rfl ?_
          exact ih h
        · simp only [if_neg hc24] at h
          refine OEnds.ifF hm_7 rfl ((feq hc24).1) ?_
          refine OEnds.adv hm_7 1 (pc' := 25) (L' := [.val (.ref 0), .val (.int v1)]) (S' := [.int 1]) (H' := (bk0 o_kwChars o_kwLen o_kwRepl o_pend o_child o_delta o_fail o_depth o_term o_outMask o_queue o_text o_masks o_out o_tail o_maxKw o_maxLen o_phaseNow o_count o_pendLen o_nodeCount o_longestKw o_n o_state o_total o_outLen o_commitPos o_tailLen po)) rfl ?_
          cases h
          exact OEnds.iret hm_7 rfl rfl
      · simp only [if_neg hc22] at h
        refine OEnds.icmpT hm_7 rfl (q := 32) rfl ((flt hc22).2.1) ?_
        refine OEnds.adv hm_7 1 (pc' := 33) (L' := [.val (.ref 0), .val (.int v1)]) (S' := [.int 0]) (H' := (bk0 o_kwChars o_kwLen o_kwRepl o_pend o_child o_delta o_fail o_depth o_term o_outMask o_queue o_text o_masks o_out o_tail o_maxKw o_maxLen o_phaseNow o_count o_pendLen o_nodeCount o_longestKw o_n o_state o_total o_outLen o_commitPos o_tailLen po)) rfl ?_
        cases h
        exact OEnds.iret hm_7 rfl rfl
    · simp only [if_neg hc21] at h
      refine OEnds.icmpT hm_7 rfl (q := 32) rfl ((flt hc21).2.1) ?_
      refine OEnds.adv hm_7 1 (pc' := 33) (L' := [.val (.ref 0), .val (.int v1)]) (S' := [.int 0]) (H' := (bk0 o_kwChars o_kwLen o_kwRepl o_pend o_child o_delta o_fail o_depth o_term o_outMask o_queue o_text o_masks o_out o_tail o_maxKw o_maxLen o_phaseNow o_count o_pendLen o_nodeCount o_longestKw o_n o_state o_total o_outLen o_commitPos o_tailLen po)) rfl ?_
      cases h
      exact OEnds.iret hm_7 rfl rfl
theorem ok_pendingIsDuplicate {o_kwChars : List Int32} {o_kwLen : List Int32} {o_kwRepl : List Int32} {o_pend : List Int32} {o_child : List Int32} {o_delta : List Int32} {o_fail : List Int32} {o_depth : List Int32} {o_term : List Int32} {o_outMask : List Int32} {o_queue : List Int32} {o_text : List Int32} {o_masks : List Int32} {o_out : List Int32} {o_tail : List Int32} {o_maxKw : Int32} {o_maxLen : Int32} {o_phaseNow : Int32} {o_count : Int32} {o_pendLen : Int32} {o_nodeCount : Int32} {o_longestKw : Int32} {o_n : Int32} {o_state : Int32} {o_total : Int32} {o_outLen : Int32} {o_commitPos : Int32} {o_tailLen : Int32} {po : List ACell} {res : Int32} (h : f_pendingIsDuplicate o_kwChars o_kwLen o_pend o_count o_pendLen = some res) : OEnds own_P 7 0 [.val (.ref 0), .unset] [] (bk0 o_kwChars o_kwLen o_kwRepl o_pend o_child o_delta o_fail o_depth o_term o_outMask o_queue o_text o_masks o_out o_tail o_maxKw o_maxLen o_phaseNow o_count o_pendLen o_nodeCount o_longestKw o_n o_state o_total o_outLen o_commitPos o_tailLen po) (some (.int res), (bk0 o_kwChars o_kwLen o_kwRepl o_pend o_child o_delta o_fail o_depth o_term o_outMask o_queue o_text o_masks o_out o_tail o_maxKw o_maxLen o_phaseNow o_count o_pendLen o_nodeCount o_longestKw o_n o_state o_total o_outLen o_commitPos o_tailLen po), 0, 0) := by
  unfold f_pendingIsDuplicate at h
  refine OEnds.adv hm_7 2 (pc' := 2) (L' := [.val (.ref 0), .val (.int 0)]) (S' := []) (H' := (bk0 o_kwChars o_kwLen o_kwRepl o_pend o_child o_delta o_fail o_depth o_term o_outMask o_queue o_text o_masks o_out o_tail o_maxKw o_maxLen o_phaseNow o_count o_pendLen o_nodeCount o_longestKw o_n o_state o_total o_outLen o_commitPos o_tailLen po)) rfl ?_
  exact ok_pendingIsDuplicate_2 100000 h
theorem ok_storePending_44 {o_pend : List Int32} {o_child : List Int32} {o_delta : List Int32} {o_fail : List Int32} {o_depth : List Int32} {o_term : List Int32} {o_outMask : List Int32} {o_queue : List Int32} {o_text : List Int32} {o_masks : List Int32} {o_out : List Int32} {o_tail : List Int32} {o_maxKw : Int32} {o_maxLen : Int32} {o_phaseNow : Int32} {o_nodeCount : Int32} {o_longestKw : Int32} {o_n : Int32} {o_state : Int32} {o_total : Int32} {o_outLen : Int32} {o_commitPos : Int32} {o_tailLen : Int32} {po : List ACell} : ∀ {o_kwChars : List Int32} {o_kwLen : List Int32} {o_kwRepl : List Int32} {o_count : Int32} {o_pendLen : Int32} {v1 : Int32} {d2 d3 : Slot} {w_o_kwChars : List Int32} {w_o_kwLen : List Int32} {w_o_kwRepl : List Int32} {w_o_count : Int32} {w_o_pendLen : Int32}, f_storePending_44 o_pend o_kwChars o_kwLen o_kwRepl o_count o_pendLen v1 = some (w_o_kwChars, w_o_kwLen, w_o_kwRepl, w_o_count, w_o_pendLen) → OEnds own_P 8 44 [.val (.ref 0), .val (.int v1), d2, d3] [] (bk0 o_kwChars o_kwLen o_kwRepl o_pend o_child o_delta o_fail o_depth o_term o_outMask o_queue o_text o_masks o_out o_tail o_maxKw o_maxLen o_phaseNow o_count o_pendLen o_nodeCount o_longestKw o_n o_state o_total o_outLen o_commitPos o_tailLen po) (none, (bk0 w_o_kwChars w_o_kwLen w_o_kwRepl o_pend o_child o_delta o_fail o_depth o_term o_outMask o_queue o_text o_masks o_out o_tail o_maxKw o_maxLen o_phaseNow w_o_count w_o_pendLen o_nodeCount o_longestKw o_n o_state o_total o_outLen o_commitPos o_tailLen po), 0, 0) := by
  intro o_kwChars o_kwLen o_kwRepl o_count o_pendLen v1 d2 d3 w_o_kwChars w_o_kwLen w_o_kwRepl w_o_count w_o_pendLen h
  unfold f_storePending_44 at h
  refine OEnds.adv hm_8 6 (pc' := 56) (L' := [.val (.ref 0), .val (.int v1), .unset, .unset]) (S' := [.int o_pendLen, .int o_count, .ref 2]) (H' := (bk0 o_kwChars o_kwLen o_kwRepl o_pend o_child o_delta o_fail o_depth o_term o_outMask o_queue o_text o_masks o_out o_tail o_maxKw o_maxLen o_phaseNow o_count o_pendLen o_nodeCount o_longestKw o_n o_state o_total o_outLen o_commitPos o_tailLen po)) rfl ?_
  obtain ⟨A16, hA16, h⟩ := bnd h
  refine OEnds.plain hm_8 rfl rfl (x_iastore rfl (Nat.le_of_ble_eq_true rfl) hA16) ?_
  refine OEnds.adv hm_8 5 (pc' := 66) (L' := [.val (.ref 0), .val (.int v1), .unset, .unset]) (S' := [.int v1, .int o_count, .ref 3]) (H' := (bk0 o_kwChars A16 o_kwRepl o_pend o_child o_delta o_fail o_depth o_term o_outMask o_queue o_text o_masks o_out o_tail o_maxKw o_maxLen o_phaseNow o_count o_pendLen o_nodeCount o_longestKw o_n o_state o_total o_outLen o_commitPos o_tailLen po)) rfl ?_
  obtain ⟨A17, hA17, h⟩ := bnd h
  refine OEnds.plain hm_8 rfl rfl (x_iastore rfl (Nat.le_of_ble_eq_true rfl) hA17) ?_
  refine OEnds.adv hm_8 9 (pc' := 82) (L' := [.val (.ref 0), .val (.int v1), .unset, .unset]) (S' := []) (H' := (bk0 o_kwChars A16 A17 o_pend o_child o_delta o_fail o_depth o_term o_outMask o_queue o_text o_masks o_out o_tail o_maxKw o_maxLen o_phaseNow (o_count + (1 : Int32)) 0 o_nodeCount o_longestKw o_n o_state o_total o_outLen o_commitPos o_tailLen po)) rfl ?_
  cases h
  exact OEnds.vret hm_8 rfl rfl
theorem ok_storePending_10 {o_pend : List Int32} {o_child : List Int32} {o_delta : List Int32} {o_fail : List Int32} {o_depth : List Int32} {o_term : List Int32} {o_outMask : List Int32} {o_queue : List Int32} {o_text : List Int32} {o_masks : List Int32} {o_out : List Int32} {o_tail : List Int32} {o_maxKw : Int32} {o_maxLen : Int32} {o_phaseNow : Int32} {o_nodeCount : Int32} {o_longestKw : Int32} {o_n : Int32} {o_state : Int32} {o_total : Int32} {o_outLen : Int32} {o_commitPos : Int32} {o_tailLen : Int32} {po : List ACell} {k44 : List Int32 → List Int32 → List Int32 → Int32 → Int32 → Int32 → Option (List Int32 × List Int32 × List Int32 × Int32 × Int32)} (hk44 : ∀ {o_kwChars : List Int32} {o_kwLen : List Int32} {o_kwRepl : List Int32} {o_count : Int32} {o_pendLen : Int32} {v1 : Int32} {d2 d3 : Slot} {w_o_kwChars : List Int32} {w_o_kwLen : List Int32} {w_o_kwRepl : List Int32} {w_o_count : Int32} {w_o_pendLen : Int32}, k44 o_kwChars o_kwLen o_kwRepl o_count o_pendLen v1 = some (w_o_kwChars, w_o_kwLen, w_o_kwRepl, w_o_count, w_o_pendLen) → OEnds own_P 8 44 [.val (.ref 0), .val (.int v1), d2, d3] [] (bk0 o_kwChars o_kwLen o_kwRepl o_pend o_child o_delta o_fail o_depth o_term o_outMask o_queue o_text o_masks o_out o_tail o_maxKw o_maxLen o_phaseNow o_count o_pendLen o_nodeCount o_longestKw o_n o_state o_total o_outLen o_commitPos o_tailLen po) (none, (bk0 w_o_kwChars w_o_kwLen w_o_kwRepl o_pend o_child o_delta o_fail o_depth o_term o_outMask o_queue o_text o_masks o_out o_tail o_maxKw o_maxLen o_phaseNow w_o_count w_o_pendLen o_nodeCount o_longestKw o_n o_state o_total o_outLen o_commitPos o_tailLen po), 0, 0)) : ∀ (n : Nat), ∀ {o_kwChars : List Int32} {o_kwLen : List Int32} {o_kwRepl : List Int32} {o_count : Int32} {o_pendLen : Int32} {v1 : Int32} {v2 : Int32} {v3 : Int32} {w_o_kwChars : List Int32} {w_o_kwLen : List Int32} {w_o_kwRepl : List Int32} {w_o_count : Int32} {w_o_pendLen : Int32}, f_storePending_10 k44 o_pend n o_kwChars o_kwLen o_kwRepl o_count o_pendLen v1 v2 v3 = some (w_o_kwChars, w_o_kwLen, w_o_kwRepl, w_o_count, w_o_pendLen) → OEnds own_P 8 10 [.val (.ref 0), .val (.int v1), .val (.int v2), .val (.int v3)] [] (bk0 o_kwChars o_kwLen o_kwRepl o_pend o_child o_delta o_fail o_depth o_term o_outMask o_queue o_text o_masks o_out o_tail o_maxKw o_maxLen o_phaseNow o_count o_pendLen o_nodeCount o_longestKw o_n o_state o_total o_outLen o_commitPos o_tailLen po) (none, (bk0 w_o_kwChars w_o_kwLen w_o_kwRepl o_pend o_child o_delta o_fail o_depth o_term o_outMask o_queue o_text o_masks o_out o_tail o_maxKw o_maxLen o_phaseNow w_o_count w_o_pendLen o_nodeCount o_longestKw o_n o_state o_total o_outLen o_commitPos o_tailLen po), 0, 0) := by
  intro n
  induction n with
  | zero => intro o_kwChars o_kwLen o_kwRepl o_count o_pendLen v1 v2 v3 w_o_kwChars w_o_kwLen w_o_kwRepl w_o_count w_o_pendLen h; cases h
  | succ n ih =>
    intro o_kwChars o_kwLen o_kwRepl o_count o_pendLen v1 v2 v3 w_o_kwChars w_o_kwLen w_o_kwRepl w_o_count w_o_pendLen h
    unfold f_storePending_10 at h
    refine OEnds.adv hm_8 3 (pc' := 15) (L' := [.val (.ref 0), .val (.int v1), .val (.int v2), .val (.int v3)]) (S' := [.int o_pendLen, .int v3]) (H' := (bk0 o_kwChars o_kwLen o_kwRepl o_pend o_child o_delta o_fail o_depth o_term o_outMask o_queue o_text o_masks o_out o_tail o_maxKw o_maxLen o_phaseNow o_count o_pendLen o_nodeCount o_longestKw o_n o_state o_total o_outLen o_commitPos o_tailLen po)) rfl ?_
    by_cases hc25 : v3 < o_pendLen
    · simp only [if_pos hc25] at h
      refine OEnds.icmpF hm_8 rfl ((tlt hc25).2.1) ?_
      refine OEnds.adv hm_8 2 (pc' := 21) (L' := [.val (.ref 0), .val (.int v1), .val (.int v2), .val (.int v3)]) (S' := [.int 8, .int v3]) (H' := (bk0 o_kwChars o_kwLen o_kwRepl o_pend o_child o_delta o_fail o_depth o_term o_outMask o_queue o_text o_masks o_out o_tail o_maxKw o_maxLen o_phaseNow o_count o_pendLen o_nodeCount o_longestKw o_n o_state o_total o_outLen o_commitPos o_tailLen po)) rfl ?_
      by_cases hc26 : v3 < (8 : Int32)
      · simp only [if_pos hc26] at h
        refine OEnds.icmpF hm_8 rfl ((tlt hc26).2.1) ?_
        refine OEnds.adv hm_8 8 (pc' := 36) (L' := [.val (.ref 0), .val (.int v1), .val (.int v2), .val (.int v3)]) (S' := [.int v3, .ref 4, .int (v2 + v3), .ref 1]) (H' := (bk0 o_kwChars o_kwLen o_kwRepl o_pend o_child o_delta o_fail o_depth o_term o_outMask o_queue o_text o_masks o_out o_tail o_maxKw o_maxLen o_phaseNow o_count o_pendLen o_nodeCount o_longestKw o_n o_state o_total o_outLen o_commitPos o_tailLen po)) rfl ?_
        obtain ⟨x14, hx14, h⟩ := bnd h
        refine OEnds.plain hm_8 rfl rfl (x_iaload rfl hx14) ?_
        show OEnds own_P 8 37 [.val (.ref 0), .val (.int v1), .val (.int v2), .val (.int v3)] [.int x14, .int (v2 + v3), .ref 1] (bk0 o_kwChars o_kwLen o_kwRepl o_pend o_child o_delta o_fail o_depth o_term o_outMask o_queue o_text o_masks o_out o_tail o_maxKw o_maxLen o_phaseNow o_count o_pendLen o_nodeCount o_longestKw o_n o_state o_total o_outLen o_commitPos o_tailLen po) _
        obtain ⟨A15, hA15, h⟩ := bnd h
        refine OEnds.plain hm_8 rfl rfl (x_iastore rfl (Nat.le_of_ble_eq_true rfl) hA15) ?_
        refine OEnds.adv hm_8 2 (pc' := 10) (L' := [.val (.ref 0), .val (.int v1), .val (.int v2), .val (.int (v3 + (1 : Int32)))]) (S' := []) (H' := (bk0 A15 o_kwLen o_kwRepl o_pend o_child o_delta o_fail o_depth o_term o_outMask o_queue o_text o_masks o_out o_tail o_maxKw o_maxLen o_phaseNow o_count o_pendLen o_nodeCount o_longestKw o_n o_state o_total o_outLen o_commitPos o_tailLen po)) rfl ?_
        exact ih h
      · simp only [if_neg hc26] at h
        refine OEnds.icmpT hm_8 rfl (q := 44) rfl ((flt hc26).2.1) ?_
        show OEnds own_P 8 44 [.val (.ref 0), .val (.int v1), .val (.int v2), .val (.int v3)] [] (bk0 o_kwChars o_kwLen o_kwRepl o_pend o_child o_delta o_fail o_depth o_term o_outMask o_queue o_text o_masks o_out o_tail o_maxKw o_maxLen o_phaseNow o_count o_pendLen o_nodeCount o_longestKw o_n o_state o_total o_outLen o_commitPos o_tailLen po) _
        exact hk44 h
    · simp only [if_neg hc25] at h
      refine OEnds.icmpT hm_8 rfl (q := 44) rfl ((flt hc25).2.1) ?_
      show OEnds own_P 8 44 [.val (.ref 0), .val (.int v1), .val (.int v2), .val (.int v3)] [] (bk0 o_kwChars o_kwLen o_kwRepl o_pend o_child o_delta o_fail o_depth o_term o_outMask o_queue o_text o_masks o_out o_tail o_maxKw o_maxLen o_phaseNow o_count o_pendLen o_nodeCount o_longestKw o_n o_state o_total o_outLen o_commitPos o_tailLen po) _
      exact hk44 h
theorem ok_storePending {o_pend : List Int32} {o_child : List Int32} {o_delta : List Int32} {o_fail : List Int32} {o_depth : List Int32} {o_term : List Int32} {o_outMask : List Int32} {o_queue : List Int32} {o_text : List Int32} {o_masks : List Int32} {o_out : List Int32} {o_tail : List Int32} {o_maxKw : Int32} {o_maxLen : Int32} {o_phaseNow : Int32} {o_nodeCount : Int32} {o_longestKw : Int32} {o_n : Int32} {o_state : Int32} {o_total : Int32} {o_outLen : Int32} {o_commitPos : Int32} {o_tailLen : Int32} {po : List ACell} {o_kwChars : List Int32} {o_kwLen : List Int32} {o_kwRepl : List Int32} {o_count : Int32} {o_pendLen : Int32} {v1 : Int32} {w_o_kwChars : List Int32} {w_o_kwLen : List Int32} {w_o_kwRepl : List Int32} {w_o_count : Int32} {w_o_pendLen : Int32} (h : f_storePending o_pend o_kwChars o_kwLen o_kwRepl o_count o_pendLen v1 = some (w_o_kwChars, w_o_kwLen, w_o_kwRepl, w_o_count, w_o_pendLen)) : OEnds own_P 8 0 [.val (.ref 0), .val (.int v1), .unset, .unset] [] (bk0 o_kwChars o_kwLen o_kwRepl o_pend o_child o_delta o_fail o_depth o_term o_outMask o_queue o_text o_masks o_out o_tail o_maxKw o_maxLen o_phaseNow o_count o_pendLen o_nodeCount o_longestKw o_n o_state o_total o_outLen o_commitPos o_tailLen po) (none, (bk0 w_o_kwChars w_o_kwLen w_o_kwRepl o_pend o_child o_delta o_fail o_depth o_term o_outMask o_queue o_text o_masks o_out o_tail o_maxKw o_maxLen o_phaseNow w_o_count w_o_pendLen o_nodeCount o_longestKw o_n o_state o_total o_outLen o_commitPos o_tailLen po), 0, 0) := by
  unfold f_storePending at h
  refine OEnds.adv hm_8 7 (pc' := 10) (L' := [.val (.ref 0), .val (.int v1), .val (.int (o_count * (8 : Int32))), .val (.int 0)]) (S' := []) (H' := (bk0 o_kwChars o_kwLen o_kwRepl o_pend o_child o_delta o_fail o_depth o_term o_outMask o_queue o_text o_masks o_out o_tail o_maxKw o_maxLen o_phaseNow o_count o_pendLen o_nodeCount o_longestKw o_n o_state o_total o_outLen o_commitPos o_tailLen po)) rfl ?_
  exact ok_storePending_10 (k44 := f_storePending_44 o_pend) ok_storePending_44 100000 h
theorem ok_endKeyword {o_pend : List Int32} {o_child : List Int32} {o_delta : List Int32} {o_fail : List Int32} {o_depth : List Int32} {o_term : List Int32} {o_outMask : List Int32} {o_queue : List Int32} {o_text : List Int32} {o_masks : List Int32} {o_out : List Int32} {o_tail : List Int32} {o_maxKw : Int32} {o_maxLen : Int32} {o_phaseNow : Int32} {o_nodeCount : Int32} {o_longestKw : Int32} {o_n : Int32} {o_state : Int32} {o_total : Int32} {o_outLen : Int32} {o_commitPos : Int32} {o_tailLen : Int32} {po : List ACell} {o_kwChars : List Int32} {o_kwLen : List Int32} {o_kwRepl : List Int32} {o_count : Int32} {o_pendLen : Int32} {v1 : Int32} {res : Int32} {w_o_kwChars : List Int32} {w_o_kwLen : List Int32} {w_o_kwRepl : List Int32} {w_o_count : Int32} {w_o_pendLen : Int32} (h : f_endKeyword o_pend o_phaseNow o_kwChars o_kwLen o_kwRepl o_count o_pendLen v1 = some (res, w_o_kwChars, w_o_kwLen, w_o_kwRepl, w_o_count, w_o_pendLen)) : OEnds own_P 5 0 [.val (.ref 0), .val (.int v1)] [] (bk0 o_kwChars o_kwLen o_kwRepl o_pend o_child o_delta o_fail o_depth o_term o_outMask o_queue o_text o_masks o_out o_tail o_maxKw o_maxLen o_phaseNow o_count o_pendLen o_nodeCount o_longestKw o_n o_state o_total o_outLen o_commitPos o_tailLen po) (some (.int res), (bk0 w_o_kwChars w_o_kwLen w_o_kwRepl o_pend o_child o_delta o_fail o_depth o_term o_outMask o_queue o_text o_masks o_out o_tail o_maxKw o_maxLen o_phaseNow w_o_count w_o_pendLen o_nodeCount o_longestKw o_n o_state o_total o_outLen o_commitPos o_tailLen po), 0, 0) := by
  unfold f_endKeyword at h
  refine OEnds.adv hm_5 2 (pc' := 4) (L' := [.val (.ref 0), .val (.int v1)]) (S' := [.int o_phaseNow]) (H' := (bk0 o_kwChars o_kwLen o_kwRepl o_pend o_child o_delta o_fail o_depth o_term o_outMask o_queue o_text o_masks o_out o_tail o_maxKw o_maxLen o_phaseNow o_count o_pendLen o_nodeCount o_longestKw o_n o_state o_total o_outLen o_commitPos o_tailLen po)) rfl ?_
  by_cases hc27 : o_phaseNow = (0 : Int32)
  · simp only [if_pos hc27] at h
    refine OEnds.ifT hm_5 rfl (q := 9) rfl ((teq hc27).1) ?_
    refine OEnds.adv hm_5 2 (pc' := 13) (L' := [.val (.ref 0), .val (.int v1)]) (S' := [.int o_pendLen]) (H' := (bk0 o_kwChars o_kwLen o_kwRepl o_pend o_child o_delta o_fail o_depth o_term o_outMask o_queue o_text o_masks o_out o_tail o_maxKw o_maxLen o_phaseNow o_count o_pendLen o_nodeCount o_longestKw o_n o_state o_total o_outLen o_commitPos o_tailLen po)) rfl ?_
    by_cases hc28 : o_pendLen = (0 : Int32)
    · simp only [if_pos hc28] at h
      refine OEnds.ifF hm_5 rfl ((teq hc28).2) ?_
      refine OEnds.adv hm_5 1 (pc' := 18) (L' := [.val (.ref 0), .val (.int v1)]) (S' := [.int (-4)]) (H' := (bk0 o_kwChars o_kwLen o_kwRepl o_pend o_child o_delta o_fail o_depth o_term o_outMask o_queue o_text o_masks o_out o_tail o_maxKw o_maxLen o_phaseNow o_count o_pendLen o_nodeCount o_longestKw o_n o_state o_total o_outLen o_commitPos o_tailLen po)) rfl ?_
      cases h
      exact OEnds.iret hm_5 rfl rfl
    · simp only [if_neg hc28] at h
      refine OEnds.ifT hm_5 rfl (q := 19) rfl ((feq hc28).2) ?_
      refine OEnds.adv hm_5 2 (pc' := 21) (L' := [.val (.ref 0), .val (.int v1)]) (S' := [.int v1, .ref 0]) (H' := (bk0 o_kwChars o_kwLen o_kwRepl o_pend o_child o_delta o_fail o_depth o_term o_outMask o_queue o_text o_masks o_out o_tail o_maxKw o_maxLen o_phaseNow o_count o_pendLen o_nodeCount o_longestKw o_n o_state o_total o_outLen o_commitPos o_tailLen po)) rfl ?_
      obtain ⟨r18, hq29, h⟩ := bnd h
      refine OEnds.call0 hm_5 rfl rfl (by decide) rfl (as := [.ref 0, .int v1]) (rest := []) rfl rfl (ok_isPrintable hq29) ?_
      show OEnds own_P 5 24 [.val (.ref 0), .val (.int v1)] [.int r18] (bk0 o_kwChars o_kwLen o_kwRepl o_pend o_child o_delta o_fail o_depth o_term o_outMask o_queue o_text o_masks o_out o_tail o_maxKw o_maxLen o_phaseNow o_count o_pendLen o_nodeCount o_longestKw o_n o_state o_total o_outLen o_commitPos o_tailLen po) _
      by_cases hc30 : r18 = (0 : Int32)
      · simp only [if_pos hc30] at h
        refine OEnds.ifF hm_5 rfl ((teq hc30).2) ?_
        refine OEnds.adv hm_5 1 (pc' := 29) (L' := [.val (.ref 0), .val (.int v1)]) (S' := [.int (-6)]) (H' := (bk0 o_kwChars o_kwLen o_kwRepl o_pend o_child o_delta o_fail o_depth o_term o_outMask o_queue o_text o_masks o_out o_tail o_maxKw o_maxLen o_phaseNow o_count o_pendLen o_nodeCount o_longestKw o_n o_state o_total o_outLen o_commitPos o_tailLen po)) rfl ?_
        cases h
        exact OEnds.iret hm_5 rfl rfl
      · simp only [if_neg hc30] at h
        refine OEnds.ifT hm_5 rfl (q := 30) rfl ((feq hc30).2) ?_
        refine OEnds.adv hm_5 1 (pc' := 31) (L' := [.val (.ref 0), .val (.int v1)]) (S' := [.ref 0]) (H' := (bk0 o_kwChars o_kwLen o_kwRepl o_pend o_child o_delta o_fail o_depth o_term o_outMask o_queue o_text o_masks o_out o_tail o_maxKw o_maxLen o_phaseNow o_count o_pendLen o_nodeCount o_longestKw o_n o_state o_total o_outLen o_commitPos o_tailLen po)) rfl ?_
        obtain ⟨r19, hq31, h⟩ := bnd h
        refine OEnds.call0 hm_5 rfl rfl (by decide) rfl (as := [.ref 0]) (rest := []) rfl rfl (ok_pendingIsDuplicate hq31) ?_
        show OEnds own_P 5 34 [.val (.ref 0), .val (.int v1)] [.int r19] (bk0 o_kwChars o_kwLen o_kwRepl o_pend o_child o_delta o_fail o_depth o_term o_outMask o_queue o_text o_masks o_out o_tail o_maxKw o_maxLen o_phaseNow o_count o_pendLen o_nodeCount o_longestKw o_n o_state o_total o_outLen o_commitPos o_tailLen po) _
        by_cases hc32 : r19 = (0 : Int32)
        · simp only [if_pos hc32] at h
          refine OEnds.ifT hm_5 rfl (q := 40) rfl ((teq hc32).1) ?_
          refine OEnds.adv hm_5 3 (pc' := 46) (L' := [.val (.ref 0), .val (.int v1)]) (S' := [.int 16, .int o_count]) (H' := (bk0 o_kwChars o_kwLen o_kwRepl o_pend o_child o_delta o_fail o_depth o_term o_outMask o_queue o_text o_masks o_out o_tail o_maxKw o_maxLen o_phaseNow o_count o_pendLen o_nodeCount o_longestKw o_n o_state o_total o_outLen o_commitPos o_tailLen po)) rfl ?_
          by_cases hc33 : o_count < (16 : Int32)
          · simp only [if_pos hc33] at h
            refine OEnds.icmpT hm_5 rfl (q := 52) rfl ((tlt hc33).1) ?_
            refine OEnds.adv hm_5 2 (pc' := 54) (L' := [.val (.ref 0), .val (.int v1)]) (S' := [.int v1, .ref 0]) (H' := (bk0 o_kwChars o_kwLen o_kwRepl o_pend o_child o_delta o_fail o_depth o_term o_outMask o_queue o_text o_masks o_out o_tail o_maxKw o_maxLen o_phaseNow o_count o_pendLen o_nodeCount o_longestKw o_n o_state o_total o_outLen o_commitPos o_tailLen po)) rfl ?_
            obtain ⟨⟨s20, s21, s22, s23, s24⟩, hq34, h⟩ := bnd h
            refine OEnds.call0 hm_5 rfl rfl (by decide) rfl (as := [.ref 0, .int v1]) (rest := []) rfl rfl (ok_storePending hq34) ?_
            refine OEnds.adv hm_5 4 (pc' := 63) (L' := [.val (.ref 0), .val (.int v1)]) (S' := [.int (s23 - (1 : Int32))]) (H' := (bk0 s20 s21 s22 o_pend o_child o_delta o_fail o_depth o_term o_outMask o_queue o_text o_masks o_out o_tail o_maxKw o_maxLen o_phaseNow s23 s24 o_nodeCount o_longestKw o_n o_state o_total o_outLen o_commitPos o_tailLen po)) rfl ?_
            cases h
            exact OEnds.iret hm_5 rfl rfl
          · simp only [if_neg hc33] at h
            refine OEnds.icmpF hm_5 rfl ((flt hc33).1) ?_
            refine OEnds.adv hm_5 1 (pc' := 51) (L' := [.val (.ref 0), .val (.int v1)]) (S' := [.int (-3)]) (H' := (bk0 o_kwChars o_kwLen o_kwRepl o_pend o_child o_delta o_fail o_depth o_term o_outMask o_queue o_text o_masks o_out o_tail o_maxKw o_maxLen o_phaseNow o_count o_pendLen o_nodeCount o_longestKw o_n o_state o_total o_outLen o_commitPos o_tailLen po)) rfl ?_
            cases h
            exact OEnds.iret hm_5 rfl rfl
        · simp only [if_neg hc32] at h
          refine OEnds.ifF hm_5 rfl ((feq hc32).1) ?_
          refine OEnds.adv hm_5 1 (pc' := 39) (L' := [.val (.ref 0), .val (.int v1)]) (S' := [.int (-5)]) (H' := (bk0 o_kwChars o_kwLen o_kwRepl o_pend o_child o_delta o_fail o_depth o_term o_outMask o_queue o_text o_masks o_out o_tail o_maxKw o_maxLen o_phaseNow o_count o_pendLen o_nodeCount o_longestKw o_n o_state o_total o_outLen o_commitPos o_tailLen po)) rfl ?_
          cases h
          exact OEnds.iret hm_5 rfl rfl
  · simp only [if_neg hc27] at h
    refine OEnds.ifF hm_5 rfl ((feq hc27).1) ?_
    refine OEnds.adv hm_5 1 (pc' := 8) (L' := [.val (.ref 0), .val (.int v1)]) (S' := [.int (-1)]) (H' := (bk0 o_kwChars o_kwLen o_kwRepl o_pend o_child o_delta o_fail o_depth o_term o_outMask o_queue o_text o_masks o_out o_tail o_maxKw o_maxLen o_phaseNow o_count o_pendLen o_nodeCount o_longestKw o_n o_state o_total o_outLen o_commitPos o_tailLen po)) rfl ?_
    cases h
    exact OEnds.iret hm_5 rfl rfl
theorem ok_insertKeyword_137 {o_kwChars : List Int32} {o_kwLen : List Int32} {o_kwRepl : List Int32} {o_pend : List Int32} {o_delta : List Int32} {o_fail : List Int32} {o_queue : List Int32} {o_text : List Int32} {o_masks : List Int32} {o_out : List Int32} {o_tail : List Int32} {o_maxKw : Int32} {o_maxLen : Int32} {o_phaseNow : Int32} {o_count : Int32} {o_pendLen : Int32} {o_longestKw : Int32} {o_n : Int32} {o_state : Int32} {o_total : Int32} {o_outLen : Int32} {o_commitPos : Int32} {o_tailLen : Int32} {po : List ACell} : ∀ {o_child : List Int32} {o_depth : List Int32} {o_term : List Int32} {o_outMask : List Int32} {o_nodeCount : Int32} {v1 : Int32} {v2 : Int32} {d3 d4 d5 d6 : Slot} {w_o_child : List Int32} {w_o_depth : List Int32} {w_o_term : List Int32} {w_o_outMask : List Int32} {w_o_nodeCount : Int32}, f_insertKeyword_137 o_kwChars o_kwLen o_child o_depth o_term o_outMask o_nodeCount v1 v2 = some (w_o_child, w_o_depth, w_o_term, w_o_outMask, w_o_nodeCount) → OEnds own_P 12 137 [.val (.ref 0), .val (.int v1), .val (.int v2), d3, d4, d5, d6] [] (bk0 o_kwChars o_kwLen o_kwRepl o_pend o_child o_delta o_fail o_depth o_term o_outMask o_queue o_text o_masks o_out o_tail o_maxKw o_maxLen o_phaseNow o_count o_pendLen o_nodeCount o_longestKw o_n o_state o_total o_outLen o_commitPos o_tailLen po) (none, (bk0 o_kwChars o_kwLen o_kwRepl o_pend w_o_child o_delta o_fail w_o_depth w_o_term w_o_outMask o_queue o_text o_masks o_out o_tail o_maxKw o_maxLen o_phaseNow o_count o_pendLen w_o_nodeCount o_longestKw o_n o_state o_total o_outLen o_commitPos o_tailLen po), 0, 0) := by
  intro o_child o_depth o_term o_outMask o_nodeCount v1 v2 d3 d4 d5 d6 w_o_child w_o_depth w_o_term w_o_outMask w_o_nodeCount h
  unfold f_insertKeyword_137 at h
  refine OEnds.adv hm_12 4 (pc' := 143) (L' := [.val (.ref 0), .val (.int v1), .val (.int v2), .unset, .unset, .unset, .unset]) (S' := [.int v1, .int v2, .ref 9]) (H' := (bk0 o_kwChars o_kwLen o_kwRepl o_pend o_child o_delta o_fail o_depth o_term o_outMask o_queue o_text o_masks o_out o_tail o_maxKw o_maxLen o_phaseNow o_count o_pendLen o_nodeCount o_longestKw o_n o_state o_total o_outLen o_commitPos o_tailLen po)) rfl ?_
  obtain ⟨A32, hA32, h⟩ := bnd h
  refine OEnds.plain hm_12 rfl rfl (x_iastore rfl (Nat.le_of_ble_eq_true rfl) hA32) ?_
  refine OEnds.adv hm_12 6 (pc' := 154) (L' := [.val (.ref 0), .val (.int v1), .val (.int v2), .unset, .unset, .unset, .unset]) (S' := [.int v2, .ref 10, .int v2, .ref 10]) (H' := (bk0 o_kwChars o_kwLen o_kwRepl o_pend o_child o_delta o_fail o_depth A32 o_outMask o_queue o_text o_masks o_out o_tail o_maxKw o_maxLen o_phaseNow o_count o_pendLen o_nodeCount o_longestKw o_n o_state o_total o_outLen o_commitPos o_tailLen po)) rfl ?_
  obtain ⟨x33, hx33, h⟩ := bnd h
  refine OEnds.plain hm_12 rfl rfl (x_iaload rfl hx33) ?_
  refine OEnds.adv hm_12 4 (pc' := 159) (L' := [.val (.ref 0), .val (.int v1), .val (.int v2), .unset, .unset, .unset, .unset]) (S' := [.int (x33 ||| ((1 : Int32) <<< (v1 &&& 31))), .int v2, .ref 10]) (H' := (bk0 o_kwChars o_kwLen o_kwRepl o_pend o_child o_delta o_fail o_depth A32 o_outMask o_queue o_text o_masks o_out o_tail o_maxKw o_maxLen o_phaseNow o_count o_pendLen o_nodeCount o_longestKw o_n o_state o_total o_outLen o_commitPos o_tailLen po)) rfl ?_
  obtain ⟨A34, hA34, h⟩ := bnd h
  refine OEnds.plain hm_12 rfl rfl (x_iastore rfl (Nat.le_of_ble_eq_true rfl) hA34) ?_
  show OEnds own_P 12 160 [.val (.ref 0), .val (.int v1), .val (.int v2), .unset, .unset, .unset, .unset] [] (bk0 o_kwChars o_kwLen o_kwRepl o_pend o_child o_delta o_fail o_depth A32 A34 o_queue o_text o_masks o_out o_tail o_maxKw o_maxLen o_phaseNow o_count o_pendLen o_nodeCount o_longestKw o_n o_state o_total o_outLen o_commitPos o_tailLen po) _
  cases h
  exact OEnds.vret hm_12 rfl rfl
theorem ok_insertKeyword_123 {o_kwChars : List Int32} {o_kwLen : List Int32} {o_kwRepl : List Int32} {o_pend : List Int32} {o_delta : List Int32} {o_fail : List Int32} {o_queue : List Int32} {o_text : List Int32} {o_masks : List Int32} {o_out : List Int32} {o_tail : List Int32} {o_maxKw : Int32} {o_maxLen : Int32} {o_phaseNow : Int32} {o_count : Int32} {o_pendLen : Int32} {o_longestKw : Int32} {o_n : Int32} {o_state : Int32} {o_total : Int32} {o_outLen : Int32} {o_commitPos : Int32} {o_tailLen : Int32} {po : List ACell} {kb : List Int32 → List Int32 → List Int32 → List Int32 → Int32 → Int32 → Int32 → Int32 → Int32 → Option (List Int32 × List Int32 × List Int32 × List Int32 × Int32)} {k137 : List Int32 → List Int32 → List Int32 → List Int32 → Int32 → Int32 → Int32 → Option (List Int32 × List Int32 × List Int32 × List Int32 × Int32)} (hkb : ∀ {o_child : List Int32} {o_depth : List Int32} {o_term : List Int32} {o_outMask : List Int32} {o_nodeCount : Int32} {v1 : Int32} {v2 : Int32} {v3 : Int32} {v4 : Int32} {d5 d6 : Slot} {w_o_child : List Int32} {w_o_depth : List Int32} {w_o_term : List Int32} {w_o_outMask : List Int32} {w_o_nodeCount : Int32}, kb o_child o_depth o_term o_outMask o_nodeCount v1 v2 v3 v4 = some (w_o_child, w_o_depth, w_o_term, w_o_outMask, w_o_nodeCount) → OEnds own_P 12 10 [.val (.ref 0), .val (.int v1), .val (.int v2), .val (.int v3), .val (.int v4), d5, d6] [] (bk0 o_kwChars o_kwLen o_kwRepl o_pend o_child o_delta o_fail o_depth o_term o_outMask o_queue o_text o_masks o_out o_tail o_maxKw o_maxLen o_phaseNow o_count o_pendLen o_nodeCount o_longestKw o_n o_state o_total o_outLen o_commitPos o_tailLen po) (none, (bk0 o_kwChars o_kwLen o_kwRepl o_pend w_o_child o_delta o_fail w_o_depth w_o_term w_o_outMask o_queue o_text o_masks o_out o_tail o_maxKw o_maxLen o_phaseNow o_count o_pendLen w_o_nodeCount o_longestKw o_n o_state o_total o_outLen o_commitPos o_tailLen po), 0, 0)) (hk137 : ∀ {o_child : List Int32} {o_depth : List Int32} {o_term : List Int32} {o_outMask : List Int32} {o_nodeCount : Int32} {v1 : Int32} {v2 : Int32} {d3 d4 d5 d6 : Slot} {w_o_child : List Int32} {w_o_depth : List Int32} {w_o_term : List Int32} {w_o_outMask : List Int32} {w_o_nodeCount : Int32}, k137 o_child o_depth o_term o_outMask o_nodeCount v1 v2 = some (w_o_child, w_o_depth, w_o_term, w_o_outMask, w_o_nodeCount) → OEnds own_P 12 137 [.val (.ref 0), .val (.int v1), .val (.int v2), d3, d4, d5, d6] [] (bk0 o_kwChars o_kwLen o_kwRepl o_pend o_child o_delta o_fail o_depth o_term o_outMask o_queue o_text o_masks o_out o_tail o_maxKw o_maxLen o_phaseNow o_count o_pendLen o_nodeCount o_longestKw o_n o_state o_total o_outLen o_commitPos o_tailLen po) (none, (bk0 o_kwChars o_kwLen o_kwRepl o_pend w_o_child o_delta o_fail w_o_depth w_o_term w_o_outMask o_queue o_text o_masks o_out o_tail o_maxKw o_maxLen o_phaseNow o_count o_pendLen w_o_nodeCount o_longestKw o_n o_state o_total o_outLen o_commitPos o_tailLen po), 0, 0)) : ∀ {o_child : List Int32} {o_depth : List Int32} {o_term : List Int32} {o_outMask : List Int32} {o_nodeCount : Int32} {v1 : Int32} {v3 : Int32} {v4 : Int32} {v6 : Int32} {d2 d5 : Slot} {w_o_child : List Int32} {w_o_depth : List Int32} {w_o_term : List Int32} {w_o_outMask : List Int32} {w_o_nodeCount : Int32}, f_insertKeyword_123 kb k137 o_kwChars o_kwLen o_child o_depth o_term o_outMask o_nodeCount v1 v3 v4 v6 = some (w_o_child, w_o_depth, w_o_term, w_o_outMask, w_o_nodeCount) → OEnds own_P 12 123 [.val (.ref 0), .val (.int v1), d2, .val (.int v3), .val (.int v4), d5, .val (.int v6)] [] (bk0 o_kwChars o_kwLen o_kwRepl o_pend o_child o_delta o_fail o_depth o_term o_outMask o_queue o_text o_masks o_out o_tail o_maxKw o_maxLen o_phaseNow o_count o_pendLen o_nodeCount o_longestKw o_n o_state o_total o_outLen o_commitPos o_tailLen po) (none, (bk0 o_kwChars o_kwLen o_kwRepl o_pend w_o_child o_delta o_fail w_o_depth w_o_term w_o_outMask o_queue o_text o_masks o_out o_tail o_maxKw o_maxLen o_phaseNow o_count o_pendLen w_o_nodeCount o_longestKw o_n o_state o_total o_outLen o_commitPos o_tailLen po), 0, 0) := by
  intro o_child o_depth o_term o_outMask o_nodeCount v1 v3 v4 v6 d2 d5 w_o_child w_o_depth w_o_term w_o_outMask w_o_nodeCount h
  unfold f_insertKeyword_123 at h
  refine OEnds.adv hm_12 3 (pc' := 129) (L' := [.val (.ref 0), .val (.int v1), .unset, .val (.int v3), .val (.int v4), .unset, .val (.int v6)]) (S' := [.int v6, .ref 5]) (H' := (bk0 o_kwChars o_kwLen o_kwRepl o_pend o_child o_delta o_fail o_depth o_term o_outMask o_queue o_text o_masks o_out o_tail o_maxKw o_maxLen o_phaseNow o_count o_pendLen o_nodeCount o_longestKw o_n o_state o_total o_outLen o_commitPos o_tailLen po)) rfl ?_
  obtain ⟨x31, hx31, h⟩ := bnd h
  refine OEnds.plain hm_12 rfl rfl (x_iaload rfl hx31) ?_
  refine OEnds.adv hm_12 3 (pc' := 10) (L' := [.val (.ref 0), .val (.int v1), .val (.int x31), .val (.int v3), .val (.int (v4 + (1 : Int32))), .unset, .val (.int v6)]) (S' := []) (H' := (bk0 o_kwChars o_kwLen o_kwRepl o_pend o_child o_delta o_fail o_depth o_term o_outMask o_queue o_text o_masks o_out o_tail o_maxKw o_maxLen o_phaseNow o_count o_pendLen o_nodeCount o_longestKw o_n o_state o_total o_outLen o_commitPos o_tailLen po)) rfl ?_
  exact hkb h
theorem ok_insertKeyword_10 {o_kwChars : List Int32} {o_kwLen : List Int32} {o_kwRepl : List Int32} {o_pend : List Int32} {o_delta : List Int32} {o_fail : List Int32} {o_queue : List Int32} {o_text : List Int32} {o_masks : List Int32} {o_out : List Int32} {o_tail : List Int32} {o_maxKw : Int32} {o_maxLen : Int32} {o_phaseNow : Int32} {o_count : Int32} {o_pendLen : Int32} {o_longestKw : Int32} {o_n : Int32} {o_state : Int32} {o_total : Int32} {o_outLen : Int32} {o_commitPos : Int32} {o_tailLen : Int32} {po : List ACell} {k137 : List Int32 → List Int32 → List Int32 → List Int32 → Int32 → Int32 → Int32 → Option (List Int32 × List Int32 × List Int32 × List Int32 × Int32)} (hk137 : ∀ {o_child : List Int32} {o_depth : List Int32} {o_term : List Int32} {o_outMask : List Int32} {o_nodeCount : Int32} {v1 : Int32} {v2 : Int32} {d3 d4 d5 d6 : Slot} {w_o_child : List Int32} {w_o_depth : List Int32} {w_o_term : List Int32} {w_o_outMask : List Int32} {w_o_nodeCount : Int32}, k137 o_child o_depth o_term o_outMask o_nodeCount v1 v2 = some (w_o_child, w_o_depth, w_o_term, w_o_outMask, w_o_nodeCount) → OEnds own_P 12 137 [.val (.ref 0), .val (.int v1), .val (.int v2), d3, d4, d5, d6] [] (bk0 o_kwChars o_kwLen o_kwRepl o_pend o_child o_delta o_fail o_depth o_term o_outMask o_queue o_text o_masks o_out o_tail o_maxKw o_maxLen o_phaseNow o_count o_pendLen o_nodeCount o_longestKw o_n o_state o_total o_outLen o_commitPos o_tailLen po) (none, (bk0 o_kwChars o_kwLen o_kwRepl o_pend w_o_child o_delta o_fail w_o_depth w_o_term w_o_outMask o_queue o_text o_masks o_out o_tail o_maxKw o_maxLen o_phaseNow o_count o_pendLen w_o_nodeCount o_longestKw o_n o_state o_total o_outLen o_commitPos o_tailLen po), 0, 0)) : ∀ (n : Nat), ∀ {o_child : List Int32} {o_depth : List Int32} {o_term : List Int32} {o_outMask : List Int32} {o_nodeCount : Int32} {v1 : Int32} {v2 : Int32} {v3 : Int32} {v4 : Int32} {d5 d6 : Slot} {w_o_child : List Int32} {w_o_depth : List Int32} {w_o_term : List Int32} {w_o_outMask : List Int32} {w_o_nodeCount : Int32}, f_insertKeyword_10 k137 o_kwChars o_kwLen n o_child o_depth o_term o_outMask o_nodeCount v1 v2 v3 v4 = some (w_o_child, w_o_depth, w_o_term, w_o_outMask, w_o_nodeCount) → OEnds own_P 12 10 [.val (.ref 0), .val (.int v1), .val (.int v2), .val (.int v3), .val (.int v4), d5, d6] [] (bk0 o_kwChars o_kwLen o_kwRepl o_pend o_child o_delta o_fail o_depth o_term o_outMask o_queue o_text o_masks o_out o_tail o_maxKw o_maxLen o_phaseNow o_count o_pendLen o_nodeCount o_longestKw o_n o_state o_total o_outLen o_commitPos o_tailLen po) (none, (bk0 o_kwChars o_kwLen o_kwRepl o_pend w_o_child o_delta o_fail w_o_depth w_o_term w_o_outMask o_queue o_text o_masks o_out o_tail o_maxKw o_maxLen o_phaseNow o_count o_pendLen w_o_nodeCount o_longestKw o_n o_state o_total o_outLen o_commitPos o_tailLen po), 0, 0) := by
  intro n
  induction n with
  | zero => intro o_child o_depth o_term o_outMask o_nodeCount v1 v2 v3 v4 d5 d6 w_o_child w_o_depth w_o_term w_o_outMask w_o_nodeCount h; cases h
  | succ n ih =>
    intro o_child o_depth o_term o_outMask o_nodeCount v1 v2 v3 v4 d5 d6 w_o_child w_o_depth w_o_term w_o_outMask w_o_nodeCount h
    unfold f_insertKeyword_10 at h
    refine OEnds.adv hm_12 4 (pc' := 17) (L' := [.val (.ref 0), .val (.int v1), .val (.int v2), .val (.int v3), .val (.int v4), .unset, .unset]) (S' := [.int v1, .ref 2, .int v4]) (H' := (bk0 o_kwChars o_kwLen o_kwRepl o_pend o_child o_delta o_fail o_depth o_term o_outMask o_queue o_text o_masks o_out o_tail o_maxKw o_maxLen o_phaseNow o_count o_pendLen o_nodeCount o_longestKw o_n o_state o_total o_outLen o_commitPos o_tailLen po)) rfl ?_
    obtain ⟨x25, hx25, h⟩ := bnd h
    refine OEnds.plain hm_12 rfl rfl (x_iaload rfl hx25) ?_
    show OEnds own_P 12 18 [.val (.ref 0), .val (.int v1), .val (.int v2), .val (.int v3), .val (.int v4), .unset, .unset] [.int x25, .int v4] (bk0 o_kwChars o_kwLen o_kwRepl o_pend o_child o_delta o_fail o_depth o_term o_outMask o_queue o_text o_masks o_out o_tail o_maxKw o_maxLen o_phaseNow o_count o_pendLen o_nodeCount o_longestKw o_n o_state o_total o_outLen o_commitPos o_tailLen po) _
    by_cases hc35 : v4 < x25
    · simp only [if_pos hc35] at h
      refine OEnds.icmpF hm_12 rfl ((tlt hc35).2.1) ?_
      refine OEnds.adv hm_12 2 (pc' := 25) (L' := [.val (.ref 0), .val (.int v1), .val (.int v2), .val (.int v3), .val (.int v4), .unset, .unset]) (S' := [.int 8, .int v4]) (H' := (bk0 o_kwChars o_kwLen o_kwRepl o_pend o_child o_delta o_fail o_depth o_term o_outMask o_queue o_text o_masks o_out o_tail o_maxKw o_maxLen o_phaseNow o_count o_pendLen o_nodeCount o_longestKw o_n o_state o_total o_outLen o_commitPos o_tailLen po)) rfl ?_
      by_cases hc36 : v4 < (8 : Int32)
      · simp only [if_pos hc36] at h
        refine OEnds.icmpF hm_12 rfl ((tlt hc36).2.1) ?_
        refine OEnds.adv hm_12 5 (pc' := 36) (L' := [.val (.ref 0), .val (.int v1), .val (.int v2), .val (.int v3), .val (.int v4), .unset, .unset]) (S' := [.int (v3 + v4), .ref 1]) (H' := (bk0 o_kwChars o_kwLen o_kwRepl o_pend o_child o_delta o_fail o_depth o_term o_outMask o_queue o_text o_masks o_out o_tail o_maxKw o_maxLen o_phaseNow o_count o_pendLen o_nodeCount o_longestKw o_n o_state o_total o_outLen o_commitPos o_tailLen po)) rfl ?_
        obtain ⟨x26, hx26, h⟩ := bnd h
        refine OEnds.plain hm_12 rfl rfl (x_iaload rfl hx26) ?_
        refine OEnds.adv hm_12 4 (pc' := 44) (L' := [.val (.ref 0), .val (.int v1), .val (.int v2), .val (.int v3), .val (.int v4), .val (.int (x26 - (97 : Int32))), .unset]) (S' := [.int (x26 - (97 : Int32))]) (H' := (bk0 o_kwChars o_kwLen o_kwRepl o_pend o_child o_delta o_fail o_depth o_term o_outMask o_queue o_text o_masks o_out o_tail o_maxKw o_maxLen o_phaseNow o_count o_pendLen o_nodeCount o_longestKw o_n o_state o_total o_outLen o_commitPos o_tailLen po)) rfl ?_
        by_cases hc37 : (x26 - (97 : Int32)) < (0 : Int32)
        · simp only [if_pos hc37] at h
          refine OEnds.ifT hm_12 rfl (q := 54) rfl ((tlt hc37).1) ?_
          show OEnds own_P 12 54 [.val (.ref 0), .val (.int v1), .val (.int v2), .val (.int v3), .val (.int v4), .val (.int (x26 - (97 : Int32))), .unset] [] (bk0 o_kwChars o_kwLen o_kwRepl o_pend o_child o_delta o_fail o_depth o_term o_outMask o_queue o_text o_masks o_out o_tail o_maxKw o_maxLen o_phaseNow o_count o_pendLen o_nodeCount o_longestKw o_n o_state o_total o_outLen o_commitPos o_tailLen po) _
          cases h
          exact OEnds.vret hm_12 rfl rfl
        · simp only [if_neg hc37] at h
          refine OEnds.ifF hm_12 rfl ((flt hc37).1) ?_
          refine OEnds.adv hm_12 2 (pc' := 51) (L' := [.val (.ref 0), .val (.int v1), .val (.int v2), .val (.int v3), .val (.int v4), .val (.int (x26 - (97 : Int32))), .unset]) (S' := [.int 26, .int (x26 - (97 : Int32))]) (H' := (bk0 o_kwChars o_kwLen o_kwRepl o_pend o_child o_delta o_fail o_depth o_term o_outMask o_queue o_text o_masks o_out o_tail o_maxKw o_maxLen o_phaseNow o_count o_pendLen o_nodeCount o_longestKw o_n o_state o_total o_outLen o_commitPos o_tailLen po)) rfl ?_
          by_cases hc38 : (x26 - (97 : Int32)) < (26 : Int32)
          · simp only [if_pos hc38] at h
            refine OEnds.icmpT hm_12 rfl (q := 55) rfl ((tlt hc38).1) ?_
            refine OEnds.adv hm_12 9 (pc' := 70) (L' := [.val (.ref 0), .val (.int v1), .val (.int v2), .val (.int v3), .val (.int v4), .val (.int (x26 - (97 : Int32))), .val (.int ((v2 * (26 : Int32)) + (x26 - (97 : Int32))))]) (S' := [.int ((v2 * (26 : Int32)) + (x26 - (97 : Int32))), .ref 5]) (H' := (bk0 o_kwChars o_kwLen o_kwRepl o_pend o_child o_delta o_fail o_depth o_term o_outMask o_queue o_text o_masks o_out o_tail o_maxKw o_maxLen o_phaseNow o_count o_pendLen o_nodeCount o_longestKw o_n o_state o_total o_outLen o_commitPos o_tailLen po)) rfl ?_
            obtain ⟨x27, hx27, h⟩ := bnd h
            refine OEnds.plain hm_12 rfl rfl (x_iaload rfl hx27) ?_
            show OEnds own_P 12 71 [.val (.ref 0), .val (.int v1), .val (.int v2), .val (.int v3), .val (.int v4), .val (.int (x26 - (97 : Int32))), .val (.int ((v2 * (26 : Int32)) + (x26 - (97 : Int32))))] [.int x27] (bk0 o_kwChars o_kwLen o_kwRepl o_pend o_child o_delta o_fail o_depth o_term o_outMask o_queue o_text o_masks o_out o_tail o_maxKw o_maxLen o_phaseNow o_count o_pendLen o_nodeCount o_longestKw o_n o_state o_total o_outLen o_commitPos o_tailLen po) _
            by_cases hc39 : x27 = (0 : Int32)
            · simp only [if_pos hc39] at h
              refine OEnds.ifF hm_12 rfl ((teq hc39).2) ?_
              refine OEnds.adv hm_12 3 (pc' := 81) (L' := [.val (.ref 0), .val (.int v1), .val (.int v2), .val (.int v3), .val (.int v4), .val (.int (x26 - (97 : Int32))), .val (.int ((v2 * (26 : Int32)) + (x26 - (97 : Int32))))]) (S' := [.int 129, .int o_nodeCount]) (H' := (bk0 o_kwChars o_kwLen o_kwRepl o_pend o_child o_delta o_fail o_depth o_term o_outMask o_queue o_text o_masks o_out o_tail o_maxKw o_maxLen o_phaseNow o_count o_pendLen o_nodeCount o_longestKw o_n o_state o_total o_outLen o_commitPos o_tailLen po)) rfl ?_
              by_cases hc40 : o_nodeCount < (129 : Int32)
              · simp only [if_pos hc40] at h
                refine OEnds.icmpT hm_12 rfl (q := 85) rfl ((tlt hc40).1) ?_
                refine OEnds.adv hm_12 5 (pc' := 95) (L' := [.val (.ref 0), .val (.int v1), .val (.int v2), .val (.int v3), .val (.int v4), .val (.int (x26 - (97 : Int32))), .val (.int ((v2 * (26 : Int32)) + (x26 - (97 : Int32))))]) (S' := [.int o_nodeCount, .int ((v2 * (26 : Int32)) + (x26 - (97 : Int32))), .ref 5]) (H' := (bk0 o_kwChars o_kwLen o_kwRepl o_pend o_child o_delta o_fail o_depth o_term o_outMask o_queue o_text o_masks o_out o_tail o_maxKw o_maxLen o_phaseNow o_count o_pendLen o_nodeCount o_longestKw o_n o_state o_total o_outLen o_commitPos o_tailLen po)) rfl ?_
                obtain ⟨A28, hA28, h⟩ := bnd h
                refine OEnds.plain hm_12 rfl rfl (x_iastore rfl (Nat.le_of_ble_eq_true rfl) hA28) ?_
                refine OEnds.adv hm_12 7 (pc' := 109) (L' := [.val (.ref 0), .val (.int v1), .val (.int v2), .val (.int v3), .val (.int v4), .val (.int (x26 - (97 : Int32))), .val (.int ((v2 * (26 : Int32)) + (x26 - (97 : Int32))))]) (S' := [.int v2, .ref 8, .int o_nodeCount, .ref 8]) (H' := (bk0 o_kwChars o_kwLen o_kwRepl o_pend A28 o_delta o_fail o_depth o_term o_outMask o_queue o_text o_masks o_out o_tail o_maxKw o_maxLen o_phaseNow o_count o_pendLen o_nodeCount o_longestKw o_n o_state o_total o_outLen o_commitPos o_tailLen po)) rfl ?_
                obtain ⟨x29, hx29, h⟩ := bnd h
                refine OEnds.plain hm_12 rfl rfl (x_iaload rfl hx29) ?_
                refine OEnds.adv hm_12 2 (pc' := 112) (L' := [.val (.ref 0), .val (.int v1), .val (.int v2), .val (.int v3), .val (.int v4), .val (.int (x26 - (97 : Int32))), .val (.int ((v2 * (26 : Int32)) + (x26 - (97 : Int32))))]) (S' := [.int (x29 + (1 : Int32)), .int o_nodeCount, .ref 8]) (H' := (bk0 o_kwChars o_kwLen o_kwRepl o_pend A28 o_delta o_fail o_depth o_term o_outMask o_queue o_text o_masks o_out o_tail o_maxKw o_maxLen o_phaseNow o_count o_pendLen o_nodeCount o_longestKw o_n o_state o_total o_outLen o_commitPos o_tailLen po)) rfl ?_
                obtain ⟨A30, hA30, h⟩ := bnd h
                refine OEnds.plain hm_12 rfl rfl (x_iastore rfl (Nat.le_of_ble_eq_true rfl) hA30) ?_
                refine OEnds.adv hm_12 6 (pc' := 123) (L' := [.val (.ref 0), .val (.int v1), .val (.int v2), .val (.int v3), .val (.int v4), .val (.int (x26 - (97 : Int32))), .val (.int ((v2 * (26 : Int32)) + (x26 - (97 : Int32))))]) (S' := []) (H' := (bk0 o_kwChars o_kwLen o_kwRepl o_pend A28 o_delta o_fail A30 o_term o_outMask o_queue o_text o_masks o_out o_tail o_maxKw o_maxLen o_phaseNow o_count o_pendLen (o_nodeCount + (1 : Int32)) o_longestKw o_n o_state o_total o_outLen o_commitPos o_tailLen po)) rfl ?_
                exact ok_insertKeyword_123 ih hk137 h
              · simp only [if_neg hc40] at h
                refine OEnds.icmpF hm_12 rfl ((flt hc40).1) ?_
                show OEnds own_P 12 84 [.val (.ref 0), .val (.int v1), .val (.int v2), .val (.int v3), .val (.int v4), .val (.int (x26 - (97 : Int32))), .val (.int ((v2 * (26 : Int32)) + (x26 - (97 : Int32))))] [] (bk0 o_kwChars o_kwLen o_kwRepl o_pend o_child o_delta o_fail o_depth o_term o_outMask o_queue o_text o_masks o_out o_tail o_maxKw o_maxLen o_phaseNow o_count o_pendLen o_nodeCount o_longestKw o_n o_state o_total o_outLen o_commitPos o_tailLen po) _
                cases h
                exact OEnds.vret hm_12 rfl rfl
            · simp only [if_neg hc39] at h
              refine OEnds.ifT hm_12 rfl (q := 123) rfl ((feq hc39).2) ?_
              show OEnds own_P 12 123 [.val (.ref 0), .val (.int v1), .val (.int v2), .val (.int v3), .val (.int v4), .val (.int (x26 - (97 : Int32))), .val (.int ((v2 * (26 : Int32)) + (x26 - (97 : Int32))))] [] (bk0 o_kwChars o_kwLen o_kwRepl o_pend o_child o_delta o_fail o_depth o_term o_outMask o_queue o_text o_masks o_out o_tail o_maxKw o_maxLen o_phaseNow o_count o_pendLen o_nodeCount o_longestKw o_n o_state o_total o_outLen o_commitPos o_tailLen po) _
              exact ok_insertKeyword_123 ih hk137 h
          · simp only [if_neg hc38] at h
            refine OEnds.icmpF hm_12 rfl ((flt hc38).1) ?_
            show OEnds own_P 12 54 [.val (.ref 0), .val (.int v1), .val (.int v2), .val (.int v3), .val (.int v4), .val (.int (x26 - (97 : Int32))), .unset] [] (bk0 o_kwChars o_kwLen o_kwRepl o_pend o_child o_delta o_fail o_depth o_term o_outMask o_queue o_text o_masks o_out o_tail o_maxKw o_maxLen o_phaseNow o_count o_pendLen o_nodeCount o_longestKw o_n o_state o_total o_outLen o_commitPos o_tailLen po) _
            cases h
            exact OEnds.vret hm_12 rfl rfl
      · simp only [if_neg hc36] at h
        refine OEnds.icmpT hm_12 rfl (q := 137) rfl ((flt hc36).2.1) ?_
        show OEnds own_P 12 137 [.val (.ref 0), .val (.int v1), .val (.int v2), .val (.int v3), .val (.int v4), .unset, .unset] [] (bk0 o_kwChars o_kwLen o_kwRepl o_pend o_child o_delta o_fail o_depth o_term o_outMask o_queue o_text o_masks o_out o_tail o_maxKw o_maxLen o_phaseNow o_count o_pendLen o_nodeCount o_longestKw o_n o_state o_total o_outLen o_commitPos o_tailLen po) _
        exact hk137 h
    · simp only [if_neg hc35] at h
      refine OEnds.icmpT hm_12 rfl (q := 137) rfl ((flt hc35).2.1) ?_
      show OEnds own_P 12 137 [.val (.ref 0), .val (.int v1), .val (.int v2), .val (.int v3), .val (.int v4), .unset, .unset] [] (bk0 o_kwChars o_kwLen o_kwRepl o_pend o_child o_delta o_fail o_depth o_term o_outMask o_queue o_text o_masks o_out o_tail o_maxKw o_maxLen o_phaseNow o_count o_pendLen o_nodeCount o_longestKw o_n o_state o_total o_outLen o_commitPos o_tailLen po) _
      exact hk137 h
theorem ok_insertKeyword {o_kwChars : List Int32} {o_kwLen : List Int32} {o_kwRepl : List Int32} {o_pend : List Int32} {o_delta : List Int32} {o_fail : List Int32} {o_queue : List Int32} {o_text : List Int32} {o_masks : List Int32} {o_out : List Int32} {o_tail : List Int32} {o_maxKw : Int32} {o_maxLen : Int32} {o_phaseNow : Int32} {o_count : Int32} {o_pendLen : Int32} {o_longestKw : Int32} {o_n : Int32} {o_state : Int32} {o_total : Int32} {o_outLen : Int32} {o_commitPos : Int32} {o_tailLen : Int32} {po : List ACell} {o_child : List Int32} {o_depth : List Int32} {o_term : List Int32} {o_outMask : List Int32} {o_nodeCount : Int32} {v1 : Int32} {w_o_child : List Int32} {w_o_depth : List Int32} {w_o_term : List Int32} {w_o_outMask : List Int32} {w_o_nodeCount : Int32} (h : f_insertKeyword o_kwChars o_kwLen o_child o_depth o_term o_outMask o_nodeCount v1 = some (w_o_child, w_o_depth, w_o_term, w_o_outMask, w_o_nodeCount)) : OEnds own_P 12 0 [.val (.ref 0), .val (.int v1), .unset, .unset, .unset, .unset, .unset] [] (bk0 o_kwChars o_kwLen o_kwRepl o_pend o_child o_delta o_fail o_depth o_term o_outMask o_queue o_text o_masks o_out o_tail o_maxKw o_maxLen o_phaseNow o_count o_pendLen o_nodeCount o_longestKw o_n o_state o_total o_outLen o_commitPos o_tailLen po) (none, (bk0 o_kwChars o_kwLen o_kwRepl o_pend w_o_child o_delta o_fail w_o_depth w_o_term w_o_outMask o_queue o_text o_masks o_out o_tail o_maxKw o_maxLen o_phaseNow o_count o_pendLen w_o_nodeCount o_longestKw o_n o_state o_total o_outLen o_commitPos o_tailLen po), 0, 0) := by
  unfold f_insertKeyword at h
  refine OEnds.adv hm_12 8 (pc' := 10) (L' := [.val (.ref 0), .val (.int v1), .val (.int 0), .val (.int (v1 * (8 : Int32))), .val (.int 0), .unset, .unset]) (S' := []) (H' := (bk0 o_kwChars o_kwLen o_kwRepl o_pend o_child o_delta o_fail o_depth o_term o_outMask o_queue o_text o_masks o_out o_tail o_maxKw o_maxLen o_phaseNow o_count o_pendLen o_nodeCount o_longestKw o_n o_state o_total o_outLen o_commitPos o_tailLen po)) rfl ?_
  exact ok_insertKeyword_10 (k137 := f_insertKeyword_137 o_kwChars o_kwLen) ok_insertKeyword_137 100000 h
theorem ok_buildTrie_12 {o_kwChars : List Int32} {o_kwLen : List Int32} {o_kwRepl : List Int32} {o_pend : List Int32} {o_delta : List Int32} {o_fail : List Int32} {o_queue : List Int32} {o_text : List Int32} {o_masks : List Int32} {o_out : List Int32} {o_tail : List Int32} {o_maxKw : Int32} {o_maxLen : Int32} {o_phaseNow : Int32} {o_count : Int32} {o_pendLen : Int32} {o_n : Int32} {o_state : Int32} {o_total : Int32} {o_outLen : Int32} {o_commitPos : Int32} {o_tailLen : Int32} {po : List ACell} : ∀ (n : Nat), ∀ {o_child : List Int32} {o_depth : List Int32} {o_term : List Int32} {o_outMask : List Int32} {o_nodeCount : Int32} {o_longestKw : Int32} {v1 : Int32} {w_o_child : List Int32} {w_o_depth : List Int32} {w_o_term : List Int32} {w_o_outMask : List Int32} {w_o_nodeCount : Int32} {w_o_longestKw : Int32}, f_buildTrie_12 o_kwChars o_kwLen o_count n o_child o_depth o_term o_outMask o_nodeCount o_longestKw v1 = some (w_o_child, w_o_depth, w_o_term, w_o_outMask, w_o_nodeCount, w_o_longestKw) → OEnds own_P 11 12 [.val (.ref 0), .val (.int v1)] [] (bk0 o_kwChars o_kwLen o_kwRepl o_pend o_child o_delta o_fail o_depth o_term o_outMask o_queue o_text o_masks o_out o_tail o_maxKw o_maxLen o_phaseNow o_count o_pendLen o_nodeCount o_longestKw o_n o_state o_total o_outLen o_commitPos o_tailLen po) (none, (bk0 o_kwChars o_kwLen o_kwRepl o_pend w_o_child o_delta o_fail w_o_depth w_o_term w_o_outMask o_queue o_text o_masks o_out o_tail o_maxKw o_maxLen o_phaseNow o_count o_pendLen w_o_nodeCount w_o_longestKw o_n o_state o_total o_outLen o_commitPos o_tailLen po), 0, 0) := by
  intro n
  induction n with
  | zero => intro o_child o_depth o_term o_outMask o_nodeCount o_longestKw v1 w_o_child w_o_depth w_o_term w_o_outMask w_o_nodeCount w_o_longestKw h; cases h
  | succ n ih =>
    intro o_child o_depth o_term o_outMask o_nodeCount o_longestKw v1 w_o_child w_o_depth w_o_term w_o_outMask w_o_nodeCount w_o_longestKw h
    unfold f_buildTrie_12 at h
    refine OEnds.adv hm_11 3 (pc' := 17) (L' := [.val (.ref 0), .val (.int v1)]) (S' := [.int o_count, .int v1]) (H' := (bk0 o_kwChars o_kwLen o_kwRepl o_pend o_child o_delta o_fail o_depth o_term o_outMask o_queue o_text o_masks o_out o_tail o_maxKw o_maxLen o_phaseNow o_count o_pendLen o_nodeCount o_longestKw o_n o_state o_total o_outLen o_commitPos o_tailLen po)) rfl ?_
    by_cases hc41 : v1 < o_count
    · simp only [if_pos hc41] at h
      refine OEnds.icmpF hm_11 rfl ((tlt hc41).2.1) ?_
      refine OEnds.adv hm_11 2 (pc' := 23) (L' := [.val (.ref 0), .val (.int v1)]) (S' := [.int 16, .int v1]) (H' := (bk0 o_kwChars o_kwLen o_kwRepl o_pend o_child o_delta o_fail o_depth o_term o_outMask o_queue o_text o_masks o_out o_tail o_maxKw o_maxLen o_phaseNow o_count o_pendLen o_nodeCount o_longestKw o_n o_state o_total o_outLen o_commitPos o_tailLen po)) rfl ?_
      by_cases hc42 : v1 < (16 : Int32)
      · simp only [if_pos hc42] at h
        refine OEnds.icmpF hm_11 rfl ((tlt hc42).2.1) ?_
        refine OEnds.adv hm_11 2 (pc' := 28) (L' := [.val (.ref 0), .val (.int v1)]) (S' := [.int v1, .ref 0]) (H' := (bk0 o_kwChars o_kwLen o_kwRepl o_pend o_child o_delta o_fail o_depth o_term o_outMask o_queue o_text o_masks o_out o_tail o_maxKw o_maxLen o_phaseNow o_count o_pendLen o_nodeCount o_longestKw o_n o_state o_total o_outLen o_commitPos o_tailLen po)) rfl ?_
        obtain ⟨⟨s35, s36, s37, s38, s39⟩, hq43, h⟩ := bnd h
        refine OEnds.call0 hm_11 rfl rfl (by decide) rfl (as := [.ref 0, .int v1]) (rest := []) rfl rfl (ok_insertKeyword hq43) ?_
        refine OEnds.adv hm_11 3 (pc' := 36) (L' := [.val (.ref 0), .val (.int v1)]) (S' := [.int v1, .ref 2]) (H' := (bk0 o_kwChars o_kwLen o_kwRepl o_pend s35 o_delta o_fail s36 s37 s38 o_queue o_text o_masks o_out o_tail o_maxKw o_maxLen o_phaseNow o_count o_pendLen s39 o_longestKw o_n o_state o_total o_outLen o_commitPos o_tailLen po)) rfl ?_
        obtain ⟨x40, hx40, h⟩ := bnd h
        refine OEnds.plain hm_11 rfl rfl (x_iaload rfl hx40) ?_
        refine OEnds.adv hm_11 2 (pc' := 41) (L' := [.val (.ref 0), .val (.int v1)]) (S' := [.int o_longestKw, .int x40]) (H' := (bk0 o_kwChars o_kwLen o_kwRepl o_pend s35 o_delta o_fail s36 s37 s38 o_queue o_text o_masks o_out o_tail o_maxKw o_maxLen o_phaseNow o_count o_pendLen s39 o_longestKw o_n o_state o_total o_outLen o_commitPos o_tailLen po)) rfl ?_
        by_cases hc44 : o_longestKw < x40
        · simp only [if_pos hc44] at h
          refine OEnds.icmpF hm_11 rfl ((tlt hc44).2.2.2) ?_
          refine OEnds.adv hm_11 4 (pc' := 50) (L' := [.val (.ref 0), .val (.int v1)]) (S' := [.int v1, .ref 2, .ref 0]) (H' := (bk0 o_kwChars o_kwLen o_kwRepl o_pend s35 o_delta o_fail s36 s37 s38 o_queue o_text o_masks o_out o_tail o_maxKw o_maxLen o_phaseNow o_count o_pendLen s39 o_longestKw o_n o_state o_total o_outLen o_commitPos o_tailLen po)) rfl ?_
          obtain ⟨x41, hx41, h⟩ := bnd h
          refine OEnds.plain hm_11 rfl rfl (x_iaload rfl hx41) ?_
          refine OEnds.adv hm_11 3 (pc' := 12) (L' := [.val (.ref 0), .val (.int (v1 + (1 : Int32)))]) (S' := []) (H' := (bk0 o_kwChars o_kwLen o_kwRepl o_pend s35 o_delta o_fail s36 s37 s38 o_queue o_text o_masks o_out o_tail o_maxKw o_maxLen o_phaseNow o_count o_pendLen s39 x41 o_n o_state o_total o_outLen o_commitPos o_tailLen po)) rfl ?_
          exact ih h
        · simp only [if_neg hc44] at h
          refine OEnds.icmpT hm_11 rfl (q := 54) rfl ((flt hc44).2.2.2) ?_
          refine OEnds.adv hm_11 2 (pc' := 12) (L' := [.val (.ref 0), .val (.int (v1 + (1 : Int32)))]) (S' := []) (H' := (bk0 o_kwChars o_kwLen o_kwRepl o_pend s35 o_delta o_fail s36 s37 s38 o_queue o_text o_masks o_out o_tail o_maxKw o_maxLen o_phaseNow o_count o_pendLen s39 o_longestKw o_n o_state o_total o_outLen o_commitPos o_tailLen po)) rfl ?_
          exact ih h
      · simp only [if_neg hc42] at h
        refine OEnds.icmpT hm_11 rfl (q := 60) rfl ((flt hc42).2.1) ?_
        show OEnds own_P 11 60 [.val (.ref 0), .val (.int v1)] [] (bk0 o_kwChars o_kwLen o_kwRepl o_pend o_child o_delta o_fail o_depth o_term o_outMask o_queue o_text o_masks o_out o_tail o_maxKw o_maxLen o_phaseNow o_count o_pendLen o_nodeCount o_longestKw o_n o_state o_total o_outLen o_commitPos o_tailLen po) _
        cases h
        exact OEnds.vret hm_11 rfl rfl
    · simp only [if_neg hc41] at h
      refine OEnds.icmpT hm_11 rfl (q := 60) rfl ((flt hc41).2.1) ?_
      show OEnds own_P 11 60 [.val (.ref 0), .val (.int v1)] [] (bk0 o_kwChars o_kwLen o_kwRepl o_pend o_child o_delta o_fail o_depth o_term o_outMask o_queue o_text o_masks o_out o_tail o_maxKw o_maxLen o_phaseNow o_count o_pendLen o_nodeCount o_longestKw o_n o_state o_total o_outLen o_commitPos o_tailLen po) _
      cases h
      exact OEnds.vret hm_11 rfl rfl
theorem ok_buildTrie {o_kwChars : List Int32} {o_kwLen : List Int32} {o_kwRepl : List Int32} {o_pend : List Int32} {o_delta : List Int32} {o_fail : List Int32} {o_queue : List Int32} {o_text : List Int32} {o_masks : List Int32} {o_out : List Int32} {o_tail : List Int32} {o_maxKw : Int32} {o_maxLen : Int32} {o_phaseNow : Int32} {o_count : Int32} {o_pendLen : Int32} {o_n : Int32} {o_state : Int32} {o_total : Int32} {o_outLen : Int32} {o_commitPos : Int32} {o_tailLen : Int32} {po : List ACell} {o_child : List Int32} {o_depth : List Int32} {o_term : List Int32} {o_outMask : List Int32} {o_nodeCount : Int32} {o_longestKw : Int32} {w_o_child : List Int32} {w_o_depth : List Int32} {w_o_term : List Int32} {w_o_outMask : List Int32} {w_o_nodeCount : Int32} {w_o_longestKw : Int32} (h : f_buildTrie o_kwChars o_kwLen o_count o_child o_depth o_term o_outMask o_nodeCount o_longestKw = some (w_o_child, w_o_depth, w_o_term, w_o_outMask, w_o_nodeCount, w_o_longestKw)) : OEnds own_P 11 0 [.val (.ref 0), .unset] [] (bk0 o_kwChars o_kwLen o_kwRepl o_pend o_child o_delta o_fail o_depth o_term o_outMask o_queue o_text o_masks o_out o_tail o_maxKw o_maxLen o_phaseNow o_count o_pendLen o_nodeCount o_longestKw o_n o_state o_total o_outLen o_commitPos o_tailLen po) (none, (bk0 o_kwChars o_kwLen o_kwRepl o_pend w_o_child o_delta o_fail w_o_depth w_o_term w_o_outMask o_queue o_text o_masks o_out o_tail o_maxKw o_maxLen o_phaseNow o_count o_pendLen w_o_nodeCount w_o_longestKw o_n o_state o_total o_outLen o_commitPos o_tailLen po), 0, 0) := by
  unfold f_buildTrie at h
  refine OEnds.adv hm_11 8 (pc' := 12) (L' := [.val (.ref 0), .val (.int 0)]) (S' := []) (H' := (bk0 o_kwChars o_kwLen o_kwRepl o_pend o_child o_delta o_fail o_depth o_term o_outMask o_queue o_text o_masks o_out o_tail o_maxKw o_maxLen o_phaseNow o_count o_pendLen 1 1 o_n o_state o_total o_outLen o_commitPos o_tailLen po)) rfl ?_
  exact ok_buildTrie_12 100000 h
theorem ok_expandNode_58 {o_kwChars : List Int32} {o_kwLen : List Int32} {o_kwRepl : List Int32} {o_pend : List Int32} {o_child : List Int32} {o_depth : List Int32} {o_term : List Int32} {o_text : List Int32} {o_masks : List Int32} {o_out : List Int32} {o_tail : List Int32} {o_maxKw : Int32} {o_maxLen : Int32} {o_phaseNow : Int32} {o_count : Int32} {o_pendLen : Int32} {o_nodeCount : Int32} {o_longestKw : Int32} {o_n : Int32} {o_state : Int32} {o_total : Int32} {o_outLen : Int32} {o_commitPos : Int32} {o_tailLen : Int32} {po : List ACell} : ∀ (n : Nat), ∀ {o_delta : List Int32} {o_fail : List Int32} {o_outMask : List Int32} {o_queue : List Int32} {v1 : Int32} {v3 : Int32} {v4 : Int32} {v5 : Int32} {d2 d6 d7 : Slot} {res : Int32} {w_o_delta : List Int32} {w_o_fail : List Int32} {w_o_outMask : List Int32} {w_o_queue : List Int32}, f_expandNode_58 o_child n o_delta o_fail o_outMask o_queue v1 v3 v4 v5 = some (res, w_o_delta, w_o_fail, w_o_outMask, w_o_queue) → OEnds own_P 14 58 [.val (.ref 0), .val (.int v1), d2, .val (.int v3), .val (.int v4), .val (.int v5), d6, d7] [] (bk0 o_kwChars o_kwLen o_kwRepl o_pend o_child o_delta o_fail o_depth o_term o_outMask o_queue o_text o_masks o_out o_tail o_maxKw o_maxLen o_phaseNow o_count o_pendLen o_nodeCount o_longestKw o_n o_state o_total o_outLen o_commitPos o_tailLen po) (some (.int res), (bk0 o_kwChars o_kwLen o_kwRepl o_pend o_child w_o_delta w_o_fail o_depth o_term w_o_outMask w_o_queue o_text o_masks o_out o_tail o_maxKw o_maxLen o_phaseNow o_count o_pendLen o_nodeCount o_longestKw o_n o_state o_total o_outLen o_commitPos o_tailLen po), 0, 0) := by
  intro n
  induction n with
  | zero => intro o_delta o_fail o_outMask o_queue v1 v3 v4 v5 d2 d6 d7 res w_o_delta w_o_fail w_o_outMask w_o_queue h; cases h
  | succ n ih =>
    intro o_delta o_fail o_outMask o_queue v1 v3 v4 v5 d2 d6 d7 res w_o_delta w_o_fail w_o_outMask w_o_queue h
    unfold f_expandNode_58 at h
    refine OEnds.adv hm_14 2 (pc' := 62) (L' := [.val (.ref 0), .val (.int v1), .unset, .val (.int v3), .val (.int v4), .val (.int v5), .unset, .unset]) (S' := [.int 26, .int v5]) (H' := (bk0 o_kwChars o_kwLen o_kwRepl o_pend o_child o_delta o_fail o_depth o_term o_outMask o_queue o_text o_masks o_out o_tail o_maxKw o_maxLen o_phaseNow o_count o_pendLen o_nodeCount o_longestKw o_n o_state o_total o_outLen o_commitPos o_tailLen po)) rfl ?_
    by_cases hc45 : v5 < (26 : Int32)
    · simp only [if_pos hc45] at h
      refine OEnds.icmpF hm_14 rfl ((tlt hc45).2.1) ?_
      refine OEnds.adv hm_14 7 (pc' := 76) (L' := [.val (.ref 0), .val (.int v1), .unset, .val (.int v3), .val (.int v4), .val (.int v5), .unset, .unset]) (S' := [.int ((v1 * (26 : Int32)) + v5), .ref 5]) (H' := (bk0 o_kwChars o_kwLen o_kwRepl o_pend o_child o_delta o_fail o_depth o_term o_outMask o_queue o_text o_masks o_out o_tail o_maxKw o_maxLen o_phaseNow o_count o_pendLen o_nodeCount o_longestKw o_n o_state o_total o_outLen o_commitPos o_tailLen po)) rfl ?_
      obtain ⟨x46, hx46, h⟩ := bnd h
      refine OEnds.plain hm_14 rfl rfl (x_iaload rfl hx46) ?_
      refine OEnds.adv hm_14 8 (pc' := 90) (L' := [.val (.ref 0), .val (.int v1), .unset, .val (.int v3), .val (.int v4), .val (.int v5), .val (.int x46), .unset]) (S' := [.int ((v3 * (26 : Int32)) + v5), .ref 6]) (H' := (bk0 o_kwChars o_kwLen o_kwRepl o_pend o_child o_delta o_fail o_depth o_term o_outMask o_queue o_text o_masks o_out o_tail o_maxKw o_maxLen o_phaseNow o_count o_pendLen o_nodeCount o_longestKw o_n o_state o_total o_outLen o_commitPos o_tailLen po)) rfl ?_
      obtain ⟨x47, hx47, h⟩ := bnd h
      refine OEnds.plain hm_14 rfl rfl (x_iaload rfl hx47) ?_
      refine OEnds.adv hm_14 2 (pc' := 95) (L' := [.val (.ref 0), .val (.int v1), .unset, .val (.int v3), .val (.int v4), .val (.int v5), .val (.int x46), .val (.int x47)]) (S' := [.int x46]) (H' := (bk0 o_kwChars o_kwLen o_kwRepl o_pend o_child o_delta o_fail o_depth o_term o_outMask o_queue o_text o_masks o_out o_tail o_maxKw o_maxLen o_phaseNow o_count o_pendLen o_nodeCount o_longestKw o_n o_state o_total o_outLen o_commitPos o_tailLen po)) rfl ?_
      by_cases hc46 : x46 = (0 : Int32)
      · simp only [if_pos hc46] at h
        refine OEnds.ifT hm_14 rfl (q := 144) rfl ((teq hc46).1) ?_
        refine OEnds.adv hm_14 8 (pc' := 157) (L' := [.val (.ref 0), .val (.int v1), .unset, .val (.int v3), .val (.int v4), .val (.int v5), .val (.int x46), .val (.int x47)]) (S' := [.int x47, .int ((v1 * (26 : Int32)) + v5), .ref 6]) (H' := (bk0 o_kwChars o_kwLen o_kwRepl o_pend o_child o_delta o_fail o_depth o_term o_outMask o_queue o_text o_masks o_out o_tail o_maxKw o_maxLen o_phaseNow o_count o_pendLen o_nodeCount o_longestKw o_n o_state o_total o_outLen o_commitPos o_tailLen po)) rfl ?_
        obtain ⟨A48, hA48, h⟩ := bnd h
        refine OEnds.plain hm_14 rfl rfl (x_iastore rfl (Nat.le_of_ble_eq_true rfl) hA48) ?_
        refine OEnds.adv hm_14 2 (pc' := 58) (L' := [.val (.ref 0), .val (.int v1), .unset, .val (.int v3), .val (.int v4), .val (.int (v5 + (1 : Int32))), .val (.int x46), .val (.int x47)]) (S' := []) (H' := (bk0 o_kwChars o_kwLen o_kwRepl o_pend o_child A48 o_fail o_depth o_term o_outMask o_queue o_text o_masks o_out o_tail o_maxKw o_maxLen o_phaseNow o_count o_pendLen o_nodeCount o_longestKw o_n o_state o_total o_outLen o_commitPos o_tailLen po)) rfl ?_
        exact ih h
      · simp only [if_neg hc46] at h
        refine OEnds.ifF hm_14 rfl ((feq hc46).1) ?_
        refine OEnds.adv hm_14 4 (pc' := 106) (L' := [.val (.ref 0), .val (.int v1), .unset, .val (.int v3), .val (.int v4), .val (.int v5), .val (.int x46), .val (.int x47)]) (S' := [.int x47, .int x46, .ref 7]) (H' := (bk0 o_kwChars o_kwLen o_kwRepl o_pend o_child o_delta o_fail o_depth o_term o_outMask o_queue o_text o_masks o_out o_tail o_maxKw o_maxLen o_phaseNow o_count o_pendLen o_nodeCount o_longestKw o_n o_state o_total o_outLen o_commitPos o_tailLen po)) rfl ?_
        obtain ⟨A49, hA49, h⟩ := bnd h
        refine OEnds.plain hm_14 rfl rfl (x_iastore rfl (Nat.le_of_ble_eq_true rfl) hA49) ?_
        refine OEnds.adv hm_14 8 (pc' := 120) (L' := [.val (.ref 0), .val (.int v1), .unset, .val (.int v3), .val (.int v4), .val (.int v5), .val (.int x46), .val (.int x47)]) (S' := [.int x46, .int ((v1 * (26 : Int32)) + v5), .ref 6]) (H' := (bk0 o_kwChars o_kwLen o_kwRepl o_pend o_child o_delta A49 o_depth o_term o_outMask o_queue o_text o_masks o_out o_tail o_maxKw o_maxLen o_phaseNow o_count o_pendLen o_nodeCount o_longestKw o_n o_state o_total o_outLen o_commitPos o_tailLen po)) rfl ?_
        obtain ⟨A50, hA50, h⟩ := bnd h
        refine OEnds.plain hm_14 rfl rfl (x_iastore rfl (Nat.le_of_ble_eq_true rfl) hA50) ?_
        refine OEnds.adv hm_14 2 (pc' := 126) (L' := [.val (.ref 0), .val (.int v1), .unset, .val (.int v3), .val (.int v4), .val (.int v5), .val (.int x46), .val (.int x47)]) (S' := [.int 129, .int v4]) (H' := (bk0 o_kwChars o_kwLen o_kwRepl o_pend o_child A50 A49 o_depth o_term o_outMask o_queue o_text o_masks o_out o_tail o_maxKw o_maxLen o_phaseNow o_count o_pendLen o_nodeCount o_longestKw o_n o_state o_total o_outLen o_commitPos o_tailLen po)) rfl ?_
        by_cases hc47 : v4 < (129 : Int32)
        · simp only [if_pos hc47] at h
          refine OEnds.icmpF hm_14 rfl ((tlt hc47).2.1) ?_
          refine OEnds.adv hm_14 4 (pc' := 137) (L' := [.val (.ref 0), .val (.int v1), .unset, .val (.int v3), .val (.int v4), .val (.int v5), .val (.int x46), .val (.int x47)]) (S' := [.int x46, .int v4, .ref 11]) (H' := (bk0 o_kwChars o_kwLen o_kwRepl o_pend o_child A50 A49 o_depth o_term o_outMask o_queue o_text o_masks o_out o_tail o_maxKw o_maxLen o_phaseNow o_count o_pendLen o_nodeCount o_longestKw o_n o_state o_total o_outLen o_commitPos o_tailLen po)) rfl ?_
          obtain ⟨A51, hA51, h⟩ := bnd h
          refine OEnds.plain hm_14 rfl rfl (x_iastore rfl (Nat.le_of_ble_eq_true rfl) hA51) ?_
          refine OEnds.adv hm_14 4 (pc' := 58) (L' := [.val (.ref 0), .val (.int v1), .unset, .val (.int v3), .val (.int (v4 + (1 : Int32))), .val (.int (v5 + (1 : Int32))), .val (.int x46), .val (.int x47)]) (S' := []) (H' := (bk0 o_kwChars o_kwLen o_kwRepl o_pend o_child A50 A49 o_depth o_term o_outMask A51 o_text o_masks o_out o_tail o_maxKw o_maxLen o_phaseNow o_count o_pendLen o_nodeCount o_longestKw o_n o_state o_total o_outLen o_commitPos o_tailLen po)) rfl ?_
          exact ih h
        · simp only [if_neg hc47] at h
          refine OEnds.icmpT hm_14 rfl (q := 158) rfl ((flt hc47).2.1) ?_
          refine OEnds.adv hm_14 2 (pc' := 58) (L' := [.val (.ref 0), .val (.int v1), .unset, .val (.int v3), .val (.int v4), .val (.int (v5 + (1 : Int32))), .val (.int x46), .val (.int x47)]) (S' := []) (H' := (bk0 o_kwChars o_kwLen o_kwRepl o_pend o_child A50 A49 o_depth o_term o_outMask o_queue o_text o_masks o_out o_tail o_maxKw o_maxLen o_phaseNow o_count o_pendLen o_nodeCount o_longestKw o_n o_state o_total o_outLen o_commitPos o_tailLen po)) rfl ?_
          exact ih h
    · simp only [if_neg hc45] at h
      refine OEnds.icmpT hm_14 rfl (q := 164) rfl ((flt hc45).2.1) ?_
      refine OEnds.adv hm_14 1 (pc' := 166) (L' := [.val (.ref 0), .val (.int v1), .unset, .val (.int v3), .val (.int v4), .val (.int v5), .unset, .unset]) (S' := [.int v4]) (H' := (bk0 o_kwChars o_kwLen o_kwRepl o_pend o_child o_delta o_fail o_depth o_term o_outMask o_queue o_text o_masks o_out o_tail o_maxKw o_maxLen o_phaseNow o_count o_pendLen o_nodeCount o_longestKw o_n o_state o_total o_outLen o_commitPos o_tailLen po)) rfl ?_
      cases h
      exact OEnds.iret hm_14 rfl rfl
theorem ok_expandNode_33 {o_kwChars : List Int32} {o_kwLen : List Int32} {o_kwRepl : List Int32} {o_pend : List Int32} {o_child : List Int32} {o_depth : List Int32} {o_term : List Int32} {o_text : List Int32} {o_masks : List Int32} {o_out : List Int32} {o_tail : List Int32} {o_maxKw : Int32} {o_maxLen : Int32} {o_phaseNow : Int32} {o_count : Int32} {o_pendLen : Int32} {o_nodeCount : Int32} {o_longestKw : Int32} {o_n : Int32} {o_state : Int32} {o_total : Int32} {o_outLen : Int32} {o_commitPos : Int32} {o_tailLen : Int32} {po : List ACell} : ∀ {o_delta : List Int32} {o_fail : List Int32} {o_outMask : List Int32} {o_queue : List Int32} {v1 : Int32} {v2 : Int32} {v3 : Int32} {d4 d5 d6 d7 : Slot} {res : Int32} {w_o_delta : List Int32} {w_o_fail : List Int32} {w_o_outMask : List Int32} {w_o_queue : List Int32}, f_expandNode_33 o_child o_delta o_fail o_outMask o_queue v1 v2 v3 = some (res, w_o_delta, w_o_fail, w_o_outMask, w_o_queue) → OEnds own_P 14 33 [.val (.ref 0), .val (.int v1), .val (.int v2), .val (.int v3), d4, d5, d6, d7] [] (bk0 o_kwChars o_kwLen o_kwRepl o_pend o_child o_delta o_fail o_depth o_term o_outMask o_queue o_text o_masks o_out o_tail o_maxKw o_maxLen o_phaseNow o_count o_pendLen o_nodeCount o_longestKw o_n o_state o_total o_outLen o_commitPos o_tailLen po) (some (.int res), (bk0 o_kwChars o_kwLen o_kwRepl o_pend o_child w_o_delta w_o_fail o_depth o_term w_o_outMask w_o_queue o_text o_masks o_out o_tail o_maxKw o_maxLen o_phaseNow o_count o_pendLen o_nodeCount o_longestKw o_n o_state o_total o_outLen o_commitPos o_tailLen po), 0, 0) := by
  intro o_delta o_fail o_outMask o_queue v1 v2 v3 d4 d5 d6 d7 res w_o_delta w_o_fail w_o_outMask w_o_queue h
  unfold f_expandNode_33 at h
  refine OEnds.adv hm_14 6 (pc' := 43) (L' := [.val (.ref 0), .val (.int v1), .val (.int v2), .val (.int v3), .unset, .unset, .unset, .unset]) (S' := [.int v1, .ref 10, .int v1, .ref 10]) (H' := (bk0 o_kwChars o_kwLen o_kwRepl o_pend o_child o_delta o_fail o_depth o_term o_outMask o_queue o_text o_masks o_out o_tail o_maxKw o_maxLen o_phaseNow o_count o_pendLen o_nodeCount o_longestKw o_n o_state o_total o_outLen o_commitPos o_tailLen po)) rfl ?_
  obtain ⟨x43, hx43, h⟩ := bnd h
  refine OEnds.plain hm_14 rfl rfl (x_iaload rfl hx43) ?_
  refine OEnds.adv hm_14 3 (pc' := 49) (L' := [.val (.ref 0), .val (.int v1), .val (.int v2), .val (.int v3), .unset, .unset, .unset, .unset]) (S' := [.int v3, .ref 10, .int x43, .int v1, .ref 10]) (H' := (bk0 o_kwChars o_kwLen o_kwRepl o_pend o_child o_delta o_fail o_depth o_term o_outMask o_queue o_text o_masks o_out o_tail o_maxKw o_maxLen o_phaseNow o_count o_pendLen o_nodeCount o_longestKw o_n o_state o_total o_outLen o_commitPos o_tailLen po)) rfl ?_
  obtain ⟨x44, hx44, h⟩ := bnd h
  refine OEnds.plain hm_14 rfl rfl (x_iaload rfl hx44) ?_
  refine OEnds.adv hm_14 1 (pc' := 51) (L' := [.val (.ref 0), .val (.int v1), .val (.int v2), .val (.int v3), .unset, .unset, .unset, .unset]) (S' := [.int (x43 ||| x44), .int v1, .ref 10]) (H' := (bk0 o_kwChars o_kwLen o_kwRepl o_pend o_child o_delta o_fail o_depth o_term o_outMask o_queue o_text o_masks o_out o_tail o_maxKw o_maxLen o_phaseNow o_count o_pendLen o_nodeCount o_longestKw o_n o_state o_total o_outLen o_commitPos o_tailLen po)) rfl ?_
  obtain ⟨A45, hA45, h⟩ := bnd h
  refine OEnds.plain hm_14 rfl rfl (x_iastore rfl (Nat.le_of_ble_eq_true rfl) hA45) ?_
  refine OEnds.adv hm_14 4 (pc' := 58) (L' := [.val (.ref 0), .val (.int v1), .val (.int v2), .val (.int v3), .val (.int v2), .val (.int 0), .unset, .unset]) (S' := []) (H' := (bk0 o_kwChars o_kwLen o_kwRepl o_pend o_child o_delta o_fail o_depth o_term A45 o_queue o_text o_masks o_out o_tail o_maxKw o_maxLen o_phaseNow o_count o_pendLen o_nodeCount o_longestKw o_n o_state o_total o_outLen o_commitPos o_tailLen po)) rfl ?_
  exact ok_expandNode_58 100000 h
theorem ok_expandNode {o_kwChars : List Int32} {o_kwLen : List Int32} {o_kwRepl : List Int32} {o_pend : List Int32} {o_child : List Int32} {o_depth : List Int32} {o_term : List Int32} {o_text : List Int32} {o_masks : List Int32} {o_out : List Int32} {o_tail : List Int32} {o_maxKw : Int32} {o_maxLen : Int32} {o_phaseNow : Int32} {o_count : Int32} {o_pendLen : Int32} {o_nodeCount : Int32} {o_longestKw : Int32} {o_n : Int32} {o_state : Int32} {o_total : Int32} {o_outLen : Int32} {o_commitPos : Int32} {o_tailLen : Int32} {po : List ACell} {o_delta : List Int32} {o_fail : List Int32} {o_outMask : List Int32} {o_queue : List Int32} {v1 : Int32} {v2 : Int32} {res : Int32} {w_o_delta : List Int32} {w_o_fail : List Int32} {w_o_outMask : List Int32} {w_o_queue : List Int32} (h : f_expandNode o_child o_delta o_fail o_outMask o_queue v1 v2 = some (res, w_o_delta, w_o_fail, w_o_outMask, w_o_queue)) : OEnds own_P 14 0 [.val (.ref 0), .val (.int v1), .val (.int v2), .unset, .unset, .unset, .unset, .unset] [] (bk0 o_kwChars o_kwLen o_kwRepl o_pend o_child o_delta o_fail o_depth o_term o_outMask o_queue o_text o_masks o_out o_tail o_maxKw o_maxLen o_phaseNow o_count o_pendLen o_nodeCount o_longestKw o_n o_state o_total o_outLen o_commitPos o_tailLen po) (some (.int res), (bk0 o_kwChars o_kwLen o_kwRepl o_pend o_child w_o_delta w_o_fail o_depth o_term w_o_outMask w_o_queue o_text o_masks o_out o_tail o_maxKw o_maxLen o_phaseNow o_count o_pendLen o_nodeCount o_longestKw o_n o_state o_total o_outLen o_commitPos o_tailLen po), 0, 0) := by
  unfold f_expandNode at h
  refine OEnds.adv hm_14 1 (pc' := 1) (L' := [.val (.ref 0), .val (.int v1), .val (.int v2), .unset, .unset, .unset, .unset, .unset]) (S' := [.int v1]) (H' := (bk0 o_kwChars o_kwLen o_kwRepl o_pend o_child o_delta o_fail o_depth o_term o_outMask o_queue o_text o_masks o_out o_tail o_maxKw o_maxLen o_phaseNow o_count o_pendLen o_nodeCount o_longestKw o_n o_state o_total o_outLen o_commitPos o_tailLen po)) rfl ?_
  by_cases hc48 : (0 : Int32) < v1
  · simp only [if_pos hc48] at h
    refine OEnds.ifF hm_14 rfl ((tlt hc48).2.2.2) ?_
    refine OEnds.adv hm_14 2 (pc' := 8) (L' := [.val (.ref 0), .val (.int v1), .val (.int v2), .unset, .unset, .unset, .unset, .unset]) (S' := [.int 129, .int v1]) (H' := (bk0 o_kwChars o_kwLen o_kwRepl o_pend o_child o_delta o_fail o_depth o_term o_outMask o_queue o_text o_masks o_out o_tail o_maxKw o_maxLen o_phaseNow o_count o_pendLen o_nodeCount o_longestKw o_n o_state o_total o_outLen o_commitPos o_tailLen po)) rfl ?_
    by_cases hc49 : v1 < (129 : Int32)
    · simp only [if_pos hc49] at h
      refine OEnds.icmpT hm_14 rfl (q := 13) rfl ((tlt hc49).1) ?_
      refine OEnds.adv hm_14 3 (pc' := 18) (L' := [.val (.ref 0), .val (.int v1), .val (.int v2), .unset, .unset, .unset, .unset, .unset]) (S' := [.int v1, .ref 7]) (H' := (bk0 o_kwChars o_kwLen o_kwRepl o_pend o_child o_delta o_fail o_depth o_term o_outMask o_queue o_text o_masks o_out o_tail o_maxKw o_maxLen o_phaseNow o_count o_pendLen o_nodeCount o_longestKw o_n o_state o_total o_outLen o_commitPos o_tailLen po)) rfl ?_
      obtain ⟨x42, hx42, h⟩ := bnd h
      refine OEnds.plain hm_14 rfl rfl (x_iaload rfl hx42) ?_
      refine OEnds.adv hm_14 2 (pc' := 21) (L' := [.val (.ref 0), .val (.int v1), .val (.int v2), .val (.int x42), .unset, .unset, .unset, .unset]) (S' := [.int x42]) (H' := (bk0 o_kwChars o_kwLen o_kwRepl o_pend o_child o_delta o_fail o_depth o_term o_outMask o_queue o_text o_masks o_out o_tail o_maxKw o_maxLen o_phaseNow o_count o_pendLen o_nodeCount o_longestKw o_n o_state o_total o_outLen o_commitPos o_tailLen po)) rfl ?_
      by_cases hc50 : x42 < (0 : Int32)
      · simp only [if_pos hc50] at h
        refine OEnds.ifT hm_14 rfl (q := 31) rfl ((tlt hc50).1) ?_
        refine OEnds.adv hm_14 2 (pc' := 33) (L' := [.val (.ref 0), .val (.int v1), .val (.int v2), .val (.int 0), .unset, .unset, .unset, .unset]) (S' := []) (H' := (bk0 o_kwChars o_kwLen o_kwRepl o_pend o_child o_delta o_fail o_depth o_term o_outMask o_queue o_text o_masks o_out o_tail o_maxKw o_maxLen o_phaseNow o_count o_pendLen o_nodeCount o_longestKw o_n o_state o_total o_outLen o_commitPos o_tailLen po)) rfl ?_
        exact ok_expandNode_33 h
      · simp only [if_neg hc50] at h
        refine OEnds.ifF hm_14 rfl ((flt hc50).1) ?_
        refine OEnds.adv hm_14 2 (pc' := 28) (L' := [.val (.ref 0), .val (.int v1), .val (.int v2), .val (.int x42), .unset, .unset, .unset, .unset]) (S' := [.int 129, .int x42]) (H' := (bk0 o_kwChars o_kwLen o_kwRepl o_pend o_child o_delta o_fail o_depth o_term o_outMask o_queue o_text o_masks o_out o_tail o_maxKw o_maxLen o_phaseNow o_count o_pendLen o_nodeCount o_longestKw o_n o_state o_total o_outLen o_commitPos o_tailLen po)) rfl ?_
        by_cases hc51 : x42 < (129 : Int32)
        · simp only [if_pos hc51] at h
          refine OEnds.icmpT hm_14 rfl (q := 33) rfl ((tlt hc51).1) ?_
          show OEnds own_P 14 33 [.val (.ref 0), .val (.int v1), .val (.int v2), .val (.int x42), .unset, .unset, .unset, .unset] [] (bk0 o_kwChars o_kwLen o_kwRepl o_pend o_child o_delta o_fail o_depth o_term o_outMask o_queue o_text o_masks o_out o_tail o_maxKw o_maxLen o_phaseNow o_count o_pendLen o_nodeCount o_longestKw o_n o_state o_total o_outLen o_commitPos o_tailLen po) _
          exact ok_expandNode_33 h
        · simp only [if_neg hc51] at h
          refine OEnds.icmpF hm_14 rfl ((flt hc51).1) ?_
          refine OEnds.adv hm_14 2 (pc' := 33) (L' := [.val (.ref 0), .val (.int v1), .val (.int v2), .val (.int 0), .unset, .unset, .unset, .unset]) (S' := []) (H' := (bk0 o_kwChars o_kwLen o_kwRepl o_pend o_child o_delta o_fail o_depth o_term o_outMask o_queue o_text o_masks o_out o_tail o_maxKw o_maxLen o_phaseNow o_count o_pendLen o_nodeCount o_longestKw o_n o_state o_total o_outLen o_commitPos o_tailLen po)) rfl ?_
          exact ok_expandNode_33 h
    · simp only [if_neg hc49] at h
      refine OEnds.icmpF hm_14 rfl ((flt hc49).1) ?_
      refine OEnds.adv hm_14 1 (pc' := 12) (L' := [.val (.ref 0), .val (.int v1), .val (.int v2), .unset, .unset, .unset, .unset, .unset]) (S' := [.int v2]) (H' := (bk0 o_kwChars o_kwLen o_kwRepl o_pend o_child o_delta o_fail o_depth o_term o_outMask o_queue o_text o_masks o_out o_tail o_maxKw o_maxLen o_phaseNow o_count o_pendLen o_nodeCount o_longestKw o_n o_state o_total o_outLen o_commitPos o_tailLen po)) rfl ?_
      cases h
      exact OEnds.iret hm_14 rfl rfl
  · simp only [if_neg hc48] at h
    refine OEnds.ifT hm_14 rfl (q := 11) rfl ((flt hc48).2.2.2) ?_
    refine OEnds.adv hm_14 1 (pc' := 12) (L' := [.val (.ref 0), .val (.int v1), .val (.int v2), .unset, .unset, .unset, .unset, .unset]) (S' := [.int v2]) (H' := (bk0 o_kwChars o_kwLen o_kwRepl o_pend o_child o_delta o_fail o_depth o_term o_outMask o_queue o_text o_masks o_out o_tail o_maxKw o_maxLen o_phaseNow o_count o_pendLen o_nodeCount o_longestKw o_n o_state o_total o_outLen o_commitPos o_tailLen po)) rfl ?_
    cases h
    exact OEnds.iret hm_14 rfl rfl
theorem ok_computeLinks_74 {o_kwChars : List Int32} {o_kwLen : List Int32} {o_kwRepl : List Int32} {o_pend : List Int32} {o_child : List Int32} {o_depth : List Int32} {o_term : List Int32} {o_text : List Int32} {o_masks : List Int32} {o_out : List Int32} {o_tail : List Int32} {o_maxKw : Int32} {o_maxLen : Int32} {o_phaseNow : Int32} {o_count : Int32} {o_pendLen : Int32} {o_nodeCount : Int32} {o_longestKw : Int32} {o_n : Int32} {o_state : Int32} {o_total : Int32} {o_outLen : Int32} {o_commitPos : Int32} {o_tailLen : Int32} {po : List ACell} : ∀ (n : Nat), ∀ {o_delta : List Int32} {o_fail : List Int32} {o_outMask : List Int32} {o_queue : List Int32} {v1 : Int32} {v2 : Int32} {v3 : Int32} {d4 : Slot} {w_o_delta : List Int32} {w_o_fail : List Int32} {w_o_outMask : List Int32} {w_o_queue : List Int32}, f_computeLinks_74 o_child n o_delta o_fail o_outMask o_queue v1 v2 v3 = some (w_o_delta, w_o_fail, w_o_outMask, w_o_queue) → OEnds own_P 13 74 [.val (.ref 0), .val (.int v1), .val (.int v2), .val (.int v3), d4] [] (bk0 o_kwChars o_kwLen o_kwRepl o_pend o_child o_delta o_fail o_depth o_term o_outMask o_queue o_text o_masks o_out o_tail o_maxKw o_maxLen o_phaseNow o_count o_pendLen o_nodeCount o_longestKw o_n o_state o_total o_outLen o_commitPos o_tailLen po) (none, (bk0 o_kwChars o_kwLen o_kwRepl o_pend o_child w_o_delta w_o_fail o_depth o_term w_o_outMask w_o_queue o_text o_masks o_out o_tail o_maxKw o_maxLen o_phaseNow o_count o_pendLen o_nodeCount o_longestKw o_n o_state o_total o_outLen o_commitPos o_tailLen po), 0, 0) := by
  intro n
  induction n with
  | zero => intro o_delta o_fail o_outMask o_queue v1 v2 v3 d4 w_o_delta w_o_fail w_o_outMask w_o_queue h; cases h
  | succ n ih =>
    intro o_delta o_fail o_outMask o_queue v1 v2 v3 d4 w_o_delta w_o_fail w_o_outMask w_o_queue h
    unfold f_computeLinks_74 at h
    refine OEnds.adv hm_13 2 (pc' := 78) (L' := [.val (.ref 0), .val (.int v1), .val (.int v2), .val (.int v3), .unset]) (S' := [.int 129, .int v3]) (H' := (bk0 o_kwChars o_kwLen o_kwRepl o_pend o_child o_delta o_fail o_depth o_term o_outMask o_queue o_text o_masks o_out o_tail o_maxKw o_maxLen o_phaseNow o_count o_pendLen o_nodeCount o_longestKw o_n o_state o_total o_outLen o_commitPos o_tailLen po)) rfl ?_
    by_cases hc52 : v3 < (129 : Int32)
    · simp only [if_pos hc52] at h
      refine OEnds.icmpF hm_13 rfl ((tlt hc52).2.1) ?_
      refine OEnds.adv hm_13 2 (pc' := 83) (L' := [.val (.ref 0), .val (.int v1), .val (.int v2), .val (.int v3), .unset]) (S' := [.int v2, .int v1]) (H' := (bk0 o_kwChars o_kwLen o_kwRepl o_pend o_child o_delta o_fail o_depth o_term o_outMask o_queue o_text o_masks o_out o_tail o_maxKw o_maxLen o_phaseNow o_count o_pendLen o_nodeCount o_longestKw o_n o_state o_total o_outLen o_commitPos o_tailLen po)) rfl ?_
      by_cases hc53 : v1 < v2
      · simp only [if_pos hc53] at h
        refine OEnds.icmpT hm_13 rfl (q := 87) rfl ((tlt hc53).1) ?_
        refine OEnds.adv hm_13 3 (pc' := 92) (L' := [.val (.ref 0), .val (.int v1), .val (.int v2), .val (.int v3), .unset]) (S' := [.int v1, .ref 11]) (H' := (bk0 o_kwChars o_kwLen o_kwRepl o_pend o_child o_delta o_fail o_depth o_term o_outMask o_queue o_text o_masks o_out o_tail o_maxKw o_maxLen o_phaseNow o_count o_pendLen o_nodeCount o_longestKw o_n o_state o_total o_outLen o_commitPos o_tailLen po)) rfl ?_
        obtain ⟨x57, hx57, h⟩ := bnd h
        refine OEnds.plain hm_13 rfl rfl (x_iaload rfl hx57) ?_
        refine OEnds.adv hm_13 5 (pc' := 102) (L' := [.val (.ref 0), .val (.int (v1 + (1 : Int32))), .val (.int v2), .val (.int v3), .val (.int x57)]) (S' := [.int v2, .int x57, .ref 0]) (H' := (bk0 o_kwChars o_kwLen o_kwRepl o_pend o_child o_delta o_fail o_depth o_term o_outMask o_queue o_text o_masks o_out o_tail o_maxKw o_maxLen o_phaseNow o_count o_pendLen o_nodeCount o_longestKw o_n o_state o_total o_outLen o_commitPos o_tailLen po)) rfl ?_
        obtain ⟨⟨r58, s59, s60, s61, s62⟩, hq54, h⟩ := bnd h
        refine OEnds.call0 hm_13 rfl rfl (by decide) rfl (as := [.ref 0, .int x57, .int v2]) (rest := []) rfl rfl (ok_expandNode hq54) ?_
        refine OEnds.adv hm_13 3 (pc' := 74) (L' := [.val (.ref 0), .val (.int (v1 + (1 : Int32))), .val (.int r58), .val (.int (v3 + (1 : Int32))), .val (.int x57)]) (S' := []) (H' := (bk0 o_kwChars o_kwLen o_kwRepl o_pend o_child s59 s60 o_depth o_term s61 s62 o_text o_masks o_out o_tail o_maxKw o_maxLen o_phaseNow o_count o_pendLen o_nodeCount o_longestKw o_n o_state o_total o_outLen o_commitPos o_tailLen po)) rfl ?_
        exact ih h
      · simp only [if_neg hc53] at h
        refine OEnds.icmpF hm_13 rfl ((flt hc53).1) ?_
        show OEnds own_P 13 86 [.val (.ref 0), .val (.int v1), .val (.int v2), .val (.int v3), .unset] [] (bk0 o_kwChars o_kwLen o_kwRepl o_pend o_child o_delta o_fail o_depth o_term o_outMask o_queue o_text o_masks o_out o_tail o_maxKw o_maxLen o_phaseNow o_count o_pendLen o_nodeCount o_longestKw o_n o_state o_total o_outLen o_commitPos o_tailLen po) _
        cases h
        exact OEnds.vret hm_13 rfl rfl
    · simp only [if_neg hc52] at h
      refine OEnds.icmpT hm_13 rfl (q := 112) rfl ((flt hc52).2.1) ?_
      show OEnds own_P 13 112 [.val (.ref 0), .val (.int v1), .val (.int v2), .val (.int v3), .unset] [] (bk0 o_kwChars o_kwLen o_kwRepl o_pend o_child o_delta o_fail o_depth o_term o_outMask o_queue o_text o_masks o_out o_tail o_maxKw o_maxLen o_phaseNow o_count o_pendLen o_nodeCount o_longestKw o_n o_state o_total o_outLen o_commitPos o_tailLen po) _
      cases h
      exact OEnds.vret hm_13 rfl rfl
theorem ok_computeLinks_13 {o_kwChars : List Int32} {o_kwLen : List Int32} {o_kwRepl : List Int32} {o_pend : List Int32} {o_child : List Int32} {o_depth : List Int32} {o_term : List Int32} {o_text : List Int32} {o_masks : List Int32} {o_out : List Int32} {o_tail : List Int32} {o_maxKw : Int32} {o_maxLen : Int32} {o_phaseNow : Int32} {o_count : Int32} {o_pendLen : Int32} {o_nodeCount : Int32} {o_longestKw : Int32} {o_n : Int32} {o_state : Int32} {o_total : Int32} {o_outLen : Int32} {o_commitPos : Int32} {o_tailLen : Int32} {po : List ACell} {k74 : List Int32 → List Int32 → List Int32 → List Int32 → Int32 → Int32 → Int32 → Option (List Int32 × List Int32 × List Int32 × List Int32)} (hk74 : ∀ {o_delta : List Int32} {o_fail : List Int32} {o_outMask : List Int32} {o_queue : List Int32} {v1 : Int32} {v2 : Int32} {v3 : Int32} {d4 : Slot} {w_o_delta : List Int32} {w_o_fail : List Int32} {w_o_outMask : List Int32} {w_o_queue : List Int32}, k74 o_delta o_fail o_outMask o_queue v1 v2 v3 = some (w_o_delta, w_o_fail, w_o_outMask, w_o_queue) → OEnds own_P 13 74 [.val (.ref 0), .val (.int v1), .val (.int v2), .val (.int v3), d4] [] (bk0 o_kwChars o_kwLen o_kwRepl o_pend o_child o_delta o_fail o_depth o_term o_outMask o_queue o_text o_masks o_out o_tail o_maxKw o_maxLen o_phaseNow o_count o_pendLen o_nodeCount o_longestKw o_n o_state o_total o_outLen o_commitPos o_tailLen po) (none, (bk0 o_kwChars o_kwLen o_kwRepl o_pend o_child w_o_delta w_o_fail o_depth o_term w_o_outMask w_o_queue o_text o_masks o_out o_tail o_maxKw o_maxLen o_phaseNow o_count o_pendLen o_nodeCount o_longestKw o_n o_state o_total o_outLen o_commitPos o_tailLen po), 0, 0)) : ∀ (n : Nat), ∀ {o_delta : List Int32} {o_fail : List Int32} {o_outMask : List Int32} {o_queue : List Int32} {v1 : Int32} {v2 : Int32} {v3 : Int32} {d4 : Slot} {w_o_delta : List Int32} {w_o_fail : List Int32} {w_o_outMask : List Int32} {w_o_queue : List Int32}, f_computeLinks_13 k74 o_child n o_delta o_fail o_outMask o_queue v1 v2 v3 = some (w_o_delta, w_o_fail, w_o_outMask, w_o_queue) → OEnds own_P 13 13 [.val (.ref 0), .val (.int v1), .val (.int v2), .val (.int v3), d4] [] (bk0 o_kwChars o_kwLen o_kwRepl o_pend o_child o_delta o_fail o_depth o_term o_outMask o_queue o_text o_masks o_out o_tail o_maxKw o_maxLen o_phaseNow o_count o_pendLen o_nodeCount o_longestKw o_n o_state o_total o_outLen o_commitPos o_tailLen po) (none, (bk0 o_kwChars o_kwLen o_kwRepl o_pend o_child w_o_delta w_o_fail o_depth o_term w_o_outMask w_o_queue o_text o_masks o_out o_tail o_maxKw o_maxLen o_phaseNow o_count o_pendLen o_nodeCount o_longestKw o_n o_state o_total o_outLen o_commitPos o_tailLen po), 0, 0) := by
  intro n
  induction n with
  | zero => intro o_delta o_fail o_outMask o_queue v1 v2 v3 d4 w_o_delta w_o_fail w_o_outMask w_o_queue h; cases h
  | succ n ih =>
    intro o_delta o_fail o_outMask o_queue v1 v2 v3 d4 w_o_delta w_o_fail w_o_outMask w_o_queue h
    unfold f_computeLinks_13 at h
    refine OEnds.adv hm_13 2 (pc' := 16) (L' := [.val (.ref 0), .val (.int v1), .val (.int v2), .val (.int v3), .unset]) (S' := [.int 26, .int v3]) (H' := (bk0 o_kwChars o_kwLen o_kwRepl o_pend o_child o_delta o_fail o_depth o_term o_outMask o_queue o_text o_masks o_out o_tail o_maxKw o_maxLen o_phaseNow o_count o_pendLen o_nodeCount o_longestKw o_n o_state o_total o_outLen o_commitPos o_tailLen po)) rfl ?_
    by_cases hc55 : v3 < (26 : Int32)
    · simp only [if_pos hc55] at h
      refine OEnds.icmpF hm_13 rfl ((tlt hc55).2.1) ?_
      refine OEnds.adv hm_13 3 (pc' := 24) (L' := [.val (.ref 0), .val (.int v1), .val (.int v2), .val (.int v3), .unset]) (S' := [.int v3, .ref 5]) (H' := (bk0 o_kwChars o_kwLen o_kwRepl o_pend o_child o_delta o_fail o_depth o_term o_outMask o_queue o_text o_masks o_out o_tail o_maxKw o_maxLen o_phaseNow o_count o_pendLen o_nodeCount o_longestKw o_n o_state o_total o_outLen o_commitPos o_tailLen po)) rfl ?_
      obtain ⟨x53, hx53, h⟩ := bnd h
      refine OEnds.plain hm_13 rfl rfl (x_iaload rfl hx53) ?_
      refine OEnds.adv hm_13 5 (pc' := 34) (L' := [.val (.ref 0), .val (.int v1), .val (.int v2), .val (.int v3), .val (.int x53)]) (S' := [.int x53, .int v3, .ref 6]) (H' := (bk0 o_kwChars o_kwLen o_kwRepl o_pend o_child o_delta o_fail o_depth o_term o_outMask o_queue o_text o_masks o_out o_tail o_maxKw o_maxLen o_phaseNow o_count o_pendLen o_nodeCount o_longestKw o_n o_state o_total o_outLen o_commitPos o_tailLen po)) rfl ?_
      obtain ⟨A54, hA54, h⟩ := bnd h
      refine OEnds.plain hm_13 rfl rfl (x_iastore rfl (Nat.le_of_ble_eq_true rfl) hA54) ?_
      refine OEnds.adv hm_13 1 (pc' := 37) (L' := [.val (.ref 0), .val (.int v1), .val (.int v2), .val (.int v3), .val (.int x53)]) (S' := [.int x53]) (H' := (bk0 o_kwChars o_kwLen o_kwRepl o_pend o_child A54 o_fail o_depth o_term o_outMask o_queue o_text o_masks o_out o_tail o_maxKw o_maxLen o_phaseNow o_count o_pendLen o_nodeCount o_longestKw o_n o_state o_total o_outLen o_commitPos o_tailLen po)) rfl ?_
      by_cases hc56 : x53 = (0 : Int32)
      · simp only [if_pos hc56] at h
        refine OEnds.ifT hm_13 rfl (q := 66) rfl ((teq hc56).1) ?_
        refine OEnds.adv hm_13 2 (pc' := 13) (L' := [.val (.ref 0), .val (.int v1), .val (.int v2), .val (.int (v3 + (1 : Int32))), .val (.int x53)]) (S' := []) (H' := (bk0 o_kwChars o_kwLen o_kwRepl o_pend o_child A54 o_fail o_depth o_term o_outMask o_queue o_text o_masks o_out o_tail o_maxKw o_maxLen o_phaseNow o_count o_pendLen o_nodeCount o_longestKw o_n o_state o_total o_outLen o_commitPos o_tailLen po)) rfl ?_
        exact ih h
      · simp only [if_neg hc56] at h
        refine OEnds.ifF hm_13 rfl ((feq hc56).1) ?_
        refine OEnds.adv hm_13 2 (pc' := 44) (L' := [.val (.ref 0), .val (.int v1), .val (.int v2), .val (.int v3), .val (.int x53)]) (S' := [.int 129, .int v2]) (H' := (bk0 o_kwChars o_kwLen o_kwRepl o_pend o_child A54 o_fail o_depth o_term o_outMask o_queue o_text o_masks o_out o_tail o_maxKw o_maxLen o_phaseNow o_count o_pendLen o_nodeCount o_longestKw o_n o_state o_total o_outLen o_commitPos o_tailLen po)) rfl ?_
        by_cases hc57 : v2 < (129 : Int32)
        · simp only [if_pos hc57] at h
          refine OEnds.icmpF hm_13 rfl ((tlt hc57).2.1) ?_
          refine OEnds.adv hm_13 4 (pc' := 54) (L' := [.val (.ref 0), .val (.int v1), .val (.int v2), .val (.int v3), .val (.int x53)]) (S' := [.int 0, .int x53, .ref 7]) (H' := (bk0 o_kwChars o_kwLen o_kwRepl o_pend o_child A54 o_fail o_depth o_term o_outMask o_queue o_text o_masks o_out o_tail o_maxKw o_maxLen o_phaseNow o_count o_pendLen o_nodeCount o_longestKw o_n o_state o_total o_outLen o_commitPos o_tailLen po)) rfl ?_
          obtain ⟨A55, hA55, h⟩ := bnd h
          refine OEnds.plain hm_13 rfl rfl (x_iastore rfl (Nat.le_of_ble_eq_true rfl) hA55) ?_
          refine OEnds.adv hm_13 4 (pc' := 62) (L' := [.val (.ref 0), .val (.int v1), .val (.int v2), .val (.int v3), .val (.int x53)]) (S' := [.int x53, .int v2, .ref 11]) (H' := (bk0 o_kwChars o_kwLen o_kwRepl o_pend o_child A54 A55 o_depth o_term o_outMask o_queue o_text o_masks o_out o_tail o_maxKw o_maxLen o_phaseNow o_count o_pendLen o_nodeCount o_longestKw o_n o_state o_total o_outLen o_commitPos o_tailLen po)) rfl ?_
          obtain ⟨A56, hA56, h⟩ := bnd h
          refine OEnds.plain hm_13 rfl rfl (x_iastore rfl (Nat.le_of_ble_eq_true rfl) hA56) ?_
          refine OEnds.adv hm_13 3 (pc' := 13) (L' := [.val (.ref 0), .val (.int v1), .val (.int (v2 + (1 : Int32))), .val (.int (v3 + (1 : Int32))), .val (.int x53)]) (S' := []) (H' := (bk0 o_kwChars o_kwLen o_kwRepl o_pend o_child A54 A55 o_depth o_term o_outMask A56 o_text o_masks o_out o_tail o_maxKw o_maxLen o_phaseNow o_count o_pendLen o_nodeCount o_longestKw o_n o_state o_total o_outLen o_commitPos o_tailLen po)) rfl ?_
          exact ih h
        · simp only [if_neg hc57] at h
          refine OEnds.icmpT hm_13 rfl (q := 66) rfl ((flt hc57).2.1) ?_
          refine OEnds.adv hm_13 2 (pc' := 13) (L' := [.val (.ref 0), .val (.int v1), .val (.int v2), .val (.int (v3 + (1 : Int32))), .val (.int x53)]) (S' := []) (H' := (bk0 o_kwChars o_kwLen o_kwRepl o_pend o_child A54 o_fail o_depth o_term o_outMask o_queue o_text o_masks o_out o_tail o_maxKw o_maxLen o_phaseNow o_count o_pendLen o_nodeCount o_longestKw o_n o_state o_total o_outLen o_commitPos o_tailLen po)) rfl ?_
          exact ih h
    · simp only [if_neg hc55] at h
      refine OEnds.icmpT hm_13 rfl (q := 72) rfl ((flt hc55).2.1) ?_
      refine OEnds.adv hm_13 2 (pc' := 74) (L' := [.val (.ref 0), .val (.int v1), .val (.int v2), .val (.int 0), .unset]) (S' := []) (H' := (bk0 o_kwChars o_kwLen o_kwRepl o_pend o_child o_delta o_fail o_depth o_term o_outMask o_queue o_text o_masks o_out o_tail o_maxKw o_maxLen o_phaseNow o_count o_pendLen o_nodeCount o_longestKw o_n o_state o_total o_outLen o_commitPos o_tailLen po)) rfl ?_
      exact hk74 h
theorem ok_computeLinks {o_kwChars : List Int32} {o_kwLen : List Int32} {o_kwRepl : List Int32} {o_pend : List Int32} {o_child : List Int32} {o_depth : List Int32} {o_term : List Int32} {o_text : List Int32} {o_masks : List Int32} {o_out : List Int32} {o_tail : List Int32} {o_maxKw : Int32} {o_maxLen : Int32} {o_phaseNow : Int32} {o_count : Int32} {o_pendLen : Int32} {o_nodeCount : Int32} {o_longestKw : Int32} {o_n : Int32} {o_state : Int32} {o_total : Int32} {o_outLen : Int32} {o_commitPos : Int32} {o_tailLen : Int32} {po : List ACell} {o_delta : List Int32} {o_fail : List Int32} {o_outMask : List Int32} {o_queue : List Int32} {w_o_delta : List Int32} {w_o_fail : List Int32} {w_o_outMask : List Int32} {w_o_queue : List Int32} (h : f_computeLinks o_child o_delta o_fail o_outMask o_queue = some (w_o_delta, w_o_fail, w_o_outMask, w_o_queue)) : OEnds own_P 13 0 [.val (.ref 0), .unset, .unset, .unset, .unset] [] (bk0 o_kwChars o_kwLen o_kwRepl o_pend o_child o_delta o_fail o_depth o_term o_outMask o_queue o_text o_masks o_out o_tail o_maxKw o_maxLen o_phaseNow o_count o_pendLen o_nodeCount o_longestKw o_n o_state o_total o_outLen o_commitPos o_tailLen po) (none, (bk0 o_kwChars o_kwLen o_kwRepl o_pend o_child w_o_delta w_o_fail o_depth o_term w_o_outMask w_o_queue o_text o_masks o_out o_tail o_maxKw o_maxLen o_phaseNow o_count o_pendLen o_nodeCount o_longestKw o_n o_state o_total o_outLen o_commitPos o_tailLen po), 0, 0) := by
  unfold f_computeLinks at h
  refine OEnds.adv hm_13 8 (pc' := 10) (L' := [.val (.ref 0), .val (.int 0), .val (.int 0), .unset, .unset]) (S' := [.int 0, .int 0, .ref 7]) (H' := (bk0 o_kwChars o_kwLen o_kwRepl o_pend o_child o_delta o_fail o_depth o_term o_outMask o_queue o_text o_masks o_out o_tail o_maxKw o_maxLen o_phaseNow o_count o_pendLen o_nodeCount o_longestKw o_n o_state o_total o_outLen o_commitPos o_tailLen po)) rfl ?_
  obtain ⟨A52, hA52, h⟩ := bnd h
  refine OEnds.plain hm_13 rfl rfl (x_iastore rfl (Nat.le_of_ble_eq_true rfl) hA52) ?_
  refine OEnds.adv hm_13 2 (pc' := 13) (L' := [.val (.ref 0), .val (.int 0), .val (.int 0), .val (.int 0), .unset]) (S' := []) (H' := (bk0 o_kwChars o_kwLen o_kwRepl o_pend o_child o_delta A52 o_depth o_term o_outMask o_queue o_text o_masks o_out o_tail o_maxKw o_maxLen o_phaseNow o_count o_pendLen o_nodeCount o_longestKw o_n o_state o_total o_outLen o_commitPos o_tailLen po)) rfl ?_
  exact ok_computeLinks_13 (k74 := f_computeLinks_74 o_child 100000) (ok_computeLinks_74 100000) 100000 h
theorem ok_build {o_kwChars : List Int32} {o_kwLen : List Int32} {o_kwRepl : List Int32} {o_pend : List Int32} {o_text : List Int32} {o_masks : List Int32} {o_out : List Int32} {o_tail : List Int32} {o_maxKw : Int32} {o_maxLen : Int32} {o_count : Int32} {o_pendLen : Int32} {po : List ACell} {o_child : List Int32} {o_delta : List Int32} {o_fail : List Int32} {o_depth : List Int32} {o_term : List Int32} {o_outMask : List Int32} {o_queue : List Int32} {o_phaseNow : Int32} {o_nodeCount : Int32} {o_longestKw : Int32} {o_n : Int32} {o_state : Int32} {o_total : Int32} {o_outLen : Int32} {o_commitPos : Int32} {o_tailLen : Int32} {res : Int32} {w_o_child : List Int32} {w_o_delta : List Int32} {w_o_fail : List Int32} {w_o_depth : List Int32} {w_o_term : List Int32} {w_o_outMask : List Int32} {w_o_queue : List Int32} {w_o_phaseNow : Int32} {w_o_nodeCount : Int32} {w_o_longestKw : Int32} {w_o_n : Int32} {w_o_state : Int32} {w_o_total : Int32} {w_o_outLen : Int32} {w_o_commitPos : Int32} {w_o_tailLen : Int32} (h : f_build o_kwChars o_kwLen o_count o_pendLen o_child o_delta o_fail o_depth o_term o_outMask o_queue o_phaseNow o_nodeCount o_longestKw o_n o_state o_total o_outLen o_commitPos o_tailLen = some (res, w_o_child, w_o_delta, w_o_fail, w_o_depth, w_o_term, w_o_outMask, w_o_queue, w_o_phaseNow, w_o_nodeCount, w_o_longestKw, w_o_n, w_o_state, w_o_total, w_o_outLen, w_o_commitPos, w_o_tailLen)) : OEnds own_P 10 0 [.val (.ref 0)] [] (bk0 o_kwChars o_kwLen o_kwRepl o_pend o_child o_delta o_fail o_depth o_term o_outMask o_queue o_text o_masks o_out o_tail o_maxKw o_maxLen o_phaseNow o_count o_pendLen o_nodeCount o_longestKw o_n o_state o_total o_outLen o_commitPos o_tailLen po) (some (.int res), (bk0 o_kwChars o_kwLen o_kwRepl o_pend w_o_child w_o_delta w_o_fail w_o_depth w_o_term w_o_outMask w_o_queue o_text o_masks o_out o_tail o_maxKw o_maxLen w_o_phaseNow o_count o_pendLen w_o_nodeCount w_o_longestKw w_o_n w_o_state w_o_total w_o_outLen w_o_commitPos w_o_tailLen po), 0, 0) := by
  unfold f_build at h
  refine OEnds.adv hm_10 2 (pc' := 4) (L' := [.val (.ref 0)]) (S' := [.int o_phaseNow]) (H' := (bk0 o_kwChars o_kwLen o_kwRepl o_pend o_child o_delta o_fail o_depth o_term o_outMask o_queue o_text o_masks o_out o_tail o_maxKw o_maxLen o_phaseNow o_count o_pendLen o_nodeCount o_longestKw o_n o_state o_total o_outLen o_commitPos o_tailLen po)) rfl ?_
  by_cases hc58 : o_phaseNow = (0 : Int32)
  · simp only [if_pos hc58] at h
    refine OEnds.ifT hm_10 rfl (q := 9) rfl ((teq hc58).1) ?_
    refine OEnds.adv hm_10 2 (pc' := 13) (L' := [.val (.ref 0)]) (S' := [.int o_pendLen]) (H' := (bk0 o_kwChars o_kwLen o_kwRepl o_pend o_child o_delta o_fail o_depth o_term o_outMask o_queue o_text o_masks o_out o_tail o_maxKw o_maxLen o_phaseNow o_count o_pendLen o_nodeCount o_longestKw o_n o_state o_total o_outLen o_commitPos o_tailLen po)) rfl ?_
    by_cases hc59 : o_pendLen = (0 : Int32)
    · simp only [if_pos hc59] at h
      refine OEnds.ifT hm_10 rfl (q := 19) rfl ((teq hc59).1) ?_
      refine OEnds.adv hm_10 2 (pc' := 23) (L' := [.val (.ref 0)]) (S' := [.int o_count]) (H' := (bk0 o_kwChars o_kwLen o_kwRepl o_pend o_child o_delta o_fail o_depth o_term o_outMask o_queue o_text o_masks o_out o_tail o_maxKw o_maxLen o_phaseNow o_count o_pendLen o_nodeCount o_longestKw o_n o_state o_total o_outLen o_commitPos o_tailLen po)) rfl ?_
      by_cases hc60 : o_count = (0 : Int32)
      · simp only [if_pos hc60] at h
        refine OEnds.ifF hm_10 rfl ((teq hc60).2) ?_
        refine OEnds.adv hm_10 1 (pc' := 28) (L' := [.val (.ref 0)]) (S' := [.int (-4)]) (H' := (bk0 o_kwChars o_kwLen o_kwRepl o_pend o_child o_delta o_fail o_depth o_term o_outMask o_queue o_text o_masks o_out o_tail o_maxKw o_maxLen o_phaseNow o_count o_pendLen o_nodeCount o_longestKw o_n o_state o_total o_outLen o_commitPos o_tailLen po)) rfl ?_
        cases h
        exact OEnds.iret hm_10 rfl rfl
      · simp only [if_neg hc60] at h
        refine OEnds.ifT hm_10 rfl (q := 29) rfl ((feq hc60).2) ?_
        refine OEnds.adv hm_10 1 (pc' := 30) (L' := [.val (.ref 0)]) (S' := [.ref 0]) (H' := (bk0 o_kwChars o_kwLen o_kwRepl o_pend o_child o_delta o_fail o_depth o_term o_outMask o_queue o_text o_masks o_out o_tail o_maxKw o_maxLen o_phaseNow o_count o_pendLen o_nodeCount o_longestKw o_n o_state o_total o_outLen o_commitPos o_tailLen po)) rfl ?_
        obtain ⟨⟨s63, s64, s65, s66, s67, s68⟩, hq61, h⟩ := bnd h
        refine OEnds.call0 hm_10 rfl rfl (by decide) rfl (as := [.ref 0]) (rest := []) rfl rfl (ok_buildTrie hq61) ?_
        refine OEnds.adv hm_10 1 (pc' := 34) (L' := [.val (.ref 0)]) (S' := [.ref 0]) (H' := (bk0 o_kwChars o_kwLen o_kwRepl o_pend s63 o_delta o_fail s64 s65 s66 o_queue o_text o_masks o_out o_tail o_maxKw o_maxLen o_phaseNow o_count o_pendLen s67 s68 o_n o_state o_total o_outLen o_commitPos o_tailLen po)) rfl ?_
        obtain ⟨⟨s69, s70, s71, s72⟩, hq62, h⟩ := bnd h
        refine OEnds.call0 hm_10 rfl rfl (by decide) rfl (as := [.ref 0]) (rest := []) rfl rfl (ok_computeLinks hq62) ?_
        refine OEnds.adv hm_10 4 (pc' := 43) (L' := [.val (.ref 0)]) (S' := [.ref 0]) (H' := (bk0 o_kwChars o_kwLen o_kwRepl o_pend s63 s69 s70 s64 s65 s71 s72 o_text o_masks o_out o_tail o_maxKw o_maxLen 1 o_count o_pendLen s67 s68 o_n o_state o_total o_outLen o_commitPos o_tailLen po)) rfl ?_
        obtain ⟨⟨s73, s74, s75, s76, s77, s78⟩, hq63, h⟩ := bnd h
        refine OEnds.call0 hm_10 rfl rfl (by decide) rfl (as := [.ref 0]) (rest := []) rfl rfl (ok_clearText hq63) ?_
        refine OEnds.adv hm_10 1 (pc' := 47) (L' := [.val (.ref 0)]) (S' := [.int 0]) (H' := (bk0 o_kwChars o_kwLen o_kwRepl o_pend s63 s69 s70 s64 s65 s71 s72 o_text o_masks o_out o_tail o_maxKw o_maxLen 1 o_count o_pendLen s67 s68 s73 s74 s75 s76 s77 s78 po)) rfl ?_
        cases h
        exact OEnds.iret hm_10 rfl rfl
    · simp only [if_neg hc59] at h
      refine OEnds.ifF hm_10 rfl ((feq hc59).1) ?_
      refine OEnds.adv hm_10 1 (pc' := 18) (L' := [.val (.ref 0)]) (S' := [.int (-7)]) (H' := (bk0 o_kwChars o_kwLen o_kwRepl o_pend o_child o_delta o_fail o_depth o_term o_outMask o_queue o_text o_masks o_out o_tail o_maxKw o_maxLen o_phaseNow o_count o_pendLen o_nodeCount o_longestKw o_n o_state o_total o_outLen o_commitPos o_tailLen po)) rfl ?_
      cases h
      exact OEnds.iret hm_10 rfl rfl
  · simp only [if_neg hc58] at h
    refine OEnds.ifF hm_10 rfl ((feq hc58).1) ?_
    refine OEnds.adv hm_10 1 (pc' := 8) (L' := [.val (.ref 0)]) (S' := [.int (-1)]) (H' := (bk0 o_kwChars o_kwLen o_kwRepl o_pend o_child o_delta o_fail o_depth o_term o_outMask o_queue o_text o_masks o_out o_tail o_maxKw o_maxLen o_phaseNow o_count o_pendLen o_nodeCount o_longestKw o_n o_state o_total o_outLen o_commitPos o_tailLen po)) rfl ?_
    cases h
    exact OEnds.iret hm_10 rfl rfl
theorem ok_L_tc {po : List ACell} {v0 : Int32} {v1 : Int32} {res : Int32} (h : f_L_tc v0 v1 = some res) : OEnds own_P 15 0 [.val (.int v0), .val (.int v1)] [] po (some (.int res), po, 0, 0) := by
  unfold f_L_tc at h
  refine OEnds.adv hm_15 9 (pc' := 10) (L' := [.val (.int v0), .val (.int v1)]) (S' := [.int ((97 : Int32) + ((v0 >>> (((2 : Int32) * v1) &&& 31)) &&& (3 : Int32)))]) (H' := po) rfl ?_
  cases h
  exact OEnds.iret hm_15 rfl rfl
theorem ok_nextState {o_kwChars : List Int32} {o_kwLen : List Int32} {o_kwRepl : List Int32} {o_pend : List Int32} {o_child : List Int32} {o_delta : List Int32} {o_fail : List Int32} {o_depth : List Int32} {o_term : List Int32} {o_outMask : List Int32} {o_queue : List Int32} {o_text : List Int32} {o_masks : List Int32} {o_out : List Int32} {o_tail : List Int32} {o_maxKw : Int32} {o_maxLen : Int32} {o_phaseNow : Int32} {o_count : Int32} {o_pendLen : Int32} {o_nodeCount : Int32} {o_longestKw : Int32} {o_n : Int32} {o_state : Int32} {o_total : Int32} {o_outLen : Int32} {o_commitPos : Int32} {o_tailLen : Int32} {po : List ACell} {v1 : Int32} {v2 : Int32} {res : Int32} (h : f_nextState o_delta v1 v2 = some res) : OEnds own_P 17 0 [.val (.ref 0), .val (.int v1), .val (.int v2)] [] (bk0 o_kwChars o_kwLen o_kwRepl o_pend o_child o_delta o_fail o_depth o_term o_outMask o_queue o_text o_masks o_out o_tail o_maxKw o_maxLen o_phaseNow o_count o_pendLen o_nodeCount o_longestKw o_n o_state o_total o_outLen o_commitPos o_tailLen po) (some (.int res), (bk0 o_kwChars o_kwLen o_kwRepl o_pend o_child o_delta o_fail o_depth o_term o_outMask o_queue o_text o_masks o_out o_tail o_maxKw o_maxLen o_phaseNow o_count o_pendLen o_nodeCount o_longestKw o_n o_state o_total o_outLen o_commitPos o_tailLen po), 0, 0) := by
  unfold f_nextState at h
  refine OEnds.adv hm_17 2 (pc' := 2) (L' := [.val (.ref 0), .val (.int v1), .val (.int v2)]) (S' := [.int v2, .ref 0]) (H' := (bk0 o_kwChars o_kwLen o_kwRepl o_pend o_child o_delta o_fail o_depth o_term o_outMask o_queue o_text o_masks o_out o_tail o_maxKw o_maxLen o_phaseNow o_count o_pendLen o_nodeCount o_longestKw o_n o_state o_total o_outLen o_commitPos o_tailLen po)) rfl ?_
  obtain ⟨r79, hq64, h⟩ := bnd h
  refine OEnds.call0 hm_17 rfl rfl (by decide) rfl (as := [.ref 0, .int v2]) (rest := []) rfl rfl (ok_isLetter hq64) ?_
  show OEnds own_P 17 5 [.val (.ref 0), .val (.int v1), .val (.int v2)] [.int r79] (bk0 o_kwChars o_kwLen o_kwRepl o_pend o_child o_delta o_fail o_depth o_term o_outMask o_queue o_text o_masks o_out o_tail o_maxKw o_maxLen o_phaseNow o_count o_pendLen o_nodeCount o_longestKw o_n o_state o_total o_outLen o_commitPos o_tailLen po) _
  by_cases hc65 : r79 = (0 : Int32)
  · simp only [if_pos hc65] at h
    refine OEnds.ifF hm_17 rfl ((teq hc65).2) ?_
    refine OEnds.adv hm_17 1 (pc' := 9) (L' := [.val (.ref 0), .val (.int v1), .val (.int v2)]) (S' := [.int 0]) (H' := (bk0 o_kwChars o_kwLen o_kwRepl o_pend o_child o_delta o_fail o_depth o_term o_outMask o_queue o_text o_masks o_out o_tail o_maxKw o_maxLen o_phaseNow o_count o_pendLen o_nodeCount o_longestKw o_n o_state o_total o_outLen o_commitPos o_tailLen po)) rfl ?_
    cases h
    exact OEnds.iret hm_17 rfl rfl
  · simp only [if_neg hc65] at h
    refine OEnds.ifT hm_17 rfl (q := 10) rfl ((feq hc65).2) ?_
    refine OEnds.adv hm_17 1 (pc' := 11) (L' := [.val (.ref 0), .val (.int v1), .val (.int v2)]) (S' := [.int v1]) (H' := (bk0 o_kwChars o_kwLen o_kwRepl o_pend o_child o_delta o_fail o_depth o_term o_outMask o_queue o_text o_masks o_out o_tail o_maxKw o_maxLen o_phaseNow o_count o_pendLen o_nodeCount o_longestKw o_n o_state o_total o_outLen o_commitPos o_tailLen po)) rfl ?_
    by_cases hc66 : v1 < (0 : Int32)
    · simp only [if_pos hc66] at h
      refine OEnds.ifT hm_17 rfl (q := 21) rfl ((tlt hc66).1) ?_
      refine OEnds.adv hm_17 1 (pc' := 22) (L' := [.val (.ref 0), .val (.int v1), .val (.int v2)]) (S' := [.int 0]) (H' := (bk0 o_kwChars o_kwLen o_kwRepl o_pend o_child o_delta o_fail o_depth o_term o_outMask o_queue o_text o_masks o_out o_tail o_maxKw o_maxLen o_phaseNow o_count o_pendLen o_nodeCount o_longestKw o_n o_state o_total o_outLen o_commitPos o_tailLen po)) rfl ?_
      cases h
      exact OEnds.iret hm_17 rfl rfl
    · simp only [if_neg hc66] at h
      refine OEnds.ifF hm_17 rfl ((flt hc66).1) ?_
      refine OEnds.adv hm_17 2 (pc' := 18) (L' := [.val (.ref 0), .val (.int v1), .val (.int v2)]) (S' := [.int 129, .int v1]) (H' := (bk0 o_kwChars o_kwLen o_kwRepl o_pend o_child o_delta o_fail o_depth o_term o_outMask o_queue o_text o_masks o_out o_tail o_maxKw o_maxLen o_phaseNow o_count o_pendLen o_nodeCount o_longestKw o_n o_state o_total o_outLen o_commitPos o_tailLen po)) rfl ?_
      by_cases hc67 : v1 < (129 : Int32)
      · simp only [if_pos hc67] at h
        refine OEnds.icmpT hm_17 rfl (q := 23) rfl ((tlt hc67).1) ?_
        refine OEnds.adv hm_17 9 (pc' := 36) (L' := [.val (.ref 0), .val (.int v1), .val (.int v2)]) (S' := [.int ((v1 * (26 : Int32)) + (v2 - (97 : Int32))), .ref 6]) (H' := (bk0 o_kwChars o_kwLen o_kwRepl o_pend o_child o_delta o_fail o_depth o_term o_outMask o_queue o_text o_masks o_out o_tail o_maxKw o_maxLen o_phaseNow o_count o_pendLen o_nodeCount o_longestKw o_n o_state o_total o_outLen o_commitPos o_tailLen po)) rfl ?_
        obtain ⟨x80, hx80, h⟩ := bnd h
        refine OEnds.plain hm_17 rfl rfl (x_iaload rfl hx80) ?_
        show OEnds own_P 17 37 [.val (.ref 0), .val (.int v1), .val (.int v2)] [.int x80] (bk0 o_kwChars o_kwLen o_kwRepl o_pend o_child o_delta o_fail o_depth o_term o_outMask o_queue o_text o_masks o_out o_tail o_maxKw o_maxLen o_phaseNow o_count o_pendLen o_nodeCount o_longestKw o_n o_state o_total o_outLen o_commitPos o_tailLen po) _
        cases h
        exact OEnds.iret hm_17 rfl rfl
      · simp only [if_neg hc67] at h
        refine OEnds.icmpF hm_17 rfl ((flt hc67).1) ?_
        refine OEnds.adv hm_17 1 (pc' := 22) (L' := [.val (.ref 0), .val (.int v1), .val (.int v2)]) (S' := [.int 0]) (H' := (bk0 o_kwChars o_kwLen o_kwRepl o_pend o_child o_delta o_fail o_depth o_term o_outMask o_queue o_text o_masks o_out o_tail o_maxKw o_maxLen o_phaseNow o_count o_pendLen o_nodeCount o_longestKw o_n o_state o_total o_outLen o_commitPos o_tailLen po)) rfl ?_
        cases h
        exact OEnds.iret hm_17 rfl rfl
theorem ok_popCount_4 {o_kwChars : List Int32} {o_kwLen : List Int32} {o_kwRepl : List Int32} {o_pend : List Int32} {o_child : List Int32} {o_delta : List Int32} {o_fail : List Int32} {o_depth : List Int32} {o_term : List Int32} {o_outMask : List Int32} {o_queue : List Int32} {o_text : List Int32} {o_masks : List Int32} {o_out : List Int32} {o_tail : List Int32} {o_maxKw : Int32} {o_maxLen : Int32} {o_phaseNow : Int32} {o_count : Int32} {o_pendLen : Int32} {o_nodeCount : Int32} {o_longestKw : Int32} {o_n : Int32} {o_state : Int32} {o_total : Int32} {o_outLen : Int32} {o_commitPos : Int32} {o_tailLen : Int32} {po : List ACell} : ∀ (n : Nat), ∀ {v1 : Int32} {v2 : Int32} {v3 : Int32} {d0 : Slot} {res : Int32}, f_popCount_4 n v1 v2 v3 = some res → OEnds own_P 18 4 [d0, .val (.int v1), .val (.int v2), .val (.int v3)] [] (bk0 o_kwChars o_kwLen o_kwRepl o_pend o_child o_delta o_fail o_depth o_term o_outMask o_queue o_text o_masks o_out o_tail o_maxKw o_maxLen o_phaseNow o_count o_pendLen o_nodeCount o_longestKw o_n o_state o_total o_outLen o_commitPos o_tailLen po) (some (.int res), (bk0 o_kwChars o_kwLen o_kwRepl o_pend o_child o_delta o_fail o_depth o_term o_outMask o_queue o_text o_masks o_out o_tail o_maxKw o_maxLen o_phaseNow o_count o_pendLen o_nodeCount o_longestKw o_n o_state o_total o_outLen o_commitPos o_tailLen po), 0, 0) := by
  intro n
  induction n with
  | zero => intro v1 v2 v3 d0 res h; cases h
  | succ n ih =>
    intro v1 v2 v3 d0 res h
    unfold f_popCount_4 at h
    refine OEnds.adv hm_18 2 (pc' := 7) (L' := [.unset, .val (.int v1), .val (.int v2), .val (.int v3)]) (S' := [.int 16, .int v3]) (H' := (bk0 o_kwChars o_kwLen o_kwRepl o_pend o_child o_delta o_fail o_depth o_term o_outMask o_queue o_text o_masks o_out o_tail o_maxKw o_maxLen o_phaseNow o_count o_pendLen o_nodeCount o_longestKw o_n o_state o_total o_outLen o_commitPos o_tailLen po)) rfl ?_
    by_cases hc68 : v3 < (16 : Int32)
    · simp only [if_pos hc68] at h
      refine OEnds.icmpF hm_18 rfl ((tlt hc68).2.1) ?_
      refine OEnds.adv hm_18 5 (pc' := 15) (L' := [.unset, .val (.int v1), .val (.int v2), .val (.int v3)]) (S' := [.int ((v1 >>> (v3 &&& 31)) &&& (1 : Int32))]) (H' := (bk0 o_kwChars o_kwLen o_kwRepl o_pend o_child o_delta o_fail o_depth o_term o_outMask o_queue o_text o_masks o_out o_tail o_maxKw o_maxLen o_phaseNow o_count o_pendLen o_nodeCount o_longestKw o_n o_state o_total o_outLen o_commitPos o_tailLen po)) rfl ?_
      by_cases hc69 : ((v1 >>> (v3 &&& 31)) &&& (1 : Int32)) = (0 : Int32)
      · simp only [if_pos hc69] at h
        refine OEnds.ifT hm_18 rfl (q := 21) rfl ((teq hc69).1) ?_
        refine OEnds.adv hm_18 2 (pc' := 4) (L' := [.unset, .val (.int v1), .val (.int v2), .val (.int (v3 + (1 : Int32)))]) (S' := []) (H' := (bk0 o_kwChars o_kwLen o_kwRepl o_pend o_child o_delta o_fail o_depth o_term o_outMask o_queue o_text o_masks o_out o_tail o_maxKw o_maxLen o_phaseNow o_count o_pendLen o_nodeCount o_longestKw o_n o_state o_total o_outLen o_commitPos o_tailLen po)) rfl ?_
        exact ih h
      · simp only [if_neg hc69] at h
        refine OEnds.ifF hm_18 rfl ((feq hc69).1) ?_
        refine OEnds.adv hm_18 3 (pc' := 4) (L' := [.unset, .val (.int v1), .val (.int (v2 + (1 : Int32))), .val (.int (v3 + (1 : Int32)))]) (S' := []) (H' := (bk0 o_kwChars o_kwLen o_kwRepl o_pend o_child o_delta o_fail o_depth o_term o_outMask o_queue o_text o_masks o_out o_tail o_maxKw o_maxLen o_phaseNow o_count o_pendLen o_nodeCount o_longestKw o_n o_state o_total o_outLen o_commitPos o_tailLen po)) rfl ?_
        exact ih h
    · simp only [if_neg hc68] at h
      refine OEnds.icmpT hm_18 rfl (q := 27) rfl ((flt hc68).2.1) ?_
      refine OEnds.adv hm_18 1 (pc' := 28) (L' := [.unset, .val (.int v1), .val (.int v2), .val (.int v3)]) (S' := [.int v2]) (H' := (bk0 o_kwChars o_kwLen o_kwRepl o_pend o_child o_delta o_fail o_depth o_term o_outMask o_queue o_text o_masks o_out o_tail o_maxKw o_maxLen o_phaseNow o_count o_pendLen o_nodeCount o_longestKw o_n o_state o_total o_outLen o_commitPos o_tailLen po)) rfl ?_
      cases h
      exact OEnds.iret hm_18 rfl rfl
theorem ok_popCount {o_kwChars : List Int32} {o_kwLen : List Int32} {o_kwRepl : List Int32} {o_pend : List Int32} {o_child : List Int32} {o_delta : List Int32} {o_fail : List Int32} {o_depth : List Int32} {o_term : List Int32} {o_outMask : List Int32} {o_queue : List Int32} {o_text : List Int32} {o_masks : List Int32} {o_out : List Int32} {o_tail : List Int32} {o_maxKw : Int32} {o_maxLen : Int32} {o_phaseNow : Int32} {o_count : Int32} {o_pendLen : Int32} {o_nodeCount : Int32} {o_longestKw : Int32} {o_n : Int32} {o_state : Int32} {o_total : Int32} {o_outLen : Int32} {o_commitPos : Int32} {o_tailLen : Int32} {po : List ACell} {v1 : Int32} {res : Int32} (h : f_popCount v1 = some res) : OEnds own_P 18 0 [.val (.ref 0), .val (.int v1), .unset, .unset] [] (bk0 o_kwChars o_kwLen o_kwRepl o_pend o_child o_delta o_fail o_depth o_term o_outMask o_queue o_text o_masks o_out o_tail o_maxKw o_maxLen o_phaseNow o_count o_pendLen o_nodeCount o_longestKw o_n o_state o_total o_outLen o_commitPos o_tailLen po) (some (.int res), (bk0 o_kwChars o_kwLen o_kwRepl o_pend o_child o_delta o_fail o_depth o_term o_outMask o_queue o_text o_masks o_out o_tail o_maxKw o_maxLen o_phaseNow o_count o_pendLen o_nodeCount o_longestKw o_n o_state o_total o_outLen o_commitPos o_tailLen po), 0, 0) := by
  unfold f_popCount at h
  refine OEnds.adv hm_18 4 (pc' := 4) (L' := [.val (.ref 0), .val (.int v1), .val (.int 0), .val (.int 0)]) (S' := []) (H' := (bk0 o_kwChars o_kwLen o_kwRepl o_pend o_child o_delta o_fail o_depth o_term o_outMask o_queue o_text o_masks o_out o_tail o_maxKw o_maxLen o_phaseNow o_count o_pendLen o_nodeCount o_longestKw o_n o_state o_total o_outLen o_commitPos o_tailLen po)) rfl ?_
  exact ok_popCount_4 100000 h
theorem ok_longestAt_7 {o_kwChars : List Int32} {o_kwLen : List Int32} {o_kwRepl : List Int32} {o_pend : List Int32} {o_child : List Int32} {o_delta : List Int32} {o_fail : List Int32} {o_depth : List Int32} {o_term : List Int32} {o_outMask : List Int32} {o_queue : List Int32} {o_text : List Int32} {o_masks : List Int32} {o_out : List Int32} {o_tail : List Int32} {o_maxKw : Int32} {o_maxLen : Int32} {o_phaseNow : Int32} {o_count : Int32} {o_pendLen : Int32} {o_nodeCount : Int32} {o_longestKw : Int32} {o_n : Int32} {o_state : Int32} {o_total : Int32} {o_outLen : Int32} {o_commitPos : Int32} {o_tailLen : Int32} {po : List ACell} : ∀ (n : Nat), ∀ {v1 : Int32} {v2 : Int32} {v3 : Int32} {v4 : Int32} {d5 d6 d7 : Slot} {res : Int32}, f_longestAt_7 o_child o_term o_text o_n n v1 v2 v3 v4 = some res → OEnds own_P 21 7 [.val (.ref 0), .val (.int v1), .val (.int v2), .val (.int v3), .val (.int v4), d5, d6, d7] [] (bk0 o_kwChars o_kwLen o_kwRepl o_pend o_child o_delta o_fail o_depth o_term o_outMask o_queue o_text o_masks o_out o_tail o_maxKw o_maxLen o_phaseNow o_count o_pendLen o_nodeCount o_longestKw o_n o_state o_total o_outLen o_commitPos o_tailLen po) (some (.int res), (bk0 o_kwChars o_kwLen o_kwRepl o_pend o_child o_delta o_fail o_depth o_term o_outMask o_queue o_text o_masks o_out o_tail o_maxKw o_maxLen o_phaseNow o_count o_pendLen o_nodeCount o_longestKw o_n o_state o_total o_outLen o_commitPos o_tailLen po), 0, 0) := by
  intro n
  induction n with
  | zero => intro v1 v2 v3 v4 d5 d6 d7 res h; cases h
  | succ n ih =>
    intro v1 v2 v3 v4 d5 d6 d7 res h
    unfold f_longestAt_7 at h
    refine OEnds.adv hm_21 2 (pc' := 11) (L' := [.val (.ref 0), .val (.int v1), .val (.int v2), .val (.int v3), .val (.int v4), .unset, .unset, .unset]) (S' := [.int 8, .int v4]) (H' := (bk0 o_kwChars o_kwLen o_kwRepl o_pend o_child o_delta o_fail o_depth o_term o_outMask o_queue o_text o_masks o_out o_tail o_maxKw o_maxLen o_phaseNow o_count o_pendLen o_nodeCount o_longestKw o_n o_state o_total o_outLen o_commitPos o_tailLen po)) rfl ?_
    by_cases hc70 : v4 < (8 : Int32)
    · simp only [if_pos hc70] at h
      refine OEnds.icmpF hm_21 rfl ((tlt hc70).2.1) ?_
      refine OEnds.adv hm_21 5 (pc' := 22) (L' := [.val (.ref 0), .val (.int v1), .val (.int v2), .val (.int v3), .val (.int v4), .val (.int (v1 + v4)), .unset, .unset]) (S' := [.int (v1 + v4)]) (H' := (bk0 o_kwChars o_kwLen o_kwRepl o_pend o_child o_delta o_fail o_depth o_term o_outMask o_queue o_text o_masks o_out o_tail o_maxKw o_maxLen o_phaseNow o_count o_pendLen o_nodeCount o_longestKw o_n o_state o_total o_outLen o_commitPos o_tailLen po)) rfl ?_
      by_cases hc71 : (v1 + v4) < (0 : Int32)
      · simp only [if_pos hc71] at h
        refine OEnds.ifT hm_21 rfl (q := 34) rfl ((tlt hc71).1) ?_
        refine OEnds.adv hm_21 1 (pc' := 35) (L' := [.val (.ref 0), .val (.int v1), .val (.int v2), .val (.int v3), .val (.int v4), .val (.int (v1 + v4)), .unset, .unset]) (S' := [.int v2]) (H' := (bk0 o_kwChars o_kwLen o_kwRepl o_pend o_child o_delta o_fail o_depth o_term o_outMask o_queue o_text o_masks o_out o_tail o_maxKw o_maxLen o_phaseNow o_count o_pendLen o_nodeCount o_longestKw o_n o_state o_total o_outLen o_commitPos o_tailLen po)) rfl ?_
        cases h
        exact OEnds.iret hm_21 rfl rfl
      · simp only [if_neg hc71] at h
        refine OEnds.ifF hm_21 rfl ((flt hc71).1) ?_
        refine OEnds.adv hm_21 3 (pc' := 31) (L' := [.val (.ref 0), .val (.int v1), .val (.int v2), .val (.int v3), .val (.int v4), .val (.int (v1 + v4)), .unset, .unset]) (S' := [.int o_n, .int (v1 + v4)]) (H' := (bk0 o_kwChars o_kwLen o_kwRepl o_pend o_child o_delta o_fail o_depth o_term o_outMask o_queue o_text o_masks o_out o_tail o_maxKw o_maxLen o_phaseNow o_count o_pendLen o_nodeCount o_longestKw o_n o_state o_total o_outLen o_commitPos o_tailLen po)) rfl ?_
        by_cases hc72 : (v1 + v4) < o_n
        · simp only [if_pos hc72] at h
          refine OEnds.icmpT hm_21 rfl (q := 36) rfl ((tlt hc72).1) ?_
          refine OEnds.adv hm_21 3 (pc' := 42) (L' := [.val (.ref 0), .val (.int v1), .val (.int v2), .val (.int v3), .val (.int v4), .val (.int (v1 + v4)), .unset, .unset]) (S' := [.int (v1 + v4), .ref 12]) (H' := (bk0 o_kwChars o_kwLen o_kwRepl o_pend o_child o_delta o_fail o_depth o_term o_outMask o_queue o_text o_masks o_out o_tail o_maxKw o_maxLen o_phaseNow o_count o_pendLen o_nodeCount o_longestKw o_n o_state o_total o_outLen o_commitPos o_tailLen po)) rfl ?_
          obtain ⟨x81, hx81, h⟩ := bnd h
          refine OEnds.plain hm_21 rfl rfl (x_iaload rfl hx81) ?_
          refine OEnds.adv hm_21 3 (pc' := 48) (L' := [.val (.ref 0), .val (.int v1), .val (.int v2), .val (.int v3), .val (.int v4), .val (.int (v1 + v4)), .val (.int x81), .unset]) (S' := [.int x81, .ref 0]) (H' := (bk0 o_kwChars o_kwLen o_kwRepl o_pend o_child o_delta o_fail o_depth o_term o_outMask o_queue o_text o_masks o_out o_tail o_maxKw o_maxLen o_phaseNow o_count o_pendLen o_nodeCount o_longestKw o_n o_state o_total o_outLen o_commitPos o_tailLen po)) rfl ?_
          obtain ⟨r82, hq73, h⟩ := bnd h
          refine OEnds.call0 hm_21 rfl rfl (by decide) rfl (as := [.ref 0, .int x81]) (rest := []) rfl rfl (ok_isLetter hq73) ?_
          show OEnds own_P 21 51 [.val (.ref 0), .val (.int v1), .val (.int v2), .val (.int v3), .val (.int v4), .val (.int (v1 + v4)), .val (.int x81), .unset] [.int r82] (bk0 o_kwChars o_kwLen o_kwRepl o_pend o_child o_delta o_fail o_depth o_term o_outMask o_queue o_text o_masks o_out o_tail o_maxKw o_maxLen o_phaseNow o_count o_pendLen o_nodeCount o_longestKw o_n o_state o_total o_outLen o_commitPos o_tailLen po) _
          by_cases hc74 : r82 = (0 : Int32)
          · simp only [if_pos hc74] at h
            refine OEnds.ifF hm_21 rfl ((teq hc74).2) ?_
            refine OEnds.adv hm_21 1 (pc' := 55) (L' := [.val (.ref 0), .val (.int v1), .val (.int v2), .val (.int v3), .val (.int v4), .val (.int (v1 + v4)), .val (.int x81), .unset]) (S' := [.int v2]) (H' := (bk0 o_kwChars o_kwLen o_kwRepl o_pend o_child o_delta o_fail o_depth o_term o_outMask o_queue o_text o_masks o_out o_tail o_maxKw o_maxLen o_phaseNow o_count o_pendLen o_nodeCount o_longestKw o_n o_state o_total o_outLen o_commitPos o_tailLen po)) rfl ?_
            cases h
            exact OEnds.iret hm_21 rfl rfl
          · simp only [if_neg hc74] at h
            refine OEnds.ifT hm_21 rfl (q := 56) rfl ((feq hc74).2) ?_
            refine OEnds.adv hm_21 9 (pc' := 70) (L' := [.val (.ref 0), .val (.int v1), .val (.int v2), .val (.int v3), .val (.int v4), .val (.int (v1 + v4)), .val (.int x81), .unset]) (S' := [.int ((v3 * (26 : Int32)) + (x81 - (97 : Int32))), .ref 5]) (H' := (bk0 o_kwChars o_kwLen o_kwRepl o_pend o_child o_delta o_fail o_depth o_term o_outMask o_queue o_text o_masks o_out o_tail o_maxKw o_maxLen o_phaseNow o_count o_pendLen o_nodeCount o_longestKw o_n o_state o_total o_outLen o_commitPos o_tailLen po)) rfl ?_
            obtain ⟨x83, hx83, h⟩ := bnd h
            refine OEnds.plain hm_21 rfl rfl (x_iaload rfl hx83) ?_
            refine OEnds.adv hm_21 2 (pc' := 75) (L' := [.val (.ref 0), .val (.int v1), .val (.int v2), .val (.int v3), .val (.int v4), .val (.int (v1 + v4)), .val (.int x81), .val (.int x83)]) (S' := [.int x83]) (H' := (bk0 o_kwChars o_kwLen o_kwRepl o_pend o_child o_delta o_fail o_depth o_term o_outMask o_queue o_text o_masks o_out o_tail o_maxKw o_maxLen o_phaseNow o_count o_pendLen o_nodeCount o_longestKw o_n o_state o_total o_outLen o_commitPos o_tailLen po)) rfl ?_
            by_cases hc75 : x83 = (0 : Int32)
            · simp only [if_pos hc75] at h
              refine OEnds.ifF hm_21 rfl ((teq hc75).2) ?_
              refine OEnds.adv hm_21 1 (pc' := 79) (L' := [.val (.ref 0), .val (.int v1), .val (.int v2), .val (.int v3), .val (.int v4), .val (.int (v1 + v4)), .val (.int x81), .val (.int x83)]) (S' := [.int v2]) (H' := (bk0 o_kwChars o_kwLen o_kwRepl o_pend o_child o_delta o_fail o_depth o_term o_outMask o_queue o_text o_masks o_out o_tail o_maxKw o_maxLen o_phaseNow o_count o_pendLen o_nodeCount o_longestKw o_n o_state o_total o_outLen o_commitPos o_tailLen po)) rfl ?_
              cases h
              exact OEnds.iret hm_21 rfl rfl
            · simp only [if_neg hc75] at h
              refine OEnds.ifT hm_21 rfl (q := 80) rfl ((feq hc75).2) ?_
              refine OEnds.adv hm_21 5 (pc' := 88) (L' := [.val (.ref 0), .val (.int v1), .val (.int v2), .val (.int x83), .val (.int v4), .val (.int (v1 + v4)), .val (.int x81), .val (.int x83)]) (S' := [.int x83, .ref 9]) (H' := (bk0 o_kwChars o_kwLen o_kwRepl o_pend o_child o_delta o_fail o_depth o_term o_outMask o_queue o_text o_masks o_out o_tail o_maxKw o_maxLen o_phaseNow o_count o_pendLen o_nodeCount o_longestKw o_n o_state o_total o_outLen o_commitPos o_tailLen po)) rfl ?_
              obtain ⟨x84, hx84, h⟩ := bnd h
              refine OEnds.plain hm_21 rfl rfl (x_iaload rfl hx84) ?_
              show OEnds own_P 21 89 [.val (.ref 0), .val (.int v1), .val (.int v2), .val (.int x83), .val (.int v4), .val (.int (v1 + v4)), .val (.int x81), .val (.int x83)] [.int x84] (bk0 o_kwChars o_kwLen o_kwRepl o_pend o_child o_delta o_fail o_depth o_term o_outMask o_queue o_text o_masks o_out o_tail o_maxKw o_maxLen o_phaseNow o_count o_pendLen o_nodeCount o_longestKw o_n o_state o_total o_outLen o_commitPos o_tailLen po) _
              by_cases hc76 : x84 < (0 : Int32)
              · simp only [if_pos hc76] at h
                refine OEnds.ifT hm_21 rfl (q := 99) rfl ((tlt hc76).1) ?_
                refine OEnds.adv hm_21 2 (pc' := 7) (L' := [.val (.ref 0), .val (.int v1), .val (.int v2), .val (.int x83), .val (.int (v4 + (1 : Int32))), .val (.int (v1 + v4)), .val (.int x81), .val (.int x83)]) (S' := []) (H' := (bk0 o_kwChars o_kwLen o_kwRepl o_pend o_child o_delta o_fail o_depth o_term o_outMask o_queue o_text o_masks o_out o_tail o_maxKw o_maxLen o_phaseNow o_count o_pendLen o_nodeCount o_longestKw o_n o_state o_total o_outLen o_commitPos o_tailLen po)) rfl ?_
                exact ih h
              · simp only [if_neg hc76] at h
                refine OEnds.ifF hm_21 rfl ((flt hc76).1) ?_
                refine OEnds.adv hm_21 3 (pc' := 97) (L' := [.val (.ref 0), .val (.int v1), .val (.int v2), .val (.int x83), .val (.int v4), .val (.int (v1 + v4)), .val (.int x81), .val (.int x83)]) (S' := [.int x83, .ref 9]) (H' := (bk0 o_kwChars o_kwLen o_kwRepl o_pend o_child o_delta o_fail o_depth o_term o_outMask o_queue o_text o_masks o_out o_tail o_maxKw o_maxLen o_phaseNow o_count o_pendLen o_nodeCount o_longestKw o_n o_state o_total o_outLen o_commitPos o_tailLen po)) rfl ?_
                obtain ⟨x85, hx85, h⟩ := bnd h
                refine OEnds.plain hm_21 rfl rfl (x_iaload rfl hx85) ?_
                refine OEnds.adv hm_21 3 (pc' := 7) (L' := [.val (.ref 0), .val (.int v1), .val (.int x85), .val (.int x83), .val (.int (v4 + (1 : Int32))), .val (.int (v1 + v4)), .val (.int x81), .val (.int x83)]) (S' := []) (H' := (bk0 o_kwChars o_kwLen o_kwRepl o_pend o_child o_delta o_fail o_depth o_term o_outMask o_queue o_text o_masks o_out o_tail o_maxKw o_maxLen o_phaseNow o_count o_pendLen o_nodeCount o_longestKw o_n o_state o_total o_outLen o_commitPos o_tailLen po)) rfl ?_
                exact ih h
        · simp only [if_neg hc72] at h
          refine OEnds.icmpF hm_21 rfl ((flt hc72).1) ?_
          refine OEnds.adv hm_21 1 (pc' := 35) (L' := [.val (.ref 0), .val (.int v1), .val (.int v2), .val (.int v3), .val (.int v4), .val (.int (v1 + v4)), .unset, .unset]) (S' := [.int v2]) (H' := (bk0 o_kwChars o_kwLen o_kwRepl o_pend o_child o_delta o_fail o_depth o_term o_outMask o_queue o_text o_masks o_out o_tail o_maxKw o_maxLen o_phaseNow o_count o_pendLen o_nodeCount o_longestKw o_n o_state o_total o_outLen o_commitPos o_tailLen po)) rfl ?_
          cases h
          exact OEnds.iret hm_21 rfl rfl
    · simp only [if_neg hc70] at h
      refine OEnds.icmpT hm_21 rfl (q := 105) rfl ((flt hc70).2.1) ?_
      refine OEnds.adv hm_21 1 (pc' := 106) (L' := [.val (.ref 0), .val (.int v1), .val (.int v2), .val (.int v3), .val (.int v4), .unset, .unset, .unset]) (S' := [.int v2]) (H' := (bk0 o_kwChars o_kwLen o_kwRepl o_pend o_child o_delta o_fail o_depth o_term o_outMask o_queue o_text o_masks o_out o_tail o_maxKw o_maxLen o_phaseNow o_count o_pendLen o_nodeCount o_longestKw o_n o_state o_total o_outLen o_commitPos o_tailLen po)) rfl ?_
      cases h
      exact OEnds.iret hm_21 rfl rfl
theorem ok_longestAt {o_kwChars : List Int32} {o_kwLen : List Int32} {o_kwRepl : List Int32} {o_pend : List Int32} {o_child : List Int32} {o_delta : List Int32} {o_fail : List Int32} {o_depth : List Int32} {o_term : List Int32} {o_outMask : List Int32} {o_queue : List Int32} {o_text : List Int32} {o_masks : List Int32} {o_out : List Int32} {o_tail : List Int32} {o_maxKw : Int32} {o_maxLen : Int32} {o_phaseNow : Int32} {o_count : Int32} {o_pendLen : Int32} {o_nodeCount : Int32} {o_longestKw : Int32} {o_n : Int32} {o_state : Int32} {o_total : Int32} {o_outLen : Int32} {o_commitPos : Int32} {o_tailLen : Int32} {po : List ACell} {v1 : Int32} {res : Int32} (h : f_longestAt o_child o_term o_text o_n v1 = some res) : OEnds own_P 21 0 [.val (.ref 0), .val (.int v1), .unset, .unset, .unset, .unset, .unset, .unset] [] (bk0 o_kwChars o_kwLen o_kwRepl o_pend o_child o_delta o_fail o_depth o_term o_outMask o_queue o_text o_masks o_out o_tail o_maxKw o_maxLen o_phaseNow o_count o_pendLen o_nodeCount o_longestKw o_n o_state o_total o_outLen o_commitPos o_tailLen po) (some (.int res), (bk0 o_kwChars o_kwLen o_kwRepl o_pend o_child o_delta o_fail o_depth o_term o_outMask o_queue o_text o_masks o_out o_tail o_maxKw o_maxLen o_phaseNow o_count o_pendLen o_nodeCount o_longestKw o_n o_state o_total o_outLen o_commitPos o_tailLen po), 0, 0) := by
  unfold f_longestAt at h
  refine OEnds.adv hm_21 6 (pc' := 7) (L' := [.val (.ref 0), .val (.int v1), .val (.int (-1)), .val (.int 0), .val (.int 0), .unset, .unset, .unset]) (S' := []) (H' := (bk0 o_kwChars o_kwLen o_kwRepl o_pend o_child o_delta o_fail o_depth o_term o_outMask o_queue o_text o_masks o_out o_tail o_maxKw o_maxLen o_phaseNow o_count o_pendLen o_nodeCount o_longestKw o_n o_state o_total o_outLen o_commitPos o_tailLen po)) rfl ?_
  exact ok_longestAt_7 100000 h
theorem ok_commitOne_74 {o_kwChars : List Int32} {o_kwLen : List Int32} {o_kwRepl : List Int32} {o_pend : List Int32} {o_child : List Int32} {o_delta : List Int32} {o_fail : List Int32} {o_depth : List Int32} {o_term : List Int32} {o_outMask : List Int32} {o_queue : List Int32} {o_text : List Int32} {o_masks : List Int32} {o_tail : List Int32} {o_maxKw : Int32} {o_maxLen : Int32} {o_phaseNow : Int32} {o_count : Int32} {o_pendLen : Int32} {o_nodeCount : Int32} {o_longestKw : Int32} {o_n : Int32} {o_state : Int32} {o_total : Int32} {o_tailLen : Int32} {po : List ACell} : ∀ {o_out : List Int32} {o_outLen : Int32} {o_commitPos : Int32} {d1 : Slot} {w_o_out : List Int32} {w_o_outLen : Int32} {w_o_commitPos : Int32}, f_commitOne_74 o_kwLen o_kwRepl o_child o_term o_text o_n o_out o_outLen o_commitPos = some (w_o_out, w_o_outLen, w_o_commitPos) → OEnds own_P 23 74 [.val (.ref 0), d1] [] (bk0 o_kwChars o_kwLen o_kwRepl o_pend o_child o_delta o_fail o_depth o_term o_outMask o_queue o_text o_masks o_out o_tail o_maxKw o_maxLen o_phaseNow o_count o_pendLen o_nodeCount o_longestKw o_n o_state o_total o_outLen o_commitPos o_tailLen po) (none, (bk0 o_kwChars o_kwLen o_kwRepl o_pend o_child o_delta o_fail o_depth o_term o_outMask o_queue o_text o_masks w_o_out o_tail o_maxKw o_maxLen o_phaseNow o_count o_pendLen o_nodeCount o_longestKw o_n o_state o_total w_o_outLen w_o_commitPos o_tailLen po), 0, 0) := by
  intro o_out o_outLen o_commitPos d1 w_o_out w_o_outLen w_o_commitPos h
  unfold f_commitOne_74 at h
  refine OEnds.adv hm_23 6 (pc' := 84) (L' := [.val (.ref 0), .unset]) (S' := []) (H' := (bk0 o_kwChars o_kwLen o_kwRepl o_pend o_child o_delta o_fail o_depth o_term o_outMask o_queue o_text o_masks o_out o_tail o_maxKw o_maxLen o_phaseNow o_count o_pendLen o_nodeCount o_longestKw o_n o_state o_total (o_outLen + (1 : Int32)) o_commitPos o_tailLen po)) rfl ?_
  cases h
  exact OEnds.vret hm_23 rfl rfl
theorem ok_commitOne {o_kwChars : List Int32} {o_kwLen : List Int32} {o_kwRepl : List Int32} {o_pend : List Int32} {o_child : List Int32} {o_delta : List Int32} {o_fail : List Int32} {o_depth : List Int32} {o_term : List Int32} {o_outMask : List Int32} {o_queue : List Int32} {o_text : List Int32} {o_masks : List Int32} {o_tail : List Int32} {o_maxKw : Int32} {o_maxLen : Int32} {o_phaseNow : Int32} {o_count : Int32} {o_pendLen : Int32} {o_nodeCount : Int32} {o_longestKw : Int32} {o_n : Int32} {o_state : Int32} {o_total : Int32} {o_tailLen : Int32} {po : List ACell} {o_out : List Int32} {o_outLen : Int32} {o_commitPos : Int32} {w_o_out : List Int32} {w_o_outLen : Int32} {w_o_commitPos : Int32} (h : f_commitOne o_kwLen o_kwRepl o_child o_term o_text o_n o_out o_outLen o_commitPos = some (w_o_out, w_o_outLen, w_o_commitPos)) : OEnds own_P 23 0 [.val (.ref 0), .unset] [] (bk0 o_kwChars o_kwLen o_kwRepl o_pend o_child o_delta o_fail o_depth o_term o_outMask o_queue o_text o_masks o_out o_tail o_maxKw o_maxLen o_phaseNow o_count o_pendLen o_nodeCount o_longestKw o_n o_state o_total o_outLen o_commitPos o_tailLen po) (none, (bk0 o_kwChars o_kwLen o_kwRepl o_pend o_child o_delta o_fail o_depth o_term o_outMask o_queue o_text o_masks w_o_out o_tail o_maxKw o_maxLen o_phaseNow o_count o_pendLen o_nodeCount o_longestKw o_n o_state o_total w_o_outLen w_o_commitPos o_tailLen po), 0, 0) := by
  unfold f_commitOne at h
  refine OEnds.adv hm_23 3 (pc' := 5) (L' := [.val (.ref 0), .unset]) (S' := [.int o_commitPos, .ref 0]) (H' := (bk0 o_kwChars o_kwLen o_kwRepl o_pend o_child o_delta o_fail o_depth o_term o_outMask o_queue o_text o_masks o_out o_tail o_maxKw o_maxLen o_phaseNow o_count o_pendLen o_nodeCount o_longestKw o_n o_state o_total o_outLen o_commitPos o_tailLen po)) rfl ?_
  obtain ⟨r86, hq77, h⟩ := bnd h
  refine OEnds.call0 hm_23 rfl rfl (by decide) rfl (as := [.ref 0, .int o_commitPos]) (rest := []) rfl rfl (ok_longestAt hq77) ?_
  refine OEnds.adv hm_23 2 (pc' := 10) (L' := [.val (.ref 0), .val (.int r86)]) (S' := [.int r86]) (H' := (bk0 o_kwChars o_kwLen o_kwRepl o_pend o_child o_delta o_fail o_depth o_term o_outMask o_queue o_text o_masks o_out o_tail o_maxKw o_maxLen o_phaseNow o_count o_pendLen o_nodeCount o_longestKw o_n o_state o_total o_outLen o_commitPos o_tailLen po)) rfl ?_
  by_cases hc78 : r86 < (0 : Int32)
  · simp only [if_pos hc78] at h
    refine OEnds.ifT hm_23 rfl (q := 46) rfl ((tlt hc78).1) ?_
    refine OEnds.adv hm_23 8 (pc' := 62) (L' := [.val (.ref 0), .val (.int r86)]) (S' := [.int o_commitPos, .ref 12, .int o_outLen, .ref 14]) (H' := (bk0 o_kwChars o_kwLen o_kwRepl o_pend o_child o_delta o_fail o_depth o_term o_outMask o_queue o_text o_masks o_out o_tail o_maxKw o_maxLen o_phaseNow o_count o_pendLen o_nodeCount o_longestKw o_n o_state o_total o_outLen o_commitPos o_tailLen po)) rfl ?_
    obtain ⟨x87, hx87, h⟩ := bnd h
    refine OEnds.plain hm_23 rfl rfl (x_iaload rfl hx87) ?_
    show OEnds own_P 23 63 [.val (.ref 0), .val (.int r86)] [.int x87, .int o_outLen, .ref 14] (bk0 o_kwChars o_kwLen o_kwRepl o_pend o_child o_delta o_fail o_depth o_term o_outMask o_queue o_text o_masks o_out o_tail o_maxKw o_maxLen o_phaseNow o_count o_pendLen o_nodeCount o_longestKw o_n o_state o_total o_outLen o_commitPos o_tailLen po) _
    obtain ⟨A88, hA88, h⟩ := bnd h
    refine OEnds.plain hm_23 rfl rfl (x_iastore rfl (Nat.le_of_ble_eq_true rfl) hA88) ?_
    refine OEnds.adv hm_23 6 (pc' := 74) (L' := [.val (.ref 0), .val (.int r86)]) (S' := []) (H' := (bk0 o_kwChars o_kwLen o_kwRepl o_pend o_child o_delta o_fail o_depth o_term o_outMask o_queue o_text o_masks A88 o_tail o_maxKw o_maxLen o_phaseNow o_count o_pendLen o_nodeCount o_longestKw o_n o_state o_total o_outLen (o_commitPos + (1 : Int32)) o_tailLen po)) rfl ?_
    exact ok_commitOne_74 h
  · simp only [if_neg hc78] at h
    refine OEnds.ifF hm_23 rfl ((flt hc78).1) ?_
    refine OEnds.adv hm_23 7 (pc' := 26) (L' := [.val (.ref 0), .val (.int r86)]) (S' := [.int r86, .ref 3, .int o_outLen, .ref 14]) (H' := (bk0 o_kwChars o_kwLen o_kwRepl o_pend o_child o_delta o_fail o_depth o_term o_outMask o_queue o_text o_masks o_out o_tail o_maxKw o_maxLen o_phaseNow o_count o_pendLen o_nodeCount o_longestKw o_n o_state o_total o_outLen o_commitPos o_tailLen po)) rfl ?_
    obtain ⟨x89, hx89, h⟩ := bnd h
    refine OEnds.plain hm_23 rfl rfl (x_iaload rfl hx89) ?_
    show OEnds own_P 23 27 [.val (.ref 0), .val (.int r86)] [.int x89, .int o_outLen, .ref 14] (bk0 o_kwChars o_kwLen o_kwRepl o_pend o_child o_delta o_fail o_depth o_term o_outMask o_queue o_text o_masks o_out o_tail o_maxKw o_maxLen o_phaseNow o_count o_pendLen o_nodeCount o_longestKw o_n o_state o_total o_outLen o_commitPos o_tailLen po) _
    obtain ⟨A90, hA90, h⟩ := bnd h
    refine OEnds.plain hm_23 rfl rfl (x_iastore rfl (Nat.le_of_ble_eq_true rfl) hA90) ?_
    refine OEnds.adv hm_23 6 (pc' := 38) (L' := [.val (.ref 0), .val (.int r86)]) (S' := [.int r86, .ref 2, .int o_commitPos, .ref 0]) (H' := (bk0 o_kwChars o_kwLen o_kwRepl o_pend o_child o_delta o_fail o_depth o_term o_outMask o_queue o_text o_masks A90 o_tail o_maxKw o_maxLen o_phaseNow o_count o_pendLen o_nodeCount o_longestKw o_n o_state o_total o_outLen o_commitPos o_tailLen po)) rfl ?_
    obtain ⟨x91, hx91, h⟩ := bnd h
    refine OEnds.plain hm_23 rfl rfl (x_iaload rfl hx91) ?_
    refine OEnds.adv hm_23 3 (pc' := 74) (L' := [.val (.ref 0), .val (.int r86)]) (S' := []) (H' := (bk0 o_kwChars o_kwLen o_kwRepl o_pend o_child o_delta o_fail o_depth o_term o_outMask o_queue o_text o_masks A90 o_tail o_maxKw o_maxLen o_phaseNow o_count o_pendLen o_nodeCount o_longestKw o_n o_state o_total o_outLen (o_commitPos + x91) o_tailLen po)) rfl ?_
    exact ok_commitOne_74 h
theorem ok_commitReady_2 {o_kwChars : List Int32} {o_kwLen : List Int32} {o_kwRepl : List Int32} {o_pend : List Int32} {o_child : List Int32} {o_delta : List Int32} {o_fail : List Int32} {o_depth : List Int32} {o_term : List Int32} {o_outMask : List Int32} {o_queue : List Int32} {o_text : List Int32} {o_masks : List Int32} {o_tail : List Int32} {o_maxKw : Int32} {o_maxLen : Int32} {o_phaseNow : Int32} {o_count : Int32} {o_pendLen : Int32} {o_nodeCount : Int32} {o_longestKw : Int32} {o_n : Int32} {o_state : Int32} {o_total : Int32} {o_tailLen : Int32} {po : List ACell} : ∀ (n : Nat), ∀ {o_out : List Int32} {o_outLen : Int32} {o_commitPos : Int32} {v1 : Int32} {w_o_out : List Int32} {w_o_outLen : Int32} {w_o_commitPos : Int32}, f_commitReady_2 o_kwLen o_kwRepl o_child o_term o_text o_longestKw o_n n o_out o_outLen o_commitPos v1 = some (w_o_out, w_o_outLen, w_o_commitPos) → OEnds own_P 19 2 [.val (.ref 0), .val (.int v1)] [] (bk0 o_kwChars o_kwLen o_kwRepl o_pend o_child o_delta o_fail o_depth o_term o_outMask o_queue o_text o_masks o_out o_tail o_maxKw o_maxLen o_phaseNow o_count o_pendLen o_nodeCount o_longestKw o_n o_state o_total o_outLen o_commitPos o_tailLen po) (none, (bk0 o_kwChars o_kwLen o_kwRepl o_pend o_child o_delta o_fail o_depth o_term o_outMask o_queue o_text o_masks w_o_out o_tail o_maxKw o_maxLen o_phaseNow o_count o_pendLen o_nodeCount o_longestKw o_n o_state o_total w_o_outLen w_o_commitPos o_tailLen po), 0, 0) := by
  intro n
  induction n with
  | zero => intro o_out o_outLen o_commitPos v1 w_o_out w_o_outLen w_o_commitPos h; cases h
  | succ n ih =>
    intro o_out o_outLen o_commitPos v1 w_o_out w_o_outLen w_o_commitPos h
    unfold f_commitReady_2 at h
    refine OEnds.adv hm_19 2 (pc' := 6) (L' := [.val (.ref 0), .val (.int v1)]) (S' := [.int 240, .int v1]) (H' := (bk0 o_kwChars o_kwLen o_kwRepl o_pend o_child o_delta o_fail o_depth o_term o_outMask o_queue o_text o_masks o_out o_tail o_maxKw o_maxLen o_phaseNow o_count o_pendLen o_nodeCount o_longestKw o_n o_state o_total o_outLen o_commitPos o_tailLen po)) rfl ?_
    by_cases hc79 : v1 < (240 : Int32)
    · simp only [if_pos hc79] at h
      refine OEnds.icmpF hm_19 rfl ((tlt hc79).2.1) ?_
      refine OEnds.adv hm_19 2 (pc' := 13) (L' := [.val (.ref 0), .val (.int v1)]) (S' := [.int o_commitPos]) (H' := (bk0 o_kwChars o_kwLen o_kwRepl o_pend o_child o_delta o_fail o_depth o_term o_outMask o_queue o_text o_masks o_out o_tail o_maxKw o_maxLen o_phaseNow o_count o_pendLen o_nodeCount o_longestKw o_n o_state o_total o_outLen o_commitPos o_tailLen po)) rfl ?_
      by_cases hc80 : o_commitPos < (0 : Int32)
      · simp only [if_pos hc80] at h
        refine OEnds.ifT hm_19 rfl (q := 43) rfl ((tlt hc80).1) ?_
        show OEnds own_P 19 43 [.val (.ref 0), .val (.int v1)] [] (bk0 o_kwChars o_kwLen o_kwRepl o_pend o_child o_delta o_fail o_depth o_term o_outMask o_queue o_text o_masks o_out o_tail o_maxKw o_maxLen o_phaseNow o_count o_pendLen o_nodeCount o_longestKw o_n o_state o_total o_outLen o_commitPos o_tailLen po) _
        cases h
        exact OEnds.vret hm_19 rfl rfl
      · simp only [if_neg hc80] at h
        refine OEnds.ifF hm_19 rfl ((flt hc80).1) ?_
        refine OEnds.adv hm_19 4 (pc' := 24) (L' := [.val (.ref 0), .val (.int v1)]) (S' := [.int o_n, .int o_commitPos]) (H' := (bk0 o_kwChars o_kwLen o_kwRepl o_pend o_child o_delta o_fail o_depth o_term o_outMask o_queue o_text o_masks o_out o_tail o_maxKw o_maxLen o_phaseNow o_count o_pendLen o_nodeCount o_longestKw o_n o_state o_total o_outLen o_commitPos o_tailLen po)) rfl ?_
        by_cases hc81 : o_commitPos < o_n
        · simp only [if_pos hc81] at h
          refine OEnds.icmpF hm_19 rfl ((tlt hc81).2.1) ?_
          refine OEnds.adv hm_19 7 (pc' := 40) (L' := [.val (.ref 0), .val (.int v1)]) (S' := [.int o_n, .int (o_commitPos + o_longestKw)]) (H' := (bk0 o_kwChars o_kwLen o_kwRepl o_pend o_child o_delta o_fail o_depth o_term o_outMask o_queue o_text o_masks o_out o_tail o_maxKw o_maxLen o_phaseNow o_count o_pendLen o_nodeCount o_longestKw o_n o_state o_total o_outLen o_commitPos o_tailLen po)) rfl ?_
          by_cases hc82 : o_n < (o_commitPos + o_longestKw)
          · simp only [if_pos hc82] at h
            refine OEnds.icmpF hm_19 rfl ((tlt hc82).2.2.2) ?_
            show OEnds own_P 19 43 [.val (.ref 0), .val (.int v1)] [] (bk0 o_kwChars o_kwLen o_kwRepl o_pend o_child o_delta o_fail o_depth o_term o_outMask o_queue o_text o_masks o_out o_tail o_maxKw o_maxLen o_phaseNow o_count o_pendLen o_nodeCount o_longestKw o_n o_state o_total o_outLen o_commitPos o_tailLen po) _
            cases h
            exact OEnds.vret hm_19 rfl rfl
          · simp only [if_neg hc82] at h
            refine OEnds.icmpT hm_19 rfl (q := 44) rfl ((flt hc82).2.2.2) ?_
            refine OEnds.adv hm_19 3 (pc' := 51) (L' := [.val (.ref 0), .val (.int v1)]) (S' := [.int 240, .int o_outLen]) (H' := (bk0 o_kwChars o_kwLen o_kwRepl o_pend o_child o_delta o_fail o_depth o_term o_outMask o_queue o_text o_masks o_out o_tail o_maxKw o_maxLen o_phaseNow o_count o_pendLen o_nodeCount o_longestKw o_n o_state o_total o_outLen o_commitPos o_tailLen po)) rfl ?_
            by_cases hc83 : o_outLen < (240 : Int32)
            · simp only [if_pos hc83] at h
              refine OEnds.icmpT hm_19 rfl (q := 55) rfl ((tlt hc83).1) ?_
              refine OEnds.adv hm_19 1 (pc' := 56) (L' := [.val (.ref 0), .val (.int v1)]) (S' := [.ref 0]) (H' := (bk0 o_kwChars o_kwLen o_kwRepl o_pend o_child o_delta o_fail o_depth o_term o_outMask o_queue o_text o_masks o_out o_tail o_maxKw o_maxLen o_phaseNow o_count o_pendLen o_nodeCount o_longestKw o_n o_state o_total o_outLen o_commitPos o_tailLen po)) rfl ?_
              obtain ⟨⟨s92, s93, s94⟩, hq84, h⟩ := bnd h
              refine OEnds.call0 hm_19 rfl rfl (by decide) rfl (as := [.ref 0]) (rest := []) rfl rfl (ok_commitOne hq84) ?_
              refine OEnds.adv hm_19 2 (pc' := 2) (L' := [.val (.ref 0), .val (.int (v1 + (1 : Int32)))]) (S' := []) (H' := (bk0 o_kwChars o_kwLen o_kwRepl o_pend o_child o_delta o_fail o_depth o_term o_outMask o_queue o_text o_masks s92 o_tail o_maxKw o_maxLen o_phaseNow o_count o_pendLen o_nodeCount o_longestKw o_n o_state o_total s93 s94 o_tailLen po)) rfl ?_
              exact ih h
            · simp only [if_neg hc83] at h
              refine OEnds.icmpF hm_19 rfl ((flt hc83).1) ?_
              show OEnds own_P 19 54 [.val (.ref 0), .val (.int v1)] [] (bk0 o_kwChars o_kwLen o_kwRepl o_pend o_child o_delta o_fail o_depth o_term o_outMask o_queue o_text o_masks o_out o_tail o_maxKw o_maxLen o_phaseNow o_count o_pendLen o_nodeCount o_longestKw o_n o_state o_total o_outLen o_commitPos o_tailLen po) _
              cases h
              exact OEnds.vret hm_19 rfl rfl
        · simp only [if_neg hc81] at h
          refine OEnds.icmpT hm_19 rfl (q := 43) rfl ((flt hc81).2.1) ?_
          show OEnds own_P 19 43 [.val (.ref 0), .val (.int v1)] [] (bk0 o_kwChars o_kwLen o_kwRepl o_pend o_child o_delta o_fail o_depth o_term o_outMask o_queue o_text o_masks o_out o_tail o_maxKw o_maxLen o_phaseNow o_count o_pendLen o_nodeCount o_longestKw o_n o_state o_total o_outLen o_commitPos o_tailLen po) _
          cases h
          exact OEnds.vret hm_19 rfl rfl
    · simp only [if_neg hc79] at h
      refine OEnds.icmpT hm_19 rfl (q := 65) rfl ((flt hc79).2.1) ?_
      show OEnds own_P 19 65 [.val (.ref 0), .val (.int v1)] [] (bk0 o_kwChars o_kwLen o_kwRepl o_pend o_child o_delta o_fail o_depth o_term o_outMask o_queue o_text o_masks o_out o_tail o_maxKw o_maxLen o_phaseNow o_count o_pendLen o_nodeCount o_longestKw o_n o_state o_total o_outLen o_commitPos o_tailLen po) _
      cases h
      exact OEnds.vret hm_19 rfl rfl
theorem ok_commitReady {o_kwChars : List Int32} {o_kwLen : List Int32} {o_kwRepl : List Int32} {o_pend : List Int32} {o_child : List Int32} {o_delta : List Int32} {o_fail : List Int32} {o_depth : List Int32} {o_term : List Int32} {o_outMask : List Int32} {o_queue : List Int32} {o_text : List Int32} {o_masks : List Int32} {o_tail : List Int32} {o_maxKw : Int32} {o_maxLen : Int32} {o_phaseNow : Int32} {o_count : Int32} {o_pendLen : Int32} {o_nodeCount : Int32} {o_longestKw : Int32} {o_n : Int32} {o_state : Int32} {o_total : Int32} {o_tailLen : Int32} {po : List ACell} {o_out : List Int32} {o_outLen : Int32} {o_commitPos : Int32} {w_o_out : List Int32} {w_o_outLen : Int32} {w_o_commitPos : Int32} (h : f_commitReady o_kwLen o_kwRepl o_child o_term o_text o_longestKw o_n o_out o_outLen o_commitPos = some (w_o_out, w_o_outLen, w_o_commitPos)) : OEnds own_P 19 0 [.val (.ref 0), .unset] [] (bk0 o_kwChars o_kwLen o_kwRepl o_pend o_child o_delta o_fail o_depth o_term o_outMask o_queue o_text o_masks o_out o_tail o_maxKw o_maxLen o_phaseNow o_count o_pendLen o_nodeCount o_longestKw o_n o_state o_total o_outLen o_commitPos o_tailLen po) (none, (bk0 o_kwChars o_kwLen o_kwRepl o_pend o_child o_delta o_fail o_depth o_term o_outMask o_queue o_text o_masks w_o_out o_tail o_maxKw o_maxLen o_phaseNow o_count o_pendLen o_nodeCount o_longestKw o_n o_state o_total w_o_outLen w_o_commitPos o_tailLen po), 0, 0) := by
  unfold f_commitReady at h
  refine OEnds.adv hm_19 2 (pc' := 2) (L' := [.val (.ref 0), .val (.int 0)]) (S' := []) (H' := (bk0 o_kwChars o_kwLen o_kwRepl o_pend o_child o_delta o_fail o_depth o_term o_outMask o_queue o_text o_masks o_out o_tail o_maxKw o_maxLen o_phaseNow o_count o_pendLen o_nodeCount o_longestKw o_n o_state o_total o_outLen o_commitPos o_tailLen po)) rfl ?_
  exact ok_commitReady_2 100000 h
theorem ok_rebuildTail_95 {o_kwChars : List Int32} {o_kwLen : List Int32} {o_kwRepl : List Int32} {o_pend : List Int32} {o_child : List Int32} {o_delta : List Int32} {o_fail : List Int32} {o_depth : List Int32} {o_term : List Int32} {o_outMask : List Int32} {o_queue : List Int32} {o_text : List Int32} {o_masks : List Int32} {o_out : List Int32} {o_maxKw : Int32} {o_maxLen : Int32} {o_phaseNow : Int32} {o_count : Int32} {o_pendLen : Int32} {o_nodeCount : Int32} {o_longestKw : Int32} {o_n : Int32} {o_state : Int32} {o_total : Int32} {o_outLen : Int32} {o_commitPos : Int32} {po : List ACell} {kb : List Int32 → Int32 → Int32 → Int32 → Option (List Int32 × Int32)} (hkb : ∀ {o_tail : List Int32} {o_tailLen : Int32} {v1 : Int32} {v2 : Int32} {d3 : Slot} {w_o_tail : List Int32} {w_o_tailLen : Int32}, kb o_tail o_tailLen v1 v2 = some (w_o_tail, w_o_tailLen) → OEnds own_P 20 12 [.val (.ref 0), .val (.int v1), .val (.int v2), d3] [] (bk0 o_kwChars o_kwLen o_kwRepl o_pend o_child o_delta o_fail o_depth o_term o_outMask o_queue o_text o_masks o_out o_tail o_maxKw o_maxLen o_phaseNow o_count o_pendLen o_nodeCount o_longestKw o_n o_state o_total o_outLen o_commitPos o_tailLen po) (none, (bk0 o_kwChars o_kwLen o_kwRepl o_pend o_child o_delta o_fail o_depth o_term o_outMask o_queue o_text o_masks o_out w_o_tail o_maxKw o_maxLen o_phaseNow o_count o_pendLen o_nodeCount o_longestKw o_n o_state o_total o_outLen o_commitPos w_o_tailLen po), 0, 0)) : ∀ {o_tail : List Int32} {o_tailLen : Int32} {v1 : Int32} {v2 : Int32} {d3 : Slot} {w_o_tail : List Int32} {w_o_tailLen : Int32}, f_rebuildTail_95 kb o_kwLen o_kwRepl o_child o_term o_text o_n o_commitPos o_tail o_tailLen v1 v2 = some (w_o_tail, w_o_tailLen) → OEnds own_P 20 95 [.val (.ref 0), .val (.int v1), .val (.int v2), d3] [] (bk0 o_kwChars o_kwLen o_kwRepl o_pend o_child o_delta o_fail o_depth o_term o_outMask o_queue o_text o_masks o_out o_tail o_maxKw o_maxLen o_phaseNow o_count o_pendLen o_nodeCount o_longestKw o_n o_state o_total o_outLen o_commitPos o_tailLen po) (none, (bk0 o_kwChars o_kwLen o_kwRepl o_pend o_child o_delta o_fail o_depth o_term o_outMask o_queue o_text o_masks o_out w_o_tail o_maxKw o_maxLen o_phaseNow o_count o_pendLen o_nodeCount o_longestKw o_n o_state o_total o_outLen o_commitPos w_o_tailLen po), 0, 0) := by
  intro o_tail o_tailLen v1 v2 d3 w_o_tail w_o_tailLen h
  unfold f_rebuildTail_95 at h
  refine OEnds.adv hm_20 8 (pc' := 12) (L' := [.val (.ref 0), .val (.int v1), .val (.int (v2 + (1 : Int32))), .unset]) (S' := []) (H' := (bk0 o_kwChars o_kwLen o_kwRepl o_pend o_child o_delta o_fail o_depth o_term o_outMask o_queue o_text o_masks o_out o_tail o_maxKw o_maxLen o_phaseNow o_count o_pendLen o_nodeCount o_longestKw o_n o_state o_total o_outLen o_commitPos (o_tailLen + (1 : Int32)) po)) rfl ?_
  exact hkb h
theorem ok_rebuildTail_12 {o_kwChars : List Int32} {o_kwLen : List Int32} {o_kwRepl : List Int32} {o_pend : List Int32} {o_child : List Int32} {o_delta : List Int32} {o_fail : List Int32} {o_depth : List Int32} {o_term : List Int32} {o_outMask : List Int32} {o_queue : List Int32} {o_text : List Int32} {o_masks : List Int32} {o_out : List Int32} {o_maxKw : Int32} {o_maxLen : Int32} {o_phaseNow : Int32} {o_count : Int32} {o_pendLen : Int32} {o_nodeCount : Int32} {o_longestKw : Int32} {o_n : Int32} {o_state : Int32} {o_total : Int32} {o_outLen : Int32} {o_commitPos : Int32} {po : List ACell} : ∀ (n : Nat), ∀ {o_tail : List Int32} {o_tailLen : Int32} {v1 : Int32} {v2 : Int32} {d3 : Slot} {w_o_tail : List Int32} {w_o_tailLen : Int32}, f_rebuildTail_12 o_kwLen o_kwRepl o_child o_term o_text o_n o_commitPos n o_tail o_tailLen v1 v2 = some (w_o_tail, w_o_tailLen) → OEnds own_P 20 12 [.val (.ref 0), .val (.int v1), .val (.int v2), d3] [] (bk0 o_kwChars o_kwLen o_kwRepl o_pend o_child o_delta o_fail o_depth o_term o_outMask o_queue o_text o_masks o_out o_tail o_maxKw o_maxLen o_phaseNow o_count o_pendLen o_nodeCount o_longestKw o_n o_state o_total o_outLen o_commitPos o_tailLen po) (none, (bk0 o_kwChars o_kwLen o_kwRepl o_pend o_child o_delta o_fail o_depth o_term o_outMask o_queue o_text o_masks o_out w_o_tail o_maxKw o_maxLen o_phaseNow o_count o_pendLen o_nodeCount o_longestKw o_n o_state o_total o_outLen o_commitPos w_o_tailLen po), 0, 0) := by
  intro n
  induction n with
  | zero => intro o_tail o_tailLen v1 v2 d3 w_o_tail w_o_tailLen h; cases h
  | succ n ih =>
    intro o_tail o_tailLen v1 v2 d3 w_o_tail w_o_tailLen h
    unfold f_rebuildTail_12 at h
    refine OEnds.adv hm_20 2 (pc' := 15) (L' := [.val (.ref 0), .val (.int v1), .val (.int v2), .unset]) (S' := [.int 8, .int v2]) (H' := (bk0 o_kwChars o_kwLen o_kwRepl o_pend o_child o_delta o_fail o_depth o_term o_outMask o_queue o_text o_masks o_out o_tail o_maxKw o_maxLen o_phaseNow o_count o_pendLen o_nodeCount o_longestKw o_n o_state o_total o_outLen o_commitPos o_tailLen po)) rfl ?_
    by_cases hc85 : v2 < (8 : Int32)
    · simp only [if_pos hc85] at h
      refine OEnds.icmpF hm_20 rfl ((tlt hc85).2.1) ?_
      refine OEnds.adv hm_20 1 (pc' := 19) (L' := [.val (.ref 0), .val (.int v1), .val (.int v2), .unset]) (S' := [.int v1]) (H' := (bk0 o_kwChars o_kwLen o_kwRepl o_pend o_child o_delta o_fail o_depth o_term o_outMask o_queue o_text o_masks o_out o_tail o_maxKw o_maxLen o_phaseNow o_count o_pendLen o_nodeCount o_longestKw o_n o_state o_total o_outLen o_commitPos o_tailLen po)) rfl ?_
      by_cases hc86 : v1 < (0 : Int32)
      · simp only [if_pos hc86] at h
        refine OEnds.ifT hm_20 rfl (q := 39) rfl ((tlt hc86).1) ?_
        show OEnds own_P 20 39 [.val (.ref 0), .val (.int v1), .val (.int v2), .unset] [] (bk0 o_kwChars o_kwLen o_kwRepl o_pend o_child o_delta o_fail o_depth o_term o_outMask o_queue o_text o_masks o_out o_tail o_maxKw o_maxLen o_phaseNow o_count o_pendLen o_nodeCount o_longestKw o_n o_state o_total o_outLen o_commitPos o_tailLen po) _
        cases h
        exact OEnds.vret hm_20 rfl rfl
      · simp only [if_neg hc86] at h
        refine OEnds.ifF hm_20 rfl ((flt hc86).1) ?_
        refine OEnds.adv hm_20 3 (pc' := 27) (L' := [.val (.ref 0), .val (.int v1), .val (.int v2), .unset]) (S' := [.int o_n, .int v1]) (H' := (bk0 o_kwChars o_kwLen o_kwRepl o_pend o_child o_delta o_fail o_depth o_term o_outMask o_queue o_text o_masks o_out o_tail o_maxKw o_maxLen o_phaseNow o_count o_pendLen o_nodeCount o_longestKw o_n o_state o_total o_outLen o_commitPos o_tailLen po)) rfl ?_
        by_cases hc87 : v1 < o_n
        · simp only [if_pos hc87] at h
          refine OEnds.icmpF hm_20 rfl ((tlt hc87).2.1) ?_
          refine OEnds.adv hm_20 3 (pc' := 36) (L' := [.val (.ref 0), .val (.int v1), .val (.int v2), .unset]) (S' := [.int 8, .int o_tailLen]) (H' := (bk0 o_kwChars o_kwLen o_kwRepl o_pend o_child o_delta o_fail o_depth o_term o_outMask o_queue o_text o_masks o_out o_tail o_maxKw o_maxLen o_phaseNow o_count o_pendLen o_nodeCount o_longestKw o_n o_state o_total o_outLen o_commitPos o_tailLen po)) rfl ?_
          by_cases hc88 : o_tailLen < (8 : Int32)
          · simp only [if_pos hc88] at h
            refine OEnds.icmpT hm_20 rfl (q := 40) rfl ((tlt hc88).1) ?_
            refine OEnds.adv hm_20 2 (pc' := 42) (L' := [.val (.ref 0), .val (.int v1), .val (.int v2), .unset]) (S' := [.int v1, .ref 0]) (H' := (bk0 o_kwChars o_kwLen o_kwRepl o_pend o_child o_delta o_fail o_depth o_term o_outMask o_queue o_text o_masks o_out o_tail o_maxKw o_maxLen o_phaseNow o_count o_pendLen o_nodeCount o_longestKw o_n o_state o_total o_outLen o_commitPos o_tailLen po)) rfl ?_
            obtain ⟨r95, hq89, h⟩ := bnd h
            refine OEnds.call0 hm_20 rfl rfl (by decide) rfl (as := [.ref 0, .int v1]) (rest := []) rfl rfl (ok_longestAt hq89) ?_
            refine OEnds.adv hm_20 2 (pc' := 47) (L' := [.val (.ref 0), .val (.int v1), .val (.int v2), .val (.int r95)]) (S' := [.int r95]) (H' := (bk0 o_kwChars o_kwLen o_kwRepl o_pend o_child o_delta o_fail o_depth o_term o_outMask o_queue o_text o_masks o_out o_tail o_maxKw o_maxLen o_phaseNow o_count o_pendLen o_nodeCount o_longestKw o_n o_state o_total o_outLen o_commitPos o_tailLen po)) rfl ?_
            by_cases hc90 : r95 < (0 : Int32)
            · simp only [if_pos hc90] at h
              refine OEnds.ifT hm_20 rfl (q := 77) rfl ((tlt hc90).1) ?_
              refine OEnds.adv hm_20 7 (pc' := 90) (L' := [.val (.ref 0), .val (.int v1), .val (.int v2), .val (.int r95)]) (S' := [.int v1, .ref 12, .int o_tailLen, .ref 15]) (H' := (bk0 o_kwChars o_kwLen o_kwRepl o_pend o_child o_delta o_fail o_depth o_term o_outMask o_queue o_text o_masks o_out o_tail o_maxKw o_maxLen o_phaseNow o_count o_pendLen o_nodeCount o_longestKw o_n o_state o_total o_outLen o_commitPos o_tailLen po)) rfl ?_
              obtain ⟨x96, hx96, h⟩ := bnd h
              refine OEnds.plain hm_20 rfl rfl (x_iaload rfl hx96) ?_
              show OEnds own_P 20 91 [.val (.ref 0), .val (.int v1), .val (.int v2), .val (.int r95)] [.int x96, .int o_tailLen, .ref 15] (bk0 o_kwChars o_kwLen o_kwRepl o_pend o_child o_delta o_fail o_depth o_term o_outMask o_queue o_text o_masks o_out o_tail o_maxKw o_maxLen o_phaseNow o_count o_pendLen o_nodeCount o_longestKw o_n o_state o_total o_outLen o_commitPos o_tailLen po) _
              obtain ⟨A97, hA97, h⟩ := bnd h
              refine OEnds.plain hm_20 rfl rfl (x_iastore rfl (Nat.le_of_ble_eq_true rfl) hA97) ?_
              refine OEnds.adv hm_20 1 (pc' := 95) (L' := [.val (.ref 0), .val (.int (v1 + (1 : Int32))), .val (.int v2), .val (.int r95)]) (S' := []) (H' := (bk0 o_kwChars o_kwLen o_kwRepl o_pend o_child o_delta o_fail o_depth o_term o_outMask o_queue o_text o_masks o_out A97 o_maxKw o_maxLen o_phaseNow o_count o_pendLen o_nodeCount o_longestKw o_n o_state o_total o_outLen o_commitPos o_tailLen po)) rfl ?_
              exact ok_rebuildTail_95 ih h
            · simp only [if_neg hc90] at h
              refine OEnds.ifF hm_20 rfl ((flt hc90).1) ?_
              refine OEnds.adv hm_20 7 (pc' := 63) (L' := [.val (.ref 0), .val (.int v1), .val (.int v2), .val (.int r95)]) (S' := [.int r95, .ref 3, .int o_tailLen, .ref 15]) (H' := (bk0 o_kwChars o_kwLen o_kwRepl o_pend o_child o_delta o_fail o_depth o_term o_outMask o_queue o_text o_masks o_out o_tail o_maxKw o_maxLen o_phaseNow o_count o_pendLen o_nodeCount o_longestKw o_n o_state o_total o_outLen o_commitPos o_tailLen po)) rfl ?_
              obtain ⟨x98, hx98, h⟩ := bnd h
              refine OEnds.plain hm_20 rfl rfl (x_iaload rfl hx98) ?_
              show OEnds own_P 20 64 [.val (.ref 0), .val (.int v1), .val (.int v2), .val (.int r95)] [.int x98, .int o_tailLen, .ref 15] (bk0 o_kwChars o_kwLen o_kwRepl o_pend o_child o_delta o_fail o_depth o_term o_outMask o_queue o_text o_masks o_out o_tail o_maxKw o_maxLen o_phaseNow o_count o_pendLen o_nodeCount o_longestKw o_n o_state o_total o_outLen o_commitPos o_tailLen po) _
              obtain ⟨A99, hA99, h⟩ := bnd h
              refine OEnds.plain hm_20 rfl rfl (x_iastore rfl (Nat.le_of_ble_eq_true rfl) hA99) ?_
              refine OEnds.adv hm_20 4 (pc' := 71) (L' := [.val (.ref 0), .val (.int v1), .val (.int v2), .val (.int r95)]) (S' := [.int r95, .ref 2, .int v1]) (H' := (bk0 o_kwChars o_kwLen o_kwRepl o_pend o_child o_delta o_fail o_depth o_term o_outMask o_queue o_text o_masks o_out A99 o_maxKw o_maxLen o_phaseNow o_count o_pendLen o_nodeCount o_longestKw o_n o_state o_total o_outLen o_commitPos o_tailLen po)) rfl ?_
              obtain ⟨x100, hx100, h⟩ := bnd h
              refine OEnds.plain hm_20 rfl rfl (x_iaload rfl hx100) ?_
              refine OEnds.adv hm_20 3 (pc' := 95) (L' := [.val (.ref 0), .val (.int (v1 + x100)), .val (.int v2), .val (.int r95)]) (S' := []) (H' := (bk0 o_kwChars o_kwLen o_kwRepl o_pend o_child o_delta o_fail o_depth o_term o_outMask o_queue o_text o_masks o_out A99 o_maxKw o_maxLen o_phaseNow o_count o_pendLen o_nodeCount o_longestKw o_n o_state o_total o_outLen o_commitPos o_tailLen po)) rfl ?_
              exact ok_rebuildTail_95 ih h
          · simp only [if_neg hc88] at h
            refine OEnds.icmpF hm_20 rfl ((flt hc88).1) ?_
            show OEnds own_P 20 39 [.val (.ref 0), .val (.int v1), .val (.int v2), .unset] [] (bk0 o_kwChars o_kwLen o_kwRepl o_pend o_child o_delta o_fail o_depth o_term o_outMask o_queue o_text o_masks o_out o_tail o_maxKw o_maxLen o_phaseNow o_count o_pendLen o_nodeCount o_longestKw o_n o_state o_total o_outLen o_commitPos o_tailLen po) _
            cases h
            exact OEnds.vret hm_20 rfl rfl
        · simp only [if_neg hc87] at h
          refine OEnds.icmpT hm_20 rfl (q := 39) rfl ((flt hc87).2.1) ?_
          show OEnds own_P 20 39 [.val (.ref 0), .val (.int v1), .val (.int v2), .unset] [] (bk0 o_kwChars o_kwLen o_kwRepl o_pend o_child o_delta o_fail o_depth o_term o_outMask o_queue o_text o_masks o_out o_tail o_maxKw o_maxLen o_phaseNow o_count o_pendLen o_nodeCount o_longestKw o_n o_state o_total o_outLen o_commitPos o_tailLen po) _
          cases h
          exact OEnds.vret hm_20 rfl rfl
    · simp only [if_neg hc85] at h
      refine OEnds.icmpT hm_20 rfl (q := 111) rfl ((flt hc85).2.1) ?_
      show OEnds own_P 20 111 [.val (.ref 0), .val (.int v1), .val (.int v2), .unset] [] (bk0 o_kwChars o_kwLen o_kwRepl o_pend o_child o_delta o_fail o_depth o_term o_outMask o_queue o_text o_masks o_out o_tail o_maxKw o_maxLen o_phaseNow o_count o_pendLen o_nodeCount o_longestKw o_n o_state o_total o_outLen o_commitPos o_tailLen po) _
      cases h
      exact OEnds.vret hm_20 rfl rfl
theorem ok_rebuildTail {o_kwChars : List Int32} {o_kwLen : List Int32} {o_kwRepl : List Int32} {o_pend : List Int32} {o_child : List Int32} {o_delta : List Int32} {o_fail : List Int32} {o_depth : List Int32} {o_term : List Int32} {o_outMask : List Int32} {o_queue : List Int32} {o_text : List Int32} {o_masks : List Int32} {o_out : List Int32} {o_maxKw : Int32} {o_maxLen : Int32} {o_phaseNow : Int32} {o_count : Int32} {o_pendLen : Int32} {o_nodeCount : Int32} {o_longestKw : Int32} {o_n : Int32} {o_state : Int32} {o_total : Int32} {o_outLen : Int32} {o_commitPos : Int32} {po : List ACell} {o_tail : List Int32} {o_tailLen : Int32} {w_o_tail : List Int32} {w_o_tailLen : Int32} (h : f_rebuildTail o_kwLen o_kwRepl o_child o_term o_text o_n o_commitPos o_tail o_tailLen = some (w_o_tail, w_o_tailLen)) : OEnds own_P 20 0 [.val (.ref 0), .unset, .unset, .unset] [] (bk0 o_kwChars o_kwLen o_kwRepl o_pend o_child o_delta o_fail o_depth o_term o_outMask o_queue o_text o_masks o_out o_tail o_maxKw o_maxLen o_phaseNow o_count o_pendLen o_nodeCount o_longestKw o_n o_state o_total o_outLen o_commitPos o_tailLen po) (none, (bk0 o_kwChars o_kwLen o_kwRepl o_pend o_child o_delta o_fail o_depth o_term o_outMask o_queue o_text o_masks o_out w_o_tail o_maxKw o_maxLen o_phaseNow o_count o_pendLen o_nodeCount o_longestKw o_n o_state o_total o_outLen o_commitPos w_o_tailLen po), 0, 0) := by
  unfold f_rebuildTail at h
  refine OEnds.adv hm_20 8 (pc' := 12) (L' := [.val (.ref 0), .val (.int o_commitPos), .val (.int 0), .unset]) (S' := []) (H' := (bk0 o_kwChars o_kwLen o_kwRepl o_pend o_child o_delta o_fail o_depth o_term o_outMask o_queue o_text o_masks o_out o_tail o_maxKw o_maxLen o_phaseNow o_count o_pendLen o_nodeCount o_longestKw o_n o_state o_total o_outLen o_commitPos 0 po)) rfl ?_
  exact ok_rebuildTail_12 100000 h
theorem ok_feed {o_kwChars : List Int32} {o_kwLen : List Int32} {o_kwRepl : List Int32} {o_pend : List Int32} {o_child : List Int32} {o_delta : List Int32} {o_fail : List Int32} {o_depth : List Int32} {o_term : List Int32} {o_outMask : List Int32} {o_queue : List Int32} {o_maxKw : Int32} {o_maxLen : Int32} {o_phaseNow : Int32} {o_count : Int32} {o_pendLen : Int32} {o_nodeCount : Int32} {o_longestKw : Int32} {po : List ACell} {o_text : List Int32} {o_masks : List Int32} {o_out : List Int32} {o_tail : List Int32} {o_n : Int32} {o_state : Int32} {o_total : Int32} {o_outLen : Int32} {o_commitPos : Int32} {o_tailLen : Int32} {v1 : Int32} {res : Int32} {w_o_text : List Int32} {w_o_masks : List Int32} {w_o_out : List Int32} {w_o_tail : List Int32} {w_o_n : Int32} {w_o_state : Int32} {w_o_total : Int32} {w_o_outLen : Int32} {w_o_commitPos : Int32} {w_o_tailLen : Int32} (h : f_feed o_kwLen o_kwRepl o_child o_delta o_term o_outMask o_phaseNow o_longestKw o_text o_masks o_out o_tail o_n o_state o_total o_outLen o_commitPos o_tailLen v1 = some (res, w_o_text, w_o_masks, w_o_out, w_o_tail, w_o_n, w_o_state, w_o_total, w_o_outLen, w_o_commitPos, w_o_tailLen)) : OEnds own_P 16 0 [.val (.ref 0), .val (.int v1), .unset, .unset] [] (bk0 o_kwChars o_kwLen o_kwRepl o_pend o_child o_delta o_fail o_depth o_term o_outMask o_queue o_text o_masks o_out o_tail o_maxKw o_maxLen o_phaseNow o_count o_pendLen o_nodeCount o_longestKw o_n o_state o_total o_outLen o_commitPos o_tailLen po) (some (.int res), (bk0 o_kwChars o_kwLen o_kwRepl o_pend o_child o_delta o_fail o_depth o_term o_outMask o_queue w_o_text w_o_masks w_o_out w_o_tail o_maxKw o_maxLen o_phaseNow o_count o_pendLen o_nodeCount o_longestKw w_o_n w_o_state w_o_total w_o_outLen w_o_commitPos w_o_tailLen po), 0, 0) := by
  unfold f_feed at h
  refine OEnds.adv hm_16 3 (pc' := 5) (L' := [.val (.ref 0), .val (.int v1), .unset, .unset]) (S' := [.int 1, .int o_phaseNow]) (H' := (bk0 o_kwChars o_kwLen o_kwRepl o_pend o_child o_delta o_fail o_depth o_term o_outMask o_queue o_text o_masks o_out o_tail o_maxKw o_maxLen o_phaseNow o_count o_pendLen o_nodeCount o_longestKw o_n o_state o_total o_outLen o_commitPos o_tailLen po)) rfl ?_
  by_cases hc91 : o_phaseNow = (1 : Int32)
  · simp only [if_pos hc91] at h
    refine OEnds.icmpT hm_16 rfl (q := 10) rfl ((teq hc91).1) ?_
    refine OEnds.adv hm_16 2 (pc' := 12) (L' := [.val (.ref 0), .val (.int v1), .unset, .unset]) (S' := [.int v1, .ref 0]) (H' := (bk0 o_kwChars o_kwLen o_kwRepl o_pend o_child o_delta o_fail o_depth o_term o_outMask o_queue o_text o_masks o_out o_tail o_maxKw o_maxLen o_phaseNow o_count o_pendLen o_nodeCount o_longestKw o_n o_state o_total o_outLen o_commitPos o_tailLen po)) rfl ?_
    obtain ⟨r101, hq92, h⟩ := bnd h
    refine OEnds.call0 hm_16 rfl rfl (by decide) rfl (as := [.ref 0, .int v1]) (rest := []) rfl rfl (ok_isPrintable hq92) ?_
    show OEnds own_P 16 15 [.val (.ref 0), .val (.int v1), .unset, .unset] [.int r101] (bk0 o_kwChars o_kwLen o_kwRepl o_pend o_child o_delta o_fail o_depth o_term o_outMask o_queue o_text o_masks o_out o_tail o_maxKw o_maxLen o_phaseNow o_count o_pendLen o_nodeCount o_longestKw o_n o_state o_total o_outLen o_commitPos o_tailLen po) _
    by_cases hc93 : r101 = (0 : Int32)
    · simp only [if_pos hc93] at h
      refine OEnds.ifF hm_16 rfl ((teq hc93).2) ?_
      refine OEnds.adv hm_16 1 (pc' := 20) (L' := [.val (.ref 0), .val (.int v1), .unset, .unset]) (S' := [.int (-2)]) (H' := (bk0 o_kwChars o_kwLen o_kwRepl o_pend o_child o_delta o_fail o_depth o_term o_outMask o_queue o_text o_masks o_out o_tail o_maxKw o_maxLen o_phaseNow o_count o_pendLen o_nodeCount o_longestKw o_n o_state o_total o_outLen o_commitPos o_tailLen po)) rfl ?_
      cases h
      exact OEnds.iret hm_16 rfl rfl
    · simp only [if_neg hc93] at h
      refine OEnds.ifT hm_16 rfl (q := 21) rfl ((feq hc93).2) ?_
      refine OEnds.adv hm_16 3 (pc' := 28) (L' := [.val (.ref 0), .val (.int v1), .unset, .unset]) (S' := [.int 240, .int o_n]) (H' := (bk0 o_kwChars o_kwLen o_kwRepl o_pend o_child o_delta o_fail o_depth o_term o_outMask o_queue o_text o_masks o_out o_tail o_maxKw o_maxLen o_phaseNow o_count o_pendLen o_nodeCount o_longestKw o_n o_state o_total o_outLen o_commitPos o_tailLen po)) rfl ?_
      by_cases hc94 : o_n < (240 : Int32)
      · simp only [if_pos hc94] at h
        refine OEnds.icmpT hm_16 rfl (q := 34) rfl ((tlt hc94).1) ?_
        refine OEnds.adv hm_16 5 (pc' := 41) (L' := [.val (.ref 0), .val (.int v1), .unset, .unset]) (S' := [.int v1, .int o_state, .ref 0, .ref 0]) (H' := (bk0 o_kwChars o_kwLen o_kwRepl o_pend o_child o_delta o_fail o_depth o_term o_outMask o_queue o_text o_masks o_out o_tail o_maxKw o_maxLen o_phaseNow o_count o_pendLen o_nodeCount o_longestKw o_n o_state o_total o_outLen o_commitPos o_tailLen po)) rfl ?_
        obtain ⟨r102, hq95, h⟩ := bnd h
        refine OEnds.call0 hm_16 rfl rfl (by decide) rfl (as := [.ref 0, .int o_state, .int v1]) (rest := [.ref 0]) rfl rfl (ok_nextState hq95) ?_
        refine OEnds.adv hm_16 5 (pc' := 55) (L' := [.val (.ref 0), .val (.int v1), .unset, .unset]) (S' := [.int r102, .ref 10]) (H' := (bk0 o_kwChars o_kwLen o_kwRepl o_pend o_child o_delta o_fail o_depth o_term o_outMask o_queue o_text o_masks o_out o_tail o_maxKw o_maxLen o_phaseNow o_count o_pendLen o_nodeCount o_longestKw o_n r102 o_total o_outLen o_commitPos o_tailLen po)) rfl ?_
        obtain ⟨x103, hx103, h⟩ := bnd h
        refine OEnds.plain hm_16 rfl rfl (x_iaload rfl hx103) ?_
        refine OEnds.adv hm_16 6 (pc' := 66) (L' := [.val (.ref 0), .val (.int v1), .val (.int x103), .unset]) (S' := [.int v1, .int o_n, .ref 12]) (H' := (bk0 o_kwChars o_kwLen o_kwRepl o_pend o_child o_delta o_fail o_depth o_term o_outMask o_queue o_text o_masks o_out o_tail o_maxKw o_maxLen o_phaseNow o_count o_pendLen o_nodeCount o_longestKw o_n r102 o_total o_outLen o_commitPos o_tailLen po)) rfl ?_
        obtain ⟨A104, hA104, h⟩ := bnd h
        refine OEnds.plain hm_16 rfl rfl (x_iastore rfl (Nat.le_of_ble_eq_true rfl) hA104) ?_
        refine OEnds.adv hm_16 5 (pc' := 76) (L' := [.val (.ref 0), .val (.int v1), .val (.int x103), .unset]) (S' := [.int x103, .int o_n, .ref 13]) (H' := (bk0 o_kwChars o_kwLen o_kwRepl o_pend o_child o_delta o_fail o_depth o_term o_outMask o_queue A104 o_masks o_out o_tail o_maxKw o_maxLen o_phaseNow o_count o_pendLen o_nodeCount o_longestKw o_n r102 o_total o_outLen o_commitPos o_tailLen po)) rfl ?_
        obtain ⟨A105, hA105, h⟩ := bnd h
        refine OEnds.plain hm_16 rfl rfl (x_iastore rfl (Nat.le_of_ble_eq_true rfl) hA105) ?_
        refine OEnds.adv hm_16 8 (pc' := 89) (L' := [.val (.ref 0), .val (.int v1), .val (.int x103), .unset]) (S' := [.int x103, .ref 0]) (H' := (bk0 o_kwChars o_kwLen o_kwRepl o_pend o_child o_delta o_fail o_depth o_term o_outMask o_queue A104 A105 o_out o_tail o_maxKw o_maxLen o_phaseNow o_count o_pendLen o_nodeCount o_longestKw (o_n + (1 : Int32)) r102 o_total o_outLen o_commitPos o_tailLen po)) rfl ?_
        obtain ⟨r106, hq96, h⟩ := bnd h
        refine OEnds.call0 hm_16 rfl rfl (by decide) rfl (as := [.ref 0, .int x103]) (rest := []) rfl rfl (ok_popCount hq96) ?_
        refine OEnds.adv hm_16 8 (pc' := 104) (L' := [.val (.ref 0), .val (.int v1), .val (.int x103), .val (.int r106)]) (S' := [.ref 0]) (H' := (bk0 o_kwChars o_kwLen o_kwRepl o_pend o_child o_delta o_fail o_depth o_term o_outMask o_queue A104 A105 o_out o_tail o_maxKw o_maxLen o_phaseNow o_count o_pendLen o_nodeCount o_longestKw (o_n + (1 : Int32)) r102 (o_total + r106) o_outLen o_commitPos o_tailLen po)) rfl ?_
        obtain ⟨⟨s107, s108, s109⟩, hq97, h⟩ := bnd h
        refine OEnds.call0 hm_16 rfl rfl (by decide) rfl (as := [.ref 0]) (rest := []) rfl rfl (ok_commitReady hq97) ?_
        refine OEnds.adv hm_16 1 (pc' := 108) (L' := [.val (.ref 0), .val (.int v1), .val (.int x103), .val (.int r106)]) (S' := [.ref 0]) (H' := (bk0 o_kwChars o_kwLen o_kwRepl o_pend o_child o_delta o_fail o_depth o_term o_outMask o_queue A104 A105 s107 o_tail o_maxKw o_maxLen o_phaseNow o_count o_pendLen o_nodeCount o_longestKw (o_n + (1 : Int32)) r102 (o_total + r106) s108 s109 o_tailLen po)) rfl ?_
        obtain ⟨⟨s110, s111⟩, hq98, h⟩ := bnd h
        refine OEnds.call0 hm_16 rfl rfl (by decide) rfl (as := [.ref 0]) (rest := []) rfl rfl (ok_rebuildTail hq98) ?_
        refine OEnds.adv hm_16 1 (pc' := 112) (L' := [.val (.ref 0), .val (.int v1), .val (.int x103), .val (.int r106)]) (S' := [.int r106]) (H' := (bk0 o_kwChars o_kwLen o_kwRepl o_pend o_child o_delta o_fail o_depth o_term o_outMask o_queue A104 A105 s107 s110 o_maxKw o_maxLen o_phaseNow o_count o_pendLen o_nodeCount o_longestKw (o_n + (1 : Int32)) r102 (o_total + r106) s108 s109 s111 po)) rfl ?_
        cases h
        exact OEnds.iret hm_16 rfl rfl
      · simp only [if_neg hc94] at h
        refine OEnds.icmpF hm_16 rfl ((flt hc94).1) ?_
        refine OEnds.adv hm_16 1 (pc' := 33) (L' := [.val (.ref 0), .val (.int v1), .unset, .unset]) (S' := [.int (-3)]) (H' := (bk0 o_kwChars o_kwLen o_kwRepl o_pend o_child o_delta o_fail o_depth o_term o_outMask o_queue o_text o_masks o_out o_tail o_maxKw o_maxLen o_phaseNow o_count o_pendLen o_nodeCount o_longestKw o_n o_state o_total o_outLen o_commitPos o_tailLen po)) rfl ?_
        cases h
        exact OEnds.iret hm_16 rfl rfl
  · simp only [if_neg hc91] at h
    refine OEnds.icmpF hm_16 rfl ((feq hc91).1) ?_
    refine OEnds.adv hm_16 1 (pc' := 9) (L' := [.val (.ref 0), .val (.int v1), .unset, .unset]) (S' := [.int (-1)]) (H' := (bk0 o_kwChars o_kwLen o_kwRepl o_pend o_child o_delta o_fail o_depth o_term o_outMask o_queue o_text o_masks o_out o_tail o_maxKw o_maxLen o_phaseNow o_count o_pendLen o_nodeCount o_longestKw o_n o_state o_total o_outLen o_commitPos o_tailLen po)) rfl ?_
    cases h
    exact OEnds.iret hm_16 rfl rfl
theorem ok_occurrenceMask {o_kwChars : List Int32} {o_kwLen : List Int32} {o_kwRepl : List Int32} {o_pend : List Int32} {o_child : List Int32} {o_delta : List Int32} {o_fail : List Int32} {o_depth : List Int32} {o_term : List Int32} {o_outMask : List Int32} {o_queue : List Int32} {o_text : List Int32} {o_masks : List Int32} {o_out : List Int32} {o_tail : List Int32} {o_maxKw : Int32} {o_maxLen : Int32} {o_phaseNow : Int32} {o_count : Int32} {o_pendLen : Int32} {o_nodeCount : Int32} {o_longestKw : Int32} {o_n : Int32} {o_state : Int32} {o_total : Int32} {o_outLen : Int32} {o_commitPos : Int32} {o_tailLen : Int32} {po : List ACell} {v1 : Int32} {res : Int32} (h : f_occurrenceMask o_masks o_n v1 = some res) : OEnds own_P 22 0 [.val (.ref 0), .val (.int v1)] [] (bk0 o_kwChars o_kwLen o_kwRepl o_pend o_child o_delta o_fail o_depth o_term o_outMask o_queue o_text o_masks o_out o_tail o_maxKw o_maxLen o_phaseNow o_count o_pendLen o_nodeCount o_longestKw o_n o_state o_total o_outLen o_commitPos o_tailLen po) (some (.int res), (bk0 o_kwChars o_kwLen o_kwRepl o_pend o_child o_delta o_fail o_depth o_term o_outMask o_queue o_text o_masks o_out o_tail o_maxKw o_maxLen o_phaseNow o_count o_pendLen o_nodeCount o_longestKw o_n o_state o_total o_outLen o_commitPos o_tailLen po), 0, 0) := by
  unfold f_occurrenceMask at h
  refine OEnds.adv hm_22 1 (pc' := 1) (L' := [.val (.ref 0), .val (.int v1)]) (S' := [.int v1]) (H' := (bk0 o_kwChars o_kwLen o_kwRepl o_pend o_child o_delta o_fail o_depth o_term o_outMask o_queue o_text o_masks o_out o_tail o_maxKw o_maxLen o_phaseNow o_count o_pendLen o_nodeCount o_longestKw o_n o_state o_total o_outLen o_commitPos o_tailLen po)) rfl ?_
  by_cases hc99 : v1 < (0 : Int32)
  · simp only [if_pos hc99] at h
    refine OEnds.ifT hm_22 rfl (q := 12) rfl ((tlt hc99).1) ?_
    refine OEnds.adv hm_22 1 (pc' := 13) (L' := [.val (.ref 0), .val (.int v1)]) (S' := [.int (-1)]) (H' := (bk0 o_kwChars o_kwLen o_kwRepl o_pend o_child o_delta o_fail o_depth o_term o_outMask o_queue o_text o_masks o_out o_tail o_maxKw o_maxLen o_phaseNow o_count o_pendLen o_nodeCount o_longestKw o_n o_state o_total o_outLen o_commitPos o_tailLen po)) rfl ?_
    cases h
    exact OEnds.iret hm_22 rfl rfl
  · simp only [if_neg hc99] at h
    refine OEnds.ifF hm_22 rfl ((flt hc99).1) ?_
    refine OEnds.adv hm_22 3 (pc' := 9) (L' := [.val (.ref 0), .val (.int v1)]) (S' := [.int o_n, .int v1]) (H' := (bk0 o_kwChars o_kwLen o_kwRepl o_pend o_child o_delta o_fail o_depth o_term o_outMask o_queue o_text o_masks o_out o_tail o_maxKw o_maxLen o_phaseNow o_count o_pendLen o_nodeCount o_longestKw o_n o_state o_total o_outLen o_commitPos o_tailLen po)) rfl ?_
    by_cases hc100 : v1 < o_n
    · simp only [if_pos hc100] at h
      refine OEnds.icmpT hm_22 rfl (q := 14) rfl ((tlt hc100).1) ?_
      refine OEnds.adv hm_22 3 (pc' := 19) (L' := [.val (.ref 0), .val (.int v1)]) (S' := [.int v1, .ref 13]) (H' := (bk0 o_kwChars o_kwLen o_kwRepl o_pend o_child o_delta o_fail o_depth o_term o_outMask o_queue o_text o_masks o_out o_tail o_maxKw o_maxLen o_phaseNow o_count o_pendLen o_nodeCount o_longestKw o_n o_state o_total o_outLen o_commitPos o_tailLen po)) rfl ?_
      obtain ⟨x112, hx112, h⟩ := bnd h
      refine OEnds.plain hm_22 rfl rfl (x_iaload rfl hx112) ?_
      show OEnds own_P 22 20 [.val (.ref 0), .val (.int v1)] [.int x112] (bk0 o_kwChars o_kwLen o_kwRepl o_pend o_child o_delta o_fail o_depth o_term o_outMask o_queue o_text o_masks o_out o_tail o_maxKw o_maxLen o_phaseNow o_count o_pendLen o_nodeCount o_longestKw o_n o_state o_total o_outLen o_commitPos o_tailLen po) _
      cases h
      exact OEnds.iret hm_22 rfl rfl
    · simp only [if_neg hc100] at h
      refine OEnds.icmpF hm_22 rfl ((flt hc100).1) ?_
      refine OEnds.adv hm_22 1 (pc' := 13) (L' := [.val (.ref 0), .val (.int v1)]) (S' := [.int (-1)]) (H' := (bk0 o_kwChars o_kwLen o_kwRepl o_pend o_child o_delta o_fail o_depth o_term o_outMask o_queue o_text o_masks o_out o_tail o_maxKw o_maxLen o_phaseNow o_count o_pendLen o_nodeCount o_longestKw o_n o_state o_total o_outLen o_commitPos o_tailLen po)) rfl ?_
      cases h
      exact OEnds.iret hm_22 rfl rfl
theorem ok_textLength {o_kwChars : List Int32} {o_kwLen : List Int32} {o_kwRepl : List Int32} {o_pend : List Int32} {o_child : List Int32} {o_delta : List Int32} {o_fail : List Int32} {o_depth : List Int32} {o_term : List Int32} {o_outMask : List Int32} {o_queue : List Int32} {o_text : List Int32} {o_masks : List Int32} {o_out : List Int32} {o_tail : List Int32} {o_maxKw : Int32} {o_maxLen : Int32} {o_phaseNow : Int32} {o_count : Int32} {o_pendLen : Int32} {o_nodeCount : Int32} {o_longestKw : Int32} {o_n : Int32} {o_state : Int32} {o_total : Int32} {o_outLen : Int32} {o_commitPos : Int32} {o_tailLen : Int32} {po : List ACell} {res : Int32} (h : f_textLength o_n = some res) : OEnds own_P 24 0 [.val (.ref 0)] [] (bk0 o_kwChars o_kwLen o_kwRepl o_pend o_child o_delta o_fail o_depth o_term o_outMask o_queue o_text o_masks o_out o_tail o_maxKw o_maxLen o_phaseNow o_count o_pendLen o_nodeCount o_longestKw o_n o_state o_total o_outLen o_commitPos o_tailLen po) (some (.int res), (bk0 o_kwChars o_kwLen o_kwRepl o_pend o_child o_delta o_fail o_depth o_term o_outMask o_queue o_text o_masks o_out o_tail o_maxKw o_maxLen o_phaseNow o_count o_pendLen o_nodeCount o_longestKw o_n o_state o_total o_outLen o_commitPos o_tailLen po), 0, 0) := by
  unfold f_textLength at h
  refine OEnds.adv hm_24 2 (pc' := 4) (L' := [.val (.ref 0)]) (S' := [.int o_n]) (H' := (bk0 o_kwChars o_kwLen o_kwRepl o_pend o_child o_delta o_fail o_depth o_term o_outMask o_queue o_text o_masks o_out o_tail o_maxKw o_maxLen o_phaseNow o_count o_pendLen o_nodeCount o_longestKw o_n o_state o_total o_outLen o_commitPos o_tailLen po)) rfl ?_
  cases h
  exact OEnds.iret hm_24 rfl rfl
theorem ok_totalOccurrences {o_kwChars : List Int32} {o_kwLen : List Int32} {o_kwRepl : List Int32} {o_pend : List Int32} {o_child : List Int32} {o_delta : List Int32} {o_fail : List Int32} {o_depth : List Int32} {o_term : List Int32} {o_outMask : List Int32} {o_queue : List Int32} {o_text : List Int32} {o_masks : List Int32} {o_out : List Int32} {o_tail : List Int32} {o_maxKw : Int32} {o_maxLen : Int32} {o_phaseNow : Int32} {o_count : Int32} {o_pendLen : Int32} {o_nodeCount : Int32} {o_longestKw : Int32} {o_n : Int32} {o_state : Int32} {o_total : Int32} {o_outLen : Int32} {o_commitPos : Int32} {o_tailLen : Int32} {po : List ACell} {res : Int32} (h : f_totalOccurrences o_total = some res) : OEnds own_P 25 0 [.val (.ref 0)] [] (bk0 o_kwChars o_kwLen o_kwRepl o_pend o_child o_delta o_fail o_depth o_term o_outMask o_queue o_text o_masks o_out o_tail o_maxKw o_maxLen o_phaseNow o_count o_pendLen o_nodeCount o_longestKw o_n o_state o_total o_outLen o_commitPos o_tailLen po) (some (.int res), (bk0 o_kwChars o_kwLen o_kwRepl o_pend o_child o_delta o_fail o_depth o_term o_outMask o_queue o_text o_masks o_out o_tail o_maxKw o_maxLen o_phaseNow o_count o_pendLen o_nodeCount o_longestKw o_n o_state o_total o_outLen o_commitPos o_tailLen po), 0, 0) := by
  unfold f_totalOccurrences at h
  refine OEnds.adv hm_25 2 (pc' := 4) (L' := [.val (.ref 0)]) (S' := [.int o_total]) (H' := (bk0 o_kwChars o_kwLen o_kwRepl o_pend o_child o_delta o_fail o_depth o_term o_outMask o_queue o_text o_masks o_out o_tail o_maxKw o_maxLen o_phaseNow o_count o_pendLen o_nodeCount o_longestKw o_n o_state o_total o_outLen o_commitPos o_tailLen po)) rfl ?_
  cases h
  exact OEnds.iret hm_25 rfl rfl
theorem ok_longestPartial {o_kwChars : List Int32} {o_kwLen : List Int32} {o_kwRepl : List Int32} {o_pend : List Int32} {o_child : List Int32} {o_delta : List Int32} {o_fail : List Int32} {o_depth : List Int32} {o_term : List Int32} {o_outMask : List Int32} {o_queue : List Int32} {o_text : List Int32} {o_masks : List Int32} {o_out : List Int32} {o_tail : List Int32} {o_maxKw : Int32} {o_maxLen : Int32} {o_phaseNow : Int32} {o_count : Int32} {o_pendLen : Int32} {o_nodeCount : Int32} {o_longestKw : Int32} {o_n : Int32} {o_state : Int32} {o_total : Int32} {o_outLen : Int32} {o_commitPos : Int32} {o_tailLen : Int32} {po : List ACell} {res : Int32} (h : f_longestPartial o_depth o_n o_state = some res) : OEnds own_P 26 0 [.val (.ref 0)] [] (bk0 o_kwChars o_kwLen o_kwRepl o_pend o_child o_delta o_fail o_depth o_term o_outMask o_queue o_text o_masks o_out o_tail o_maxKw o_maxLen o_phaseNow o_count o_pendLen o_nodeCount o_longestKw o_n o_state o_total o_outLen o_commitPos o_tailLen po) (some (.int res), (bk0 o_kwChars o_kwLen o_kwRepl o_pend o_child o_delta o_fail o_depth o_term o_outMask o_queue o_text o_masks o_out o_tail o_maxKw o_maxLen o_phaseNow o_count o_pendLen o_nodeCount o_longestKw o_n o_state o_total o_outLen o_commitPos o_tailLen po), 0, 0) := by
  unfold f_longestPartial at h
  refine OEnds.adv hm_26 2 (pc' := 4) (L' := [.val (.ref 0)]) (S' := [.int o_n]) (H' := (bk0 o_kwChars o_kwLen o_kwRepl o_pend o_child o_delta o_fail o_depth o_term o_outMask o_queue o_text o_masks o_out o_tail o_maxKw o_maxLen o_phaseNow o_count o_pendLen o_nodeCount o_longestKw o_n o_state o_total o_outLen o_commitPos o_tailLen po)) rfl ?_
  by_cases hc101 : o_n = (0 : Int32)
  · simp only [if_pos hc101] at h
    refine OEnds.ifT hm_26 rfl (q := 24) rfl ((teq hc101).1) ?_
    refine OEnds.adv hm_26 1 (pc' := 25) (L' := [.val (.ref 0)]) (S' := [.int 0]) (H' := (bk0 o_kwChars o_kwLen o_kwRepl o_pend o_child o_delta o_fail o_depth o_term o_outMask o_queue o_text o_masks o_out o_tail o_maxKw o_maxLen o_phaseNow o_count o_pendLen o_nodeCount o_longestKw o_n o_state o_total o_outLen o_commitPos o_tailLen po)) rfl ?_
    cases h
    exact OEnds.iret hm_26 rfl rfl
  · simp only [if_neg hc101] at h
    refine OEnds.ifF hm_26 rfl ((feq hc101).1) ?_
    refine OEnds.adv hm_26 2 (pc' := 11) (L' := [.val (.ref 0)]) (S' := [.int o_state]) (H' := (bk0 o_kwChars o_kwLen o_kwRepl o_pend o_child o_delta o_fail o_depth o_term o_outMask o_queue o_text o_masks o_out o_tail o_maxKw o_maxLen o_phaseNow o_count o_pendLen o_nodeCount o_longestKw o_n o_state o_total o_outLen o_commitPos o_tailLen po)) rfl ?_
    by_cases hc102 : o_state < (0 : Int32)
    · simp only [if_pos hc102] at h
      refine OEnds.ifT hm_26 rfl (q := 24) rfl ((tlt hc102).1) ?_
      refine OEnds.adv hm_26 1 (pc' := 25) (L' := [.val (.ref 0)]) (S' := [.int 0]) (H' := (bk0 o_kwChars o_kwLen o_kwRepl o_pend o_child o_delta o_fail o_depth o_term o_outMask o_queue o_text o_masks o_out o_tail o_maxKw o_maxLen o_phaseNow o_count o_pendLen o_nodeCount o_longestKw o_n o_state o_total o_outLen o_commitPos o_tailLen po)) rfl ?_
      cases h
      exact OEnds.iret hm_26 rfl rfl
    · simp only [if_neg hc102] at h
      refine OEnds.ifF hm_26 rfl ((flt hc102).1) ?_
      refine OEnds.adv hm_26 3 (pc' := 21) (L' := [.val (.ref 0)]) (S' := [.int 129, .int o_state]) (H' := (bk0 o_kwChars o_kwLen o_kwRepl o_pend o_child o_delta o_fail o_depth o_term o_outMask o_queue o_text o_masks o_out o_tail o_maxKw o_maxLen o_phaseNow o_count o_pendLen o_nodeCount o_longestKw o_n o_state o_total o_outLen o_commitPos o_tailLen po)) rfl ?_
      by_cases hc103 : o_state < (129 : Int32)
      · simp only [if_pos hc103] at h
        refine OEnds.icmpT hm_26 rfl (q := 26) rfl ((tlt hc103).1) ?_
        refine OEnds.adv hm_26 4 (pc' := 34) (L' := [.val (.ref 0)]) (S' := [.int o_state, .ref 8]) (H' := (bk0 o_kwChars o_kwLen o_kwRepl o_pend o_child o_delta o_fail o_depth o_term o_outMask o_queue o_text o_masks o_out o_tail o_maxKw o_maxLen o_phaseNow o_count o_pendLen o_nodeCount o_longestKw o_n o_state o_total o_outLen o_commitPos o_tailLen po)) rfl ?_
        obtain ⟨x113, hx113, h⟩ := bnd h
        refine OEnds.plain hm_26 rfl rfl (x_iaload rfl hx113) ?_
        show OEnds own_P 26 35 [.val (.ref 0)] [.int x113] (bk0 o_kwChars o_kwLen o_kwRepl o_pend o_child o_delta o_fail o_depth o_term o_outMask o_queue o_text o_masks o_out o_tail o_maxKw o_maxLen o_phaseNow o_count o_pendLen o_nodeCount o_longestKw o_n o_state o_total o_outLen o_commitPos o_tailLen po) _
        cases h
        exact OEnds.iret hm_26 rfl rfl
      · simp only [if_neg hc103] at h
        refine OEnds.icmpF hm_26 rfl ((flt hc103).1) ?_
        refine OEnds.adv hm_26 1 (pc' := 25) (L' := [.val (.ref 0)]) (S' := [.int 0]) (H' := (bk0 o_kwChars o_kwLen o_kwRepl o_pend o_child o_delta o_fail o_depth o_term o_outMask o_queue o_text o_masks o_out o_tail o_maxKw o_maxLen o_phaseNow o_count o_pendLen o_nodeCount o_longestKw o_n o_state o_total o_outLen o_commitPos o_tailLen po)) rfl ?_
        cases h
        exact OEnds.iret hm_26 rfl rfl
theorem ok_outChar {o_kwChars : List Int32} {o_kwLen : List Int32} {o_kwRepl : List Int32} {o_pend : List Int32} {o_child : List Int32} {o_delta : List Int32} {o_fail : List Int32} {o_depth : List Int32} {o_term : List Int32} {o_outMask : List Int32} {o_queue : List Int32} {o_text : List Int32} {o_masks : List Int32} {o_out : List Int32} {o_tail : List Int32} {o_maxKw : Int32} {o_maxLen : Int32} {o_phaseNow : Int32} {o_count : Int32} {o_pendLen : Int32} {o_nodeCount : Int32} {o_longestKw : Int32} {o_n : Int32} {o_state : Int32} {o_total : Int32} {o_outLen : Int32} {o_commitPos : Int32} {o_tailLen : Int32} {po : List ACell} {v1 : Int32} {res : Int32} (h : f_outChar o_out o_tail o_outLen o_tailLen v1 = some res) : OEnds own_P 27 0 [.val (.ref 0), .val (.int v1), .unset] [] (bk0 o_kwChars o_kwLen o_kwRepl o_pend o_child o_delta o_fail o_depth o_term o_outMask o_queue o_text o_masks o_out o_tail o_maxKw o_maxLen o_phaseNow o_count o_pendLen o_nodeCount o_longestKw o_n o_state o_total o_outLen o_commitPos o_tailLen po) (some (.int res), (bk0 o_kwChars o_kwLen o_kwRepl o_pend o_child o_delta o_fail o_depth o_term o_outMask o_queue o_text o_masks o_out o_tail o_maxKw o_maxLen o_phaseNow o_count o_pendLen o_nodeCount o_longestKw o_n o_state o_total o_outLen o_commitPos o_tailLen po), 0, 0) := by
  unfold f_outChar at h
  refine OEnds.adv hm_27 1 (pc' := 1) (L' := [.val (.ref 0), .val (.int v1), .unset]) (S' := [.int v1]) (H' := (bk0 o_kwChars o_kwLen o_kwRepl o_pend o_child o_delta o_fail o_depth o_term o_outMask o_queue o_text o_masks o_out o_tail o_maxKw o_maxLen o_phaseNow o_count o_pendLen o_nodeCount o_longestKw o_n o_state o_total o_outLen o_commitPos o_tailLen po)) rfl ?_
  by_cases hc104 : v1 < (0 : Int32)
  · simp only [if_pos hc104] at h
    refine OEnds.ifF hm_27 rfl ((tlt hc104).2.1) ?_
    refine OEnds.adv hm_27 1 (pc' := 5) (L' := [.val (.ref 0), .val (.int v1), .unset]) (S' := [.int (-1)]) (H' := (bk0 o_kwChars o_kwLen o_kwRepl o_pend o_child o_delta o_fail o_depth o_term o_outMask o_queue o_text o_masks o_out o_tail o_maxKw o_maxLen o_phaseNow o_count o_pendLen o_nodeCount o_longestKw o_n o_state o_total o_outLen o_commitPos o_tailLen po)) rfl ?_
    cases h
    exact OEnds.iret hm_27 rfl rfl
  · simp only [if_neg hc104] at h
    refine OEnds.ifT hm_27 rfl (q := 6) rfl ((flt hc104).2.1) ?_
    refine OEnds.adv hm_27 3 (pc' := 11) (L' := [.val (.ref 0), .val (.int v1), .unset]) (S' := [.int o_outLen, .int v1]) (H' := (bk0 o_kwChars o_kwLen o_kwRepl o_pend o_child o_delta o_fail o_depth o_term o_outMask o_queue o_text o_masks o_out o_tail o_maxKw o_maxLen o_phaseNow o_count o_pendLen o_nodeCount o_longestKw o_n o_state o_total o_outLen o_commitPos o_tailLen po)) rfl ?_
    by_cases hc105 : v1 < o_outLen
    · simp only [if_pos hc105] at h
      refine OEnds.icmpF hm_27 rfl ((tlt hc105).2.1) ?_
      refine OEnds.adv hm_27 3 (pc' := 19) (L' := [.val (.ref 0), .val (.int v1), .unset]) (S' := [.int v1, .ref 14]) (H' := (bk0 o_kwChars o_kwLen o_kwRepl o_pend o_child o_delta o_fail o_depth o_term o_outMask o_queue o_text o_masks o_out o_tail o_maxKw o_maxLen o_phaseNow o_count o_pendLen o_nodeCount o_longestKw o_n o_state o_total o_outLen o_commitPos o_tailLen po)) rfl ?_
      obtain ⟨x115, hx115, h⟩ := bnd h
      refine OEnds.plain hm_27 rfl rfl (x_iaload rfl hx115) ?_
      show OEnds own_P 27 20 [.val (.ref 0), .val (.int v1), .unset] [.int x115] (bk0 o_kwChars o_kwLen o_kwRepl o_pend o_child o_delta o_fail o_depth o_term o_outMask o_queue o_text o_masks o_out o_tail o_maxKw o_maxLen o_phaseNow o_count o_pendLen o_nodeCount o_longestKw o_n o_state o_total o_outLen o_commitPos o_tailLen po) _
      cases h
      exact OEnds.iret hm_27 rfl rfl
    · simp only [if_neg hc105] at h
      refine OEnds.icmpT hm_27 rfl (q := 21) rfl ((flt hc105).2.1) ?_
      refine OEnds.adv hm_27 8 (pc' := 33) (L' := [.val (.ref 0), .val (.int v1), .val (.int (v1 - o_outLen))]) (S' := [.int o_tailLen, .int (v1 - o_outLen)]) (H' := (bk0 o_kwChars o_kwLen o_kwRepl o_pend o_child o_delta o_fail o_depth o_term o_outMask o_queue o_text o_masks o_out o_tail o_maxKw o_maxLen o_phaseNow o_count o_pendLen o_nodeCount o_longestKw o_n o_state o_total o_outLen o_commitPos o_tailLen po)) rfl ?_
      by_cases hc106 : (v1 - o_outLen) < o_tailLen
      · simp only [if_pos hc106] at h
        refine OEnds.icmpF hm_27 rfl ((tlt hc106).2.1) ?_
        refine OEnds.adv hm_27 2 (pc' := 39) (L' := [.val (.ref 0), .val (.int v1), .val (.int (v1 - o_outLen))]) (S' := [.int 8, .int (v1 - o_outLen)]) (H' := (bk0 o_kwChars o_kwLen o_kwRepl o_pend o_child o_delta o_fail o_depth o_term o_outMask o_queue o_text o_masks o_out o_tail o_maxKw o_maxLen o_phaseNow o_count o_pendLen o_nodeCount o_longestKw o_n o_state o_total o_outLen o_commitPos o_tailLen po)) rfl ?_
        by_cases hc107 : (v1 - o_outLen) < (8 : Int32)
        · simp only [if_pos hc107] at h
          refine OEnds.icmpF hm_27 rfl ((tlt hc107).2.1) ?_
          refine OEnds.adv hm_27 3 (pc' := 47) (L' := [.val (.ref 0), .val (.int v1), .val (.int (v1 - o_outLen))]) (S' := [.int (v1 - o_outLen), .ref 15]) (H' := (bk0 o_kwChars o_kwLen o_kwRepl o_pend o_child o_delta o_fail o_depth o_term o_outMask o_queue o_text o_masks o_out o_tail o_maxKw o_maxLen o_phaseNow o_count o_pendLen o_nodeCount o_longestKw o_n o_state o_total o_outLen o_commitPos o_tailLen po)) rfl ?_
          obtain ⟨x114, hx114, h⟩ := bnd h
          refine OEnds.plain hm_27 rfl rfl (x_iaload rfl hx114) ?_
          show OEnds own_P 27 48 [.val (.ref 0), .val (.int v1), .val (.int (v1 - o_outLen))] [.int x114] (bk0 o_kwChars o_kwLen o_kwRepl o_pend o_child o_delta o_fail o_depth o_term o_outMask o_queue o_text o_masks o_out o_tail o_maxKw o_maxLen o_phaseNow o_count o_pendLen o_nodeCount o_longestKw o_n o_state o_total o_outLen o_commitPos o_tailLen po) _
          cases h
          exact OEnds.iret hm_27 rfl rfl
        · simp only [if_neg hc107] at h
          refine OEnds.icmpT hm_27 rfl (q := 49) rfl ((flt hc107).2.1) ?_
          refine OEnds.adv hm_27 1 (pc' := 50) (L' := [.val (.ref 0), .val (.int v1), .val (.int (v1 - o_outLen))]) (S' := [.int (-1)]) (H' := (bk0 o_kwChars o_kwLen o_kwRepl o_pend o_child o_delta o_fail o_depth o_term o_outMask o_queue o_text o_masks o_out o_tail o_maxKw o_maxLen o_phaseNow o_count o_pendLen o_nodeCount o_longestKw o_n o_state o_total o_outLen o_commitPos o_tailLen po)) rfl ?_
          cases h
          exact OEnds.iret hm_27 rfl rfl
      · simp only [if_neg hc106] at h
        refine OEnds.icmpT hm_27 rfl (q := 49) rfl ((flt hc106).2.1) ?_
        refine OEnds.adv hm_27 1 (pc' := 50) (L' := [.val (.ref 0), .val (.int v1), .val (.int (v1 - o_outLen))]) (S' := [.int (-1)]) (H' := (bk0 o_kwChars o_kwLen o_kwRepl o_pend o_child o_delta o_fail o_depth o_term o_outMask o_queue o_text o_masks o_out o_tail o_maxKw o_maxLen o_phaseNow o_count o_pendLen o_nodeCount o_longestKw o_n o_state o_total o_outLen o_commitPos o_tailLen po)) rfl ?_
        cases h
        exact OEnds.iret hm_27 rfl rfl
theorem ok_outLength {o_kwChars : List Int32} {o_kwLen : List Int32} {o_kwRepl : List Int32} {o_pend : List Int32} {o_child : List Int32} {o_delta : List Int32} {o_fail : List Int32} {o_depth : List Int32} {o_term : List Int32} {o_outMask : List Int32} {o_queue : List Int32} {o_text : List Int32} {o_masks : List Int32} {o_out : List Int32} {o_tail : List Int32} {o_maxKw : Int32} {o_maxLen : Int32} {o_phaseNow : Int32} {o_count : Int32} {o_pendLen : Int32} {o_nodeCount : Int32} {o_longestKw : Int32} {o_n : Int32} {o_state : Int32} {o_total : Int32} {o_outLen : Int32} {o_commitPos : Int32} {o_tailLen : Int32} {po : List ACell} {res : Int32} (h : f_outLength o_outLen o_tailLen = some res) : OEnds own_P 28 0 [.val (.ref 0)] [] (bk0 o_kwChars o_kwLen o_kwRepl o_pend o_child o_delta o_fail o_depth o_term o_outMask o_queue o_text o_masks o_out o_tail o_maxKw o_maxLen o_phaseNow o_count o_pendLen o_nodeCount o_longestKw o_n o_state o_total o_outLen o_commitPos o_tailLen po) (some (.int res), (bk0 o_kwChars o_kwLen o_kwRepl o_pend o_child o_delta o_fail o_depth o_term o_outMask o_queue o_text o_masks o_out o_tail o_maxKw o_maxLen o_phaseNow o_count o_pendLen o_nodeCount o_longestKw o_n o_state o_total o_outLen o_commitPos o_tailLen po), 0, 0) := by
  unfold f_outLength at h
  refine OEnds.adv hm_28 5 (pc' := 9) (L' := [.val (.ref 0)]) (S' := [.int (o_outLen + o_tailLen)]) (H' := (bk0 o_kwChars o_kwLen o_kwRepl o_pend o_child o_delta o_fail o_depth o_term o_outMask o_queue o_text o_masks o_out o_tail o_maxKw o_maxLen o_phaseNow o_count o_pendLen o_nodeCount o_longestKw o_n o_state o_total o_outLen o_commitPos o_tailLen po)) rfl ?_
  cases h
  exact OEnds.iret hm_28 rfl rfl
theorem ok_L_law_491 : ∀ {n0_out : List Int32} {n0_tail : List Int32} {n0_outLen : Int32} {n0_tailLen : Int32} {v13 : Int32} {n0_maxKw : Int32} {n0_maxLen : Int32} {n0_phaseNow : Int32} {n0_count : Int32} {n0_pendLen : Int32} {n0_nodeCount : Int32} {n0_longestKw : Int32} {n0_n : Int32} {n0_state : Int32} {n0_total : Int32} {n0_commitPos : Int32} {n0_kwChars : List Int32} {n0_kwLen : List Int32} {n0_kwRepl : List Int32} {n0_pend : List Int32} {n0_child : List Int32} {n0_delta : List Int32} {n0_fail : List Int32} {n0_depth : List Int32} {n0_term : List Int32} {n0_outMask : List Int32} {n0_queue : List Int32} {n0_text : List Int32} {n0_masks : List Int32} {d0 d1 d2 d3 d4 d5 d6 d7 d8 d10 d11 d12 d14 d15 d16 : Slot} {res : Int32}, f_L_law_491 n0_out n0_tail n0_outLen n0_tailLen v13 = some res → OEndsQ own_P 0 491 [d0, d1, d2, d3, d4, d5, d6, d7, d8, .val (.ref 0), d10, d11, d12, .val (.int v13), d14, d15, d16] [] (bk0 n0_kwChars n0_kwLen n0_kwRepl n0_pend n0_child n0_delta n0_fail n0_depth n0_term n0_outMask n0_queue n0_text n0_masks n0_out n0_tail n0_maxKw n0_maxLen n0_phaseNow n0_count n0_pendLen n0_nodeCount n0_longestKw n0_n n0_state n0_total n0_outLen n0_commitPos n0_tailLen []) (LawQ res 0 0) := by
  intro n0_out n0_tail n0_outLen n0_tailLen v13 n0_maxKw n0_maxLen n0_phaseNow n0_count n0_pendLen n0_nodeCount n0_longestKw n0_n n0_state n0_total n0_commitPos n0_kwChars n0_kwLen n0_kwRepl n0_pend n0_child n0_delta n0_fail n0_depth n0_term n0_outMask n0_queue n0_text n0_masks d0 d1 d2 d3 d4 d5 d6 d7 d8 d10 d11 d12 d14 d15 d16 res h
  unfold f_L_law_491 at h
  refine OEndsQ.adv hm_0 1 (pc' := 493) (L' := [.unset, .unset, .unset, .unset, .unset, .unset, .unset, .unset, .unset, .val (.ref 0), .unset, .unset, .unset, .val (.int v13), .unset, .unset, .unset]) (S' := [.ref 0]) (H' := (bk0 n0_kwChars n0_kwLen n0_kwRepl n0_pend n0_child n0_delta n0_fail n0_depth n0_term n0_outMask n0_queue n0_text n0_masks n0_out n0_tail n0_maxKw n0_maxLen n0_phaseNow n0_count n0_pendLen n0_nodeCount n0_longestKw n0_n n0_state n0_total n0_outLen n0_commitPos n0_tailLen [])) rfl ?_
  obtain ⟨r204, hq108, h⟩ := bnd h
  refine OEndsQ.call0 hm_0 rfl rfl (by decide) rfl (as := [.ref 0]) (rest := []) rfl rfl (ok_outLength hq108) ?_
  refine OEndsQ.adv hm_0 1 (pc' := 498) (L' := [.unset, .unset, .unset, .unset, .unset, .unset, .unset, .unset, .unset, .val (.ref 0), .unset, .unset, .unset, .val (.int v13), .unset, .unset, .unset]) (S' := [.int v13, .int r204]) (H' := (bk0 n0_kwChars n0_kwLen n0_kwRepl n0_pend n0_child n0_delta n0_fail n0_depth n0_term n0_outMask n0_queue n0_text n0_masks n0_out n0_tail n0_maxKw n0_maxLen n0_phaseNow n0_count n0_pendLen n0_nodeCount n0_longestKw n0_n n0_state n0_total n0_outLen n0_commitPos n0_tailLen [])) rfl ?_
  by_cases hc109 : r204 = v13
  · simp only [if_pos hc109] at h
    refine OEndsQ.icmpF hm_0 rfl ((teq hc109).2) ?_
    refine OEndsQ.adv hm_0 2 (pc' := 505) (L' := [.unset, .unset, .unset, .unset, .unset, .unset, .unset, .unset, .unset, .val (.ref 0), .unset, .unset, .unset, .val (.int v13), .unset, .unset, .unset]) (S' := [.int v13, .ref 0]) (H' := (bk0 n0_kwChars n0_kwLen n0_kwRepl n0_pend n0_child n0_delta n0_fail n0_depth n0_term n0_outMask n0_queue n0_text n0_masks n0_out n0_tail n0_maxKw n0_maxLen n0_phaseNow n0_count n0_pendLen n0_nodeCount n0_longestKw n0_n n0_state n0_total n0_outLen n0_commitPos n0_tailLen [])) rfl ?_
    obtain ⟨r205, hq110, h⟩ := bnd h
    refine OEndsQ.call0 hm_0 rfl rfl (by decide) rfl (as := [.ref 0, .int v13]) (rest := []) rfl rfl (ok_outChar hq110) ?_
    refine OEndsQ.adv hm_0 1 (pc' := 509) (L' := [.unset, .unset, .unset, .unset, .unset, .unset, .unset, .unset, .unset, .val (.ref 0), .unset, .unset, .unset, .val (.int v13), .unset, .unset, .unset]) (S' := [.int (-1), .int r205]) (H' := (bk0 n0_kwChars n0_kwLen n0_kwRepl n0_pend n0_child n0_delta n0_fail n0_depth n0_term n0_outMask n0_queue n0_text n0_masks n0_out n0_tail n0_maxKw n0_maxLen n0_phaseNow n0_count n0_pendLen n0_nodeCount n0_longestKw n0_n n0_state n0_total n0_outLen n0_commitPos n0_tailLen [])) rfl ?_
    by_cases hc111 : r205 = (-1 : Int32)
    · simp only [if_pos hc111] at h
      refine OEndsQ.icmpF hm_0 rfl ((teq hc111).2) ?_
      refine OEndsQ.adv hm_0 2 (pc' := 517) (L' := [.unset, .unset, .unset, .unset, .unset, .unset, .unset, .unset, .unset, .val (.ref 0), .unset, .unset, .unset, .val (.int v13), .unset, .unset, .unset]) (S' := [.int 1]) (H' := (bk0 n0_kwChars n0_kwLen n0_kwRepl n0_pend n0_child n0_delta n0_fail n0_depth n0_term n0_outMask n0_queue n0_text n0_masks n0_out n0_tail n0_maxKw n0_maxLen n0_phaseNow n0_count n0_pendLen n0_nodeCount n0_longestKw n0_n n0_state n0_total n0_outLen n0_commitPos n0_tailLen [])) rfl ?_
      cases h
      exact OEndsQ.iret hm_0 rfl rfl
    · simp only [if_neg hc111] at h
      refine OEndsQ.icmpT hm_0 rfl (q := 516) rfl ((feq hc111).2) ?_
      refine OEndsQ.adv hm_0 1 (pc' := 517) (L' := [.unset, .unset, .unset, .unset, .unset, .unset, .unset, .unset, .unset, .val (.ref 0), .unset, .unset, .unset, .val (.int v13), .unset, .unset, .unset]) (S' := [.int 0]) (H' := (bk0 n0_kwChars n0_kwLen n0_kwRepl n0_pend n0_child n0_delta n0_fail n0_depth n0_term n0_outMask n0_queue n0_text n0_masks n0_out n0_tail n0_maxKw n0_maxLen n0_phaseNow n0_count n0_pendLen n0_nodeCount n0_longestKw n0_n n0_state n0_total n0_outLen n0_commitPos n0_tailLen [])) rfl ?_
      cases h
      exact OEndsQ.iret hm_0 rfl rfl
  · simp only [if_neg hc109] at h
    refine OEndsQ.icmpT hm_0 rfl (q := 516) rfl ((feq hc109).2) ?_
    refine OEndsQ.adv hm_0 1 (pc' := 517) (L' := [.unset, .unset, .unset, .unset, .unset, .unset, .unset, .unset, .unset, .val (.ref 0), .unset, .unset, .unset, .val (.int v13), .unset, .unset, .unset]) (S' := [.int 0]) (H' := (bk0 n0_kwChars n0_kwLen n0_kwRepl n0_pend n0_child n0_delta n0_fail n0_depth n0_term n0_outMask n0_queue n0_text n0_masks n0_out n0_tail n0_maxKw n0_maxLen n0_phaseNow n0_count n0_pendLen n0_nodeCount n0_longestKw n0_n n0_state n0_total n0_outLen n0_commitPos n0_tailLen [])) rfl ?_
    cases h
    exact OEndsQ.iret hm_0 rfl rfl
theorem ok_L_law_468 {kb : List Int32 → List Int32 → Int32 → Int32 → Int32 → Int32 → Int32 → Int32 → Int32 → Int32 → Int32 → Int32 → Option (Int32)} {k491 : List Int32 → List Int32 → Int32 → Int32 → Int32 → Option (Int32)} (hkb : ∀ {n0_out : List Int32} {n0_tail : List Int32} {n0_outLen : Int32} {n0_tailLen : Int32} {v4 : Int32} {v5 : Int32} {v6 : Int32} {v7 : Int32} {v8 : Int32} {v12 : Int32} {v13 : Int32} {v14 : Int32} {n0_maxKw : Int32} {n0_maxLen : Int32} {n0_phaseNow : Int32} {n0_count : Int32} {n0_pendLen : Int32} {n0_nodeCount : Int32} {n0_longestKw : Int32} {n0_n : Int32} {n0_state : Int32} {n0_total : Int32} {n0_commitPos : Int32} {n0_kwChars : List Int32} {n0_kwLen : List Int32} {n0_kwRepl : List Int32} {n0_pend : List Int32} {n0_child : List Int32} {n0_delta : List Int32} {n0_fail : List Int32} {n0_depth : List Int32} {n0_term : List Int32} {n0_outMask : List Int32} {n0_queue : List Int32} {n0_text : List Int32} {n0_masks : List Int32} {d0 d1 d2 d3 d10 d11 d15 d16 : Slot} {res : Int32}, kb n0_out n0_tail n0_outLen n0_tailLen v4 v5 v6 v7 v8 v12 v13 v14 = some res → OEndsQ own_P 0 384 [d0, d1, d2, d3, .val (.int v4), .val (.int v5), .val (.int v6), .val (.int v7), .val (.int v8), .val (.ref 0), d10, d11, .val (.int v12), .val (.int v13), .val (.int v14), d15, d16] [] (bk0 n0_kwChars n0_kwLen n0_kwRepl n0_pend n0_child n0_delta n0_fail n0_depth n0_term n0_outMask n0_queue n0_text n0_masks n0_out n0_tail n0_maxKw n0_maxLen n0_phaseNow n0_count n0_pendLen n0_nodeCount n0_longestKw n0_n n0_state n0_total n0_outLen n0_commitPos n0_tailLen []) (LawQ res 0 0)) (hk491 : ∀ {n0_out : List Int32} {n0_tail : List Int32} {n0_outLen : Int32} {n0_tailLen : Int32} {v13 : Int32} {n0_maxKw : Int32} {n0_maxLen : Int32} {n0_phaseNow : Int32} {n0_count : Int32} {n0_pendLen : Int32} {n0_nodeCount : Int32} {n0_longestKw : Int32} {n0_n : Int32} {n0_state : Int32} {n0_total : Int32} {n0_commitPos : Int32} {n0_kwChars : List Int32} {n0_kwLen : List Int32} {n0_kwRepl : List Int32} {n0_pend : List Int32} {n0_child : List Int32} {n0_delta : List Int32} {n0_fail : List Int32} {n0_depth : List Int32} {n0_term : List Int32} {n0_outMask : List Int32} {n0_queue : List Int32} {n0_text : List Int32} {n0_masks : List Int32} {d0 d1 d2 d3 d4 d5 d6 d7 d8 d10 d11 d12 d14 d15 d16 : Slot} {res : Int32}, k491 n0_out n0_tail n0_outLen n0_tailLen v13 = some res → OEndsQ own_P 0 491 [d0, d1, d2, d3, d4, d5, d6, d7, d8, .val (.ref 0), d10, d11, d12, .val (.int v13), d14, d15, d16] [] (bk0 n0_kwChars n0_kwLen n0_kwRepl n0_pend n0_child n0_delta n0_fail n0_depth n0_term n0_outMask n0_queue n0_text n0_masks n0_out n0_tail n0_maxKw n0_maxLen n0_phaseNow n0_count n0_pendLen n0_nodeCount n0_longestKw n0_n n0_state n0_total n0_outLen n0_commitPos n0_tailLen []) (LawQ res 0 0)) : ∀ {n0_out : List Int32} {n0_tail : List Int32} {n0_outLen : Int32} {n0_tailLen : Int32} {v4 : Int32} {v5 : Int32} {v6 : Int32} {v7 : Int32} {v8 : Int32} {v12 : Int32} {v13 : Int32} {v14 : Int32} {v16 : Int32} {n0_maxKw : Int32} {n0_maxLen : Int32} {n0_phaseNow : Int32} {n0_count : Int32} {n0_pendLen : Int32} {n0_nodeCount : Int32} {n0_longestKw : Int32} {n0_n : Int32} {n0_state : Int32} {n0_total : Int32} {n0_commitPos : Int32} {n0_kwChars : List Int32} {n0_kwLen : List Int32} {n0_kwRepl : List Int32} {n0_pend : List Int32} {n0_child : List Int32} {n0_delta : List Int32} {n0_fail : List Int32} {n0_depth : List Int32} {n0_term : List Int32} {n0_outMask : List Int32} {n0_queue : List Int32} {n0_text : List Int32} {n0_masks : List Int32} {d0 d1 d2 d3 d10 d11 d15 : Slot} {res : Int32}, f_L_law_468 kb k491 n0_out n0_tail n0_outLen n0_tailLen v4 v5 v6 v7 v8 v12 v13 v14 v16 = some res → OEndsQ own_P 0 468 [d0, d1, d2, d3, .val (.int v4), .val (.int v5), .val (.int v6), .val (.int v7), .val (.int v8), .val (.ref 0), d10, d11, .val (.int v12), .val (.int v13), .val (.int v14), d15, .val (.int v16)] [] (bk0 n0_kwChars n0_kwLen n0_kwRepl n0_pend n0_child n0_delta n0_fail n0_depth n0_term n0_outMask n0_queue n0_text n0_masks n0_out n0_tail n0_maxKw n0_maxLen n0_phaseNow n0_count n0_pendLen n0_nodeCount n0_longestKw n0_n n0_state n0_total n0_outLen n0_commitPos n0_tailLen []) (LawQ res 0 0) := by
  intro n0_out n0_tail n0_outLen n0_tailLen v4 v5 v6 v7 v8 v12 v13 v14 v16 n0_maxKw n0_maxLen n0_phaseNow n0_count n0_pendLen n0_nodeCount n0_longestKw n0_n n0_state n0_total n0_commitPos n0_kwChars n0_kwLen n0_kwRepl n0_pend n0_child n0_delta n0_fail n0_depth n0_term n0_outMask n0_queue n0_text n0_masks d0 d1 d2 d3 d10 d11 d15 res h
  unfold f_L_law_468 at h
  refine OEndsQ.adv hm_0 2 (pc' := 472) (L' := [.unset, .unset, .unset, .unset, .val (.int v4), .val (.int v5), .val (.int v6), .val (.int v7), .val (.int v8), .val (.ref 0), .unset, .unset, .val (.int v12), .val (.int v13), .val (.int v14), .unset, .val (.int v16)]) (S' := [.int v13, .ref 0]) (H' := (bk0 n0_kwChars n0_kwLen n0_kwRepl n0_pend n0_child n0_delta n0_fail n0_depth n0_term n0_outMask n0_queue n0_text n0_masks n0_out n0_tail n0_maxKw n0_maxLen n0_phaseNow n0_count n0_pendLen n0_nodeCount n0_longestKw n0_n n0_state n0_total n0_outLen n0_commitPos n0_tailLen [])) rfl ?_
  obtain ⟨r203, hq112, h⟩ := bnd h
  refine OEndsQ.call0 hm_0 rfl rfl (by decide) rfl (as := [.ref 0, .int v13]) (rest := []) rfl rfl (ok_outChar hq112) ?_
  refine OEndsQ.adv hm_0 1 (pc' := 477) (L' := [.unset, .unset, .unset, .unset, .val (.int v4), .val (.int v5), .val (.int v6), .val (.int v7), .val (.int v8), .val (.ref 0), .unset, .unset, .val (.int v12), .val (.int v13), .val (.int v14), .unset, .val (.int v16)]) (S' := [.int v16, .int r203]) (H' := (bk0 n0_kwChars n0_kwLen n0_kwRepl n0_pend n0_child n0_delta n0_fail n0_depth n0_term n0_outMask n0_queue n0_text n0_masks n0_out n0_tail n0_maxKw n0_maxLen n0_phaseNow n0_count n0_pendLen n0_nodeCount n0_longestKw n0_n n0_state n0_total n0_outLen n0_commitPos n0_tailLen [])) rfl ?_
  by_cases hc113 : r203 = v16
  · simp only [if_pos hc113] at h
    refine OEndsQ.icmpT hm_0 rfl (q := 482) rfl ((teq hc113).1) ?_
    refine OEndsQ.adv hm_0 3 (pc' := 384) (L' := [.unset, .unset, .unset, .unset, .val (.int v4), .val (.int v5), .val (.int v6), .val (.int v7), .val (.int v8), .val (.ref 0), .unset, .unset, .val (.int v12), .val (.int (v13 + (1 : Int32))), .val (.int (v14 + (1 : Int32))), .unset, .val (.int v16)]) (S' := []) (H' := (bk0 n0_kwChars n0_kwLen n0_kwRepl n0_pend n0_child n0_delta n0_fail n0_depth n0_term n0_outMask n0_queue n0_text n0_masks n0_out n0_tail n0_maxKw n0_maxLen n0_phaseNow n0_count n0_pendLen n0_nodeCount n0_longestKw n0_n n0_state n0_total n0_outLen n0_commitPos n0_tailLen [])) rfl ?_
    exact hkb h
  · simp only [if_neg hc113] at h
    refine OEndsQ.icmpF hm_0 rfl ((feq hc113).1) ?_
    refine OEndsQ.adv hm_0 1 (pc' := 481) (L' := [.unset, .unset, .unset, .unset, .val (.int v4), .val (.int v5), .val (.int v6), .val (.int v7), .val (.int v8), .val (.ref 0), .unset, .unset, .val (.int v12), .val (.int v13), .val (.int v14), .unset, .val (.int v16)]) (S' := [.int 0]) (H' := (bk0 n0_kwChars n0_kwLen n0_kwRepl n0_pend n0_child n0_delta n0_fail n0_depth n0_term n0_outMask n0_queue n0_text n0_masks n0_out n0_tail n0_maxKw n0_maxLen n0_phaseNow n0_count n0_pendLen n0_nodeCount n0_longestKw n0_n n0_state n0_total n0_outLen n0_commitPos n0_tailLen [])) rfl ?_
    cases h
    exact OEndsQ.iret hm_0 rfl rfl
theorem ok_L_law_444 {kb : List Int32 → List Int32 → Int32 → Int32 → Int32 → Int32 → Int32 → Int32 → Int32 → Int32 → Int32 → Int32 → Option (Int32)} {k491 : List Int32 → List Int32 → Int32 → Int32 → Int32 → Option (Int32)} (hkb : ∀ {n0_out : List Int32} {n0_tail : List Int32} {n0_outLen : Int32} {n0_tailLen : Int32} {v4 : Int32} {v5 : Int32} {v6 : Int32} {v7 : Int32} {v8 : Int32} {v12 : Int32} {v13 : Int32} {v14 : Int32} {n0_maxKw : Int32} {n0_maxLen : Int32} {n0_phaseNow : Int32} {n0_count : Int32} {n0_pendLen : Int32} {n0_nodeCount : Int32} {n0_longestKw : Int32} {n0_n : Int32} {n0_state : Int32} {n0_total : Int32} {n0_commitPos : Int32} {n0_kwChars : List Int32} {n0_kwLen : List Int32} {n0_kwRepl : List Int32} {n0_pend : List Int32} {n0_child : List Int32} {n0_delta : List Int32} {n0_fail : List Int32} {n0_depth : List Int32} {n0_term : List Int32} {n0_outMask : List Int32} {n0_queue : List Int32} {n0_text : List Int32} {n0_masks : List Int32} {d0 d1 d2 d3 d10 d11 d15 d16 : Slot} {res : Int32}, kb n0_out n0_tail n0_outLen n0_tailLen v4 v5 v6 v7 v8 v12 v13 v14 = some res → OEndsQ own_P 0 384 [d0, d1, d2, d3, .val (.int v4), .val (.int v5), .val (.int v6), .val (.int v7), .val (.int v8), .val (.ref 0), d10, d11, .val (.int v12), .val (.int v13), .val (.int v14), d15, d16] [] (bk0 n0_kwChars n0_kwLen n0_kwRepl n0_pend n0_child n0_delta n0_fail n0_depth n0_term n0_outMask n0_queue n0_text n0_masks n0_out n0_tail n0_maxKw n0_maxLen n0_phaseNow n0_count n0_pendLen n0_nodeCount n0_longestKw n0_n n0_state n0_total n0_outLen n0_commitPos n0_tailLen []) (LawQ res 0 0)) (hk491 : ∀ {n0_out : List Int32} {n0_tail : List Int32} {n0_outLen : Int32} {n0_tailLen : Int32} {v13 : Int32} {n0_maxKw : Int32} {n0_maxLen : Int32} {n0_phaseNow : Int32} {n0_count : Int32} {n0_pendLen : Int32} {n0_nodeCount : Int32} {n0_longestKw : Int32} {n0_n : Int32} {n0_state : Int32} {n0_total : Int32} {n0_commitPos : Int32} {n0_kwChars : List Int32} {n0_kwLen : List Int32} {n0_kwRepl : List Int32} {n0_pend : List Int32} {n0_child : List Int32} {n0_delta : List Int32} {n0_fail : List Int32} {n0_depth : List Int32} {n0_term : List Int32} {n0_outMask : List Int32} {n0_queue : List Int32} {n0_text : List Int32} {n0_masks : List Int32} {d0 d1 d2 d3 d4 d5 d6 d7 d8 d10 d11 d12 d14 d15 d16 : Slot} {res : Int32}, k491 n0_out n0_tail n0_outLen n0_tailLen v13 = some res → OEndsQ own_P 0 491 [d0, d1, d2, d3, d4, d5, d6, d7, d8, .val (.ref 0), d10, d11, d12, .val (.int v13), d14, d15, d16] [] (bk0 n0_kwChars n0_kwLen n0_kwRepl n0_pend n0_child n0_delta n0_fail n0_depth n0_term n0_outMask n0_queue n0_text n0_masks n0_out n0_tail n0_maxKw n0_maxLen n0_phaseNow n0_count n0_pendLen n0_nodeCount n0_longestKw n0_n n0_state n0_total n0_outLen n0_commitPos n0_tailLen []) (LawQ res 0 0)) : ∀ {n0_out : List Int32} {n0_tail : List Int32} {n0_outLen : Int32} {n0_tailLen : Int32} {v4 : Int32} {v5 : Int32} {v6 : Int32} {v7 : Int32} {v8 : Int32} {v12 : Int32} {v13 : Int32} {v14 : Int32} {v15 : Int32} {n0_maxKw : Int32} {n0_maxLen : Int32} {n0_phaseNow : Int32} {n0_count : Int32} {n0_pendLen : Int32} {n0_nodeCount : Int32} {n0_longestKw : Int32} {n0_n : Int32} {n0_state : Int32} {n0_total : Int32} {n0_commitPos : Int32} {n0_kwChars : List Int32} {n0_kwLen : List Int32} {n0_kwRepl : List Int32} {n0_pend : List Int32} {n0_child : List Int32} {n0_delta : List Int32} {n0_fail : List Int32} {n0_depth : List Int32} {n0_term : List Int32} {n0_outMask : List Int32} {n0_queue : List Int32} {n0_text : List Int32} {n0_masks : List Int32} {d0 d1 d2 d3 d10 d11 d16 : Slot} {res : Int32}, f_L_law_444 kb k491 n0_out n0_tail n0_outLen n0_tailLen v4 v5 v6 v7 v8 v12 v13 v14 v15 = some res → OEndsQ own_P 0 444 [d0, d1, d2, d3, .val (.int v4), .val (.int v5), .val (.int v6), .val (.int v7), .val (.int v8), .val (.ref 0), d10, d11, .val (.int v12), .val (.int v13), .val (.int v14), .val (.int v15), d16] [] (bk0 n0_kwChars n0_kwLen n0_kwRepl n0_pend n0_child n0_delta n0_fail n0_depth n0_term n0_outMask n0_queue n0_text n0_masks n0_out n0_tail n0_maxKw n0_maxLen n0_phaseNow n0_count n0_pendLen n0_nodeCount n0_longestKw n0_n n0_state n0_total n0_outLen n0_commitPos n0_tailLen []) (LawQ res 0 0) := by
  intro n0_out n0_tail n0_outLen n0_tailLen v4 v5 v6 v7 v8 v12 v13 v14 v15 n0_maxKw n0_maxLen n0_phaseNow n0_count n0_pendLen n0_nodeCount n0_longestKw n0_n n0_state n0_total n0_commitPos n0_kwChars n0_kwLen n0_kwRepl n0_pend n0_child n0_delta n0_fail n0_depth n0_term n0_outMask n0_queue n0_text n0_masks d0 d1 d2 d3 d10 d11 d16 res h
  unfold f_L_law_444 at h
  refine OEndsQ.adv hm_0 2 (pc' := 448) (L' := [.unset, .unset, .unset, .unset, .val (.int v4), .val (.int v5), .val (.int v6), .val (.int v7), .val (.int v8), .val (.ref 0), .unset, .unset, .val (.int v12), .val (.int v13), .val (.int v14), .val (.int v15), .unset]) (S' := [.int v6, .int v15]) (H' := (bk0 n0_kwChars n0_kwLen n0_kwRepl n0_pend n0_child n0_delta n0_fail n0_depth n0_term n0_outMask n0_queue n0_text n0_masks n0_out n0_tail n0_maxKw n0_maxLen n0_phaseNow n0_count n0_pendLen n0_nodeCount n0_longestKw n0_n n0_state n0_total n0_outLen n0_commitPos n0_tailLen [])) rfl ?_
  by_cases hc114 : v15 = v6
  · simp only [if_pos hc114] at h
    refine OEndsQ.icmpF hm_0 rfl ((teq hc114).2) ?_
    refine OEndsQ.adv hm_0 4 (pc' := 468) (L' := [.unset, .unset, .unset, .unset, .val (.int v4), .val (.int v5), .val (.int v6), .val (.int v7), .val (.int v8), .val (.ref 0), .unset, .unset, .val (.int (v12 + (1 : Int32))), .val (.int v13), .val (.int v14), .val (.int v15), .val (.int v8)]) (S' := []) (H' := (bk0 n0_kwChars n0_kwLen n0_kwRepl n0_pend n0_child n0_delta n0_fail n0_depth n0_term n0_outMask n0_queue n0_text n0_masks n0_out n0_tail n0_maxKw n0_maxLen n0_phaseNow n0_count n0_pendLen n0_nodeCount n0_longestKw n0_n n0_state n0_total n0_outLen n0_commitPos n0_tailLen [])) rfl ?_
    exact ok_L_law_468 hkb hk491 h
  · simp only [if_neg hc114] at h
    refine OEndsQ.icmpT hm_0 rfl (q := 461) rfl ((feq hc114).2) ?_
    refine OEndsQ.adv hm_0 3 (pc' := 468) (L' := [.unset, .unset, .unset, .unset, .val (.int v4), .val (.int v5), .val (.int v6), .val (.int v7), .val (.int v8), .val (.ref 0), .unset, .unset, .val (.int (v12 + (1 : Int32))), .val (.int v13), .val (.int v14), .val (.int v15), .val (.int v15)]) (S' := []) (H' := (bk0 n0_kwChars n0_kwLen n0_kwRepl n0_pend n0_child n0_delta n0_fail n0_depth n0_term n0_outMask n0_queue n0_text n0_masks n0_out n0_tail n0_maxKw n0_maxLen n0_phaseNow n0_count n0_pendLen n0_nodeCount n0_longestKw n0_n n0_state n0_total n0_outLen n0_commitPos n0_tailLen [])) rfl ?_
    exact ok_L_law_468 hkb hk491 h
theorem ok_L_law_384 {k491 : List Int32 → List Int32 → Int32 → Int32 → Int32 → Option (Int32)} (hk491 : ∀ {n0_out : List Int32} {n0_tail : List Int32} {n0_outLen : Int32} {n0_tailLen : Int32} {v13 : Int32} {n0_maxKw : Int32} {n0_maxLen : Int32} {n0_phaseNow : Int32} {n0_count : Int32} {n0_pendLen : Int32} {n0_nodeCount : Int32} {n0_longestKw : Int32} {n0_n : Int32} {n0_state : Int32} {n0_total : Int32} {n0_commitPos : Int32} {n0_kwChars : List Int32} {n0_kwLen : List Int32} {n0_kwRepl : List Int32} {n0_pend : List Int32} {n0_child : List Int32} {n0_delta : List Int32} {n0_fail : List Int32} {n0_depth : List Int32} {n0_term : List Int32} {n0_outMask : List Int32} {n0_queue : List Int32} {n0_text : List Int32} {n0_masks : List Int32} {d0 d1 d2 d3 d4 d5 d6 d7 d8 d10 d11 d12 d14 d15 d16 : Slot} {res : Int32}, k491 n0_out n0_tail n0_outLen n0_tailLen v13 = some res → OEndsQ own_P 0 491 [d0, d1, d2, d3, d4, d5, d6, d7, d8, .val (.ref 0), d10, d11, d12, .val (.int v13), d14, d15, d16] [] (bk0 n0_kwChars n0_kwLen n0_kwRepl n0_pend n0_child n0_delta n0_fail n0_depth n0_term n0_outMask n0_queue n0_text n0_masks n0_out n0_tail n0_maxKw n0_maxLen n0_phaseNow n0_count n0_pendLen n0_nodeCount n0_longestKw n0_n n0_state n0_total n0_outLen n0_commitPos n0_tailLen []) (LawQ res 0 0)) : ∀ (n : Nat), ∀ {n0_out : List Int32} {n0_tail : List Int32} {n0_outLen : Int32} {n0_tailLen : Int32} {v4 : Int32} {v5 : Int32} {v6 : Int32} {v7 : Int32} {v8 : Int32} {v12 : Int32} {v13 : Int32} {v14 : Int32} {n0_maxKw : Int32} {n0_maxLen : Int32} {n0_phaseNow : Int32} {n0_count : Int32} {n0_pendLen : Int32} {n0_nodeCount : Int32} {n0_longestKw : Int32} {n0_n : Int32} {n0_state : Int32} {n0_total : Int32} {n0_commitPos : Int32} {n0_kwChars : List Int32} {n0_kwLen : List Int32} {n0_kwRepl : List Int32} {n0_pend : List Int32} {n0_child : List Int32} {n0_delta : List Int32} {n0_fail : List Int32} {n0_depth : List Int32} {n0_term : List Int32} {n0_outMask : List Int32} {n0_queue : List Int32} {n0_text : List Int32} {n0_masks : List Int32} {d0 d1 d2 d3 d10 d11 d15 d16 : Slot} {res : Int32}, f_L_law_384 k491 n n0_out n0_tail n0_outLen n0_tailLen v4 v5 v6 v7 v8 v12 v13 v14 = some res → OEndsQ own_P 0 384 [d0, d1, d2, d3, .val (.int v4), .val (.int v5), .val (.int v6), .val (.int v7), .val (.int v8), .val (.ref 0), d10, d11, .val (.int v12), .val (.int v13), .val (.int v14), d15, d16] [] (bk0 n0_kwChars n0_kwLen n0_kwRepl n0_pend n0_child n0_delta n0_fail n0_depth n0_term n0_outMask n0_queue n0_text n0_masks n0_out n0_tail n0_maxKw n0_maxLen n0_phaseNow n0_count n0_pendLen n0_nodeCount n0_longestKw n0_n n0_state n0_total n0_outLen n0_commitPos n0_tailLen []) (LawQ res 0 0) := by
  intro n
  induction n with
  | zero => intro n0_out n0_tail n0_outLen n0_tailLen v4 v5 v6 v7 v8 v12 v13 v14 n0_maxKw n0_maxLen n0_phaseNow n0_count n0_pendLen n0_nodeCount n0_longestKw n0_n n0_state n0_total n0_commitPos n0_kwChars n0_kwLen n0_kwRepl n0_pend n0_child n0_delta n0_fail n0_depth n0_term n0_outMask n0_queue n0_text n0_masks d0 d1 d2 d3 d10 d11 d15 d16 res h; cases h
  | succ n ih =>
    intro n0_out n0_tail n0_outLen n0_tailLen v4 v5 v6 v7 v8 v12 v13 v14 n0_maxKw n0_maxLen n0_phaseNow n0_count n0_pendLen n0_nodeCount n0_longestKw n0_n n0_state n0_total n0_commitPos n0_kwChars n0_kwLen n0_kwRepl n0_pend n0_child n0_delta n0_fail n0_depth n0_term n0_outMask n0_queue n0_text n0_masks d0 d1 d2 d3 d10 d11 d15 d16 res h
    unfold f_L_law_384 at h
    refine OEndsQ.adv hm_0 2 (pc' := 387) (L' := [.unset, .unset, .unset, .unset, .val (.int v4), .val (.int v5), .val (.int v6), .val (.int v7), .val (.int v8), .val (.ref 0), .unset, .unset, .val (.int v12), .val (.int v13), .val (.int v14), .unset, .unset]) (S' := [.int 4, .int v14]) (H' := (bk0 n0_kwChars n0_kwLen n0_kwRepl n0_pend n0_child n0_delta n0_fail n0_depth n0_term n0_outMask n0_queue n0_text n0_masks n0_out n0_tail n0_maxKw n0_maxLen n0_phaseNow n0_count n0_pendLen n0_nodeCount n0_longestKw n0_n n0_state n0_total n0_outLen n0_commitPos n0_tailLen [])) rfl ?_
    by_cases hc115 : v14 < (4 : Int32)
    · simp only [if_pos hc115] at h
      refine OEndsQ.icmpF hm_0 rfl ((tlt hc115).2.1) ?_
      refine OEndsQ.adv hm_0 2 (pc' := 393) (L' := [.unset, .unset, .unset, .unset, .val (.int v4), .val (.int v5), .val (.int v6), .val (.int v7), .val (.int v8), .val (.ref 0), .unset, .unset, .val (.int v12), .val (.int v13), .val (.int v14), .unset, .unset]) (S' := [.int 4, .int v12]) (H' := (bk0 n0_kwChars n0_kwLen n0_kwRepl n0_pend n0_child n0_delta n0_fail n0_depth n0_term n0_outMask n0_queue n0_text n0_masks n0_out n0_tail n0_maxKw n0_maxLen n0_phaseNow n0_count n0_pendLen n0_nodeCount n0_longestKw n0_n n0_state n0_total n0_outLen n0_commitPos n0_tailLen [])) rfl ?_
      by_cases hc116 : v12 < (4 : Int32)
      · simp only [if_pos hc116] at h
        refine OEndsQ.icmpF hm_0 rfl ((tlt hc116).2.1) ?_
        refine OEndsQ.adv hm_0 2 (pc' := 400) (L' := [.unset, .unset, .unset, .unset, .val (.int v4), .val (.int v5), .val (.int v6), .val (.int v7), .val (.int v8), .val (.ref 0), .unset, .unset, .val (.int v12), .val (.int v13), .val (.int v14), .unset, .unset]) (S' := [.int v12, .int v4]) (H' := (bk0 n0_kwChars n0_kwLen n0_kwRepl n0_pend n0_child n0_delta n0_fail n0_depth n0_term n0_outMask n0_queue n0_text n0_masks n0_out n0_tail n0_maxKw n0_maxLen n0_phaseNow n0_count n0_pendLen n0_nodeCount n0_longestKw n0_n n0_state n0_total n0_outLen n0_commitPos n0_tailLen [])) rfl ?_
        obtain ⟨r201, hq117, h⟩ := bnd h
        refine OEndsQ.call0 hm_0 rfl rfl (by decide) rfl (as := [.int v4, .int v12]) (rest := []) rfl rfl (ok_L_tc hq117) ?_
        refine OEndsQ.adv hm_0 5 (pc' := 410) (L' := [.unset, .unset, .unset, .unset, .val (.int v4), .val (.int v5), .val (.int v6), .val (.int v7), .val (.int v8), .val (.ref 0), .unset, .unset, .val (.int v12), .val (.int v13), .val (.int v14), .val (.int r201), .unset]) (S' := [.int 4, .int (v12 + (1 : Int32))]) (H' := (bk0 n0_kwChars n0_kwLen n0_kwRepl n0_pend n0_child n0_delta n0_fail n0_depth n0_term n0_outMask n0_queue n0_text n0_masks n0_out n0_tail n0_maxKw n0_maxLen n0_phaseNow n0_count n0_pendLen n0_nodeCount n0_longestKw n0_n n0_state n0_total n0_outLen n0_commitPos n0_tailLen [])) rfl ?_
        by_cases hc118 : (v12 + (1 : Int32)) < (4 : Int32)
        · simp only [if_pos hc118] at h
          refine OEndsQ.icmpF hm_0 rfl ((tlt hc118).2.1) ?_
          refine OEndsQ.adv hm_0 2 (pc' := 417) (L' := [.unset, .unset, .unset, .unset, .val (.int v4), .val (.int v5), .val (.int v6), .val (.int v7), .val (.int v8), .val (.ref 0), .unset, .unset, .val (.int v12), .val (.int v13), .val (.int v14), .val (.int r201), .unset]) (S' := [.int v5, .int r201]) (H' := (bk0 n0_kwChars n0_kwLen n0_kwRepl n0_pend n0_child n0_delta n0_fail n0_depth n0_term n0_outMask n0_queue n0_text n0_masks n0_out n0_tail n0_maxKw n0_maxLen n0_phaseNow n0_count n0_pendLen n0_nodeCount n0_longestKw n0_n n0_state n0_total n0_outLen n0_commitPos n0_tailLen [])) rfl ?_
          by_cases hc119 : r201 = v5
          · simp only [if_pos hc119] at h
            refine OEndsQ.icmpF hm_0 rfl ((teq hc119).2) ?_
            refine OEndsQ.adv hm_0 4 (pc' := 426) (L' := [.unset, .unset, .unset, .unset, .val (.int v4), .val (.int v5), .val (.int v6), .val (.int v7), .val (.int v8), .val (.ref 0), .unset, .unset, .val (.int v12), .val (.int v13), .val (.int v14), .val (.int r201), .unset]) (S' := [.int (v12 + (1 : Int32)), .int v4]) (H' := (bk0 n0_kwChars n0_kwLen n0_kwRepl n0_pend n0_child n0_delta n0_fail n0_depth n0_term n0_outMask n0_queue n0_text n0_masks n0_out n0_tail n0_maxKw n0_maxLen n0_phaseNow n0_count n0_pendLen n0_nodeCount n0_longestKw n0_n n0_state n0_total n0_outLen n0_commitPos n0_tailLen [])) rfl ?_
            obtain ⟨r202, hq120, h⟩ := bnd h
            refine OEndsQ.call0 hm_0 rfl rfl (by decide) rfl (as := [.int v4, .int (v12 + (1 : Int32))]) (rest := []) rfl rfl (ok_L_tc hq120) ?_
            refine OEndsQ.adv hm_0 1 (pc' := 431) (L' := [.unset, .unset, .unset, .unset, .val (.int v4), .val (.int v5), .val (.int v6), .val (.int v7), .val (.int v8), .val (.ref 0), .unset, .unset, .val (.int v12), .val (.int v13), .val (.int v14), .val (.int r201), .unset]) (S' := [.int v6, .int r202]) (H' := (bk0 n0_kwChars n0_kwLen n0_kwRepl n0_pend n0_child n0_delta n0_fail n0_depth n0_term n0_outMask n0_queue n0_text n0_masks n0_out n0_tail n0_maxKw n0_maxLen n0_phaseNow n0_count n0_pendLen n0_nodeCount n0_longestKw n0_n n0_state n0_total n0_outLen n0_commitPos n0_tailLen [])) rfl ?_
            by_cases hc121 : r202 = v6
            · simp only [if_pos hc121] at h
              refine OEndsQ.icmpF hm_0 rfl ((teq hc121).2) ?_
              refine OEndsQ.adv hm_0 4 (pc' := 468) (L' := [.unset, .unset, .unset, .unset, .val (.int v4), .val (.int v5), .val (.int v6), .val (.int v7), .val (.int v8), .val (.ref 0), .unset, .unset, .val (.int (v12 + (2 : Int32))), .val (.int v13), .val (.int v14), .val (.int r201), .val (.int v7)]) (S' := []) (H' := (bk0 n0_kwChars n0_kwLen n0_kwRepl n0_pend n0_child n0_delta n0_fail n0_depth n0_term n0_outMask n0_queue n0_text n0_masks n0_out n0_tail n0_maxKw n0_maxLen n0_phaseNow n0_count n0_pendLen n0_nodeCount n0_longestKw n0_n n0_state n0_total n0_outLen n0_commitPos n0_tailLen [])) rfl ?_
              exact ok_L_law_468 ih hk491 h
            · simp only [if_neg hc121] at h
              refine OEndsQ.icmpT hm_0 rfl (q := 444) rfl ((feq hc121).2) ?_
              show OEndsQ own_P 0 444 [.unset, .unset, .unset, .unset, .val (.int v4), .val (.int v5), .val (.int v6), .val (.int v7), .val (.int v8), .val (.ref 0), .unset, .unset, .val (.int v12), .val (.int v13), .val (.int v14), .val (.int r201), .unset] [] (bk0 n0_kwChars n0_kwLen n0_kwRepl n0_pend n0_child n0_delta n0_fail n0_depth n0_term n0_outMask n0_queue n0_text n0_masks n0_out n0_tail n0_maxKw n0_maxLen n0_phaseNow n0_count n0_pendLen n0_nodeCount n0_longestKw n0_n n0_state n0_total n0_outLen n0_commitPos n0_tailLen []) _
              exact ok_L_law_444 ih hk491 h
          · simp only [if_neg hc119] at h
            refine OEndsQ.icmpT hm_0 rfl (q := 444) rfl ((feq hc119).2) ?_
            show OEndsQ own_P 0 444 [.unset, .unset, .unset, .unset, .val (.int v4), .val (.int v5), .val (.int v6), .val (.int v7), .val (.int v8), .val (.ref 0), .unset, .unset, .val (.int v12), .val (.int v13), .val (.int v14), .val (.int r201), .unset] [] (bk0 n0_kwChars n0_kwLen n0_kwRepl n0_pend n0_child n0_delta n0_fail n0_depth n0_term n0_outMask n0_queue n0_text n0_masks n0_out n0_tail n0_maxKw n0_maxLen n0_phaseNow n0_count n0_pendLen n0_nodeCount n0_longestKw n0_n n0_state n0_total n0_outLen n0_commitPos n0_tailLen []) _
            exact ok_L_law_444 ih hk491 h
        · simp only [if_neg hc118] at h
          refine OEndsQ.icmpT hm_0 rfl (q := 444) rfl ((flt hc118).2.1) ?_
          show OEndsQ own_P 0 444 [.unset, .unset, .unset, .unset, .val (.int v4), .val (.int v5), .val (.int v6), .val (.int v7), .val (.int v8), .val (.ref 0), .unset, .unset, .val (.int v12), .val (.int v13), .val (.int v14), .val (.int r201), .unset] [] (bk0 n0_kwChars n0_kwLen n0_kwRepl n0_pend n0_child n0_delta n0_fail n0_depth n0_term n0_outMask n0_queue n0_text n0_masks n0_out n0_tail n0_maxKw n0_maxLen n0_phaseNow n0_count n0_pendLen n0_nodeCount n0_longestKw n0_n n0_state n0_total n0_outLen n0_commitPos n0_tailLen []) _
          exact ok_L_law_444 ih hk491 h
      · simp only [if_neg hc116] at h
        refine OEndsQ.icmpT hm_0 rfl (q := 485) rfl ((flt hc116).2.1) ?_
        refine OEndsQ.adv hm_0 2 (pc' := 384) (L' := [.unset, .unset, .unset, .unset, .val (.int v4), .val (.int v5), .val (.int v6), .val (.int v7), .val (.int v8), .val (.ref 0), .unset, .unset, .val (.int v12), .val (.int v13), .val (.int (v14 + (1 : Int32))), .unset, .unset]) (S' := []) (H' := (bk0 n0_kwChars n0_kwLen n0_kwRepl n0_pend n0_child n0_delta n0_fail n0_depth n0_term n0_outMask n0_queue n0_text n0_masks n0_out n0_tail n0_maxKw n0_maxLen n0_phaseNow n0_count n0_pendLen n0_nodeCount n0_longestKw n0_n n0_state n0_total n0_outLen n0_commitPos n0_tailLen [])) rfl ?_
        exact ih h
    · simp only [if_neg hc115] at h
      refine OEndsQ.icmpT hm_0 rfl (q := 491) rfl ((flt hc115).2.1) ?_
      show OEndsQ own_P 0 491 [.unset, .unset, .unset, .unset, .val (.int v4), .val (.int v5), .val (.int v6), .val (.int v7), .val (.int v8), .val (.ref 0), .unset, .unset, .val (.int v12), .val (.int v13), .val (.int v14), .unset, .unset] [] (bk0 n0_kwChars n0_kwLen n0_kwRepl n0_pend n0_child n0_delta n0_fail n0_depth n0_term n0_outMask n0_queue n0_text n0_masks n0_out n0_tail n0_maxKw n0_maxLen n0_phaseNow n0_count n0_pendLen n0_nodeCount n0_longestKw n0_n n0_state n0_total n0_outLen n0_commitPos n0_tailLen []) _
      exact hk491 h
theorem ok_L_law_361 : ∀ {n0_depth : List Int32} {n0_out : List Int32} {n0_tail : List Int32} {n0_n : Int32} {n0_state : Int32} {n0_outLen : Int32} {n0_tailLen : Int32} {v4 : Int32} {v5 : Int32} {v6 : Int32} {v7 : Int32} {v8 : Int32} {t0 : Int32} {n0_maxKw : Int32} {n0_maxLen : Int32} {n0_phaseNow : Int32} {n0_count : Int32} {n0_pendLen : Int32} {n0_nodeCount : Int32} {n0_longestKw : Int32} {n0_total : Int32} {n0_commitPos : Int32} {n0_kwChars : List Int32} {n0_kwLen : List Int32} {n0_kwRepl : List Int32} {n0_pend : List Int32} {n0_child : List Int32} {n0_delta : List Int32} {n0_fail : List Int32} {n0_term : List Int32} {n0_outMask : List Int32} {n0_queue : List Int32} {n0_text : List Int32} {n0_masks : List Int32} {d0 d1 d2 d3 d10 d11 d12 d13 d14 d15 d16 : Slot} {res : Int32}, f_L_law_361 n0_depth n0_out n0_tail n0_n n0_state n0_outLen n0_tailLen v4 v5 v6 v7 v8 t0 = some res → OEndsQ own_P 0 361 [d0, d1, d2, d3, .val (.int v4), .val (.int v5), .val (.int v6), .val (.int v7), .val (.int v8), .val (.ref 0), d10, d11, d12, d13, d14, d15, d16] [.int t0] (bk0 n0_kwChars n0_kwLen n0_kwRepl n0_pend n0_child n0_delta n0_fail n0_depth n0_term n0_outMask n0_queue n0_text n0_masks n0_out n0_tail n0_maxKw n0_maxLen n0_phaseNow n0_count n0_pendLen n0_nodeCount n0_longestKw n0_n n0_state n0_total n0_outLen n0_commitPos n0_tailLen []) (LawQ res 0 0) := by
  intro n0_depth n0_out n0_tail n0_n n0_state n0_outLen n0_tailLen v4 v5 v6 v7 v8 t0 n0_maxKw n0_maxLen n0_phaseNow n0_count n0_pendLen n0_nodeCount n0_longestKw n0_total n0_commitPos n0_kwChars n0_kwLen n0_kwRepl n0_pend n0_child n0_delta n0_fail n0_term n0_outMask n0_queue n0_text n0_masks d0 d1 d2 d3 d10 d11 d12 d13 d14 d15 d16 res h
  unfold f_L_law_361 at h
  refine OEndsQ.adv hm_0 2 (pc' := 365) (L' := [.unset, .unset, .unset, .unset, .val (.int v4), .val (.int v5), .val (.int v6), .val (.int v7), .val (.int v8), .val (.ref 0), .unset, .val (.int t0), .unset, .unset, .unset, .unset, .unset]) (S' := [.ref 0]) (H' := (bk0 n0_kwChars n0_kwLen n0_kwRepl n0_pend n0_child n0_delta n0_fail n0_depth n0_term n0_outMask n0_queue n0_text n0_masks n0_out n0_tail n0_maxKw n0_maxLen n0_phaseNow n0_count n0_pendLen n0_nodeCount n0_longestKw n0_n n0_state n0_total n0_outLen n0_commitPos n0_tailLen [])) rfl ?_
  obtain ⟨r200, hq122, h⟩ := bnd h
  refine OEndsQ.call0 hm_0 rfl rfl (by decide) rfl (as := [.ref 0]) (rest := []) rfl rfl (ok_longestPartial hq122) ?_
  refine OEndsQ.adv hm_0 1 (pc' := 370) (L' := [.unset, .unset, .unset, .unset, .val (.int v4), .val (.int v5), .val (.int v6), .val (.int v7), .val (.int v8), .val (.ref 0), .unset, .val (.int t0), .unset, .unset, .unset, .unset, .unset]) (S' := [.int t0, .int r200]) (H' := (bk0 n0_kwChars n0_kwLen n0_kwRepl n0_pend n0_child n0_delta n0_fail n0_depth n0_term n0_outMask n0_queue n0_text n0_masks n0_out n0_tail n0_maxKw n0_maxLen n0_phaseNow n0_count n0_pendLen n0_nodeCount n0_longestKw n0_n n0_state n0_total n0_outLen n0_commitPos n0_tailLen [])) rfl ?_
  by_cases hc123 : r200 = t0
  · simp only [if_pos hc123] at h
    refine OEndsQ.icmpT hm_0 rfl (q := 375) rfl ((teq hc123).1) ?_
    refine OEndsQ.adv hm_0 6 (pc' := 384) (L' := [.unset, .unset, .unset, .unset, .val (.int v4), .val (.int v5), .val (.int v6), .val (.int v7), .val (.int v8), .val (.ref 0), .unset, .val (.int t0), .val (.int 0), .val (.int 0), .val (.int 0), .unset, .unset]) (S' := []) (H' := (bk0 n0_kwChars n0_kwLen n0_kwRepl n0_pend n0_child n0_delta n0_fail n0_depth n0_term n0_outMask n0_queue n0_text n0_masks n0_out n0_tail n0_maxKw n0_maxLen n0_phaseNow n0_count n0_pendLen n0_nodeCount n0_longestKw n0_n n0_state n0_total n0_outLen n0_commitPos n0_tailLen [])) rfl ?_
    exact ok_L_law_384 (k491 := f_L_law_491) ok_L_law_491 100000 h
  · simp only [if_neg hc123] at h
    refine OEndsQ.icmpF hm_0 rfl ((feq hc123).1) ?_
    refine OEndsQ.adv hm_0 1 (pc' := 374) (L' := [.unset, .unset, .unset, .unset, .val (.int v4), .val (.int v5), .val (.int v6), .val (.int v7), .val (.int v8), .val (.ref 0), .unset, .val (.int t0), .unset, .unset, .unset, .unset, .unset]) (S' := [.int 0]) (H' := (bk0 n0_kwChars n0_kwLen n0_kwRepl n0_pend n0_child n0_delta n0_fail n0_depth n0_term n0_outMask n0_queue n0_text n0_masks n0_out n0_tail n0_maxKw n0_maxLen n0_phaseNow n0_count n0_pendLen n0_nodeCount n0_longestKw n0_n n0_state n0_total n0_outLen n0_commitPos n0_tailLen [])) rfl ?_
    cases h
    exact OEndsQ.iret hm_0 rfl rfl
theorem ok_L_law_334 : ∀ {n0_depth : List Int32} {n0_out : List Int32} {n0_tail : List Int32} {n0_n : Int32} {n0_state : Int32} {n0_outLen : Int32} {n0_tailLen : Int32} {v4 : Int32} {v5 : Int32} {v6 : Int32} {v7 : Int32} {v8 : Int32} {n0_maxKw : Int32} {n0_maxLen : Int32} {n0_phaseNow : Int32} {n0_count : Int32} {n0_pendLen : Int32} {n0_nodeCount : Int32} {n0_longestKw : Int32} {n0_total : Int32} {n0_commitPos : Int32} {n0_kwChars : List Int32} {n0_kwLen : List Int32} {n0_kwRepl : List Int32} {n0_pend : List Int32} {n0_child : List Int32} {n0_delta : List Int32} {n0_fail : List Int32} {n0_term : List Int32} {n0_outMask : List Int32} {n0_queue : List Int32} {n0_text : List Int32} {n0_masks : List Int32} {d0 d1 d2 d3 d10 d11 d12 d13 d14 d15 d16 : Slot} {res : Int32}, f_L_law_334 n0_depth n0_out n0_tail n0_n n0_state n0_outLen n0_tailLen v4 v5 v6 v7 v8 = some res → OEndsQ own_P 0 334 [d0, d1, d2, d3, .val (.int v4), .val (.int v5), .val (.int v6), .val (.int v7), .val (.int v8), .val (.ref 0), d10, d11, d12, d13, d14, d15, d16] [] (bk0 n0_kwChars n0_kwLen n0_kwRepl n0_pend n0_child n0_delta n0_fail n0_depth n0_term n0_outMask n0_queue n0_text n0_masks n0_out n0_tail n0_maxKw n0_maxLen n0_phaseNow n0_count n0_pendLen n0_nodeCount n0_longestKw n0_n n0_state n0_total n0_outLen n0_commitPos n0_tailLen []) (LawQ res 0 0) := by
  intro n0_depth n0_out n0_tail n0_n n0_state n0_outLen n0_tailLen v4 v5 v6 v7 v8 n0_maxKw n0_maxLen n0_phaseNow n0_count n0_pendLen n0_nodeCount n0_longestKw n0_total n0_commitPos n0_kwChars n0_kwLen n0_kwRepl n0_pend n0_child n0_delta n0_fail n0_term n0_outMask n0_queue n0_text n0_masks d0 d1 d2 d3 d10 d11 d12 d13 d14 d15 d16 res h
  unfold f_L_law_334 at h
  refine OEndsQ.adv hm_0 2 (pc' := 337) (L' := [.unset, .unset, .unset, .unset, .val (.int v4), .val (.int v5), .val (.int v6), .val (.int v7), .val (.int v8), .val (.ref 0), .unset, .unset, .unset, .unset, .unset, .unset, .unset]) (S' := [.int 3, .int v4]) (H' := (bk0 n0_kwChars n0_kwLen n0_kwRepl n0_pend n0_child n0_delta n0_fail n0_depth n0_term n0_outMask n0_queue n0_text n0_masks n0_out n0_tail n0_maxKw n0_maxLen n0_phaseNow n0_count n0_pendLen n0_nodeCount n0_longestKw n0_n n0_state n0_total n0_outLen n0_commitPos n0_tailLen [])) rfl ?_
  obtain ⟨r206, hq124, h⟩ := bnd h
  refine OEndsQ.call0 hm_0 rfl rfl (by decide) rfl (as := [.int v4, .int 3]) (rest := []) rfl rfl (ok_L_tc hq124) ?_
  refine OEndsQ.adv hm_0 1 (pc' := 342) (L' := [.unset, .unset, .unset, .unset, .val (.int v4), .val (.int v5), .val (.int v6), .val (.int v7), .val (.int v8), .val (.ref 0), .unset, .unset, .unset, .unset, .unset, .unset, .unset]) (S' := [.int v5, .int r206]) (H' := (bk0 n0_kwChars n0_kwLen n0_kwRepl n0_pend n0_child n0_delta n0_fail n0_depth n0_term n0_outMask n0_queue n0_text n0_masks n0_out n0_tail n0_maxKw n0_maxLen n0_phaseNow n0_count n0_pendLen n0_nodeCount n0_longestKw n0_n n0_state n0_total n0_outLen n0_commitPos n0_tailLen [])) rfl ?_
  by_cases hc125 : r206 = v5
  · simp only [if_pos hc125] at h
    refine OEndsQ.icmpT hm_0 rfl (q := 356) rfl ((teq hc125).1) ?_
    refine OEndsQ.adv hm_0 2 (pc' := 361) (L' := [.unset, .unset, .unset, .unset, .val (.int v4), .val (.int v5), .val (.int v6), .val (.int v7), .val (.int v8), .val (.ref 0), .unset, .unset, .unset, .unset, .unset, .unset, .unset]) (S' := [.int 1]) (H' := (bk0 n0_kwChars n0_kwLen n0_kwRepl n0_pend n0_child n0_delta n0_fail n0_depth n0_term n0_outMask n0_queue n0_text n0_masks n0_out n0_tail n0_maxKw n0_maxLen n0_phaseNow n0_count n0_pendLen n0_nodeCount n0_longestKw n0_n n0_state n0_total n0_outLen n0_commitPos n0_tailLen [])) rfl ?_
    exact ok_L_law_361 h
  · simp only [if_neg hc125] at h
    refine OEndsQ.icmpF hm_0 rfl ((feq hc125).1) ?_
    refine OEndsQ.adv hm_0 2 (pc' := 348) (L' := [.unset, .unset, .unset, .unset, .val (.int v4), .val (.int v5), .val (.int v6), .val (.int v7), .val (.int v8), .val (.ref 0), .unset, .unset, .unset, .unset, .unset, .unset, .unset]) (S' := [.int 3, .int v4]) (H' := (bk0 n0_kwChars n0_kwLen n0_kwRepl n0_pend n0_child n0_delta n0_fail n0_depth n0_term n0_outMask n0_queue n0_text n0_masks n0_out n0_tail n0_maxKw n0_maxLen n0_phaseNow n0_count n0_pendLen n0_nodeCount n0_longestKw n0_n n0_state n0_total n0_outLen n0_commitPos n0_tailLen [])) rfl ?_
    obtain ⟨r207, hq126, h⟩ := bnd h
    refine OEndsQ.call0 hm_0 rfl rfl (by decide) rfl (as := [.int v4, .int 3]) (rest := []) rfl rfl (ok_L_tc hq126) ?_
    refine OEndsQ.adv hm_0 1 (pc' := 353) (L' := [.unset, .unset, .unset, .unset, .val (.int v4), .val (.int v5), .val (.int v6), .val (.int v7), .val (.int v8), .val (.ref 0), .unset, .unset, .unset, .unset, .unset, .unset, .unset]) (S' := [.int v6, .int r207]) (H' := (bk0 n0_kwChars n0_kwLen n0_kwRepl n0_pend n0_child n0_delta n0_fail n0_depth n0_term n0_outMask n0_queue n0_text n0_masks n0_out n0_tail n0_maxKw n0_maxLen n0_phaseNow n0_count n0_pendLen n0_nodeCount n0_longestKw n0_n n0_state n0_total n0_outLen n0_commitPos n0_tailLen [])) rfl ?_
    by_cases hc127 : r207 = v6
    · simp only [if_pos hc127] at h
      refine OEndsQ.icmpF hm_0 rfl ((teq hc127).2) ?_
      refine OEndsQ.adv hm_0 2 (pc' := 361) (L' := [.unset, .unset, .unset, .unset, .val (.int v4), .val (.int v5), .val (.int v6), .val (.int v7), .val (.int v8), .val (.ref 0), .unset, .unset, .unset, .unset, .unset, .unset, .unset]) (S' := [.int 1]) (H' := (bk0 n0_kwChars n0_kwLen n0_kwRepl n0_pend n0_child n0_delta n0_fail n0_depth n0_term n0_outMask n0_queue n0_text n0_masks n0_out n0_tail n0_maxKw n0_maxLen n0_phaseNow n0_count n0_pendLen n0_nodeCount n0_longestKw n0_n n0_state n0_total n0_outLen n0_commitPos n0_tailLen [])) rfl ?_
      exact ok_L_law_361 h
    · simp only [if_neg hc127] at h
      refine OEndsQ.icmpT hm_0 rfl (q := 360) rfl ((feq hc127).2) ?_
      refine OEndsQ.adv hm_0 1 (pc' := 361) (L' := [.unset, .unset, .unset, .unset, .val (.int v4), .val (.int v5), .val (.int v6), .val (.int v7), .val (.int v8), .val (.ref 0), .unset, .unset, .unset, .unset, .unset, .unset, .unset]) (S' := [.int 0]) (H' := (bk0 n0_kwChars n0_kwLen n0_kwRepl n0_pend n0_child n0_delta n0_fail n0_depth n0_term n0_outMask n0_queue n0_text n0_masks n0_out n0_tail n0_maxKw n0_maxLen n0_phaseNow n0_count n0_pendLen n0_nodeCount n0_longestKw n0_n n0_state n0_total n0_outLen n0_commitPos n0_tailLen [])) rfl ?_
      exact ok_L_law_361 h
theorem ok_L_law_285 : ∀ {n0_depth : List Int32} {n0_out : List Int32} {n0_tail : List Int32} {n0_n : Int32} {n0_state : Int32} {n0_total : Int32} {n0_outLen : Int32} {n0_tailLen : Int32} {v4 : Int32} {v5 : Int32} {v6 : Int32} {v7 : Int32} {v8 : Int32} {v10 : Int32} {n0_maxKw : Int32} {n0_maxLen : Int32} {n0_phaseNow : Int32} {n0_count : Int32} {n0_pendLen : Int32} {n0_nodeCount : Int32} {n0_longestKw : Int32} {n0_commitPos : Int32} {n0_kwChars : List Int32} {n0_kwLen : List Int32} {n0_kwRepl : List Int32} {n0_pend : List Int32} {n0_child : List Int32} {n0_delta : List Int32} {n0_fail : List Int32} {n0_term : List Int32} {n0_outMask : List Int32} {n0_queue : List Int32} {n0_text : List Int32} {n0_masks : List Int32} {d0 d1 d2 d3 d11 d12 d13 d14 d15 d16 : Slot} {res : Int32}, f_L_law_285 n0_depth n0_out n0_tail n0_n n0_state n0_total n0_outLen n0_tailLen v4 v5 v6 v7 v8 v10 = some res → OEndsQ own_P 0 285 [d0, d1, d2, d3, .val (.int v4), .val (.int v5), .val (.int v6), .val (.int v7), .val (.int v8), .val (.ref 0), .val (.int v10), d11, d12, d13, d14, d15, d16] [] (bk0 n0_kwChars n0_kwLen n0_kwRepl n0_pend n0_child n0_delta n0_fail n0_depth n0_term n0_outMask n0_queue n0_text n0_masks n0_out n0_tail n0_maxKw n0_maxLen n0_phaseNow n0_count n0_pendLen n0_nodeCount n0_longestKw n0_n n0_state n0_total n0_outLen n0_commitPos n0_tailLen []) (LawQ res 0 0) := by
  intro n0_depth n0_out n0_tail n0_n n0_state n0_total n0_outLen n0_tailLen v4 v5 v6 v7 v8 v10 n0_maxKw n0_maxLen n0_phaseNow n0_count n0_pendLen n0_nodeCount n0_longestKw n0_commitPos n0_kwChars n0_kwLen n0_kwRepl n0_pend n0_child n0_delta n0_fail n0_term n0_outMask n0_queue n0_text n0_masks d0 d1 d2 d3 d11 d12 d13 d14 d15 d16 res h
  unfold f_L_law_285 at h
  refine OEndsQ.adv hm_0 1 (pc' := 287) (L' := [.unset, .unset, .unset, .unset, .val (.int v4), .val (.int v5), .val (.int v6), .val (.int v7), .val (.int v8), .val (.ref 0), .val (.int v10), .unset, .unset, .unset, .unset, .unset, .unset]) (S' := [.ref 0]) (H' := (bk0 n0_kwChars n0_kwLen n0_kwRepl n0_pend n0_child n0_delta n0_fail n0_depth n0_term n0_outMask n0_queue n0_text n0_masks n0_out n0_tail n0_maxKw n0_maxLen n0_phaseNow n0_count n0_pendLen n0_nodeCount n0_longestKw n0_n n0_state n0_total n0_outLen n0_commitPos n0_tailLen [])) rfl ?_
  obtain ⟨r196, hq128, h⟩ := bnd h
  refine OEndsQ.call0 hm_0 rfl rfl (by decide) rfl (as := [.ref 0]) (rest := []) rfl rfl (ok_textLength hq128) ?_
  refine OEndsQ.adv hm_0 1 (pc' := 291) (L' := [.unset, .unset, .unset, .unset, .val (.int v4), .val (.int v5), .val (.int v6), .val (.int v7), .val (.int v8), .val (.ref 0), .val (.int v10), .unset, .unset, .unset, .unset, .unset, .unset]) (S' := [.int 4, .int r196]) (H' := (bk0 n0_kwChars n0_kwLen n0_kwRepl n0_pend n0_child n0_delta n0_fail n0_depth n0_term n0_outMask n0_queue n0_text n0_masks n0_out n0_tail n0_maxKw n0_maxLen n0_phaseNow n0_count n0_pendLen n0_nodeCount n0_longestKw n0_n n0_state n0_total n0_outLen n0_commitPos n0_tailLen [])) rfl ?_
  by_cases hc129 : r196 = (4 : Int32)
  · simp only [if_pos hc129] at h
    refine OEndsQ.icmpT hm_0 rfl (q := 296) rfl ((teq hc129).1) ?_
    refine OEndsQ.adv hm_0 1 (pc' := 298) (L' := [.unset, .unset, .unset, .unset, .val (.int v4), .val (.int v5), .val (.int v6), .val (.int v7), .val (.int v8), .val (.ref 0), .val (.int v10), .unset, .unset, .unset, .unset, .unset, .unset]) (S' := [.ref 0]) (H' := (bk0 n0_kwChars n0_kwLen n0_kwRepl n0_pend n0_child n0_delta n0_fail n0_depth n0_term n0_outMask n0_queue n0_text n0_masks n0_out n0_tail n0_maxKw n0_maxLen n0_phaseNow n0_count n0_pendLen n0_nodeCount n0_longestKw n0_n n0_state n0_total n0_outLen n0_commitPos n0_tailLen [])) rfl ?_
    obtain ⟨r197, hq130, h⟩ := bnd h
    refine OEndsQ.call0 hm_0 rfl rfl (by decide) rfl (as := [.ref 0]) (rest := []) rfl rfl (ok_totalOccurrences hq130) ?_
    refine OEndsQ.adv hm_0 1 (pc' := 303) (L' := [.unset, .unset, .unset, .unset, .val (.int v4), .val (.int v5), .val (.int v6), .val (.int v7), .val (.int v8), .val (.ref 0), .val (.int v10), .unset, .unset, .unset, .unset, .unset, .unset]) (S' := [.int v10, .int r197]) (H' := (bk0 n0_kwChars n0_kwLen n0_kwRepl n0_pend n0_child n0_delta n0_fail n0_depth n0_term n0_outMask n0_queue n0_text n0_masks n0_out n0_tail n0_maxKw n0_maxLen n0_phaseNow n0_count n0_pendLen n0_nodeCount n0_longestKw n0_n n0_state n0_total n0_outLen n0_commitPos n0_tailLen [])) rfl ?_
    by_cases hc131 : r197 = v10
    · simp only [if_pos hc131] at h
      refine OEndsQ.icmpT hm_0 rfl (q := 308) rfl ((teq hc131).1) ?_
      refine OEndsQ.adv hm_0 2 (pc' := 311) (L' := [.unset, .unset, .unset, .unset, .val (.int v4), .val (.int v5), .val (.int v6), .val (.int v7), .val (.int v8), .val (.ref 0), .val (.int v10), .unset, .unset, .unset, .unset, .unset, .unset]) (S' := [.int 2, .int v4]) (H' := (bk0 n0_kwChars n0_kwLen n0_kwRepl n0_pend n0_child n0_delta n0_fail n0_depth n0_term n0_outMask n0_queue n0_text n0_masks n0_out n0_tail n0_maxKw n0_maxLen n0_phaseNow n0_count n0_pendLen n0_nodeCount n0_longestKw n0_n n0_state n0_total n0_outLen n0_commitPos n0_tailLen [])) rfl ?_
      obtain ⟨r198, hq132, h⟩ := bnd h
      refine OEndsQ.call0 hm_0 rfl rfl (by decide) rfl (as := [.int v4, .int 2]) (rest := []) rfl rfl (ok_L_tc hq132) ?_
      refine OEndsQ.adv hm_0 1 (pc' := 316) (L' := [.unset, .unset, .unset, .unset, .val (.int v4), .val (.int v5), .val (.int v6), .val (.int v7), .val (.int v8), .val (.ref 0), .val (.int v10), .unset, .unset, .unset, .unset, .unset, .unset]) (S' := [.int v5, .int r198]) (H' := (bk0 n0_kwChars n0_kwLen n0_kwRepl n0_pend n0_child n0_delta n0_fail n0_depth n0_term n0_outMask n0_queue n0_text n0_masks n0_out n0_tail n0_maxKw n0_maxLen n0_phaseNow n0_count n0_pendLen n0_nodeCount n0_longestKw n0_n n0_state n0_total n0_outLen n0_commitPos n0_tailLen [])) rfl ?_
      by_cases hc133 : r198 = v5
      · simp only [if_pos hc133] at h
        refine OEndsQ.icmpF hm_0 rfl ((teq hc133).2) ?_
        refine OEndsQ.adv hm_0 2 (pc' := 322) (L' := [.unset, .unset, .unset, .unset, .val (.int v4), .val (.int v5), .val (.int v6), .val (.int v7), .val (.int v8), .val (.ref 0), .val (.int v10), .unset, .unset, .unset, .unset, .unset, .unset]) (S' := [.int 3, .int v4]) (H' := (bk0 n0_kwChars n0_kwLen n0_kwRepl n0_pend n0_child n0_delta n0_fail n0_depth n0_term n0_outMask n0_queue n0_text n0_masks n0_out n0_tail n0_maxKw n0_maxLen n0_phaseNow n0_count n0_pendLen n0_nodeCount n0_longestKw n0_n n0_state n0_total n0_outLen n0_commitPos n0_tailLen [])) rfl ?_
        obtain ⟨r199, hq134, h⟩ := bnd h
        refine OEndsQ.call0 hm_0 rfl rfl (by decide) rfl (as := [.int v4, .int 3]) (rest := []) rfl rfl (ok_L_tc hq134) ?_
        refine OEndsQ.adv hm_0 1 (pc' := 327) (L' := [.unset, .unset, .unset, .unset, .val (.int v4), .val (.int v5), .val (.int v6), .val (.int v7), .val (.int v8), .val (.ref 0), .val (.int v10), .unset, .unset, .unset, .unset, .unset, .unset]) (S' := [.int v6, .int r199]) (H' := (bk0 n0_kwChars n0_kwLen n0_kwRepl n0_pend n0_child n0_delta n0_fail n0_depth n0_term n0_outMask n0_queue n0_text n0_masks n0_out n0_tail n0_maxKw n0_maxLen n0_phaseNow n0_count n0_pendLen n0_nodeCount n0_longestKw n0_n n0_state n0_total n0_outLen n0_commitPos n0_tailLen [])) rfl ?_
        by_cases hc135 : r199 = v6
        · simp only [if_pos hc135] at h
          refine OEndsQ.icmpF hm_0 rfl ((teq hc135).2) ?_
          refine OEndsQ.adv hm_0 2 (pc' := 361) (L' := [.unset, .unset, .unset, .unset, .val (.int v4), .val (.int v5), .val (.int v6), .val (.int v7), .val (.int v8), .val (.ref 0), .val (.int v10), .unset, .unset, .unset, .unset, .unset, .unset]) (S' := [.int 2]) (H' := (bk0 n0_kwChars n0_kwLen n0_kwRepl n0_pend n0_child n0_delta n0_fail n0_depth n0_term n0_outMask n0_queue n0_text n0_masks n0_out n0_tail n0_maxKw n0_maxLen n0_phaseNow n0_count n0_pendLen n0_nodeCount n0_longestKw n0_n n0_state n0_total n0_outLen n0_commitPos n0_tailLen [])) rfl ?_
          exact ok_L_law_361 h
        · simp only [if_neg hc135] at h
          refine OEndsQ.icmpT hm_0 rfl (q := 334) rfl ((feq hc135).2) ?_
          show OEndsQ own_P 0 334 [.unset, .unset, .unset, .unset, .val (.int v4), .val (.int v5), .val (.int v6), .val (.int v7), .val (.int v8), .val (.ref 0), .val (.int v10), .unset, .unset, .unset, .unset, .unset, .unset] [] (bk0 n0_kwChars n0_kwLen n0_kwRepl n0_pend n0_child n0_delta n0_fail n0_depth n0_term n0_outMask n0_queue n0_text n0_masks n0_out n0_tail n0_maxKw n0_maxLen n0_phaseNow n0_count n0_pendLen n0_nodeCount n0_longestKw n0_n n0_state n0_total n0_outLen n0_commitPos n0_tailLen []) _
          exact ok_L_law_334 h
      · simp only [if_neg hc133] at h
        refine OEndsQ.icmpT hm_0 rfl (q := 334) rfl ((feq hc133).2) ?_
        show OEndsQ own_P 0 334 [.unset, .unset, .unset, .unset, .val (.int v4), .val (.int v5), .val (.int v6), .val (.int v7), .val (.int v8), .val (.ref 0), .val (.int v10), .unset, .unset, .unset, .unset, .unset, .unset] [] (bk0 n0_kwChars n0_kwLen n0_kwRepl n0_pend n0_child n0_delta n0_fail n0_depth n0_term n0_outMask n0_queue n0_text n0_masks n0_out n0_tail n0_maxKw n0_maxLen n0_phaseNow n0_count n0_pendLen n0_nodeCount n0_longestKw n0_n n0_state n0_total n0_outLen n0_commitPos n0_tailLen []) _
        exact ok_L_law_334 h
    · simp only [if_neg hc131] at h
      refine OEndsQ.icmpF hm_0 rfl ((feq hc131).1) ?_
      refine OEndsQ.adv hm_0 1 (pc' := 307) (L' := [.unset, .unset, .unset, .unset, .val (.int v4), .val (.int v5), .val (.int v6), .val (.int v7), .val (.int v8), .val (.ref 0), .val (.int v10), .unset, .unset, .unset, .unset, .unset, .unset]) (S' := [.int 0]) (H' := (bk0 n0_kwChars n0_kwLen n0_kwRepl n0_pend n0_child n0_delta n0_fail n0_depth n0_term n0_outMask n0_queue n0_text n0_masks n0_out n0_tail n0_maxKw n0_maxLen n0_phaseNow n0_count n0_pendLen n0_nodeCount n0_longestKw n0_n n0_state n0_total n0_outLen n0_commitPos n0_tailLen [])) rfl ?_
      cases h
      exact OEndsQ.iret hm_0 rfl rfl
  · simp only [if_neg hc129] at h
    refine OEndsQ.icmpF hm_0 rfl ((feq hc129).1) ?_
    refine OEndsQ.adv hm_0 1 (pc' := 295) (L' := [.unset, .unset, .unset, .unset, .val (.int v4), .val (.int v5), .val (.int v6), .val (.int v7), .val (.int v8), .val (.ref 0), .val (.int v10), .unset, .unset, .unset, .unset, .unset, .unset]) (S' := [.int 0]) (H' := (bk0 n0_kwChars n0_kwLen n0_kwRepl n0_pend n0_child n0_delta n0_fail n0_depth n0_term n0_outMask n0_queue n0_text n0_masks n0_out n0_tail n0_maxKw n0_maxLen n0_phaseNow n0_count n0_pendLen n0_nodeCount n0_longestKw n0_n n0_state n0_total n0_outLen n0_commitPos n0_tailLen [])) rfl ?_
    cases h
    exact OEndsQ.iret hm_0 rfl rfl
theorem ok_L_law_266 {kb : List Int32 → List Int32 → List Int32 → List Int32 → List Int32 → List Int32 → List Int32 → List Int32 → List Int32 → List Int32 → List Int32 → Int32 → Int32 → Int32 → Int32 → Int32 → Int32 → Int32 → Int32 → Int32 → Int32 → Int32 → Int32 → Int32 → Int32 → Int32 → Option (Int32)} {k285 : List Int32 → List Int32 → List Int32 → Int32 → Int32 → Int32 → Int32 → Int32 → Int32 → Int32 → Int32 → Int32 → Int32 → Int32 → Option (Int32)} (hkb : ∀ {n0_kwLen : List Int32} {n0_kwRepl : List Int32} {n0_child : List Int32} {n0_delta : List Int32} {n0_depth : List Int32} {n0_term : List Int32} {n0_outMask : List Int32} {n0_text : List Int32} {n0_masks : List Int32} {n0_out : List Int32} {n0_tail : List Int32} {n0_phaseNow : Int32} {n0_longestKw : Int32} {n0_n : Int32} {n0_state : Int32} {n0_total : Int32} {n0_outLen : Int32} {n0_commitPos : Int32} {n0_tailLen : Int32} {v4 : Int32} {v5 : Int32} {v6 : Int32} {v7 : Int32} {v8 : Int32} {v10 : Int32} {v11 : Int32} {n0_maxKw : Int32} {n0_maxLen : Int32} {n0_count : Int32} {n0_pendLen : Int32} {n0_nodeCount : Int32} {n0_kwChars : List Int32} {n0_pend : List Int32} {n0_fail : List Int32} {n0_queue : List Int32} {d0 d1 d2 d3 d12 d13 d14 d15 d16 : Slot} {res : Int32}, kb n0_kwLen n0_kwRepl n0_child n0_delta n0_depth n0_term n0_outMask n0_text n0_masks n0_out n0_tail n0_phaseNow n0_longestKw n0_n n0_state n0_total n0_outLen n0_commitPos n0_tailLen v4 v5 v6 v7 v8 v10 v11 = some res → OEndsQ own_P 0 139 [d0, d1, d2, d3, .val (.int v4), .val (.int v5), .val (.int v6), .val (.int v7), .val (.int v8), .val (.ref 0), .val (.int v10), .val (.int v11), d12, d13, d14, d15, d16] [] (bk0 n0_kwChars n0_kwLen n0_kwRepl n0_pend n0_child n0_delta n0_fail n0_depth n0_term n0_outMask n0_queue n0_text n0_masks n0_out n0_tail n0_maxKw n0_maxLen n0_phaseNow n0_count n0_pendLen n0_nodeCount n0_longestKw n0_n n0_state n0_total n0_outLen n0_commitPos n0_tailLen []) (LawQ res 0 0)) (hk285 : ∀ {n0_depth : List Int32} {n0_out : List Int32} {n0_tail : List Int32} {n0_n : Int32} {n0_state : Int32} {n0_total : Int32} {n0_outLen : Int32} {n0_tailLen : Int32} {v4 : Int32} {v5 : Int32} {v6 : Int32} {v7 : Int32} {v8 : Int32} {v10 : Int32} {n0_maxKw : Int32} {n0_maxLen : Int32} {n0_phaseNow : Int32} {n0_count : Int32} {n0_pendLen : Int32} {n0_nodeCount : Int32} {n0_longestKw : Int32} {n0_commitPos : Int32} {n0_kwChars : List Int32} {n0_kwLen : List Int32} {n0_kwRepl : List Int32} {n0_pend : List Int32} {n0_child : List Int32} {n0_delta : List Int32} {n0_fail : List Int32} {n0_term : List Int32} {n0_outMask : List Int32} {n0_queue : List Int32} {n0_text : List Int32} {n0_masks : List Int32} {d0 d1 d2 d3 d11 d12 d13 d14 d15 d16 : Slot} {res : Int32}, k285 n0_depth n0_out n0_tail n0_n n0_state n0_total n0_outLen n0_tailLen v4 v5 v6 v7 v8 v10 = some res → OEndsQ own_P 0 285 [d0, d1, d2, d3, .val (.int v4), .val (.int v5), .val (.int v6), .val (.int v7), .val (.int v8), .val (.ref 0), .val (.int v10), d11, d12, d13, d14, d15, d16] [] (bk0 n0_kwChars n0_kwLen n0_kwRepl n0_pend n0_child n0_delta n0_fail n0_depth n0_term n0_outMask n0_queue n0_text n0_masks n0_out n0_tail n0_maxKw n0_maxLen n0_phaseNow n0_count n0_pendLen n0_nodeCount n0_longestKw n0_n n0_state n0_total n0_outLen n0_commitPos n0_tailLen []) (LawQ res 0 0)) : ∀ {n0_kwLen : List Int32} {n0_kwRepl : List Int32} {n0_child : List Int32} {n0_delta : List Int32} {n0_depth : List Int32} {n0_term : List Int32} {n0_outMask : List Int32} {n0_text : List Int32} {n0_masks : List Int32} {n0_out : List Int32} {n0_tail : List Int32} {n0_phaseNow : Int32} {n0_longestKw : Int32} {n0_n : Int32} {n0_state : Int32} {n0_total : Int32} {n0_outLen : Int32} {n0_commitPos : Int32} {n0_tailLen : Int32} {v4 : Int32} {v5 : Int32} {v6 : Int32} {v7 : Int32} {v8 : Int32} {v10 : Int32} {v11 : Int32} {v15 : Int32} {t0 : Int32} {t1 : Int32} {t2 : Int32} {n0_maxKw : Int32} {n0_maxLen : Int32} {n0_count : Int32} {n0_pendLen : Int32} {n0_nodeCount : Int32} {n0_kwChars : List Int32} {n0_pend : List Int32} {n0_fail : List Int32} {n0_queue : List Int32} {d0 d1 d2 d3 d12 d13 d14 d16 : Slot} {res : Int32}, f_L_law_266 kb k285 n0_kwLen n0_kwRepl n0_child n0_delta n0_depth n0_term n0_outMask n0_text n0_masks n0_out n0_tail n0_phaseNow n0_longestKw n0_n n0_state n0_total n0_outLen n0_commitPos n0_tailLen v4 v5 v6 v7 v8 v10 v11 v15 t0 t1 t2 = some res → OEndsQ own_P 0 266 [d0, d1, d2, d3, .val (.int v4), .val (.int v5), .val (.int v6), .val (.int v7), .val (.int v8), .val (.ref 0), .val (.int v10), .val (.int v11), d12, d13, d14, .val (.int v15), d16] [.int t0, .int t1, .int t2] (bk0 n0_kwChars n0_kwLen n0_kwRepl n0_pend n0_child n0_delta n0_fail n0_depth n0_term n0_outMask n0_queue n0_text n0_masks n0_out n0_tail n0_maxKw n0_maxLen n0_phaseNow n0_count n0_pendLen n0_nodeCount n0_longestKw n0_n n0_state n0_total n0_outLen n0_commitPos n0_tailLen []) (LawQ res 0 0) := by
  intro n0_kwLen n0_kwRepl n0_child n0_delta n0_depth n0_term n0_outMask n0_text n0_masks n0_out n0_tail n0_phaseNow n0_longestKw n0_n n0_state n0_total n0_outLen n0_commitPos n0_tailLen v4 v5 v6 v7 v8 v10 v11 v15 t0 t1 t2 n0_maxKw n0_maxLen n0_count n0_pendLen n0_nodeCount n0_kwChars n0_pend n0_fail n0_queue d0 d1 d2 d3 d12 d13 d14 d16 res h
  unfold f_L_law_266 at h
  refine OEndsQ.adv hm_0 1 (pc' := 267) (L' := [.unset, .unset, .unset, .unset, .val (.int v4), .val (.int v5), .val (.int v6), .val (.int v7), .val (.int v8), .val (.ref 0), .val (.int v10), .val (.int v11), .unset, .unset, .unset, .val (.int v15), .unset]) (S' := [.int (t1 + t0), .int t2]) (H' := (bk0 n0_kwChars n0_kwLen n0_kwRepl n0_pend n0_child n0_delta n0_fail n0_depth n0_term n0_outMask n0_queue n0_text n0_masks n0_out n0_tail n0_maxKw n0_maxLen n0_phaseNow n0_count n0_pendLen n0_nodeCount n0_longestKw n0_n n0_state n0_total n0_outLen n0_commitPos n0_tailLen [])) rfl ?_
  by_cases hc136 : t2 = (t1 + t0)
  · simp only [if_pos hc136] at h
    refine OEndsQ.icmpT hm_0 rfl (q := 272) rfl ((teq hc136).1) ?_
    refine OEndsQ.adv hm_0 6 (pc' := 139) (L' := [.unset, .unset, .unset, .unset, .val (.int v4), .val (.int v5), .val (.int v6), .val (.int v7), .val (.int v8), .val (.ref 0), .val (.int (v10 + v15)), .val (.int (v11 + (1 : Int32))), .unset, .unset, .unset, .val (.int v15), .unset]) (S' := []) (H' := (bk0 n0_kwChars n0_kwLen n0_kwRepl n0_pend n0_child n0_delta n0_fail n0_depth n0_term n0_outMask n0_queue n0_text n0_masks n0_out n0_tail n0_maxKw n0_maxLen n0_phaseNow n0_count n0_pendLen n0_nodeCount n0_longestKw n0_n n0_state n0_total n0_outLen n0_commitPos n0_tailLen [])) rfl ?_
    exact hkb h
  · simp only [if_neg hc136] at h
    refine OEndsQ.icmpF hm_0 rfl ((feq hc136).1) ?_
    refine OEndsQ.adv hm_0 1 (pc' := 271) (L' := [.unset, .unset, .unset, .unset, .val (.int v4), .val (.int v5), .val (.int v6), .val (.int v7), .val (.int v8), .val (.ref 0), .val (.int v10), .val (.int v11), .unset, .unset, .unset, .val (.int v15), .unset]) (S' := [.int 0]) (H' := (bk0 n0_kwChars n0_kwLen n0_kwRepl n0_pend n0_child n0_delta n0_fail n0_depth n0_term n0_outMask n0_queue n0_text n0_masks n0_out n0_tail n0_maxKw n0_maxLen n0_phaseNow n0_count n0_pendLen n0_nodeCount n0_longestKw n0_n n0_state n0_total n0_outLen n0_commitPos n0_tailLen [])) rfl ?_
    cases h
    exact OEndsQ.iret hm_0 rfl rfl
theorem ok_L_law_256 {kb : List Int32 → List Int32 → List Int32 → List Int32 → List Int32 → List Int32 → List Int32 → List Int32 → List Int32 → List Int32 → List Int32 → Int32 → Int32 → Int32 → Int32 → Int32 → Int32 → Int32 → Int32 → Int32 → Int32 → Int32 → Int32 → Int32 → Int32 → Int32 → Option (Int32)} {k285 : List Int32 → List Int32 → List Int32 → Int32 → Int32 → Int32 → Int32 → Int32 → Int32 → Int32 → Int32 → Int32 → Int32 → Int32 → Option (Int32)} (hkb : ∀ {n0_kwLen : List Int32} {n0_kwRepl : List Int32} {n0_child : List Int32} {n0_delta : List Int32} {n0_depth : List Int32} {n0_term : List Int32} {n0_outMask : List Int32} {n0_text : List Int32} {n0_masks : List Int32} {n0_out : List Int32} {n0_tail : List Int32} {n0_phaseNow : Int32} {n0_longestKw : Int32} {n0_n : Int32} {n0_state : Int32} {n0_total : Int32} {n0_outLen : Int32} {n0_commitPos : Int32} {n0_tailLen : Int32} {v4 : Int32} {v5 : Int32} {v6 : Int32} {v7 : Int32} {v8 : Int32} {v10 : Int32} {v11 : Int32} {n0_maxKw : Int32} {n0_maxLen : Int32} {n0_count : Int32} {n0_pendLen : Int32} {n0_nodeCount : Int32} {n0_kwChars : List Int32} {n0_pend : List Int32} {n0_fail : List Int32} {n0_queue : List Int32} {d0 d1 d2 d3 d12 d13 d14 d15 d16 : Slot} {res : Int32}, kb n0_kwLen n0_kwRepl n0_child n0_delta n0_depth n0_term n0_outMask n0_text n0_masks n0_out n0_tail n0_phaseNow n0_longestKw n0_n n0_state n0_total n0_outLen n0_commitPos n0_tailLen v4 v5 v6 v7 v8 v10 v11 = some res → OEndsQ own_P 0 139 [d0, d1, d2, d3, .val (.int v4), .val (.int v5), .val (.int v6), .val (.int v7), .val (.int v8), .val (.ref 0), .val (.int v10), .val (.int v11), d12, d13, d14, d15, d16] [] (bk0 n0_kwChars n0_kwLen n0_kwRepl n0_pend n0_child n0_delta n0_fail n0_depth n0_term n0_outMask n0_queue n0_text n0_masks n0_out n0_tail n0_maxKw n0_maxLen n0_phaseNow n0_count n0_pendLen n0_nodeCount n0_longestKw n0_n n0_state n0_total n0_outLen n0_commitPos n0_tailLen []) (LawQ res 0 0)) (hk285 : ∀ {n0_depth : List Int32} {n0_out : List Int32} {n0_tail : List Int32} {n0_n : Int32} {n0_state : Int32} {n0_total : Int32} {n0_outLen : Int32} {n0_tailLen : Int32} {v4 : Int32} {v5 : Int32} {v6 : Int32} {v7 : Int32} {v8 : Int32} {v10 : Int32} {n0_maxKw : Int32} {n0_maxLen : Int32} {n0_phaseNow : Int32} {n0_count : Int32} {n0_pendLen : Int32} {n0_nodeCount : Int32} {n0_longestKw : Int32} {n0_commitPos : Int32} {n0_kwChars : List Int32} {n0_kwLen : List Int32} {n0_kwRepl : List Int32} {n0_pend : List Int32} {n0_child : List Int32} {n0_delta : List Int32} {n0_fail : List Int32} {n0_term : List Int32} {n0_outMask : List Int32} {n0_queue : List Int32} {n0_text : List Int32} {n0_masks : List Int32} {d0 d1 d2 d3 d11 d12 d13 d14 d15 d16 : Slot} {res : Int32}, k285 n0_depth n0_out n0_tail n0_n n0_state n0_total n0_outLen n0_tailLen v4 v5 v6 v7 v8 v10 = some res → OEndsQ own_P 0 285 [d0, d1, d2, d3, .val (.int v4), .val (.int v5), .val (.int v6), .val (.int v7), .val (.int v8), .val (.ref 0), .val (.int v10), d11, d12, d13, d14, d15, d16] [] (bk0 n0_kwChars n0_kwLen n0_kwRepl n0_pend n0_child n0_delta n0_fail n0_depth n0_term n0_outMask n0_queue n0_text n0_masks n0_out n0_tail n0_maxKw n0_maxLen n0_phaseNow n0_count n0_pendLen n0_nodeCount n0_longestKw n0_n n0_state n0_total n0_outLen n0_commitPos n0_tailLen []) (LawQ res 0 0)) : ∀ {n0_kwLen : List Int32} {n0_kwRepl : List Int32} {n0_child : List Int32} {n0_delta : List Int32} {n0_depth : List Int32} {n0_term : List Int32} {n0_outMask : List Int32} {n0_text : List Int32} {n0_masks : List Int32} {n0_out : List Int32} {n0_tail : List Int32} {n0_phaseNow : Int32} {n0_longestKw : Int32} {n0_n : Int32} {n0_state : Int32} {n0_total : Int32} {n0_outLen : Int32} {n0_commitPos : Int32} {n0_tailLen : Int32} {v4 : Int32} {v5 : Int32} {v6 : Int32} {v7 : Int32} {v8 : Int32} {v10 : Int32} {v11 : Int32} {v14 : Int32} {v15 : Int32} {t0 : Int32} {t1 : Int32} {n0_maxKw : Int32} {n0_maxLen : Int32} {n0_count : Int32} {n0_pendLen : Int32} {n0_nodeCount : Int32} {n0_kwChars : List Int32} {n0_pend : List Int32} {n0_fail : List Int32} {n0_queue : List Int32} {d0 d1 d2 d3 d12 d13 d16 : Slot} {res : Int32}, f_L_law_256 kb k285 n0_kwLen n0_kwRepl n0_child n0_delta n0_depth n0_term n0_outMask n0_text n0_masks n0_out n0_tail n0_phaseNow n0_longestKw n0_n n0_state n0_total n0_outLen n0_commitPos n0_tailLen v4 v5 v6 v7 v8 v10 v11 v14 v15 t0 t1 = some res → OEndsQ own_P 0 256 [d0, d1, d2, d3, .val (.int v4), .val (.int v5), .val (.int v6), .val (.int v7), .val (.int v8), .val (.ref 0), .val (.int v10), .val (.int v11), d12, d13, .val (.int v14), .val (.int v15), d16] [.int t0, .int t1] (bk0 n0_kwChars n0_kwLen n0_kwRepl n0_pend n0_child n0_delta n0_fail n0_depth n0_term n0_outMask n0_queue n0_text n0_masks n0_out n0_tail n0_maxKw n0_maxLen n0_phaseNow n0_count n0_pendLen n0_nodeCount n0_longestKw n0_n n0_state n0_total n0_outLen n0_commitPos n0_tailLen []) (LawQ res 0 0) := by
  intro n0_kwLen n0_kwRepl n0_child n0_delta n0_depth n0_term n0_outMask n0_text n0_masks n0_out n0_tail n0_phaseNow n0_longestKw n0_n n0_state n0_total n0_outLen n0_commitPos n0_tailLen v4 v5 v6 v7 v8 v10 v11 v14 v15 t0 t1 n0_maxKw n0_maxLen n0_count n0_pendLen n0_nodeCount n0_kwChars n0_pend n0_fail n0_queue d0 d1 d2 d3 d12 d13 d16 res h
  unfold f_L_law_256 at h
  refine OEndsQ.adv hm_0 1 (pc' := 258) (L' := [.unset, .unset, .unset, .unset, .val (.int v4), .val (.int v5), .val (.int v6), .val (.int v7), .val (.int v8), .val (.ref 0), .val (.int v10), .val (.int v11), .unset, .unset, .val (.int v14), .val (.int v15), .unset]) (S' := [.int v14, .int t0, .int t1]) (H' := (bk0 n0_kwChars n0_kwLen n0_kwRepl n0_pend n0_child n0_delta n0_fail n0_depth n0_term n0_outMask n0_queue n0_text n0_masks n0_out n0_tail n0_maxKw n0_maxLen n0_phaseNow n0_count n0_pendLen n0_nodeCount n0_longestKw n0_n n0_state n0_total n0_outLen n0_commitPos n0_tailLen [])) rfl ?_
  by_cases hc137 : v14 = (0 : Int32)
  · simp only [if_pos hc137] at h
    refine OEndsQ.ifT hm_0 rfl (q := 265) rfl ((teq hc137).1) ?_
    refine OEndsQ.adv hm_0 1 (pc' := 266) (L' := [.unset, .unset, .unset, .unset, .val (.int v4), .val (.int v5), .val (.int v6), .val (.int v7), .val (.int v8), .val (.ref 0), .val (.int v10), .val (.int v11), .unset, .unset, .val (.int v14), .val (.int v15), .unset]) (S' := [.int 0, .int t0, .int t1]) (H' := (bk0 n0_kwChars n0_kwLen n0_kwRepl n0_pend n0_child n0_delta n0_fail n0_depth n0_term n0_outMask n0_queue n0_text n0_masks n0_out n0_tail n0_maxKw n0_maxLen n0_phaseNow n0_count n0_pendLen n0_nodeCount n0_longestKw n0_n n0_state n0_total n0_outLen n0_commitPos n0_tailLen [])) rfl ?_
    exact ok_L_law_266 hkb hk285 h
  · simp only [if_neg hc137] at h
    refine OEndsQ.ifF hm_0 rfl ((feq hc137).1) ?_
    refine OEndsQ.adv hm_0 2 (pc' := 266) (L' := [.unset, .unset, .unset, .unset, .val (.int v4), .val (.int v5), .val (.int v6), .val (.int v7), .val (.int v8), .val (.ref 0), .val (.int v10), .val (.int v11), .unset, .unset, .val (.int v14), .val (.int v15), .unset]) (S' := [.int 2, .int t0, .int t1]) (H' := (bk0 n0_kwChars n0_kwLen n0_kwRepl n0_pend n0_child n0_delta n0_fail n0_depth n0_term n0_outMask n0_queue n0_text n0_masks n0_out n0_tail n0_maxKw n0_maxLen n0_phaseNow n0_count n0_pendLen n0_nodeCount n0_longestKw n0_n n0_state n0_total n0_outLen n0_commitPos n0_tailLen [])) rfl ?_
    exact ok_L_law_266 hkb hk285 h
theorem ok_L_law_222 {kb : List Int32 → List Int32 → List Int32 → List Int32 → List Int32 → List Int32 → List Int32 → List Int32 → List Int32 → List Int32 → List Int32 → Int32 → Int32 → Int32 → Int32 → Int32 → Int32 → Int32 → Int32 → Int32 → Int32 → Int32 → Int32 → Int32 → Int32 → Int32 → Option (Int32)} {k285 : List Int32 → List Int32 → List Int32 → Int32 → Int32 → Int32 → Int32 → Int32 → Int32 → Int32 → Int32 → Int32 → Int32 → Int32 → Option (Int32)} (hkb : ∀ {n0_kwLen : List Int32} {n0_kwRepl : List Int32} {n0_child : List Int32} {n0_delta : List Int32} {n0_depth : List Int32} {n0_term : List Int32} {n0_outMask : List Int32} {n0_text : List Int32} {n0_masks : List Int32} {n0_out : List Int32} {n0_tail : List Int32} {n0_phaseNow : Int32} {n0_longestKw : Int32} {n0_n : Int32} {n0_state : Int32} {n0_total : Int32} {n0_outLen : Int32} {n0_commitPos : Int32} {n0_tailLen : Int32} {v4 : Int32} {v5 : Int32} {v6 : Int32} {v7 : Int32} {v8 : Int32} {v10 : Int32} {v11 : Int32} {n0_maxKw : Int32} {n0_maxLen : Int32} {n0_count : Int32} {n0_pendLen : Int32} {n0_nodeCount : Int32} {n0_kwChars : List Int32} {n0_pend : List Int32} {n0_fail : List Int32} {n0_queue : List Int32} {d0 d1 d2 d3 d12 d13 d14 d15 d16 : Slot} {res : Int32}, kb n0_kwLen n0_kwRepl n0_child n0_delta n0_depth n0_term n0_outMask n0_text n0_masks n0_out n0_tail n0_phaseNow n0_longestKw n0_n n0_state n0_total n0_outLen n0_commitPos n0_tailLen v4 v5 v6 v7 v8 v10 v11 = some res → OEndsQ own_P 0 139 [d0, d1, d2, d3, .val (.int v4), .val (.int v5), .val (.int v6), .val (.int v7), .val (.int v8), .val (.ref 0), .val (.int v10), .val (.int v11), d12, d13, d14, d15, d16] [] (bk0 n0_kwChars n0_kwLen n0_kwRepl n0_pend n0_child n0_delta n0_fail n0_depth n0_term n0_outMask n0_queue n0_text n0_masks n0_out n0_tail n0_maxKw n0_maxLen n0_phaseNow n0_count n0_pendLen n0_nodeCount n0_longestKw n0_n n0_state n0_total n0_outLen n0_commitPos n0_tailLen []) (LawQ res 0 0)) (hk285 : ∀ {n0_depth : List Int32} {n0_out : List Int32} {n0_tail : List Int32} {n0_n : Int32} {n0_state : Int32} {n0_total : Int32} {n0_outLen : Int32} {n0_tailLen : Int32} {v4 : Int32} {v5 : Int32} {v6 : Int32} {v7 : Int32} {v8 : Int32} {v10 : Int32} {n0_maxKw : Int32} {n0_maxLen : Int32} {n0_phaseNow : Int32} {n0_count : Int32} {n0_pendLen : Int32} {n0_nodeCount : Int32} {n0_longestKw : Int32} {n0_commitPos : Int32} {n0_kwChars : List Int32} {n0_kwLen : List Int32} {n0_kwRepl : List Int32} {n0_pend : List Int32} {n0_child : List Int32} {n0_delta : List Int32} {n0_fail : List Int32} {n0_term : List Int32} {n0_outMask : List Int32} {n0_queue : List Int32} {n0_text : List Int32} {n0_masks : List Int32} {d0 d1 d2 d3 d11 d12 d13 d14 d15 d16 : Slot} {res : Int32}, k285 n0_depth n0_out n0_tail n0_n n0_state n0_total n0_outLen n0_tailLen v4 v5 v6 v7 v8 v10 = some res → OEndsQ own_P 0 285 [d0, d1, d2, d3, .val (.int v4), .val (.int v5), .val (.int v6), .val (.int v7), .val (.int v8), .val (.ref 0), .val (.int v10), d11, d12, d13, d14, d15, d16] [] (bk0 n0_kwChars n0_kwLen n0_kwRepl n0_pend n0_child n0_delta n0_fail n0_depth n0_term n0_outMask n0_queue n0_text n0_masks n0_out n0_tail n0_maxKw n0_maxLen n0_phaseNow n0_count n0_pendLen n0_nodeCount n0_longestKw n0_n n0_state n0_total n0_outLen n0_commitPos n0_tailLen []) (LawQ res 0 0)) : ∀ {n0_kwLen : List Int32} {n0_kwRepl : List Int32} {n0_child : List Int32} {n0_delta : List Int32} {n0_depth : List Int32} {n0_term : List Int32} {n0_outMask : List Int32} {n0_text : List Int32} {n0_masks : List Int32} {n0_out : List Int32} {n0_tail : List Int32} {n0_phaseNow : Int32} {n0_longestKw : Int32} {n0_n : Int32} {n0_state : Int32} {n0_total : Int32} {n0_outLen : Int32} {n0_commitPos : Int32} {n0_tailLen : Int32} {v4 : Int32} {v5 : Int32} {v6 : Int32} {v7 : Int32} {v8 : Int32} {v10 : Int32} {v11 : Int32} {v12 : Int32} {v13 : Int32} {v14 : Int32} {t0 : Int32} {t1 : Int32} {n0_maxKw : Int32} {n0_maxLen : Int32} {n0_count : Int32} {n0_pendLen : Int32} {n0_nodeCount : Int32} {n0_kwChars : List Int32} {n0_pend : List Int32} {n0_fail : List Int32} {n0_queue : List Int32} {d0 d1 d2 d3 d15 d16 : Slot} {res : Int32}, f_L_law_222 kb k285 n0_kwLen n0_kwRepl n0_child n0_delta n0_depth n0_term n0_outMask n0_text n0_masks n0_out n0_tail n0_phaseNow n0_longestKw n0_n n0_state n0_total n0_outLen n0_commitPos n0_tailLen v4 v5 v6 v7 v8 v10 v11 v12 v13 v14 t0 t1 = some res → OEndsQ own_P 0 222 [d0, d1, d2, d3, .val (.int v4), .val (.int v5), .val (.int v6), .val (.int v7), .val (.int v8), .val (.ref 0), .val (.int v10), .val (.int v11), .val (.int v12), .val (.int v13), .val (.int v14), d15, d16] [.int t0, .int t1] (bk0 n0_kwChars n0_kwLen n0_kwRepl n0_pend n0_child n0_delta n0_fail n0_depth n0_term n0_outMask n0_queue n0_text n0_masks n0_out n0_tail n0_maxKw n0_maxLen n0_phaseNow n0_count n0_pendLen n0_nodeCount n0_longestKw n0_n n0_state n0_total n0_outLen n0_commitPos n0_tailLen []) (LawQ res 0 0) := by
  intro n0_kwLen n0_kwRepl n0_child n0_delta n0_depth n0_term n0_outMask n0_text n0_masks n0_out n0_tail n0_phaseNow n0_longestKw n0_n n0_state n0_total n0_outLen n0_commitPos n0_tailLen v4 v5 v6 v7 v8 v10 v11 v12 v13 v14 t0 t1 n0_maxKw n0_maxLen n0_count n0_pendLen n0_nodeCount n0_kwChars n0_pend n0_fail n0_queue d0 d1 d2 d3 d15 d16 res h
  unfold f_L_law_222 at h
  refine OEndsQ.adv hm_0 4 (pc' := 229) (L' := [.unset, .unset, .unset, .unset, .val (.int v4), .val (.int v5), .val (.int v6), .val (.int v7), .val (.int v8), .val (.ref 0), .val (.int v10), .val (.int v11), .val (.int v12), .val (.int v13), .val (.int v14), .val (.int (t1 + t0)), .unset]) (S' := [.int v12, .ref 0]) (H' := (bk0 n0_kwChars n0_kwLen n0_kwRepl n0_pend n0_child n0_delta n0_fail n0_depth n0_term n0_outMask n0_queue n0_text n0_masks n0_out n0_tail n0_maxKw n0_maxLen n0_phaseNow n0_count n0_pendLen n0_nodeCount n0_longestKw n0_n n0_state n0_total n0_outLen n0_commitPos n0_tailLen [])) rfl ?_
  obtain ⟨⟨r184, s185, s186, s187, s188, s189, s190, s191, s192, s193, s194⟩, hq138, h⟩ := bnd h
  refine OEndsQ.call0 hm_0 rfl rfl (by decide) rfl (as := [.ref 0, .int v12]) (rest := []) rfl rfl (ok_feed hq138) ?_
  refine OEndsQ.adv hm_0 1 (pc' := 234) (L' := [.unset, .unset, .unset, .unset, .val (.int v4), .val (.int v5), .val (.int v6), .val (.int v7), .val (.int v8), .val (.ref 0), .val (.int v10), .val (.int v11), .val (.int v12), .val (.int v13), .val (.int v14), .val (.int (t1 + t0)), .unset]) (S' := [.int (t1 + t0), .int r184]) (H' := (bk0 n0_kwChars n0_kwLen n0_kwRepl n0_pend n0_child n0_delta n0_fail n0_depth n0_term n0_outMask n0_queue s185 s186 s187 s188 n0_maxKw n0_maxLen n0_phaseNow n0_count n0_pendLen n0_nodeCount n0_longestKw s189 s190 s191 s192 s193 s194 [])) rfl ?_
  by_cases hc139 : r184 = (t1 + t0)
  · simp only [if_pos hc139] at h
    refine OEndsQ.icmpT hm_0 rfl (q := 239) rfl ((teq hc139).1) ?_
    refine OEndsQ.adv hm_0 2 (pc' := 243) (L' := [.unset, .unset, .unset, .unset, .val (.int v4), .val (.int v5), .val (.int v6), .val (.int v7), .val (.int v8), .val (.ref 0), .val (.int v10), .val (.int v11), .val (.int v12), .val (.int v13), .val (.int v14), .val (.int (t1 + t0)), .unset]) (S' := [.int v11, .ref 0]) (H' := (bk0 n0_kwChars n0_kwLen n0_kwRepl n0_pend n0_child n0_delta n0_fail n0_depth n0_term n0_outMask n0_queue s185 s186 s187 s188 n0_maxKw n0_maxLen n0_phaseNow n0_count n0_pendLen n0_nodeCount n0_longestKw s189 s190 s191 s192 s193 s194 [])) rfl ?_
    obtain ⟨r195, hq140, h⟩ := bnd h
    refine OEndsQ.call0 hm_0 rfl rfl (by decide) rfl (as := [.ref 0, .int v11]) (rest := []) rfl rfl (ok_occurrenceMask hq140) ?_
    refine OEndsQ.adv hm_0 1 (pc' := 248) (L' := [.unset, .unset, .unset, .unset, .val (.int v4), .val (.int v5), .val (.int v6), .val (.int v7), .val (.int v8), .val (.ref 0), .val (.int v10), .val (.int v11), .val (.int v12), .val (.int v13), .val (.int v14), .val (.int (t1 + t0)), .unset]) (S' := [.int v13, .int r195]) (H' := (bk0 n0_kwChars n0_kwLen n0_kwRepl n0_pend n0_child n0_delta n0_fail n0_depth n0_term n0_outMask n0_queue s185 s186 s187 s188 n0_maxKw n0_maxLen n0_phaseNow n0_count n0_pendLen n0_nodeCount n0_longestKw s189 s190 s191 s192 s193 s194 [])) rfl ?_
    by_cases hc141 : v13 = (0 : Int32)
    · simp only [if_pos hc141] at h
      refine OEndsQ.ifT hm_0 rfl (q := 255) rfl ((teq hc141).1) ?_
      refine OEndsQ.adv hm_0 1 (pc' := 256) (L' := [.unset, .unset, .unset, .unset, .val (.int v4), .val (.int v5), .val (.int v6), .val (.int v7), .val (.int v8), .val (.ref 0), .val (.int v10), .val (.int v11), .val (.int v12), .val (.int v13), .val (.int v14), .val (.int (t1 + t0)), .unset]) (S' := [.int 0, .int r195]) (H' := (bk0 n0_kwChars n0_kwLen n0_kwRepl n0_pend n0_child n0_delta n0_fail n0_depth n0_term n0_outMask n0_queue s185 s186 s187 s188 n0_maxKw n0_maxLen n0_phaseNow n0_count n0_pendLen n0_nodeCount n0_longestKw s189 s190 s191 s192 s193 s194 [])) rfl ?_
      exact ok_L_law_256 hkb hk285 h
    · simp only [if_neg hc141] at h
      refine OEndsQ.ifF hm_0 rfl ((feq hc141).1) ?_
      refine OEndsQ.adv hm_0 2 (pc' := 256) (L' := [.unset, .unset, .unset, .unset, .val (.int v4), .val (.int v5), .val (.int v6), .val (.int v7), .val (.int v8), .val (.ref 0), .val (.int v10), .val (.int v11), .val (.int v12), .val (.int v13), .val (.int v14), .val (.int (t1 + t0)), .unset]) (S' := [.int 1, .int r195]) (H' := (bk0 n0_kwChars n0_kwLen n0_kwRepl n0_pend n0_child n0_delta n0_fail n0_depth n0_term n0_outMask n0_queue s185 s186 s187 s188 n0_maxKw n0_maxLen n0_phaseNow n0_count n0_pendLen n0_nodeCount n0_longestKw s189 s190 s191 s192 s193 s194 [])) rfl ?_
      exact ok_L_law_256 hkb hk285 h
  · simp only [if_neg hc139] at h
    refine OEndsQ.icmpF hm_0 rfl ((feq hc139).1) ?_
    refine OEndsQ.adv hm_0 1 (pc' := 238) (L' := [.unset, .unset, .unset, .unset, .val (.int v4), .val (.int v5), .val (.int v6), .val (.int v7), .val (.int v8), .val (.ref 0), .val (.int v10), .val (.int v11), .val (.int v12), .val (.int v13), .val (.int v14), .val (.int (t1 + t0)), .unset]) (S' := [.int 0]) (H' := (bk0 n0_kwChars n0_kwLen n0_kwRepl n0_pend n0_child n0_delta n0_fail n0_depth n0_term n0_outMask n0_queue s185 s186 s187 s188 n0_maxKw n0_maxLen n0_phaseNow n0_count n0_pendLen n0_nodeCount n0_longestKw s189 s190 s191 s192 s193 s194 [])) rfl ?_
    cases h
    exact OEndsQ.iret hm_0 rfl rfl
theorem ok_L_law_212 {kb : List Int32 → List Int32 → List Int32 → List Int32 → List Int32 → List Int32 → List Int32 → List Int32 → List Int32 → List Int32 → List Int32 → Int32 → Int32 → Int32 → Int32 → Int32 → Int32 → Int32 → Int32 → Int32 → Int32 → Int32 → Int32 → Int32 → Int32 → Int32 → Option (Int32)} {k285 : List Int32 → List Int32 → List Int32 → Int32 → Int32 → Int32 → Int32 → Int32 → Int32 → Int32 → Int32 → Int32 → Int32 → Int32 → Option (Int32)} (hkb : ∀ {n0_kwLen : List Int32} {n0_kwRepl : List Int32} {n0_child : List Int32} {n0_delta : List Int32} {n0_depth : List Int32} {n0_term : List Int32} {n0_outMask : List Int32} {n0_text : List Int32} {n0_masks : List Int32} {n0_out : List Int32} {n0_tail : List Int32} {n0_phaseNow : Int32} {n0_longestKw : Int32} {n0_n : Int32} {n0_state : Int32} {n0_total : Int32} {n0_outLen : Int32} {n0_commitPos : Int32} {n0_tailLen : Int32} {v4 : Int32} {v5 : Int32} {v6 : Int32} {v7 : Int32} {v8 : Int32} {v10 : Int32} {v11 : Int32} {n0_maxKw : Int32} {n0_maxLen : Int32} {n0_count : Int32} {n0_pendLen : Int32} {n0_nodeCount : Int32} {n0_kwChars : List Int32} {n0_pend : List Int32} {n0_fail : List Int32} {n0_queue : List Int32} {d0 d1 d2 d3 d12 d13 d14 d15 d16 : Slot} {res : Int32}, kb n0_kwLen n0_kwRepl n0_child n0_delta n0_depth n0_term n0_outMask n0_text n0_masks n0_out n0_tail n0_phaseNow n0_longestKw n0_n n0_state n0_total n0_outLen n0_commitPos n0_tailLen v4 v5 v6 v7 v8 v10 v11 = some res → OEndsQ own_P 0 139 [d0, d1, d2, d3, .val (.int v4), .val (.int v5), .val (.int v6), .val (.int v7), .val (.int v8), .val (.ref 0), .val (.int v10), .val (.int v11), d12, d13, d14, d15, d16] [] (bk0 n0_kwChars n0_kwLen n0_kwRepl n0_pend n0_child n0_delta n0_fail n0_depth n0_term n0_outMask n0_queue n0_text n0_masks n0_out n0_tail n0_maxKw n0_maxLen n0_phaseNow n0_count n0_pendLen n0_nodeCount n0_longestKw n0_n n0_state n0_total n0_outLen n0_commitPos n0_tailLen []) (LawQ res 0 0)) (hk285 : ∀ {n0_depth : List Int32} {n0_out : List Int32} {n0_tail : List Int32} {n0_n : Int32} {n0_state : Int32} {n0_total : Int32} {n0_outLen : Int32} {n0_tailLen : Int32} {v4 : Int32} {v5 : Int32} {v6 : Int32} {v7 : Int32} {v8 : Int32} {v10 : Int32} {n0_maxKw : Int32} {n0_maxLen : Int32} {n0_phaseNow : Int32} {n0_count : Int32} {n0_pendLen : Int32} {n0_nodeCount : Int32} {n0_longestKw : Int32} {n0_commitPos : Int32} {n0_kwChars : List Int32} {n0_kwLen : List Int32} {n0_kwRepl : List Int32} {n0_pend : List Int32} {n0_child : List Int32} {n0_delta : List Int32} {n0_fail : List Int32} {n0_term : List Int32} {n0_outMask : List Int32} {n0_queue : List Int32} {n0_text : List Int32} {n0_masks : List Int32} {d0 d1 d2 d3 d11 d12 d13 d14 d15 d16 : Slot} {res : Int32}, k285 n0_depth n0_out n0_tail n0_n n0_state n0_total n0_outLen n0_tailLen v4 v5 v6 v7 v8 v10 = some res → OEndsQ own_P 0 285 [d0, d1, d2, d3, .val (.int v4), .val (.int v5), .val (.int v6), .val (.int v7), .val (.int v8), .val (.ref 0), .val (.int v10), d11, d12, d13, d14, d15, d16] [] (bk0 n0_kwChars n0_kwLen n0_kwRepl n0_pend n0_child n0_delta n0_fail n0_depth n0_term n0_outMask n0_queue n0_text n0_masks n0_out n0_tail n0_maxKw n0_maxLen n0_phaseNow n0_count n0_pendLen n0_nodeCount n0_longestKw n0_n n0_state n0_total n0_outLen n0_commitPos n0_tailLen []) (LawQ res 0 0)) : ∀ {n0_kwLen : List Int32} {n0_kwRepl : List Int32} {n0_child : List Int32} {n0_delta : List Int32} {n0_depth : List Int32} {n0_term : List Int32} {n0_outMask : List Int32} {n0_text : List Int32} {n0_masks : List Int32} {n0_out : List Int32} {n0_tail : List Int32} {n0_phaseNow : Int32} {n0_longestKw : Int32} {n0_n : Int32} {n0_state : Int32} {n0_total : Int32} {n0_outLen : Int32} {n0_commitPos : Int32} {n0_tailLen : Int32} {v4 : Int32} {v5 : Int32} {v6 : Int32} {v7 : Int32} {v8 : Int32} {v10 : Int32} {v11 : Int32} {v12 : Int32} {v13 : Int32} {v14 : Int32} {t0 : Int32} {n0_maxKw : Int32} {n0_maxLen : Int32} {n0_count : Int32} {n0_pendLen : Int32} {n0_nodeCount : Int32} {n0_kwChars : List Int32} {n0_pend : List Int32} {n0_fail : List Int32} {n0_queue : List Int32} {d0 d1 d2 d3 d15 d16 : Slot} {res : Int32}, f_L_law_212 kb k285 n0_kwLen n0_kwRepl n0_child n0_delta n0_depth n0_term n0_outMask n0_text n0_masks n0_out n0_tail n0_phaseNow n0_longestKw n0_n n0_state n0_total n0_outLen n0_commitPos n0_tailLen v4 v5 v6 v7 v8 v10 v11 v12 v13 v14 t0 = some res → OEndsQ own_P 0 212 [d0, d1, d2, d3, .val (.int v4), .val (.int v5), .val (.int v6), .val (.int v7), .val (.int v8), .val (.ref 0), .val (.int v10), .val (.int v11), .val (.int v12), .val (.int v13), .val (.int v14), d15, d16] [.int t0] (bk0 n0_kwChars n0_kwLen n0_kwRepl n0_pend n0_child n0_delta n0_fail n0_depth n0_term n0_outMask n0_queue n0_text n0_masks n0_out n0_tail n0_maxKw n0_maxLen n0_phaseNow n0_count n0_pendLen n0_nodeCount n0_longestKw n0_n n0_state n0_total n0_outLen n0_commitPos n0_tailLen []) (LawQ res 0 0) := by
  intro n0_kwLen n0_kwRepl n0_child n0_delta n0_depth n0_term n0_outMask n0_text n0_masks n0_out n0_tail n0_phaseNow n0_longestKw n0_n n0_state n0_total n0_outLen n0_commitPos n0_tailLen v4 v5 v6 v7 v8 v10 v11 v12 v13 v14 t0 n0_maxKw n0_maxLen n0_count n0_pendLen n0_nodeCount n0_kwChars n0_pend n0_fail n0_queue d0 d1 d2 d3 d15 d16 res h
  unfold f_L_law_212 at h
  refine OEndsQ.adv hm_0 1 (pc' := 214) (L' := [.unset, .unset, .unset, .unset, .val (.int v4), .val (.int v5), .val (.int v6), .val (.int v7), .val (.int v8), .val (.ref 0), .val (.int v10), .val (.int v11), .val (.int v12), .val (.int v13), .val (.int v14), .unset, .unset]) (S' := [.int v14, .int t0]) (H' := (bk0 n0_kwChars n0_kwLen n0_kwRepl n0_pend n0_child n0_delta n0_fail n0_depth n0_term n0_outMask n0_queue n0_text n0_masks n0_out n0_tail n0_maxKw n0_maxLen n0_phaseNow n0_count n0_pendLen n0_nodeCount n0_longestKw n0_n n0_state n0_total n0_outLen n0_commitPos n0_tailLen [])) rfl ?_
  by_cases hc142 : v14 = (0 : Int32)
  · simp only [if_pos hc142] at h
    refine OEndsQ.ifT hm_0 rfl (q := 221) rfl ((teq hc142).1) ?_
    refine OEndsQ.adv hm_0 1 (pc' := 222) (L' := [.unset, .unset, .unset, .unset, .val (.int v4), .val (.int v5), .val (.int v6), .val (.int v7), .val (.int v8), .val (.ref 0), .val (.int v10), .val (.int v11), .val (.int v12), .val (.int v13), .val (.int v14), .unset, .unset]) (S' := [.int 0, .int t0]) (H' := (bk0 n0_kwChars n0_kwLen n0_kwRepl n0_pend n0_child n0_delta n0_fail n0_depth n0_term n0_outMask n0_queue n0_text n0_masks n0_out n0_tail n0_maxKw n0_maxLen n0_phaseNow n0_count n0_pendLen n0_nodeCount n0_longestKw n0_n n0_state n0_total n0_outLen n0_commitPos n0_tailLen [])) rfl ?_
    exact ok_L_law_222 hkb hk285 h
  · simp only [if_neg hc142] at h
    refine OEndsQ.ifF hm_0 rfl ((feq hc142).1) ?_
    refine OEndsQ.adv hm_0 2 (pc' := 222) (L' := [.unset, .unset, .unset, .unset, .val (.int v4), .val (.int v5), .val (.int v6), .val (.int v7), .val (.int v8), .val (.ref 0), .val (.int v10), .val (.int v11), .val (.int v12), .val (.int v13), .val (.int v14), .unset, .unset]) (S' := [.int 1, .int t0]) (H' := (bk0 n0_kwChars n0_kwLen n0_kwRepl n0_pend n0_child n0_delta n0_fail n0_depth n0_term n0_outMask n0_queue n0_text n0_masks n0_out n0_tail n0_maxKw n0_maxLen n0_phaseNow n0_count n0_pendLen n0_nodeCount n0_longestKw n0_n n0_state n0_total n0_outLen n0_commitPos n0_tailLen [])) rfl ?_
    exact ok_L_law_222 hkb hk285 h
theorem ok_L_law_200 {kb : List Int32 → List Int32 → List Int32 → List Int32 → List Int32 → List Int32 → List Int32 → List Int32 → List Int32 → List Int32 → List Int32 → Int32 → Int32 → Int32 → Int32 → Int32 → Int32 → Int32 → Int32 → Int32 → Int32 → Int32 → Int32 → Int32 → Int32 → Int32 → Option (Int32)} {k285 : List Int32 → List Int32 → List Int32 → Int32 → Int32 → Int32 → Int32 → Int32 → Int32 → Int32 → Int32 → Int32 → Int32 → Int32 → Option (Int32)} (hkb : ∀ {n0_kwLen : List Int32} {n0_kwRepl : List Int32} {n0_child : List Int32} {n0_delta : List Int32} {n0_depth : List Int32} {n0_term : List Int32} {n0_outMask : List Int32} {n0_text : List Int32} {n0_masks : List Int32} {n0_out : List Int32} {n0_tail : List Int32} {n0_phaseNow : Int32} {n0_longestKw : Int32} {n0_n : Int32} {n0_state : Int32} {n0_total : Int32} {n0_outLen : Int32} {n0_commitPos : Int32} {n0_tailLen : Int32} {v4 : Int32} {v5 : Int32} {v6 : Int32} {v7 : Int32} {v8 : Int32} {v10 : Int32} {v11 : Int32} {n0_maxKw : Int32} {n0_maxLen : Int32} {n0_count : Int32} {n0_pendLen : Int32} {n0_nodeCount : Int32} {n0_kwChars : List Int32} {n0_pend : List Int32} {n0_fail : List Int32} {n0_queue : List Int32} {d0 d1 d2 d3 d12 d13 d14 d15 d16 : Slot} {res : Int32}, kb n0_kwLen n0_kwRepl n0_child n0_delta n0_depth n0_term n0_outMask n0_text n0_masks n0_out n0_tail n0_phaseNow n0_longestKw n0_n n0_state n0_total n0_outLen n0_commitPos n0_tailLen v4 v5 v6 v7 v8 v10 v11 = some res → OEndsQ own_P 0 139 [d0, d1, d2, d3, .val (.int v4), .val (.int v5), .val (.int v6), .val (.int v7), .val (.int v8), .val (.ref 0), .val (.int v10), .val (.int v11), d12, d13, d14, d15, d16] [] (bk0 n0_kwChars n0_kwLen n0_kwRepl n0_pend n0_child n0_delta n0_fail n0_depth n0_term n0_outMask n0_queue n0_text n0_masks n0_out n0_tail n0_maxKw n0_maxLen n0_phaseNow n0_count n0_pendLen n0_nodeCount n0_longestKw n0_n n0_state n0_total n0_outLen n0_commitPos n0_tailLen []) (LawQ res 0 0)) (hk285 : ∀ {n0_depth : List Int32} {n0_out : List Int32} {n0_tail : List Int32} {n0_n : Int32} {n0_state : Int32} {n0_total : Int32} {n0_outLen : Int32} {n0_tailLen : Int32} {v4 : Int32} {v5 : Int32} {v6 : Int32} {v7 : Int32} {v8 : Int32} {v10 : Int32} {n0_maxKw : Int32} {n0_maxLen : Int32} {n0_phaseNow : Int32} {n0_count : Int32} {n0_pendLen : Int32} {n0_nodeCount : Int32} {n0_longestKw : Int32} {n0_commitPos : Int32} {n0_kwChars : List Int32} {n0_kwLen : List Int32} {n0_kwRepl : List Int32} {n0_pend : List Int32} {n0_child : List Int32} {n0_delta : List Int32} {n0_fail : List Int32} {n0_term : List Int32} {n0_outMask : List Int32} {n0_queue : List Int32} {n0_text : List Int32} {n0_masks : List Int32} {d0 d1 d2 d3 d11 d12 d13 d14 d15 d16 : Slot} {res : Int32}, k285 n0_depth n0_out n0_tail n0_n n0_state n0_total n0_outLen n0_tailLen v4 v5 v6 v7 v8 v10 = some res → OEndsQ own_P 0 285 [d0, d1, d2, d3, .val (.int v4), .val (.int v5), .val (.int v6), .val (.int v7), .val (.int v8), .val (.ref 0), .val (.int v10), d11, d12, d13, d14, d15, d16] [] (bk0 n0_kwChars n0_kwLen n0_kwRepl n0_pend n0_child n0_delta n0_fail n0_depth n0_term n0_outMask n0_queue n0_text n0_masks n0_out n0_tail n0_maxKw n0_maxLen n0_phaseNow n0_count n0_pendLen n0_nodeCount n0_longestKw n0_n n0_state n0_total n0_outLen n0_commitPos n0_tailLen []) (LawQ res 0 0)) : ∀ {n0_kwLen : List Int32} {n0_kwRepl : List Int32} {n0_child : List Int32} {n0_delta : List Int32} {n0_depth : List Int32} {n0_term : List Int32} {n0_outMask : List Int32} {n0_text : List Int32} {n0_masks : List Int32} {n0_out : List Int32} {n0_tail : List Int32} {n0_phaseNow : Int32} {n0_longestKw : Int32} {n0_n : Int32} {n0_state : Int32} {n0_total : Int32} {n0_outLen : Int32} {n0_commitPos : Int32} {n0_tailLen : Int32} {v4 : Int32} {v5 : Int32} {v6 : Int32} {v7 : Int32} {v8 : Int32} {v10 : Int32} {v11 : Int32} {v12 : Int32} {v13 : Int32} {t0 : Int32} {n0_maxKw : Int32} {n0_maxLen : Int32} {n0_count : Int32} {n0_pendLen : Int32} {n0_nodeCount : Int32} {n0_kwChars : List Int32} {n0_pend : List Int32} {n0_fail : List Int32} {n0_queue : List Int32} {d0 d1 d2 d3 d14 d15 d16 : Slot} {res : Int32}, f_L_law_200 kb k285 n0_kwLen n0_kwRepl n0_child n0_delta n0_depth n0_term n0_outMask n0_text n0_masks n0_out n0_tail n0_phaseNow n0_longestKw n0_n n0_state n0_total n0_outLen n0_commitPos n0_tailLen v4 v5 v6 v7 v8 v10 v11 v12 v13 t0 = some res → OEndsQ own_P 0 200 [d0, d1, d2, d3, .val (.int v4), .val (.int v5), .val (.int v6), .val (.int v7), .val (.int v8), .val (.ref 0), .val (.int v10), .val (.int v11), .val (.int v12), .val (.int v13), d14, d15, d16] [.int t0] (bk0 n0_kwChars n0_kwLen n0_kwRepl n0_pend n0_child n0_delta n0_fail n0_depth n0_term n0_outMask n0_queue n0_text n0_masks n0_out n0_tail n0_maxKw n0_maxLen n0_phaseNow n0_count n0_pendLen n0_nodeCount n0_longestKw n0_n n0_state n0_total n0_outLen n0_commitPos n0_tailLen []) (LawQ res 0 0) := by
  intro n0_kwLen n0_kwRepl n0_child n0_delta n0_depth n0_term n0_outMask n0_text n0_masks n0_out n0_tail n0_phaseNow n0_longestKw n0_n n0_state n0_total n0_outLen n0_commitPos n0_tailLen v4 v5 v6 v7 v8 v10 v11 v12 v13 t0 n0_maxKw n0_maxLen n0_count n0_pendLen n0_nodeCount n0_kwChars n0_pend n0_fail n0_queue d0 d1 d2 d3 d14 d15 d16 res h
  unfold f_L_law_200 at h
  refine OEndsQ.adv hm_0 2 (pc' := 204) (L' := [.unset, .unset, .unset, .unset, .val (.int v4), .val (.int v5), .val (.int v6), .val (.int v7), .val (.int v8), .val (.ref 0), .val (.int v10), .val (.int v11), .val (.int v12), .val (.int v13), .val (.int t0), .unset, .unset]) (S' := [.int v13]) (H' := (bk0 n0_kwChars n0_kwLen n0_kwRepl n0_pend n0_child n0_delta n0_fail n0_depth n0_term n0_outMask n0_queue n0_text n0_masks n0_out n0_tail n0_maxKw n0_maxLen n0_phaseNow n0_count n0_pendLen n0_nodeCount n0_longestKw n0_n n0_state n0_total n0_outLen n0_commitPos n0_tailLen [])) rfl ?_
  by_cases hc143 : v13 = (0 : Int32)
  · simp only [if_pos hc143] at h
    refine OEndsQ.ifT hm_0 rfl (q := 211) rfl ((teq hc143).1) ?_
    refine OEndsQ.adv hm_0 1 (pc' := 212) (L' := [.unset, .unset, .unset, .unset, .val (.int v4), .val (.int v5), .val (.int v6), .val (.int v7), .val (.int v8), .val (.ref 0), .val (.int v10), .val (.int v11), .val (.int v12), .val (.int v13), .val (.int t0), .unset, .unset]) (S' := [.int 0]) (H' := (bk0 n0_kwChars n0_kwLen n0_kwRepl n0_pend n0_child n0_delta n0_fail n0_depth n0_term n0_outMask n0_queue n0_text n0_masks n0_out n0_tail n0_maxKw n0_maxLen n0_phaseNow n0_count n0_pendLen n0_nodeCount n0_longestKw n0_n n0_state n0_total n0_outLen n0_commitPos n0_tailLen [])) rfl ?_
    exact ok_L_law_212 hkb hk285 h
  · simp only [if_neg hc143] at h
    refine OEndsQ.ifF hm_0 rfl ((feq hc143).1) ?_
    refine OEndsQ.adv hm_0 2 (pc' := 212) (L' := [.unset, .unset, .unset, .unset, .val (.int v4), .val (.int v5), .val (.int v6), .val (.int v7), .val (.int v8), .val (.ref 0), .val (.int v10), .val (.int v11), .val (.int v12), .val (.int v13), .val (.int t0), .unset, .unset]) (S' := [.int 1]) (H' := (bk0 n0_kwChars n0_kwLen n0_kwRepl n0_pend n0_child n0_delta n0_fail n0_depth n0_term n0_outMask n0_queue n0_text n0_masks n0_out n0_tail n0_maxKw n0_maxLen n0_phaseNow n0_count n0_pendLen n0_nodeCount n0_longestKw n0_n n0_state n0_total n0_outLen n0_commitPos n0_tailLen [])) rfl ?_
    exact ok_L_law_212 hkb hk285 h
theorem ok_L_law_186 {kb : List Int32 → List Int32 → List Int32 → List Int32 → List Int32 → List Int32 → List Int32 → List Int32 → List Int32 → List Int32 → List Int32 → Int32 → Int32 → Int32 → Int32 → Int32 → Int32 → Int32 → Int32 → Int32 → Int32 → Int32 → Int32 → Int32 → Int32 → Int32 → Option (Int32)} {k285 : List Int32 → List Int32 → List Int32 → Int32 → Int32 → Int32 → Int32 → Int32 → Int32 → Int32 → Int32 → Int32 → Int32 → Int32 → Option (Int32)} (hkb : ∀ {n0_kwLen : List Int32} {n0_kwRepl : List Int32} {n0_child : List Int32} {n0_delta : List Int32} {n0_depth : List Int32} {n0_term : List Int32} {n0_outMask : List Int32} {n0_text : List Int32} {n0_masks : List Int32} {n0_out : List Int32} {n0_tail : List Int32} {n0_phaseNow : Int32} {n0_longestKw : Int32} {n0_n : Int32} {n0_state : Int32} {n0_total : Int32} {n0_outLen : Int32} {n0_commitPos : Int32} {n0_tailLen : Int32} {v4 : Int32} {v5 : Int32} {v6 : Int32} {v7 : Int32} {v8 : Int32} {v10 : Int32} {v11 : Int32} {n0_maxKw : Int32} {n0_maxLen : Int32} {n0_count : Int32} {n0_pendLen : Int32} {n0_nodeCount : Int32} {n0_kwChars : List Int32} {n0_pend : List Int32} {n0_fail : List Int32} {n0_queue : List Int32} {d0 d1 d2 d3 d12 d13 d14 d15 d16 : Slot} {res : Int32}, kb n0_kwLen n0_kwRepl n0_child n0_delta n0_depth n0_term n0_outMask n0_text n0_masks n0_out n0_tail n0_phaseNow n0_longestKw n0_n n0_state n0_total n0_outLen n0_commitPos n0_tailLen v4 v5 v6 v7 v8 v10 v11 = some res → OEndsQ own_P 0 139 [d0, d1, d2, d3, .val (.int v4), .val (.int v5), .val (.int v6), .val (.int v7), .val (.int v8), .val (.ref 0), .val (.int v10), .val (.int v11), d12, d13, d14, d15, d16] [] (bk0 n0_kwChars n0_kwLen n0_kwRepl n0_pend n0_child n0_delta n0_fail n0_depth n0_term n0_outMask n0_queue n0_text n0_masks n0_out n0_tail n0_maxKw n0_maxLen n0_phaseNow n0_count n0_pendLen n0_nodeCount n0_longestKw n0_n n0_state n0_total n0_outLen n0_commitPos n0_tailLen []) (LawQ res 0 0)) (hk285 : ∀ {n0_depth : List Int32} {n0_out : List Int32} {n0_tail : List Int32} {n0_n : Int32} {n0_state : Int32} {n0_total : Int32} {n0_outLen : Int32} {n0_tailLen : Int32} {v4 : Int32} {v5 : Int32} {v6 : Int32} {v7 : Int32} {v8 : Int32} {v10 : Int32} {n0_maxKw : Int32} {n0_maxLen : Int32} {n0_phaseNow : Int32} {n0_count : Int32} {n0_pendLen : Int32} {n0_nodeCount : Int32} {n0_longestKw : Int32} {n0_commitPos : Int32} {n0_kwChars : List Int32} {n0_kwLen : List Int32} {n0_kwRepl : List Int32} {n0_pend : List Int32} {n0_child : List Int32} {n0_delta : List Int32} {n0_fail : List Int32} {n0_term : List Int32} {n0_outMask : List Int32} {n0_queue : List Int32} {n0_text : List Int32} {n0_masks : List Int32} {d0 d1 d2 d3 d11 d12 d13 d14 d15 d16 : Slot} {res : Int32}, k285 n0_depth n0_out n0_tail n0_n n0_state n0_total n0_outLen n0_tailLen v4 v5 v6 v7 v8 v10 = some res → OEndsQ own_P 0 285 [d0, d1, d2, d3, .val (.int v4), .val (.int v5), .val (.int v6), .val (.int v7), .val (.int v8), .val (.ref 0), .val (.int v10), d11, d12, d13, d14, d15, d16] [] (bk0 n0_kwChars n0_kwLen n0_kwRepl n0_pend n0_child n0_delta n0_fail n0_depth n0_term n0_outMask n0_queue n0_text n0_masks n0_out n0_tail n0_maxKw n0_maxLen n0_phaseNow n0_count n0_pendLen n0_nodeCount n0_longestKw n0_n n0_state n0_total n0_outLen n0_commitPos n0_tailLen []) (LawQ res 0 0)) : ∀ {n0_kwLen : List Int32} {n0_kwRepl : List Int32} {n0_child : List Int32} {n0_delta : List Int32} {n0_depth : List Int32} {n0_term : List Int32} {n0_outMask : List Int32} {n0_text : List Int32} {n0_masks : List Int32} {n0_out : List Int32} {n0_tail : List Int32} {n0_phaseNow : Int32} {n0_longestKw : Int32} {n0_n : Int32} {n0_state : Int32} {n0_total : Int32} {n0_outLen : Int32} {n0_commitPos : Int32} {n0_tailLen : Int32} {v4 : Int32} {v5 : Int32} {v6 : Int32} {v7 : Int32} {v8 : Int32} {v10 : Int32} {v11 : Int32} {v12 : Int32} {t0 : Int32} {n0_maxKw : Int32} {n0_maxLen : Int32} {n0_count : Int32} {n0_pendLen : Int32} {n0_nodeCount : Int32} {n0_kwChars : List Int32} {n0_pend : List Int32} {n0_fail : List Int32} {n0_queue : List Int32} {d0 d1 d2 d3 d13 d14 d15 d16 : Slot} {res : Int32}, f_L_law_186 kb k285 n0_kwLen n0_kwRepl n0_child n0_delta n0_depth n0_term n0_outMask n0_text n0_masks n0_out n0_tail n0_phaseNow n0_longestKw n0_n n0_state n0_total n0_outLen n0_commitPos n0_tailLen v4 v5 v6 v7 v8 v10 v11 v12 t0 = some res → OEndsQ own_P 0 186 [d0, d1, d2, d3, .val (.int v4), .val (.int v5), .val (.int v6), .val (.int v7), .val (.int v8), .val (.ref 0), .val (.int v10), .val (.int v11), .val (.int v12), d13, d14, d15, d16] [.int t0] (bk0 n0_kwChars n0_kwLen n0_kwRepl n0_pend n0_child n0_delta n0_fail n0_depth n0_term n0_outMask n0_queue n0_text n0_masks n0_out n0_tail n0_maxKw n0_maxLen n0_phaseNow n0_count n0_pendLen n0_nodeCount n0_longestKw n0_n n0_state n0_total n0_outLen n0_commitPos n0_tailLen []) (LawQ res 0 0) := by
  intro n0_kwLen n0_kwRepl n0_child n0_delta n0_depth n0_term n0_outMask n0_text n0_masks n0_out n0_tail n0_phaseNow n0_longestKw n0_n n0_state n0_total n0_outLen n0_commitPos n0_tailLen v4 v5 v6 v7 v8 v10 v11 v12 t0 n0_maxKw n0_maxLen n0_count n0_pendLen n0_nodeCount n0_kwChars n0_pend n0_fail n0_queue d0 d1 d2 d3 d13 d14 d15 d16 res h
  unfold f_L_law_186 at h
  refine OEndsQ.adv hm_0 3 (pc' := 192) (L' := [.unset, .unset, .unset, .unset, .val (.int v4), .val (.int v5), .val (.int v6), .val (.int v7), .val (.int v8), .val (.ref 0), .val (.int v10), .val (.int v11), .val (.int v12), .val (.int t0), .unset, .unset, .unset]) (S' := [.int v6, .int v12]) (H' := (bk0 n0_kwChars n0_kwLen n0_kwRepl n0_pend n0_child n0_delta n0_fail n0_depth n0_term n0_outMask n0_queue n0_text n0_masks n0_out n0_tail n0_maxKw n0_maxLen n0_phaseNow n0_count n0_pendLen n0_nodeCount n0_longestKw n0_n n0_state n0_total n0_outLen n0_commitPos n0_tailLen [])) rfl ?_
  by_cases hc144 : v12 = v6
  · simp only [if_pos hc144] at h
    refine OEndsQ.icmpF hm_0 rfl ((teq hc144).2) ?_
    refine OEndsQ.adv hm_0 2 (pc' := 200) (L' := [.unset, .unset, .unset, .unset, .val (.int v4), .val (.int v5), .val (.int v6), .val (.int v7), .val (.int v8), .val (.ref 0), .val (.int v10), .val (.int v11), .val (.int v12), .val (.int t0), .unset, .unset, .unset]) (S' := [.int 1]) (H' := (bk0 n0_kwChars n0_kwLen n0_kwRepl n0_pend n0_child n0_delta n0_fail n0_depth n0_term n0_outMask n0_queue n0_text n0_masks n0_out n0_tail n0_maxKw n0_maxLen n0_phaseNow n0_count n0_pendLen n0_nodeCount n0_longestKw n0_n n0_state n0_total n0_outLen n0_commitPos n0_tailLen [])) rfl ?_
    exact ok_L_law_200 hkb hk285 h
  · simp only [if_neg hc144] at h
    refine OEndsQ.icmpT hm_0 rfl (q := 199) rfl ((feq hc144).2) ?_
    refine OEndsQ.adv hm_0 1 (pc' := 200) (L' := [.unset, .unset, .unset, .unset, .val (.int v4), .val (.int v5), .val (.int v6), .val (.int v7), .val (.int v8), .val (.ref 0), .val (.int v10), .val (.int v11), .val (.int v12), .val (.int t0), .unset, .unset, .unset]) (S' := [.int 0]) (H' := (bk0 n0_kwChars n0_kwLen n0_kwRepl n0_pend n0_child n0_delta n0_fail n0_depth n0_term n0_outMask n0_queue n0_text n0_masks n0_out n0_tail n0_maxKw n0_maxLen n0_phaseNow n0_count n0_pendLen n0_nodeCount n0_longestKw n0_n n0_state n0_total n0_outLen n0_commitPos n0_tailLen [])) rfl ?_
    exact ok_L_law_200 hkb hk285 h
theorem ok_L_law_139 {k285 : List Int32 → List Int32 → List Int32 → Int32 → Int32 → Int32 → Int32 → Int32 → Int32 → Int32 → Int32 → Int32 → Int32 → Int32 → Option (Int32)} (hk285 : ∀ {n0_depth : List Int32} {n0_out : List Int32} {n0_tail : List Int32} {n0_n : Int32} {n0_state : Int32} {n0_total : Int32} {n0_outLen : Int32} {n0_tailLen : Int32} {v4 : Int32} {v5 : Int32} {v6 : Int32} {v7 : Int32} {v8 : Int32} {v10 : Int32} {n0_maxKw : Int32} {n0_maxLen : Int32} {n0_phaseNow : Int32} {n0_count : Int32} {n0_pendLen : Int32} {n0_nodeCount : Int32} {n0_longestKw : Int32} {n0_commitPos : Int32} {n0_kwChars : List Int32} {n0_kwLen : List Int32} {n0_kwRepl : List Int32} {n0_pend : List Int32} {n0_child : List Int32} {n0_delta : List Int32} {n0_fail : List Int32} {n0_term : List Int32} {n0_outMask : List Int32} {n0_queue : List Int32} {n0_text : List Int32} {n0_masks : List Int32} {d0 d1 d2 d3 d11 d12 d13 d14 d15 d16 : Slot} {res : Int32}, k285 n0_depth n0_out n0_tail n0_n n0_state n0_total n0_outLen n0_tailLen v4 v5 v6 v7 v8 v10 = some res → OEndsQ own_P 0 285 [d0, d1, d2, d3, .val (.int v4), .val (.int v5), .val (.int v6), .val (.int v7), .val (.int v8), .val (.ref 0), .val (.int v10), d11, d12, d13, d14, d15, d16] [] (bk0 n0_kwChars n0_kwLen n0_kwRepl n0_pend n0_child n0_delta n0_fail n0_depth n0_term n0_outMask n0_queue n0_text n0_masks n0_out n0_tail n0_maxKw n0_maxLen n0_phaseNow n0_count n0_pendLen n0_nodeCount n0_longestKw n0_n n0_state n0_total n0_outLen n0_commitPos n0_tailLen []) (LawQ res 0 0)) : ∀ (n : Nat), ∀ {n0_kwLen : List Int32} {n0_kwRepl : List Int32} {n0_child : List Int32} {n0_delta : List Int32} {n0_depth : List Int32} {n0_term : List Int32} {n0_outMask : List Int32} {n0_text : List Int32} {n0_masks : List Int32} {n0_out : List Int32} {n0_tail : List Int32} {n0_phaseNow : Int32} {n0_longestKw : Int32} {n0_n : Int32} {n0_state : Int32} {n0_total : Int32} {n0_outLen : Int32} {n0_commitPos : Int32} {n0_tailLen : Int32} {v4 : Int32} {v5 : Int32} {v6 : Int32} {v7 : Int32} {v8 : Int32} {v10 : Int32} {v11 : Int32} {n0_maxKw : Int32} {n0_maxLen : Int32} {n0_count : Int32} {n0_pendLen : Int32} {n0_nodeCount : Int32} {n0_kwChars : List Int32} {n0_pend : List Int32} {n0_fail : List Int32} {n0_queue : List Int32} {d0 d1 d2 d3 d12 d13 d14 d15 d16 : Slot} {res : Int32}, f_L_law_139 k285 n n0_kwLen n0_kwRepl n0_child n0_delta n0_depth n0_term n0_outMask n0_text n0_masks n0_out n0_tail n0_phaseNow n0_longestKw n0_n n0_state n0_total n0_outLen n0_commitPos n0_tailLen v4 v5 v6 v7 v8 v10 v11 = some res → OEndsQ own_P 0 139 [d0, d1, d2, d3, .val (.int v4), .val (.int v5), .val (.int v6), .val (.int v7), .val (.int v8), .val (.ref 0), .val (.int v10), .val (.int v11), d12, d13, d14, d15, d16] [] (bk0 n0_kwChars n0_kwLen n0_kwRepl n0_pend n0_child n0_delta n0_fail n0_depth n0_term n0_outMask n0_queue n0_text n0_masks n0_out n0_tail n0_maxKw n0_maxLen n0_phaseNow n0_count n0_pendLen n0_nodeCount n0_longestKw n0_n n0_state n0_total n0_outLen n0_commitPos n0_tailLen []) (LawQ res 0 0) := by
  intro n
  induction n with
  | zero => intro n0_kwLen n0_kwRepl n0_child n0_delta n0_depth n0_term n0_outMask n0_text n0_masks n0_out n0_tail n0_phaseNow n0_longestKw n0_n n0_state n0_total n0_outLen n0_commitPos n0_tailLen v4 v5 v6 v7 v8 v10 v11 n0_maxKw n0_maxLen n0_count n0_pendLen n0_nodeCount n0_kwChars n0_pend n0_fail n0_queue d0 d1 d2 d3 d12 d13 d14 d15 d16 res h; cases h
  | succ n ih =>
    intro n0_kwLen n0_kwRepl n0_child n0_delta n0_depth n0_term n0_outMask n0_text n0_masks n0_out n0_tail n0_phaseNow n0_longestKw n0_n n0_state n0_total n0_outLen n0_commitPos n0_tailLen v4 v5 v6 v7 v8 v10 v11 n0_maxKw n0_maxLen n0_count n0_pendLen n0_nodeCount n0_kwChars n0_pend n0_fail n0_queue d0 d1 d2 d3 d12 d13 d14 d15 d16 res h
    unfold f_L_law_139 at h
    refine OEndsQ.adv hm_0 2 (pc' := 142) (L' := [.unset, .unset, .unset, .unset, .val (.int v4), .val (.int v5), .val (.int v6), .val (.int v7), .val (.int v8), .val (.ref 0), .val (.int v10), .val (.int v11), .unset, .unset, .unset, .unset, .unset]) (S' := [.int 4, .int v11]) (H' := (bk0 n0_kwChars n0_kwLen n0_kwRepl n0_pend n0_child n0_delta n0_fail n0_depth n0_term n0_outMask n0_queue n0_text n0_masks n0_out n0_tail n0_maxKw n0_maxLen n0_phaseNow n0_count n0_pendLen n0_nodeCount n0_longestKw n0_n n0_state n0_total n0_outLen n0_commitPos n0_tailLen [])) rfl ?_
    by_cases hc145 : v11 < (4 : Int32)
    · simp only [if_pos hc145] at h
      refine OEndsQ.icmpF hm_0 rfl ((tlt hc145).2.1) ?_
      refine OEndsQ.adv hm_0 2 (pc' := 149) (L' := [.unset, .unset, .unset, .unset, .val (.int v4), .val (.int v5), .val (.int v6), .val (.int v7), .val (.int v8), .val (.ref 0), .val (.int v10), .val (.int v11), .unset, .unset, .unset, .unset, .unset]) (S' := [.int v11, .int v4]) (H' := (bk0 n0_kwChars n0_kwLen n0_kwRepl n0_pend n0_child n0_delta n0_fail n0_depth n0_term n0_outMask n0_queue n0_text n0_masks n0_out n0_tail n0_maxKw n0_maxLen n0_phaseNow n0_count n0_pendLen n0_nodeCount n0_longestKw n0_n n0_state n0_total n0_outLen n0_commitPos n0_tailLen [])) rfl ?_
      obtain ⟨r182, hq146, h⟩ := bnd h
      refine OEndsQ.call0 hm_0 rfl rfl (by decide) rfl (as := [.int v4, .int v11]) (rest := []) rfl rfl (ok_L_tc hq146) ?_
      refine OEndsQ.adv hm_0 3 (pc' := 157) (L' := [.unset, .unset, .unset, .unset, .val (.int v4), .val (.int v5), .val (.int v6), .val (.int v7), .val (.int v8), .val (.ref 0), .val (.int v10), .val (.int v11), .val (.int r182), .unset, .unset, .unset, .unset]) (S' := [.int 1, .int v11]) (H' := (bk0 n0_kwChars n0_kwLen n0_kwRepl n0_pend n0_child n0_delta n0_fail n0_depth n0_term n0_outMask n0_queue n0_text n0_masks n0_out n0_tail n0_maxKw n0_maxLen n0_phaseNow n0_count n0_pendLen n0_nodeCount n0_longestKw n0_n n0_state n0_total n0_outLen n0_commitPos n0_tailLen [])) rfl ?_
      by_cases hc147 : v11 < (1 : Int32)
      · simp only [if_pos hc147] at h
        refine OEndsQ.icmpT hm_0 rfl (q := 185) rfl ((tlt hc147).1) ?_
        refine OEndsQ.adv hm_0 1 (pc' := 186) (L' := [.unset, .unset, .unset, .unset, .val (.int v4), .val (.int v5), .val (.int v6), .val (.int v7), .val (.int v8), .val (.ref 0), .val (.int v10), .val (.int v11), .val (.int r182), .unset, .unset, .unset, .unset]) (S' := [.int 0]) (H' := (bk0 n0_kwChars n0_kwLen n0_kwRepl n0_pend n0_child n0_delta n0_fail n0_depth n0_term n0_outMask n0_queue n0_text n0_masks n0_out n0_tail n0_maxKw n0_maxLen n0_phaseNow n0_count n0_pendLen n0_nodeCount n0_longestKw n0_n n0_state n0_total n0_outLen n0_commitPos n0_tailLen [])) rfl ?_
        exact ok_L_law_186 ih hk285 h
      · simp only [if_neg hc147] at h
        refine OEndsQ.icmpF hm_0 rfl ((flt hc147).1) ?_
        refine OEndsQ.adv hm_0 4 (pc' := 166) (L' := [.unset, .unset, .unset, .unset, .val (.int v4), .val (.int v5), .val (.int v6), .val (.int v7), .val (.int v8), .val (.ref 0), .val (.int v10), .val (.int v11), .val (.int r182), .unset, .unset, .unset, .unset]) (S' := [.int (v11 - (1 : Int32)), .int v4]) (H' := (bk0 n0_kwChars n0_kwLen n0_kwRepl n0_pend n0_child n0_delta n0_fail n0_depth n0_term n0_outMask n0_queue n0_text n0_masks n0_out n0_tail n0_maxKw n0_maxLen n0_phaseNow n0_count n0_pendLen n0_nodeCount n0_longestKw n0_n n0_state n0_total n0_outLen n0_commitPos n0_tailLen [])) rfl ?_
        obtain ⟨r183, hq148, h⟩ := bnd h
        refine OEndsQ.call0 hm_0 rfl rfl (by decide) rfl (as := [.int v4, .int (v11 - (1 : Int32))]) (rest := []) rfl rfl (ok_L_tc hq148) ?_
        refine OEndsQ.adv hm_0 1 (pc' := 171) (L' := [.unset, .unset, .unset, .unset, .val (.int v4), .val (.int v5), .val (.int v6), .val (.int v7), .val (.int v8), .val (.ref 0), .val (.int v10), .val (.int v11), .val (.int r182), .unset, .unset, .unset, .unset]) (S' := [.int v5, .int r183]) (H' := (bk0 n0_kwChars n0_kwLen n0_kwRepl n0_pend n0_child n0_delta n0_fail n0_depth n0_term n0_outMask n0_queue n0_text n0_masks n0_out n0_tail n0_maxKw n0_maxLen n0_phaseNow n0_count n0_pendLen n0_nodeCount n0_longestKw n0_n n0_state n0_total n0_outLen n0_commitPos n0_tailLen [])) rfl ?_
        by_cases hc149 : r183 = v5
        · simp only [if_pos hc149] at h
          refine OEndsQ.icmpF hm_0 rfl ((teq hc149).2) ?_
          refine OEndsQ.adv hm_0 2 (pc' := 178) (L' := [.unset, .unset, .unset, .unset, .val (.int v4), .val (.int v5), .val (.int v6), .val (.int v7), .val (.int v8), .val (.ref 0), .val (.int v10), .val (.int v11), .val (.int r182), .unset, .unset, .unset, .unset]) (S' := [.int v6, .int r182]) (H' := (bk0 n0_kwChars n0_kwLen n0_kwRepl n0_pend n0_child n0_delta n0_fail n0_depth n0_term n0_outMask n0_queue n0_text n0_masks n0_out n0_tail n0_maxKw n0_maxLen n0_phaseNow n0_count n0_pendLen n0_nodeCount n0_longestKw n0_n n0_state n0_total n0_outLen n0_commitPos n0_tailLen [])) rfl ?_
          by_cases hc150 : r182 = v6
          · simp only [if_pos hc150] at h
            refine OEndsQ.icmpF hm_0 rfl ((teq hc150).2) ?_
            refine OEndsQ.adv hm_0 2 (pc' := 186) (L' := [.unset, .unset, .unset, .unset, .val (.int v4), .val (.int v5), .val (.int v6), .val (.int v7), .val (.int v8), .val (.ref 0), .val (.int v10), .val (.int v11), .val (.int r182), .unset, .unset, .unset, .unset]) (S' := [.int 1]) (H' := (bk0 n0_kwChars n0_kwLen n0_kwRepl n0_pend n0_child n0_delta n0_fail n0_depth n0_term n0_outMask n0_queue n0_text n0_masks n0_out n0_tail n0_maxKw n0_maxLen n0_phaseNow n0_count n0_pendLen n0_nodeCount n0_longestKw n0_n n0_state n0_total n0_outLen n0_commitPos n0_tailLen [])) rfl ?_
            exact ok_L_law_186 ih hk285 h
          · simp only [if_neg hc150] at h
            refine OEndsQ.icmpT hm_0 rfl (q := 185) rfl ((feq hc150).2) ?_
            refine OEndsQ.adv hm_0 1 (pc' := 186) (L' := [.unset, .unset, .unset, .unset, .val (.int v4), .val (.int v5), .val (.int v6), .val (.int v7), .val (.int v8), .val (.ref 0), .val (.int v10), .val (.int v11), .val (.int r182), .unset, .unset, .unset, .unset]) (S' := [.int 0]) (H' := (bk0 n0_kwChars n0_kwLen n0_kwRepl n0_pend n0_child n0_delta n0_fail n0_depth n0_term n0_outMask n0_queue n0_text n0_masks n0_out n0_tail n0_maxKw n0_maxLen n0_phaseNow n0_count n0_pendLen n0_nodeCount n0_longestKw n0_n n0_state n0_total n0_outLen n0_commitPos n0_tailLen [])) rfl ?_
            exact ok_L_law_186 ih hk285 h
        · simp only [if_neg hc149] at h
          refine OEndsQ.icmpT hm_0 rfl (q := 185) rfl ((feq hc149).2) ?_
          refine OEndsQ.adv hm_0 1 (pc' := 186) (L' := [.unset, .unset, .unset, .unset, .val (.int v4), .val (.int v5), .val (.int v6), .val (.int v7), .val (.int v8), .val (.ref 0), .val (.int v10), .val (.int v11), .val (.int r182), .unset, .unset, .unset, .unset]) (S' := [.int 0]) (H' := (bk0 n0_kwChars n0_kwLen n0_kwRepl n0_pend n0_child n0_delta n0_fail n0_depth n0_term n0_outMask n0_queue n0_text n0_masks n0_out n0_tail n0_maxKw n0_maxLen n0_phaseNow n0_count n0_pendLen n0_nodeCount n0_longestKw n0_n n0_state n0_total n0_outLen n0_commitPos n0_tailLen [])) rfl ?_
          exact ok_L_law_186 ih hk285 h
    · simp only [if_neg hc145] at h
      refine OEndsQ.icmpT hm_0 rfl (q := 285) rfl ((flt hc145).2.1) ?_
      show OEndsQ own_P 0 285 [.unset, .unset, .unset, .unset, .val (.int v4), .val (.int v5), .val (.int v6), .val (.int v7), .val (.int v8), .val (.ref 0), .val (.int v10), .val (.int v11), .unset, .unset, .unset, .unset, .unset] [] (bk0 n0_kwChars n0_kwLen n0_kwRepl n0_pend n0_child n0_delta n0_fail n0_depth n0_term n0_outMask n0_queue n0_text n0_masks n0_out n0_tail n0_maxKw n0_maxLen n0_phaseNow n0_count n0_pendLen n0_nodeCount n0_longestKw n0_n n0_state n0_total n0_outLen n0_commitPos n0_tailLen []) _
      exact hk285 h
theorem ok_L_law {v0 : Int32} {v1 : Int32} {v2 : Int32} {v3 : Int32} {v4 : Int32} {res : Int32} (h : f_L_law v0 v1 v2 v3 v4 = some res) : OEndsQ own_P 0 0 [.val (.int v0), .val (.int v1), .val (.int v2), .val (.int v3), .val (.int v4), .unset, .unset, .unset, .unset, .unset, .unset, .unset, .unset, .unset, .unset, .unset, .unset] [] [] (LawQ res 16 8277) := by
  unfold f_L_law at h
  refine OEndsQ.adv hm_0 26 (pc' := 36) (L' := [.val (.int v0), .val (.int v1), .val (.int v2), .val (.int v3), .val (.int v4), .val (.int ((97 : Int32) + (v1 &&& (3 : Int32)))), .val (.int ((97 : Int32) + (v2 &&& (3 : Int32)))), .val (.int ((65 : Int32) + (v3 &&& (7 : Int32)))), .val (.int ((73 : Int32) + ((v3 >>> ((3 : Int32) &&& 31)) &&& (7 : Int32)))), .unset, .unset, .unset, .unset, .unset, .unset, .unset, .unset]) (S' := []) (H' := []) rfl ?_
  refine OEndsQ.made hm_0 rfl rfl (ks := 28) (c0 := 15) (s0 := 8249) rfl (Nat.le_of_ble_eq_true rfl) (Nat.le_of_ble_eq_true rfl) ?_
  refine OEndsQ.adv hm_0 13 (pc' := 54) (L' := [.val (.int v0), .val (.int v1), .val (.int v2), .val (.int v3), .val (.int v4), .val (.int ((97 : Int32) + (v1 &&& (3 : Int32)))), .val (.int ((97 : Int32) + (v2 &&& (3 : Int32)))), .val (.int ((65 : Int32) + (v3 &&& (7 : Int32)))), .val (.int ((73 : Int32) + ((v3 >>> ((3 : Int32) &&& 31)) &&& (7 : Int32)))), .unset, .unset, .unset, .unset, .unset, .unset, .unset, .unset]) (S' := [.int ((2 : Int32) + ((v0 >>> ((4 : Int32) &&& 31)) &&& (7 : Int32))), .int ((2 : Int32) + (v0 &&& (15 : Int32))), .ref 0, .ref 0]) (H' := ((.inl (0, [.null, .null, .null, .null, .null, .null, .null, .null, .null, .null, .null, .null, .null, .null, .null, .int 0, .int 0, .int 0, .int 0, .int 0, .int 0, .int 0, .int 0, .int 0, .int 0, .int 0, .int 0, .int 0]) : ACell) :: [])) rfl ?_
  obtain ⟨⟨s116, s117, s118, s119, s120, s121, s122, s123, s124, s125, s126, s127, s128, s129, s130, s131, s132, s133, s134, s135, s136, s137, s138, s139, s140, s141, s142, s143⟩, hq151, h⟩ := bnd h
  refine OEndsQ.callN hm_0 rfl rfl (by decide) rfl (as := [.ref 0, .int ((2 : Int32) + (v0 &&& (15 : Int32))), .int ((2 : Int32) + ((v0 >>> ((4 : Int32) &&& 31)) &&& (7 : Int32)))]) (rest := [.ref 0]) rfl rfl (c0 := 0) (s0 := 0) (ok_init hq151) (Nat.le_of_ble_eq_true rfl) (Nat.le_of_ble_eq_true rfl) ?_
  refine OEndsQ.adv hm_0 3 (pc' := 63) (L' := [.val (.int v0), .val (.int v1), .val (.int v2), .val (.int v3), .val (.int v4), .val (.int ((97 : Int32) + (v1 &&& (3 : Int32)))), .val (.int ((97 : Int32) + (v2 &&& (3 : Int32)))), .val (.int ((65 : Int32) + (v3 &&& (7 : Int32)))), .val (.int ((73 : Int32) + ((v3 >>> ((3 : Int32) &&& 31)) &&& (7 : Int32)))), .val (.ref 0), .unset, .unset, .unset, .unset, .unset, .unset, .unset]) (S' := [.int ((97 : Int32) + (v1 &&& (3 : Int32))), .ref 0]) (H' := (bk0 s116 s117 s118 s119 s120 s121 s122 s123 s124 s125 s126 s127 s128 s129 s130 s131 s132 s133 s134 s135 s136 s137 s138 s139 s140 s141 s142 s143 [])) rfl ?_
  obtain ⟨⟨r144, s145, s146⟩, hq152, h⟩ := bnd h
  refine OEndsQ.call0 hm_0 rfl rfl (by decide) rfl (as := [.ref 0, .int ((97 : Int32) + (v1 &&& (3 : Int32)))]) (rest := []) rfl rfl (ok_addChar hq152) ?_
  refine OEndsQ.adv hm_0 1 (pc' := 67) (L' := [.val (.int v0), .val (.int v1), .val (.int v2), .val (.int v3), .val (.int v4), .val (.int ((97 : Int32) + (v1 &&& (3 : Int32)))), .val (.int ((97 : Int32) + (v2 &&& (3 : Int32)))), .val (.int ((65 : Int32) + (v3 &&& (7 : Int32)))), .val (.int ((73 : Int32) + ((v3 >>> ((3 : Int32) &&& 31)) &&& (7 : Int32)))), .val (.ref 0), .unset, .unset, .unset, .unset, .unset, .unset, .unset]) (S' := [.int 1, .int r144]) (H' := (bk0 s116 s117 s118 s145 s120 s121 s122 s123 s124 s125 s126 s127 s128 s129 s130 s131 s132 s133 s134 s146 s136 s137 s138 s139 s140 s141 s142 s143 [])) rfl ?_
  by_cases hc153 : r144 = (1 : Int32)
  · simp only [if_pos hc153] at h
    refine OEndsQ.icmpT hm_0 rfl (q := 72) rfl ((teq hc153).1) ?_
    refine OEndsQ.adv hm_0 2 (pc' := 76) (L' := [.val (.int v0), .val (.int v1), .val (.int v2), .val (.int v3), .val (.int v4), .val (.int ((97 : Int32) + (v1 &&& (3 : Int32)))), .val (.int ((97 : Int32) + (v2 &&& (3 : Int32)))), .val (.int ((65 : Int32) + (v3 &&& (7 : Int32)))), .val (.int ((73 : Int32) + ((v3 >>> ((3 : Int32) &&& 31)) &&& (7 : Int32)))), .val (.ref 0), .unset, .unset, .unset, .unset, .unset, .unset, .unset]) (S' := [.int ((97 : Int32) + (v2 &&& (3 : Int32))), .ref 0]) (H' := (bk0 s116 s117 s118 s145 s120 s121 s122 s123 s124 s125 s126 s127 s128 s129 s130 s131 s132 s133 s134 s146 s136 s137 s138 s139 s140 s141 s142 s143 [])) rfl ?_
    obtain ⟨⟨r147, s148, s149⟩, hq154, h⟩ := bnd h
    refine OEndsQ.call0 hm_0 rfl rfl (by decide) rfl (as := [.ref 0, .int ((97 : Int32) + (v2 &&& (3 : Int32)))]) (rest := []) rfl rfl (ok_addChar hq154) ?_
    refine OEndsQ.adv hm_0 1 (pc' := 80) (L' := [.val (.int v0), .val (.int v1), .val (.int v2), .val (.int v3), .val (.int v4), .val (.int ((97 : Int32) + (v1 &&& (3 : Int32)))), .val (.int ((97 : Int32) + (v2 &&& (3 : Int32)))), .val (.int ((65 : Int32) + (v3 &&& (7 : Int32)))), .val (.int ((73 : Int32) + ((v3 >>> ((3 : Int32) &&& 31)) &&& (7 : Int32)))), .val (.ref 0), .unset, .unset, .unset, .unset, .unset, .unset, .unset]) (S' := [.int 2, .int r147]) (H' := (bk0 s116 s117 s118 s148 s120 s121 s122 s123 s124 s125 s126 s127 s128 s129 s130 s131 s132 s133 s134 s149 s136 s137 s138 s139 s140 s141 s142 s143 [])) rfl ?_
    by_cases hc155 : r147 = (2 : Int32)
    · simp only [if_pos hc155] at h
      refine OEndsQ.icmpT hm_0 rfl (q := 85) rfl ((teq hc155).1) ?_
      refine OEndsQ.adv hm_0 2 (pc' := 89) (L' := [.val (.int v0), .val (.int v1), .val (.int v2), .val (.int v3), .val (.int v4), .val (.int ((97 : Int32) + (v1 &&& (3 : Int32)))), .val (.int ((97 : Int32) + (v2 &&& (3 : Int32)))), .val (.int ((65 : Int32) + (v3 &&& (7 : Int32)))), .val (.int ((73 : Int32) + ((v3 >>> ((3 : Int32) &&& 31)) &&& (7 : Int32)))), .val (.ref 0), .unset, .unset, .unset, .unset, .unset, .unset, .unset]) (S' := [.int ((65 : Int32) + (v3 &&& (7 : Int32))), .ref 0]) (H' := (bk0 s116 s117 s118 s148 s120 s121 s122 s123 s124 s125 s126 s127 s128 s129 s130 s131 s132 s133 s134 s149 s136 s137 s138 s139 s140 s141 s142 s143 [])) rfl ?_
      obtain ⟨⟨r150, s151, s152, s153, s154, s155⟩, hq156, h⟩ := bnd h
      refine OEndsQ.call0 hm_0 rfl rfl (by decide) rfl (as := [.ref 0, .int ((65 : Int32) + (v3 &&& (7 : Int32)))]) (rest := []) rfl rfl (ok_endKeyword hq156) ?_
      show OEndsQ own_P 0 92 [.val (.int v0), .val (.int v1), .val (.int v2), .val (.int v3), .val (.int v4), .val (.int ((97 : Int32) + (v1 &&& (3 : Int32)))), .val (.int ((97 : Int32) + (v2 &&& (3 : Int32)))), .val (.int ((65 : Int32) + (v3 &&& (7 : Int32)))), .val (.int ((73 : Int32) + ((v3 >>> ((3 : Int32) &&& 31)) &&& (7 : Int32)))), .val (.ref 0), .unset, .unset, .unset, .unset, .unset, .unset, .unset] [.int r150] (bk0 s151 s152 s153 s148 s120 s121 s122 s123 s124 s125 s126 s127 s128 s129 s130 s131 s132 s133 s154 s155 s136 s137 s138 s139 s140 s141 s142 s143 []) _
      by_cases hc157 : r150 = (0 : Int32)
      · simp only [if_pos hc157] at h
        refine OEndsQ.ifT hm_0 rfl (q := 97) rfl ((teq hc157).1) ?_
        refine OEndsQ.adv hm_0 2 (pc' := 101) (L' := [.val (.int v0), .val (.int v1), .val (.int v2), .val (.int v3), .val (.int v4), .val (.int ((97 : Int32) + (v1 &&& (3 : Int32)))), .val (.int ((97 : Int32) + (v2 &&& (3 : Int32)))), .val (.int ((65 : Int32) + (v3 &&& (7 : Int32)))), .val (.int ((73 : Int32) + ((v3 >>> ((3 : Int32) &&& 31)) &&& (7 : Int32)))), .val (.ref 0), .unset, .unset, .unset, .unset, .unset, .unset, .unset]) (S' := [.int ((97 : Int32) + (v2 &&& (3 : Int32))), .ref 0]) (H' := (bk0 s151 s152 s153 s148 s120 s121 s122 s123 s124 s125 s126 s127 s128 s129 s130 s131 s132 s133 s154 s155 s136 s137 s138 s139 s140 s141 s142 s143 [])) rfl ?_
        obtain ⟨⟨r156, s157, s158⟩, hq158, h⟩ := bnd h
        refine OEndsQ.call0 hm_0 rfl rfl (by decide) rfl (as := [.ref 0, .int ((97 : Int32) + (v2 &&& (3 : Int32)))]) (rest := []) rfl rfl (ok_addChar hq158) ?_
        refine OEndsQ.adv hm_0 1 (pc' := 105) (L' := [.val (.int v0), .val (.int v1), .val (.int v2), .val (.int v3), .val (.int v4), .val (.int ((97 : Int32) + (v1 &&& (3 : Int32)))), .val (.int ((97 : Int32) + (v2 &&& (3 : Int32)))), .val (.int ((65 : Int32) + (v3 &&& (7 : Int32)))), .val (.int ((73 : Int32) + ((v3 >>> ((3 : Int32) &&& 31)) &&& (7 : Int32)))), .val (.ref 0), .unset, .unset, .unset, .unset, .unset, .unset, .unset]) (S' := [.int 1, .int r156]) (H' := (bk0 s151 s152 s153 s157 s120 s121 s122 s123 s124 s125 s126 s127 s128 s129 s130 s131 s132 s133 s154 s158 s136 s137 s138 s139 s140 s141 s142 s143 [])) rfl ?_
        by_cases hc159 : r156 = (1 : Int32)
        · simp only [if_pos hc159] at h
          refine OEndsQ.icmpT hm_0 rfl (q := 110) rfl ((teq hc159).1) ?_
          refine OEndsQ.adv hm_0 2 (pc' := 114) (L' := [.val (.int v0), .val (.int v1), .val (.int v2), .val (.int v3), .val (.int v4), .val (.int ((97 : Int32) + (v1 &&& (3 : Int32)))), .val (.int ((97 : Int32) + (v2 &&& (3 : Int32)))), .val (.int ((65 : Int32) + (v3 &&& (7 : Int32)))), .val (.int ((73 : Int32) + ((v3 >>> ((3 : Int32) &&& 31)) &&& (7 : Int32)))), .val (.ref 0), .unset, .unset, .unset, .unset, .unset, .unset, .unset]) (S' := [.int ((73 : Int32) + ((v3 >>> ((3 : Int32) &&& 31)) &&& (7 : Int32))), .ref 0]) (H' := (bk0 s151 s152 s153 s157 s120 s121 s122 s123 s124 s125 s126 s127 s128 s129 s130 s131 s132 s133 s154 s158 s136 s137 s138 s139 s140 s141 s142 s143 [])) rfl ?_
          obtain ⟨⟨r159, s160, s161, s162, s163, s164⟩, hq160, h⟩ := bnd h
          refine OEndsQ.call0 hm_0 rfl rfl (by decide) rfl (as := [.ref 0, .int ((73 : Int32) + ((v3 >>> ((3 : Int32) &&& 31)) &&& (7 : Int32)))]) (rest := []) rfl rfl (ok_endKeyword hq160) ?_
          refine OEndsQ.adv hm_0 1 (pc' := 118) (L' := [.val (.int v0), .val (.int v1), .val (.int v2), .val (.int v3), .val (.int v4), .val (.int ((97 : Int32) + (v1 &&& (3 : Int32)))), .val (.int ((97 : Int32) + (v2 &&& (3 : Int32)))), .val (.int ((65 : Int32) + (v3 &&& (7 : Int32)))), .val (.int ((73 : Int32) + ((v3 >>> ((3 : Int32) &&& 31)) &&& (7 : Int32)))), .val (.ref 0), .unset, .unset, .unset, .unset, .unset, .unset, .unset]) (S' := [.int 1, .int r159]) (H' := (bk0 s160 s161 s162 s157 s120 s121 s122 s123 s124 s125 s126 s127 s128 s129 s130 s131 s132 s133 s163 s164 s136 s137 s138 s139 s140 s141 s142 s143 [])) rfl ?_
          by_cases hc161 : r159 = (1 : Int32)
          · simp only [if_pos hc161] at h
            refine OEndsQ.icmpT hm_0 rfl (q := 123) rfl ((teq hc161).1) ?_
            refine OEndsQ.adv hm_0 1 (pc' := 125) (L' := [.val (.int v0), .val (.int v1), .val (.int v2), .val (.int v3), .val (.int v4), .val (.int ((97 : Int32) + (v1 &&& (3 : Int32)))), .val (.int ((97 : Int32) + (v2 &&& (3 : Int32)))), .val (.int ((65 : Int32) + (v3 &&& (7 : Int32)))), .val (.int ((73 : Int32) + ((v3 >>> ((3 : Int32) &&& 31)) &&& (7 : Int32)))), .val (.ref 0), .unset, .unset, .unset, .unset, .unset, .unset, .unset]) (S' := [.ref 0]) (H' := (bk0 s160 s161 s162 s157 s120 s121 s122 s123 s124 s125 s126 s127 s128 s129 s130 s131 s132 s133 s163 s164 s136 s137 s138 s139 s140 s141 s142 s143 [])) rfl ?_
            obtain ⟨⟨r165, s166, s167, s168, s169, s170, s171, s172, s173, s174, s175, s176, s177, s178, s179, s180, s181⟩, hq162, h⟩ := bnd h
            refine OEndsQ.call0 hm_0 rfl rfl (by decide) rfl (as := [.ref 0]) (rest := []) rfl rfl (ok_build hq162) ?_
            show OEndsQ own_P 0 128 [.val (.int v0), .val (.int v1), .val (.int v2), .val (.int v3), .val (.int v4), .val (.int ((97 : Int32) + (v1 &&& (3 : Int32)))), .val (.int ((97 : Int32) + (v2 &&& (3 : Int32)))), .val (.int ((65 : Int32) + (v3 &&& (7 : Int32)))), .val (.int ((73 : Int32) + ((v3 >>> ((3 : Int32) &&& 31)) &&& (7 : Int32)))), .val (.ref 0), .unset, .unset, .unset, .unset, .unset, .unset, .unset] [.int r165] (bk0 s160 s161 s162 s157 s166 s167 s168 s169 s170 s171 s172 s127 s128 s129 s130 s131 s132 s173 s163 s164 s174 s175 s176 s177 s178 s179 s180 s181 []) _
            by_cases hc163 : r165 = (0 : Int32)
            · simp only [if_pos hc163] at h
              refine OEndsQ.ifT hm_0 rfl (q := 133) rfl ((teq hc163).1) ?_
              refine OEndsQ.adv hm_0 4 (pc' := 139) (L' := [.val (.int v0), .val (.int v1), .val (.int v2), .val (.int v3), .val (.int v4), .val (.int ((97 : Int32) + (v1 &&& (3 : Int32)))), .val (.int ((97 : Int32) + (v2 &&& (3 : Int32)))), .val (.int ((65 : Int32) + (v3 &&& (7 : Int32)))), .val (.int ((73 : Int32) + ((v3 >>> ((3 : Int32) &&& 31)) &&& (7 : Int32)))), .val (.ref 0), .val (.int 0), .val (.int 0), .unset, .unset, .unset, .unset, .unset]) (S' := []) (H' := (bk0 s160 s161 s162 s157 s166 s167 s168 s169 s170 s171 s172 s127 s128 s129 s130 s131 s132 s173 s163 s164 s174 s175 s176 s177 s178 s179 s180 s181 [])) rfl ?_
              exact ok_L_law_139 (k285 := f_L_law_285) ok_L_law_285 100000 h
            · simp only [if_neg hc163] at h
              refine OEndsQ.ifF hm_0 rfl ((feq hc163).1) ?_
              refine OEndsQ.adv hm_0 1 (pc' := 132) (L' := [.val (.int v0), .val (.int v1), .val (.int v2), .val (.int v3), .val (.int v4), .val (.int ((97 : Int32) + (v1 &&& (3 : Int32)))), .val (.int ((97 : Int32) + (v2 &&& (3 : Int32)))), .val (.int ((65 : Int32) + (v3 &&& (7 : Int32)))), .val (.int ((73 : Int32) + ((v3 >>> ((3 : Int32) &&& 31)) &&& (7 : Int32)))), .val (.ref 0), .unset, .unset, .unset, .unset, .unset, .unset, .unset]) (S' := [.int 0]) (H' := (bk0 s160 s161 s162 s157 s166 s167 s168 s169 s170 s171 s172 s127 s128 s129 s130 s131 s132 s173 s163 s164 s174 s175 s176 s177 s178 s179 s180 s181 [])) rfl ?_
              cases h
              exact OEndsQ.iret hm_0 rfl rfl
          · simp only [if_neg hc161] at h
            refine OEndsQ.icmpF hm_0 rfl ((feq hc161).1) ?_
            refine OEndsQ.adv hm_0 1 (pc' := 122) (L' := [.val (.int v0), .val (.int v1), .val (.int v2), .val (.int v3), .val (.int v4), .val (.int ((97 : Int32) + (v1 &&& (3 : Int32)))), .val (.int ((97 : Int32) + (v2 &&& (3 : Int32)))), .val (.int ((65 : Int32) + (v3 &&& (7 : Int32)))), .val (.int ((73 : Int32) + ((v3 >>> ((3 : Int32) &&& 31)) &&& (7 : Int32)))), .val (.ref 0), .unset, .unset, .unset, .unset, .unset, .unset, .unset]) (S' := [.int 0]) (H' := (bk0 s160 s161 s162 s157 s120 s121 s122 s123 s124 s125 s126 s127 s128 s129 s130 s131 s132 s133 s163 s164 s136 s137 s138 s139 s140 s141 s142 s143 [])) rfl ?_
            cases h
            exact OEndsQ.iret hm_0 rfl rfl
        · simp only [if_neg hc159] at h
          refine OEndsQ.icmpF hm_0 rfl ((feq hc159).1) ?_
          refine OEndsQ.adv hm_0 1 (pc' := 109) (L' := [.val (.int v0), .val (.int v1), .val (.int v2), .val (.int v3), .val (.int v4), .val (.int ((97 : Int32) + (v1 &&& (3 : Int32)))), .val (.int ((97 : Int32) + (v2 &&& (3 : Int32)))), .val (.int ((65 : Int32) + (v3 &&& (7 : Int32)))), .val (.int ((73 : Int32) + ((v3 >>> ((3 : Int32) &&& 31)) &&& (7 : Int32)))), .val (.ref 0), .unset, .unset, .unset, .unset, .unset, .unset, .unset]) (S' := [.int 0]) (H' := (bk0 s151 s152 s153 s157 s120 s121 s122 s123 s124 s125 s126 s127 s128 s129 s130 s131 s132 s133 s154 s158 s136 s137 s138 s139 s140 s141 s142 s143 [])) rfl ?_
          cases h
          exact OEndsQ.iret hm_0 rfl rfl
      · simp only [if_neg hc157] at h
        refine OEndsQ.ifF hm_0 rfl ((feq hc157).1) ?_
        refine OEndsQ.adv hm_0 1 (pc' := 96) (L' := [.val (.int v0), .val (.int v1), .val (.int v2), .val (.int v3), .val (.int v4), .val (.int ((97 : Int32) + (v1 &&& (3 : Int32)))), .val (.int ((97 : Int32) + (v2 &&& (3 : Int32)))), .val (.int ((65 : Int32) + (v3 &&& (7 : Int32)))), .val (.int ((73 : Int32) + ((v3 >>> ((3 : Int32) &&& 31)) &&& (7 : Int32)))), .val (.ref 0), .unset, .unset, .unset, .unset, .unset, .unset, .unset]) (S' := [.int 0]) (H' := (bk0 s151 s152 s153 s148 s120 s121 s122 s123 s124 s125 s126 s127 s128 s129 s130 s131 s132 s133 s154 s155 s136 s137 s138 s139 s140 s141 s142 s143 [])) rfl ?_
        cases h
        exact OEndsQ.iret hm_0 rfl rfl
    · simp only [if_neg hc155] at h
      refine OEndsQ.icmpF hm_0 rfl ((feq hc155).1) ?_
      refine OEndsQ.adv hm_0 1 (pc' := 84) (L' := [.val (.int v0), .val (.int v1), .val (.int v2), .val (.int v3), .val (.int v4), .val (.int ((97 : Int32) + (v1 &&& (3 : Int32)))), .val (.int ((97 : Int32) + (v2 &&& (3 : Int32)))), .val (.int ((65 : Int32) + (v3 &&& (7 : Int32)))), .val (.int ((73 : Int32) + ((v3 >>> ((3 : Int32) &&& 31)) &&& (7 : Int32)))), .val (.ref 0), .unset, .unset, .unset, .unset, .unset, .unset, .unset]) (S' := [.int 0]) (H' := (bk0 s116 s117 s118 s148 s120 s121 s122 s123 s124 s125 s126 s127 s128 s129 s130 s131 s132 s133 s134 s149 s136 s137 s138 s139 s140 s141 s142 s143 [])) rfl ?_
      cases h
      exact OEndsQ.iret hm_0 rfl rfl
  · simp only [if_neg hc153] at h
    refine OEndsQ.icmpF hm_0 rfl ((feq hc153).1) ?_
    refine OEndsQ.adv hm_0 1 (pc' := 71) (L' := [.val (.int v0), .val (.int v1), .val (.int v2), .val (.int v3), .val (.int v4), .val (.int ((97 : Int32) + (v1 &&& (3 : Int32)))), .val (.int ((97 : Int32) + (v2 &&& (3 : Int32)))), .val (.int ((65 : Int32) + (v3 &&& (7 : Int32)))), .val (.int ((73 : Int32) + ((v3 >>> ((3 : Int32) &&& 31)) &&& (7 : Int32)))), .val (.ref 0), .unset, .unset, .unset, .unset, .unset, .unset, .unset]) (S' := [.int 0]) (H' := (bk0 s116 s117 s118 s145 s120 s121 s122 s123 s124 s125 s126 s127 s128 s129 s130 s131 s132 s133 s134 s146 s136 s137 s138 s139 s140 s141 s142 s143 [])) rfl ?_
    cases h
    exact OEndsQ.iret hm_0 rfl rfl
theorem own_iL {α : Type} {Q : α → Prop} {a b : Int32} {x y : Option α} (h1 : a.toInt < b.toInt → Tot x Q) (h2 : b.toInt ≤ a.toInt → Tot y Q) : Tot (if a < b then x else y) Q :=
  Tot.ite (fun h => h1 (ilt.mp h)) (fun h => h2 (by rw [ilt] at h; omega))
theorem own_iE {α : Type} {Q : α → Prop} {a b : Int32} {x y : Option α} (h1 : a = b → Tot x Q) (h2 : ¬ a = b → Tot y Q) : Tot (if a = b then x else y) Q :=
  Tot.ite h1 h2
theorem own_p1 {a : Int32} (h : a.toInt < 2147483647) : (a + 1).toInt = a.toInt + 1 := by
  have e1 : (1 : Int32).toInt = 1 := rfl
  have := Int32.le_toInt a
  rw [iadd_i (by omega) (by omega), e1]
/-- a list of numbers in a range -/
def own_V (L : List Int32) (n : Nat) (lo hi : Int) : Prop := L.length = n ∧ ∀ j : Int32, 0 ≤ j.toInt → j.toInt < n → lo ≤ (gI L j).toInt ∧ (gI L j).toInt ≤ hi
theorem own_V.put {L : List Int32} {n : Nat} {lo hi : Int} (h : own_V L n lo hi) {k x : Int32} (k0 : 0 ≤ k.toInt) (k1 : k.toInt < n) (x0 : lo ≤ x.toInt) (x1 : x.toInt ≤ hi) : own_V (L.set k.toInt.toNat x) n lo hi := by
  refine ⟨by rw [List.length_set]; exact h.1, fun j j0 j1 => ?_⟩
  rw [gset k0 (by have := h.1; omega) j0]
  by_cases e : k = j
  · rw [if_pos e]; exact ⟨x0, x1⟩
  · rw [if_neg e]; exact h.2 j j0 j1
theorem own_V.rd {β : Type} {L : List Int32} {n : Nat} {lo hi : Int} (h : own_V L n lo hi) {k : Int32} {f : Int32 → Option β} {Q : β → Prop} (k0 : 0 ≤ k.toInt) (k1 : k.toInt < n) (g : ∀ x : Int32, x = gI L k → lo ≤ x.toInt → x.toInt ≤ hi → Tot (f x) Q) : Tot ((rdA L k).bind f) Q := by
  rw [rdg k0 (by have := h.1; omega), Option.bind_some]
  have r := h.2 k k0 k1
  exact g _ rfl r.1 r.2
theorem own_V.wr {β : Type} {L : List Int32} {n : Nat} {lo hi : Int} (h : own_V L n lo hi) {k x : Int32} {f : List Int32 → Option β} {Q : β → Prop} (k0 : 0 ≤ k.toInt) (k1 : k.toInt < n) (x0 : lo ≤ x.toInt) (x1 : x.toInt ≤ hi) (g : ∀ L' : List Int32, own_V L' n lo hi → Tot (f L') Q) : Tot ((wrA L k x).bind f) Q := by
  rw [wrA_in k0 (by have := h.1; omega), Option.bind_some]
  exact g _ (h.put k0 k1 x0 x1)
theorem own_any {L : List Int32} {n : Nat} (h : L.length = n) : own_V L n (-2147483648) 2147483647 :=
  ⟨h, fun j _ _ => ⟨by have := Int32.le_toInt (gI L j); omega, by have := Int32.toInt_lt (gI L j); omega⟩⟩
theorem own_ix26 {v c : Int32} (v0 : 0 ≤ v.toInt) (v1 : v.toInt ≤ 128) (c0 : 0 ≤ c.toInt) (c1 : c.toInt < 26) : (v * 26 + c).toInt = v.toInt * 26 + c.toInt := by
  have e26 : (26 : Int32).toInt = 26 := rfl
  have m : (v * 26).toInt = v.toInt * 26 := by rw [imul_i (by rw [e26]; omega) (by rw [e26]; omega), e26]
  rw [iadd_i (by omega) (by omega), m]
/-- the trie: what inserting leaves -/
def own_TR (r : List Int32 × List Int32 × List Int32 × List Int32 × Int32) : Prop := own_V r.1 3354 0 128 ∧ r.2.1.length = 129 ∧ own_V r.2.2.1 129 (-1) 15 ∧ r.2.2.2.1.length = 129 ∧ 1 ≤ r.2.2.2.2.toInt ∧ r.2.2.2.2.toInt ≤ 129
theorem own_insT {KC KL : List Int32} (lC : KC.length = 128) (hL : own_V KL 16 0 8) {v1 : Int32} (w0 : 0 ≤ v1.toInt) (w1 : v1.toInt < 16) : ∀ (f : Nat) (CH DP TM OM : List Int32) (nc v2 v4 : Int32), own_V CH 3354 0 128 → DP.length = 129 → own_V TM 129 (-1) 15 → OM.length = 129 → 1 ≤ nc.toInt → nc.toInt ≤ 129 → 0 ≤ v2.toInt → v2.toInt ≤ 128 → 0 ≤ v4.toInt → v4.toInt ≤ 8 → 8 - v4.toInt < f → Tot (f_insertKeyword_10 (f_insertKeyword_137 KC KL) KC KL f CH DP TM OM nc v1 v2 (v1 * 8) v4) own_TR := by
  intro f
  have e8 : (8 : Int32).toInt = 8 := rfl
  have e0 : (0 : Int32).toInt = 0 := rfl
  have e26 : (26 : Int32).toInt = 26 := rfl
  have e97 : (97 : Int32).toInt = 97 := rfl
  have e129 : (129 : Int32).toInt = 129 := rfl
  have b8 : (v1 * 8).toInt = v1.toInt * 8 := by rw [imul_i (by rw [e8]; omega) (by rw [e8]; omega), e8]
  have lL := hL.1
  induction f with
  | zero => intro CH DP TM OM nc v2 v4 _ _ _ _ _ _ _ _ a b c; exfalso; omega
  | succ f ih =>
    intro CH DP TM OM nc v2 v4 hC hD hT hO n1 n2 a0 a1 b0 b1 c
    have fin1 : Tot (f_insertKeyword_137 KC KL CH DP TM OM nc v1 v2) own_TR := by
      unfold f_insertKeyword_137
      refine hT.wr a0 (by omega) (by omega) (by omega) fun T' hT' => ?_
      rw [rdg a0 (by omega), Option.bind_some, wrA_in a0 (by omega), Option.bind_some]
      exact Tot.mk ⟨hC, hD, hT', by show (List.set _ _ _).length = 129; rw [List.length_set]; exact hO, n1, n2⟩
    have stop : Tot (some (CH, DP, TM, OM, nc)) own_TR := Tot.mk ⟨hC, hD, hT, hO, n1, n2⟩
    unfold f_insertKeyword_10
    rw [rdg w0 (by omega), Option.bind_some]
    refine own_iL (fun c1 => ?_) (fun _ => fin1)
    refine own_iL (fun c2 => ?_) (fun _ => fin1)
    have p4 := own_p1 (a := v4) (by omega)
    have ix : (v1 * 8 + v4).toInt = v1.toInt * 8 + v4.toInt := by rw [iadd_i (by omega) (by omega), b8]
    rw [rdg (by omega) (by omega), Option.bind_some]
    generalize gI KC (v1 * 8 + v4) - 97 = ch
    refine own_iL (fun _ => stop) (fun c3 => ?_)
    refine own_iL (fun c4 => ?_) (fun _ => stop)
    have jx := own_ix26 (v := v2) (c := ch) a0 a1 (by omega) (by omega)
    have i0 : 0 ≤ (v2 * 26 + ch).toInt := by omega
    have i1 : (v2 * 26 + ch).toInt < (3354 : Nat) := by omega
    refine hC.rd i0 i1 fun x27 _ x0 x1 => ?_
    refine own_iE (fun _ => ?_) (fun _ => ?_)
    · refine own_iL (fun c5 => ?_) (fun _ => stop)
      have pn := own_p1 (a := nc) (by omega)
      refine hC.wr i0 i1 (by omega) (by omega) fun C' hC' => ?_
      rw [rdg a0 (by omega), Option.bind_some, wrA_in (by omega) (by omega), Option.bind_some]
      unfold f_insertKeyword_123
      refine hC'.rd i0 i1 fun y _ y0 y1 => ?_
      exact ih _ _ _ _ _ _ _ hC' (by rw [List.length_set]; exact hD) hT hO (by omega) (by omega) y0 y1 (by omega) (by omega) (by omega)
    · unfold f_insertKeyword_123
      refine hC.rd i0 i1 fun y _ y0 y1 => ?_
      exact ih _ _ _ _ _ _ _ hC hD hT hO n1 n2 y0 y1 (by omega) (by omega) (by omega)
def own_TB (r : List Int32 × List Int32 × List Int32 × List Int32 × Int32 × Int32) : Prop := own_V r.1 3354 0 128 ∧ r.2.1.length = 129 ∧ own_V r.2.2.1 129 (-1) 15 ∧ r.2.2.2.1.length = 129 ∧ 1 ≤ r.2.2.2.2.2.toInt ∧ r.2.2.2.2.2.toInt ≤ 8
theorem own_btT {KC KL : List Int32} (lC : KC.length = 128) (hL : own_V KL 16 0 8) {ct : Int32} : ∀ (f : Nat) (CH DP TM OM : List Int32) (nc lk v1 : Int32), own_V CH 3354 0 128 → DP.length = 129 → own_V TM 129 (-1) 15 → OM.length = 129 → 1 ≤ nc.toInt → nc.toInt ≤ 129 → 1 ≤ lk.toInt → lk.toInt ≤ 8 → 0 ≤ v1.toInt → v1.toInt ≤ 16 → 16 - v1.toInt < f → Tot (f_buildTrie_12 KC KL ct f CH DP TM OM nc lk v1) own_TB := by
  intro f
  have e16 : (16 : Int32).toInt = 16 := rfl
  have e0 : (0 : Int32).toInt = 0 := rfl
  induction f with
  | zero => intro CH DP TM OM nc lk v1 _ _ _ _ _ _ _ _ a b c; exfalso; omega
  | succ f ih =>
    intro CH DP TM OM nc lk v1 hC hD hT hO n1 n2 k1 k2 a0 a1 c
    have stop : Tot (some (CH, DP, TM, OM, nc, lk)) own_TB := Tot.mk ⟨hC, hD, hT, hO, k1, k2⟩
    unfold f_buildTrie_12
    refine own_iL (fun c1 => ?_) (fun _ => stop)
    refine own_iL (fun c2 => ?_) (fun _ => stop)
    have p := own_p1 (a := v1) (by omega)
    unfold f_insertKeyword
    refine Tot.bind (own_insT lC hL a0 (by omega) 100000 CH DP TM OM nc 0 0 hC hD hT hO n1 n2 (by omega) (by omega) (by omega) (by omega) (by omega)) ?_
    rintro ⟨C', D', T', O', n'⟩ ⟨q1, q2, q3, q4, q5, q6⟩
    refine hL.rd a0 (by omega) fun x hx x0 x1 => ?_
    refine own_iL (fun c3 => ?_) (fun c3 => ?_)
    · refine hL.rd a0 (by omega) fun y ey y0 y1 => ?_
      have xy : y = x := by rw [hx, ey]
      rw [xy]
      exact ih _ _ _ _ _ _ _ q1 q2 q3 q4 q5 q6 (by omega) (by omega) (by omega) (by omega) (by omega)
    · exact ih _ _ _ _ _ _ _ q1 q2 q3 q4 q5 q6 k1 k2 (by omega) (by omega) (by omega)
/-- the links -/
def own_LK (r : List Int32 × List Int32 × List Int32 × List Int32) : Prop := own_V r.1 3354 0 128 ∧ own_V r.2.1 129 0 128 ∧ r.2.2.1.length = 129 ∧ own_V r.2.2.2 129 0 128
theorem own_ex58 {CH : List Int32} (hC : own_V CH 3354 0 128) {v1 v3 : Int32} (a0 : 0 ≤ v1.toInt) (a1 : v1.toInt ≤ 128) (b0 : 0 ≤ v3.toInt) (b1 : v3.toInt ≤ 128) : ∀ (f : Nat) (DE FA OM QU : List Int32) (v4 v5 : Int32), own_V DE 3354 0 128 → own_V FA 129 0 128 → OM.length = 129 → own_V QU 129 0 128 → 0 ≤ v4.toInt → v4.toInt ≤ 129 → 0 ≤ v5.toInt → v5.toInt ≤ 26 → 26 - v5.toInt < f → Tot (f_expandNode_58 CH f DE FA OM QU v1 v3 v4 v5) (fun r => own_LK r.2 ∧ 0 ≤ r.1.toInt ∧ r.1.toInt ≤ 129) := by
  intro f
  have e26 : (26 : Int32).toInt = 26 := rfl
  have e129 : (129 : Int32).toInt = 129 := rfl
  induction f with
  | zero => intro DE FA OM QU v4 v5 _ _ _ _ _ _ a b c; exfalso; omega
  | succ f ih =>
    intro DE FA OM QU v4 v5 hD hF hO hQ c0 c1 d0 d1 c
    unfold f_expandNode_58
    refine own_iL (fun g => ?_) (fun _ => Tot.mk ⟨⟨hD, hF, hO, hQ⟩, c0, c1⟩)
    have p5 := own_p1 (a := v5) (by omega)
    have j1 := own_ix26 (v := v1) (c := v5) a0 a1 d0 (by omega)
    have j3 := own_ix26 (v := v3) (c := v5) b0 b1 d0 (by omega)
    refine hC.rd (by omega) (by omega) fun u _ u0 u1 => ?_
    refine hD.rd (by omega) (by omega) fun w _ w0 w1 => ?_
    refine own_iE (fun _ => ?_) (fun _ => ?_)
    · refine hD.wr (by omega) (by omega) w0 w1 fun D' hD' => ?_
      exact ih _ _ _ _ _ _ hD' hF hO hQ c0 c1 (by omega) (by omega) (by omega)
    · refine hF.wr u0 (by omega) w0 w1 fun F' hF' => ?_
      refine hD.wr (by omega) (by omega) u0 u1 fun D' hD' => ?_
      refine own_iL (fun g4 => ?_) (fun _ => ?_)
      · have p4 := own_p1 (a := v4) (by omega)
        refine hQ.wr c0 (by omega) u0 u1 fun Q' hQ' => ?_
        exact ih _ _ _ _ _ _ hD' hF' hO hQ' (by omega) (by omega) (by omega) (by omega) (by omega)
      · exact ih _ _ _ _ _ _ hD' hF' hO hQ c0 c1 (by omega) (by omega) (by omega)
theorem own_exN {CH DE FA OM QU : List Int32} {v1 v2 : Int32} (hC : own_V CH 3354 0 128) (hD : own_V DE 3354 0 128) (hF : own_V FA 129 0 128) (hO : OM.length = 129) (hQ : own_V QU 129 0 128) (c0 : 0 ≤ v2.toInt) (c1 : v2.toInt ≤ 129) : Tot (f_expandNode CH DE FA OM QU v1 v2) (fun r => own_LK r.2 ∧ 0 ≤ r.1.toInt ∧ r.1.toInt ≤ 129) := by
  have e0 : (0 : Int32).toInt = 0 := rfl
  have e129 : (129 : Int32).toInt = 129 := rfl
  unfold f_expandNode
  refine own_iL (fun g1 => ?_) (fun _ => Tot.mk ⟨⟨hD, hF, hO, hQ⟩, c0, c1⟩)
  refine own_iL (fun g2 => ?_) (fun _ => Tot.mk ⟨⟨hD, hF, hO, hQ⟩, c0, c1⟩)
  refine hF.rd (by omega) (by omega) fun x _ x0 x1 => ?_
  have e : (if x < 0 then (0 : Int32) else (if x < 129 then x else 0)) = x := by
    rw [if_neg (by rw [ilt]; omega), if_pos (by rw [ilt]; omega)]
  rw [e]
  unfold f_expandNode_33
  rw [rdg (by omega) (by omega), Option.bind_some, rdg x0 (by omega), Option.bind_some, wrA_in (by omega) (by omega), Option.bind_some]
  exact own_ex58 hC (by omega) (by omega) x0 x1 100000 DE FA _ QU v2 0 hD hF (by rw [List.length_set]; exact hO) hQ c0 c1 (by omega) (by omega) (by omega)
theorem own_cl74 {CH : List Int32} (hC : own_V CH 3354 0 128) : ∀ (f : Nat) (DE FA OM QU : List Int32) (v1 v2 v3 : Int32), own_V DE 3354 0 128 → own_V FA 129 0 128 → OM.length = 129 → own_V QU 129 0 128 → 0 ≤ v1.toInt → v1.toInt ≤ v3.toInt → 0 ≤ v2.toInt → v2.toInt ≤ 129 → 0 ≤ v3.toInt → v3.toInt ≤ 129 → 129 - v3.toInt < f → Tot (f_computeLinks_74 CH f DE FA OM QU v1 v2 v3) own_LK := by
  intro f
  have e129 : (129 : Int32).toInt = 129 := rfl
  induction f with
  | zero => intro DE FA OM QU v1 v2 v3 _ _ _ _ _ _ _ _ a b c; exfalso; omega
  | succ f ih =>
    intro DE FA OM QU v1 v2 v3 hD hF hO hQ a0 a1 b0 b1 d0 d1 c
    unfold f_computeLinks_74
    refine own_iL (fun g => ?_) (fun _ => Tot.mk ⟨hD, hF, hO, hQ⟩)
    refine own_iL (fun g2 => ?_) (fun _ => Tot.mk ⟨hD, hF, hO, hQ⟩)
    have p1 := own_p1 (a := v1) (by omega)
    have p3 := own_p1 (a := v3) (by omega)
    refine hQ.rd a0 (by omega) fun x _ x0 x1 => ?_
    refine Tot.bind (own_exN (v1 := x) hC hD hF hO hQ b0 b1) ?_
    rintro ⟨r, D', F', O', Q'⟩ ⟨⟨q1, q2, q3, q4⟩, r0, r1⟩
    have r0' : 0 ≤ r.toInt := r0
    have r1' : r.toInt ≤ 129 := r1
    exact ih _ _ _ _ _ _ _ q1 q2 q3 q4 (by omega) (by omega) r0' r1' (by omega) (by omega) (by omega)
theorem own_cl13 {CH : List Int32} (hC : own_V CH 3354 0 128) : ∀ (f : Nat) (DE FA OM QU : List Int32) (v2 v3 : Int32), own_V DE 3354 0 128 → own_V FA 129 0 128 → OM.length = 129 → own_V QU 129 0 128 → 0 ≤ v2.toInt → v2.toInt ≤ v3.toInt → 0 ≤ v3.toInt → v3.toInt ≤ 26 → 26 - v3.toInt < f → Tot (f_computeLinks_13 (f_computeLinks_74 CH 100000) CH f DE FA OM QU 0 v2 v3) own_LK := by
  intro f
  have e0 : (0 : Int32).toInt = 0 := rfl
  have e26 : (26 : Int32).toInt = 26 := rfl
  have e129 : (129 : Int32).toInt = 129 := rfl
  induction f with
  | zero => intro DE FA OM QU v2 v3 _ _ _ _ _ _ a b c; exfalso; omega
  | succ f ih =>
    intro DE FA OM QU v2 v3 hD hF hO hQ b0 b1 d0 d1 c
    unfold f_computeLinks_13
    refine own_iL (fun g => ?_) (fun _ => own_cl74 hC 100000 DE FA OM QU 0 v2 0 hD hF hO hQ (by omega) (by omega) b0 (by omega) (by omega) (by omega) (by omega))
    have p3 := own_p1 (a := v3) (by omega)
    refine hC.rd d0 (by omega) fun x _ x0 x1 => ?_
    refine hD.wr d0 (by omega) x0 x1 fun D' hD' => ?_
    refine own_iE (fun _ => ih _ _ _ _ _ _ hD' hF hO hQ b0 (by omega) (by omega) (by omega) (by omega)) (fun _ => ?_)
    refine own_iL (fun g2 => ?_) (fun g2 => by omega)
    have p2 := own_p1 (a := v2) (by omega)
    refine hF.wr x0 (by omega) (by omega) (by omega) fun F' hF' => ?_
    refine hQ.wr b0 (by omega) x0 x1 fun Q' hQ' => ?_
    exact ih _ _ _ _ _ _ hD' hF' hO hQ' (by omega) (by omega) (by omega) (by omega) (by omega)
theorem own_clT {CH DE FA OM QU : List Int32} (hC : own_V CH 3354 0 128) (hD : own_V DE 3354 0 128) (hF : own_V FA 129 0 128) (hO : OM.length = 129) (hQ : own_V QU 129 0 128) : Tot (f_computeLinks CH DE FA OM QU) own_LK := by
  unfold f_computeLinks
  refine hF.wr (by decide) (by decide) (by decide) (by decide) fun F' hF' => ?_
  exact own_cl13 hC 100000 DE F' OM QU 0 0 hD hF' hO hQ (by decide) (by decide) (by decide) (by decide) (by decide)
/-! Feeding: two scanners that agree on what counts go on to agree -/
def own_ag (A B : List Int32) (n : Int32) : Prop := ∀ j : Int32, 0 ≤ j.toInt → j.toInt < n.toInt → gI A j = gI B j
theorem own_ag.put {A B : List Int32} {n x : Int32} {N : Nat} (h : own_ag A B n) (lA : A.length = N) (lB : B.length = N) (n0 : 0 ≤ n.toInt) (n1 : n.toInt < N) (hN : N ≤ 100000) : own_ag (A.set n.toInt.toNat x) (B.set n.toInt.toNat x) (n + 1) := by
  intro j j0 j1
  have p := own_p1 (a := n) (by omega)
  rw [gset n0 (by omega) j0, gset n0 (by omega) j0]
  by_cases e : n = j
  · rw [if_pos e, if_pos e]
  · rw [if_neg e, if_neg e]
    rw [ieq] at e
    exact h j j0 (by omega)
theorem own_let (c : Int32) : (f_isLetter c = some 0 ∧ ¬ (97 ≤ c.toInt ∧ c.toInt ≤ 122)) ∨ (f_isLetter c = some 1 ∧ 97 ≤ c.toInt ∧ c.toInt ≤ 122) := by
  have e97 : (97 : Int32).toInt = 97 := rfl
  have e122 : (122 : Int32).toInt = 122 := rfl
  unfold f_isLetter
  by_cases c1 : c < 97
  · rw [if_pos c1]; rw [ilt] at c1; exact Or.inl ⟨rfl, by omega⟩
  · by_cases c2 : 122 < c
    · rw [if_neg c1, if_pos c2]; rw [ilt] at c2; exact Or.inl ⟨rfl, by omega⟩
    · rw [if_neg c1, if_neg c2]; rw [ilt] at c1 c2; exact Or.inr ⟨rfl, by omega, by omega⟩
theorem own_pri (c : Int32) : (f_isPrintable c = some 0 ∧ ¬ (32 ≤ c.toInt ∧ c.toInt ≤ 126)) ∨ (f_isPrintable c = some 1 ∧ 32 ≤ c.toInt ∧ c.toInt ≤ 126) := by
  have e97 : (32 : Int32).toInt = 32 := rfl
  have e122 : (126 : Int32).toInt = 126 := rfl
  unfold f_isPrintable
  by_cases c1 : c < 32
  · rw [if_pos c1]; rw [ilt] at c1; exact Or.inl ⟨rfl, by omega⟩
  · by_cases c2 : 126 < c
    · rw [if_neg c1, if_pos c2]; rw [ilt] at c2; exact Or.inl ⟨rfl, by omega⟩
    · rw [if_neg c1, if_neg c2]; rw [ilt] at c1 c2; exact Or.inr ⟨rfl, by omega, by omega⟩
theorem own_laX {CH TM TA TB : List Int32} {n i : Int32} (hC : own_V CH 3354 0 128) (hT : own_V TM 129 (-1) 15) (lA : TA.length = 240) (lB : TB.length = 240) (n1 : n.toInt ≤ 240) (ag : own_ag TA TB n) (i0 : 0 ≤ i.toInt) (i1 : i.toInt ≤ 300) : ∀ (f : Nat) (v2 v3 v4 : Int32), -1 ≤ v2.toInt → v2.toInt ≤ 15 → 0 ≤ v3.toInt → v3.toInt ≤ 128 → 0 ≤ v4.toInt → v4.toInt ≤ 8 → 8 - v4.toInt < f → ∃ k : Int32, f_longestAt_7 CH TM TA n f i v2 v3 v4 = some k ∧ f_longestAt_7 CH TM TB n f i v2 v3 v4 = some k ∧ -1 ≤ k.toInt ∧ k.toInt ≤ 15 := by
  intro f
  have e0 : (0 : Int32).toInt = 0 := rfl
  have e8 : (8 : Int32).toInt = 8 := rfl
  have e97 : (97 : Int32).toInt = 97 := rfl
  have lC := hC.1
  have lT := hT.1
  induction f with
  | zero => intro v2 v3 v4 _ _ _ _ a b c; exfalso; omega
  | succ f ih =>
    intro v2 v3 v4 a0 a1 b0 b1 c0 c1 c
    unfold f_longestAt_7
    by_cases g : v4 < 8
    rotate_left
    · rw [if_neg g, if_neg g]; exact ⟨v2, rfl, rfl, a0, a1⟩
    rw [if_pos g, if_pos g]
    rw [ilt] at g
    have p4 := own_p1 (a := v4) (by omega)
    have iv : (i + v4).toInt = i.toInt + v4.toInt := iadd_i (by omega) (by omega)
    have g1 : ¬ i + v4 < 0 := by rw [ilt]; omega
    rw [if_neg g1, if_neg g1]
    by_cases g2 : i + v4 < n
    rotate_left
    · rw [if_neg g2, if_neg g2]; exact ⟨v2, rfl, rfl, a0, a1⟩
    rw [if_pos g2, if_pos g2]
    rw [ilt] at g2
    rw [rdg (by omega) (by omega), rdg (by omega) (by omega), Option.bind_some, Option.bind_some, ag (i + v4) (by omega) g2]
    generalize gI TB (i + v4) = ch
    rcases own_let ch with ⟨e, -⟩ | ⟨e, h1, h2⟩
    · rw [e, Option.bind_some, Option.bind_some, if_pos rfl]; exact ⟨v2, rfl, rfl, a0, a1⟩
    · rw [e, Option.bind_some, Option.bind_some, if_neg (by decide), if_neg (by decide)]
      have sc : (ch - 97).toInt = ch.toInt - 97 := by rw [isub_i (by omega) (by omega), e97]
      have jx := own_ix26 (v := v3) (c := ch - 97) b0 b1 (by omega) (by omega)
      have rx := hC.2 (v3 * 26 + (ch - 97)) (by omega) (by omega)
      rw [rdg (by omega) (by omega), Option.bind_some, Option.bind_some]
      generalize gI CH (v3 * 26 + (ch - 97)) = nx at rx
      by_cases z : nx = 0
      · rw [if_pos z, if_pos z]; exact ⟨v2, rfl, rfl, a0, a1⟩
      · rw [if_neg z, if_neg z]
        have rt := hT.2 nx (by omega) (by omega)
        rw [rdg (by omega) (by omega)]
        simp only [Option.bind_some]
        by_cases q : gI TM nx < 0
        · rw [if_pos q, if_pos q]
          exact ih _ _ _ a0 a1 rx.1 rx.2 (by omega) (by omega) (by omega)
        · rw [if_neg q, if_neg q]
          rw [ilt] at q
          exact ih _ _ _ (by omega) (by omega) rx.1 rx.2 (by omega) (by omega) (by omega)
theorem own_la {CH TM TA TB : List Int32} {n i : Int32} (hC : own_V CH 3354 0 128) (hT : own_V TM 129 (-1) 15) (lA : TA.length = 240) (lB : TB.length = 240) (n1 : n.toInt ≤ 240) (ag : own_ag TA TB n) (i0 : 0 ≤ i.toInt) (i1 : i.toInt ≤ 300) : ∃ k : Int32, f_longestAt CH TM TA n i = some k ∧ f_longestAt CH TM TB n i = some k ∧ -1 ≤ k.toInt ∧ k.toInt ≤ 15 := by
  unfold f_longestAt
  exact own_laX hC hT lA lB n1 ag i0 i1 100000 (-1) 0 0 (by decide) (by decide) (by decide) (by decide) (by decide) (by decide) (by decide)
theorem own_cr {KL KR CH TM TA TB : List Int32} {lk n : Int32} (hL : own_V KL 16 0 8) (lR : KR.length = 16) (hC : own_V CH 3354 0 128) (hT : own_V TM 129 (-1) 15) (lA : TA.length = 240) (lB : TB.length = 240) (n1 : n.toInt ≤ 240) (ag : own_ag TA TB n) : ∀ (f : Nat) (OA OB : List Int32) (ol cp v1 : Int32), OA.length = 240 → OB.length = 240 → own_ag OA OB ol → 0 ≤ ol.toInt → ol.toInt ≤ 240 → 0 ≤ cp.toInt → cp.toInt ≤ 248 → 0 ≤ v1.toInt → v1.toInt ≤ 240 → 240 - v1.toInt < f → ∃ (OA' OB' : List Int32) (ol' cp' : Int32), f_commitReady_2 KL KR CH TM TA lk n f OA ol cp v1 = some (OA', ol', cp') ∧ f_commitReady_2 KL KR CH TM TB lk n f OB ol cp v1 = some (OB', ol', cp') ∧ OA'.length = 240 ∧ OB'.length = 240 ∧ own_ag OA' OB' ol' ∧ 0 ≤ ol'.toInt ∧ ol'.toInt ≤ 240 ∧ 0 ≤ cp'.toInt ∧ cp'.toInt ≤ 248 := by
  intro f
  have e0 : (0 : Int32).toInt = 0 := rfl
  have e240 : (240 : Int32).toInt = 240 := rfl
  have lL := hL.1
  induction f with
  | zero => intro OA OB ol cp v1 _ _ _ _ _ _ _ a b c; exfalso; omega
  | succ f ih =>
    intro OA OB ol cp v1 l1 l2 ao o0 o1 c0 c1 d0 d1 c
    have stop : ∃ (OA' OB' : List Int32) (ol' cp' : Int32), some (OA, ol, cp) = some (OA', ol', cp') ∧ some (OB, ol, cp) = some (OB', ol', cp') ∧ OA'.length = 240 ∧ OB'.length = 240 ∧ own_ag OA' OB' ol' ∧ 0 ≤ ol'.toInt ∧ ol'.toInt ≤ 240 ∧ 0 ≤ cp'.toInt ∧ cp'.toInt ≤ 248 := ⟨OA, OB, ol, cp, rfl, rfl, l1, l2, ao, o0, o1, c0, c1⟩
    unfold f_commitReady_2
    by_cases g : v1 < 240
    rotate_left
    · rw [if_neg g, if_neg g]; exact stop
    rw [if_pos g, if_pos g]
    rw [ilt] at g
    have p1 := own_p1 (a := v1) (by omega)
    have g1 : ¬ cp < 0 := by rw [ilt]; omega
    rw [if_neg g1, if_neg g1]
    by_cases g2 : cp < n
    rotate_left
    · rw [if_neg g2, if_neg g2]; exact stop
    rw [if_pos g2, if_pos g2]
    rw [ilt] at g2
    by_cases g3 : n < cp + lk
    · rw [if_pos g3, if_pos g3]; exact stop
    rw [if_neg g3, if_neg g3]
    by_cases g4 : ol < 240
    rotate_left
    · rw [if_neg g4, if_neg g4]; exact stop
    rw [if_pos g4, if_pos g4]
    rw [ilt] at g4
    have po := own_p1 (a := ol) (by omega)
    have pc := own_p1 (a := cp) (by omega)
    obtain ⟨k, k1, k2, k3, k4⟩ := own_la hC hT lA lB n1 ag c0 (by omega)
    unfold f_commitOne f_commitOne_74
    rw [k1, k2, Option.bind_some, Option.bind_some]
    by_cases q : k < 0
    · rw [if_pos q, if_pos q, rdg c0 (by omega), rdg c0 (by omega), Option.bind_some, Option.bind_some, ag cp c0 g2, wrA_in o0 (by omega), wrA_in o0 (by omega), Option.bind_some, Option.bind_some, Option.bind_some, Option.bind_some]
      exact ih _ _ _ _ _ (by rw [List.length_set]; exact l1) (by rw [List.length_set]; exact l2) (ao.put l1 l2 o0 (by omega) (by omega)) (by omega) (by omega) (by omega) (by omega) (by omega) (by omega) (by omega)
    · rw [if_neg q, if_neg q]
      rw [ilt] at q
      have rl := hL.2 k (by omega) (by omega)
      have ak : (cp + gI KL k).toInt = cp.toInt + (gI KL k).toInt := iadd_i (by omega) (by omega)
      rw [rdg (by omega) (by omega), Option.bind_some, Option.bind_some, wrA_in o0 (by omega), wrA_in o0 (by omega), Option.bind_some, Option.bind_some, rdg (by omega) (by omega), Option.bind_some, Option.bind_some, Option.bind_some, Option.bind_some]
      exact ih _ _ _ _ _ (by rw [List.length_set]; exact l1) (by rw [List.length_set]; exact l2) (ao.put l1 l2 o0 (by omega) (by omega)) (by omega) (by omega) (by omega) (by omega) (by omega) (by omega) (by omega)
theorem own_rt {KL KR CH TM TA TB : List Int32} {n cp : Int32} (hL : own_V KL 16 0 8) (lR : KR.length = 16) (hC : own_V CH 3354 0 128) (hT : own_V TM 129 (-1) 15) (lA : TA.length = 240) (lB : TB.length = 240) (n1 : n.toInt ≤ 240) (ag : own_ag TA TB n) : ∀ (f : Nat) (LA LB : List Int32) (tn v1 v2 : Int32), LA.length = 8 → LB.length = 8 → own_ag LA LB tn → 0 ≤ tn.toInt → tn.toInt ≤ 8 → 0 ≤ v1.toInt → v1.toInt ≤ 248 → 0 ≤ v2.toInt → v2.toInt ≤ 8 → 8 - v2.toInt < f → ∃ (LA' LB' : List Int32) (tn' : Int32), f_rebuildTail_12 KL KR CH TM TA n cp f LA tn v1 v2 = some (LA', tn') ∧ f_rebuildTail_12 KL KR CH TM TB n cp f LB tn v1 v2 = some (LB', tn') ∧ LA'.length = 8 ∧ LB'.length = 8 ∧ own_ag LA' LB' tn' ∧ 0 ≤ tn'.toInt ∧ tn'.toInt ≤ 8 := by
  intro f
  have e0 : (0 : Int32).toInt = 0 := rfl
  have e8 : (8 : Int32).toInt = 8 := rfl
  have lL := hL.1
  induction f with
  | zero => intro LA LB tn v1 v2 _ _ _ _ _ _ _ a b c; exfalso; omega
  | succ f ih =>
    intro LA LB tn v1 v2 l1 l2 ao o0 o1 c0 c1 d0 d1 c
    have stop : ∃ (LA' LB' : List Int32) (tn' : Int32), some (LA, tn) = some (LA', tn') ∧ some (LB, tn) = some (LB', tn') ∧ LA'.length = 8 ∧ LB'.length = 8 ∧ own_ag LA' LB' tn' ∧ 0 ≤ tn'.toInt ∧ tn'.toInt ≤ 8 := ⟨LA, LB, tn, rfl, rfl, l1, l2, ao, o0, o1⟩
    unfold f_rebuildTail_12
    by_cases g : v2 < 8
    rotate_left
    · rw [if_neg g, if_neg g]; exact stop
    rw [if_pos g, if_pos g]
    rw [ilt] at g
    have p2 := own_p1 (a := v2) (by omega)
    have p1 := own_p1 (a := v1) (by omega)
    have g1 : ¬ v1 < 0 := by rw [ilt]; omega
    rw [if_neg g1, if_neg g1]
    by_cases g2 : v1 < n
    rotate_left
    · rw [if_neg g2, if_neg g2]; exact stop
    rw [if_pos g2, if_pos g2]
    rw [ilt] at g2
    by_cases g4 : tn < 8
    rotate_left
    · rw [if_neg g4, if_neg g4]; exact stop
    rw [if_pos g4, if_pos g4]
    rw [ilt] at g4
    have po := own_p1 (a := tn) (by omega)
    obtain ⟨k, k1, k2, k3, k4⟩ := own_la hC hT lA lB n1 ag c0 (by omega)
    rw [k1, k2, Option.bind_some, Option.bind_some]
    unfold f_rebuildTail_95
    by_cases q : k < 0
    · rw [if_pos q, if_pos q, rdg c0 (by omega), rdg c0 (by omega), Option.bind_some, Option.bind_some, ag v1 c0 g2, wrA_in o0 (by omega), wrA_in o0 (by omega), Option.bind_some, Option.bind_some]
      exact ih _ _ _ _ _ (by rw [List.length_set]; exact l1) (by rw [List.length_set]; exact l2) (ao.put l1 l2 o0 (by omega) (by omega)) (by omega) (by omega) (by omega) (by omega) (by omega) (by omega) (by omega)
    · rw [if_neg q, if_neg q]
      rw [ilt] at q
      have rl := hL.2 k (by omega) (by omega)
      have ak : (v1 + gI KL k).toInt = v1.toInt + (gI KL k).toInt := iadd_i (by omega) (by omega)
      rw [rdg (by omega) (by omega), Option.bind_some, Option.bind_some, wrA_in o0 (by omega), wrA_in o0 (by omega), Option.bind_some, Option.bind_some, rdg (by omega) (by omega), Option.bind_some, Option.bind_some]
      exact ih _ _ _ _ _ (by rw [List.length_set]; exact l1) (by rw [List.length_set]; exact l2) (ao.put l1 l2 o0 (by omega) (by omega)) (by omega) (by omega) (by omega) (by omega) (by omega) (by omega) (by omega)
theorem own_pc (m : Int32) : ∃ c : Int32, f_popCount m = some c ∧ 0 ≤ c.toInt ∧ c.toInt ≤ 16 := by
  have e1 : (1 : Int32).toInt = 1 := rfl
  have e16 : (16 : Int32).toInt = 16 := rfl
  have key : ∀ (f : Nat) (v2 v3 : Int32), 0 ≤ v2.toInt → v2.toInt ≤ v3.toInt → v3.toInt ≤ 16 → 16 - v3.toInt < f → ∃ c : Int32, f_popCount_4 f m v2 v3 = some c ∧ 0 ≤ c.toInt ∧ c.toInt ≤ 16 := by
    intro f
    induction f with
    | zero => intro v2 v3 a b d c; exfalso; omega
    | succ f ih =>
      intro v2 v3 a b d c
      unfold f_popCount_4
      by_cases g : v3 < 16
      · rw [if_pos g]
        rw [ilt] at g
        have p3 := own_p1 (a := v3) (by omega)
        have p2 := own_p1 (a := v2) (by omega)
        by_cases q : (m >>> (v3 &&& 31)) &&& 1 = 0
        · rw [if_pos q]; exact ih _ _ a (by omega) (by omega) (by omega)
        · rw [if_neg q]; exact ih _ _ (by omega) (by omega) (by omega) (by omega)
      · rw [if_neg g]
        exact ⟨v2, rfl, a, by omega⟩
  unfold f_popCount
  exact key 100000 0 0 (by decide) (by decide) (by decide) (by decide)
/-- what two scanners share -/
abbrev own_Rl (TA MA OA LA TB MB OB LB : List Int32) (n st ol cp tn : Int32) : Prop := (TA.length = 240) ∧ (MA.length = 240) ∧ (OA.length = 240) ∧ (LA.length = 8) ∧ (TB.length = 240) ∧ (MB.length = 240) ∧ (OB.length = 240) ∧ (LB.length = 8) ∧ (0 ≤ n.toInt) ∧ (n.toInt ≤ 240) ∧ (0 ≤ st.toInt) ∧ (st.toInt ≤ 128) ∧ (0 ≤ ol.toInt) ∧ (ol.toInt ≤ 240) ∧ (0 ≤ cp.toInt) ∧ (cp.toInt ≤ 248) ∧ (0 ≤ tn.toInt) ∧ (tn.toInt ≤ 8) ∧ (own_ag TA TB n) ∧ (own_ag MA MB n) ∧ (own_ag OA OB ol) ∧ (own_ag LA LB tn)
theorem own_Rl.a1 {TA MA OA LA TB MB OB LB : List Int32} {n st ol cp tn : Int32} (self : own_Rl TA MA OA LA TB MB OB LB n st ol cp tn) : TA.length = 240 := self.1
theorem own_Rl.a2 {TA MA OA LA TB MB OB LB : List Int32} {n st ol cp tn : Int32} (self : own_Rl TA MA OA LA TB MB OB LB n st ol cp tn) : MA.length = 240 := self.2.1
theorem own_Rl.a3 {TA MA OA LA TB MB OB LB : List Int32} {n st ol cp tn : Int32} (self : own_Rl TA MA OA LA TB MB OB LB n st ol cp tn) : OA.length = 240 := self.2.2.1
theorem own_Rl.a4 {TA MA OA LA TB MB OB LB : List Int32} {n st ol cp tn : Int32} (self : own_Rl TA MA OA LA TB MB OB LB n st ol cp tn) : LA.length = 8 := self.2.2.2.1
theorem own_Rl.b1 {TA MA OA LA TB MB OB LB : List Int32} {n st ol cp tn : Int32} (self : own_Rl TA MA OA LA TB MB OB LB n st ol cp tn) : TB.length = 240 := self.2.2.2.2.1
theorem own_Rl.b2 {TA MA OA LA TB MB OB LB : List Int32} {n st ol cp tn : Int32} (self : own_Rl TA MA OA LA TB MB OB LB n st ol cp tn) : MB.length = 240 := self.2.2.2.2.2.1
theorem own_Rl.b3 {TA MA OA LA TB MB OB LB : List Int32} {n st ol cp tn : Int32} (self : own_Rl TA MA OA LA TB MB OB LB n st ol cp tn) : OB.length = 240 := self.2.2.2.2.2.2.1
theorem own_Rl.b4 {TA MA OA LA TB MB OB LB : List Int32} {n st ol cp tn : Int32} (self : own_Rl TA MA OA LA TB MB OB LB n st ol cp tn) : LB.length = 8 := self.2.2.2.2.2.2.2.1
theorem own_Rl.n0 {TA MA OA LA TB MB OB LB : List Int32} {n st ol cp tn : Int32} (self : own_Rl TA MA OA LA TB MB OB LB n st ol cp tn) : 0 ≤ n.toInt := self.2.2.2.2.2.2.2.2.1
theorem own_Rl.n1 {TA MA OA LA TB MB OB LB : List Int32} {n st ol cp tn : Int32} (self : own_Rl TA MA OA LA TB MB OB LB n st ol cp tn) : n.toInt ≤ 240 := self.2.2.2.2.2.2.2.2.2.1
theorem own_Rl.s0 {TA MA OA LA TB MB OB LB : List Int32} {n st ol cp tn : Int32} (self : own_Rl TA MA OA LA TB MB OB LB n st ol cp tn) : 0 ≤ st.toInt := self.2.2.2.2.2.2.2.2.2.2.1
theorem own_Rl.s1 {TA MA OA LA TB MB OB LB : List Int32} {n st ol cp tn : Int32} (self : own_Rl TA MA OA LA TB MB OB LB n st ol cp tn) : st.toInt ≤ 128 := self.2.2.2.2.2.2.2.2.2.2.2.1
theorem own_Rl.o0 {TA MA OA LA TB MB OB LB : List Int32} {n st ol cp tn : Int32} (self : own_Rl TA MA OA LA TB MB OB LB n st ol cp tn) : 0 ≤ ol.toInt := self.2.2.2.2.2.2.2.2.2.2.2.2.1
theorem own_Rl.o1 {TA MA OA LA TB MB OB LB : List Int32} {n st ol cp tn : Int32} (self : own_Rl TA MA OA LA TB MB OB LB n st ol cp tn) : ol.toInt ≤ 240 := self.2.2.2.2.2.2.2.2.2.2.2.2.2.1
theorem own_Rl.c0 {TA MA OA LA TB MB OB LB : List Int32} {n st ol cp tn : Int32} (self : own_Rl TA MA OA LA TB MB OB LB n st ol cp tn) : 0 ≤ cp.toInt := self.2.2.2.2.2.2.2.2.2.2.2.2.2.2.1
theorem own_Rl.c1 {TA MA OA LA TB MB OB LB : List Int32} {n st ol cp tn : Int32} (self : own_Rl TA MA OA LA TB MB OB LB n st ol cp tn) : cp.toInt ≤ 248 := self.2.2.2.2.2.2.2.2.2.2.2.2.2.2.2.1
theorem own_Rl.t0 {TA MA OA LA TB MB OB LB : List Int32} {n st ol cp tn : Int32} (self : own_Rl TA MA OA LA TB MB OB LB n st ol cp tn) : 0 ≤ tn.toInt := self.2.2.2.2.2.2.2.2.2.2.2.2.2.2.2.2.1
theorem own_Rl.t1 {TA MA OA LA TB MB OB LB : List Int32} {n st ol cp tn : Int32} (self : own_Rl TA MA OA LA TB MB OB LB n st ol cp tn) : tn.toInt ≤ 8 := self.2.2.2.2.2.2.2.2.2.2.2.2.2.2.2.2.2.1
theorem own_Rl.tx {TA MA OA LA TB MB OB LB : List Int32} {n st ol cp tn : Int32} (self : own_Rl TA MA OA LA TB MB OB LB n st ol cp tn) : own_ag TA TB n := self.2.2.2.2.2.2.2.2.2.2.2.2.2.2.2.2.2.2.1
theorem own_Rl.ms {TA MA OA LA TB MB OB LB : List Int32} {n st ol cp tn : Int32} (self : own_Rl TA MA OA LA TB MB OB LB n st ol cp tn) : own_ag MA MB n := self.2.2.2.2.2.2.2.2.2.2.2.2.2.2.2.2.2.2.2.1
theorem own_Rl.ou {TA MA OA LA TB MB OB LB : List Int32} {n st ol cp tn : Int32} (self : own_Rl TA MA OA LA TB MB OB LB n st ol cp tn) : own_ag OA OB ol := self.2.2.2.2.2.2.2.2.2.2.2.2.2.2.2.2.2.2.2.2.1
theorem own_Rl.tl {TA MA OA LA TB MB OB LB : List Int32} {n st ol cp tn : Int32} (self : own_Rl TA MA OA LA TB MB OB LB n st ol cp tn) : own_ag LA LB tn := self.2.2.2.2.2.2.2.2.2.2.2.2.2.2.2.2.2.2.2.2.2
theorem own_feed {KL KR CH DE TM OM : List Int32} {lk : Int32} (hL : own_V KL 16 0 8) (lR : KR.length = 16) (hC : own_V CH 3354 0 128) (hD : own_V DE 3354 0 128) (hT : own_V TM 129 (-1) 15) (lO : OM.length = 129) {TA MA OA LA TB MB OB LB : List Int32} {n st to ol cp tn : Int32} (R : own_Rl TA MA OA LA TB MB OB LB n st ol cp tn) (v : Int32) :
    (∃ r : Int32, r.toInt < 0 ∧ f_feed KL KR CH DE TM OM 1 lk TA MA OA LA n st to ol cp tn v = some (r, TA, MA, OA, LA, n, st, to, ol, cp, tn) ∧ f_feed KL KR CH DE TM OM 1 lk TB MB OB LB n st to ol cp tn v = some (r, TB, MB, OB, LB, n, st, to, ol, cp, tn)) ∨
    (n.toInt < 240 ∧ ∃ (r : Int32) (MA' OA' LA' MB' OB' LB' : List Int32) (st' to' ol' cp' tn' : Int32), 0 ≤ r.toInt ∧ f_feed KL KR CH DE TM OM 1 lk TA MA OA LA n st to ol cp tn v = some (r, TA.set n.toInt.toNat v, MA', OA', LA', n + 1, st', to', ol', cp', tn') ∧ f_feed KL KR CH DE TM OM 1 lk TB MB OB LB n st to ol cp tn v = some (r, TB.set n.toInt.toNat v, MB', OB', LB', n + 1, st', to', ol', cp', tn') ∧ own_Rl (TA.set n.toInt.toNat v) MA' OA' LA' (TB.set n.toInt.toNat v) MB' OB' LB' (n + 1) st' ol' cp' tn') := by
  obtain ⟨a1, a2, a3, a4, b1, b2, b3, b4, n0, n1, s0, s1, o0, o1, c0, c1, t0, t1, tx, ms, ou, tl⟩ := R
  have e0 : (0 : Int32).toInt = 0 := rfl
  have e97 : (97 : Int32).toInt = 97 := rfl
  have e129 : (129 : Int32).toInt = 129 := rfl
  have e240 : (240 : Int32).toInt = 240 := rfl
  have lD := hD.1
  rcases own_pri v with ⟨e, -⟩ | ⟨e, p1, p2⟩
  · left
    refine ⟨-2, by decide, ?_, ?_⟩ <;> unfold f_feed <;> rw [if_pos rfl, e, Option.bind_some, if_pos rfl]
  by_cases g : n < 240
  rotate_left
  · left
    refine ⟨-3, by decide, ?_, ?_⟩ <;> unfold f_feed <;> rw [if_pos rfl, e, Option.bind_some, if_neg (by decide), if_neg g]
  right
  have g0 := g
  rw [ilt] at g
  refine ⟨by omega, ?_⟩
  have pn := own_p1 (a := n) (by omega)
  obtain ⟨s', es, q0, q1⟩ : ∃ s' : Int32, f_nextState DE st v = some s' ∧ 0 ≤ s'.toInt ∧ s'.toInt ≤ 128 := by
    unfold f_nextState
    rcases own_let v with ⟨e, -⟩ | ⟨e, h1, h2⟩
    · rw [e, Option.bind_some, if_pos rfl]; exact ⟨0, rfl, by decide, by decide⟩
    · have sc : (v - 97).toInt = v.toInt - 97 := by rw [isub_i (by omega) (by omega), e97]
      have jx := own_ix26 (v := st) (c := v - 97) s0 s1 (by omega) (by omega)
      have rx := hD.2 (st * 26 + (v - 97)) (by omega) (by omega)
      rw [e, Option.bind_some, if_neg (by decide), if_neg (by rw [ilt]; omega), if_pos (by rw [ilt]; omega), rdg (by omega) (by omega), Option.bind_some]
      exact ⟨_, rfl, rx.1, rx.2⟩
  obtain ⟨r, er, r0, r1⟩ := own_pc (gI OM s')
  have aT := tx.put (x := v) a1 b1 n0 (by omega) (by omega)
  have aM := ms.put (x := gI OM s') a2 b2 n0 (by omega) (by omega)
  have lTA : (TA.set n.toInt.toNat v).length = 240 := by rw [List.length_set]; exact a1
  have lTB : (TB.set n.toInt.toNat v).length = 240 := by rw [List.length_set]; exact b1
  obtain ⟨OA', OB', ol', cp', x1, x2, x3, x4, x5, x6, x7, x8, x9⟩ := own_cr (lk := lk) (n := n + 1) hL lR hC hT lTA lTB (by omega) aT 100000 OA OB ol cp 0 a3 b3 ou o0 o1 c0 c1 (by decide) (by decide) (by decide)
  obtain ⟨LA', LB', tn', y1, y2, y3, y4, y5, y6, y7⟩ := own_rt (n := n + 1) (cp := cp') hL lR hC hT lTA lTB (by omega) aT 100000 LA LB 0 cp' 0 a4 b4 (fun j j0 j1 => by omega) (by decide) (by decide) x8 x9 (by decide) (by decide) (by decide)
  refine ⟨r, MA.set n.toInt.toNat (gI OM s'), OA', LA', MB.set n.toInt.toNat (gI OM s'), OB', LB', s', to + r, ol', cp', tn', r0, ?_, ?_, lTA, by rw [List.length_set]; exact a2, x3, y3, lTB, by rw [List.length_set]; exact b2, x4, y4, by omega, by omega, q0, q1, x6, x7, x8, x9, y6, y7, aT, aM, x5, y5⟩
  · unfold f_feed f_commitReady f_rebuildTail
    rw [if_pos rfl, e, Option.bind_some, if_neg (by decide), if_pos g0, es, Option.bind_some, rdg q0 (by omega), Option.bind_some, wrA_in n0 (by omega), Option.bind_some, wrA_in n0 (by omega), Option.bind_some, er, Option.bind_some, x1, Option.bind_some]
    show Option.bind (f_rebuildTail_12 KL KR CH TM (TA.set n.toInt.toNat v) (n + 1) cp' 100000 LA 0 cp' 0) _ = _
    rw [y1, Option.bind_some]
  · unfold f_feed f_commitReady f_rebuildTail
    rw [if_pos rfl, e, Option.bind_some, if_neg (by decide), if_pos g0, es, Option.bind_some, rdg q0 (by omega), Option.bind_some, wrA_in n0 (by omega), Option.bind_some, wrA_in n0 (by omega), Option.bind_some, er, Option.bind_some, x2, Option.bind_some]
    show Option.bind (f_rebuildTail_12 KL KR CH TM (TB.set n.toInt.toNat v) (n + 1) cp' 100000 LB 0 cp' 0) _ = _
    rw [y2, Option.bind_some]
/-! the automata of the keywords xy, y, by evaluation (printed by gen196t.py) -/
def own_tb : Nat → List Int32 × List Int32 × List Int32 × List Int32 × List Int32
  | 0 => ([1, 0, 0, 0, 0, 0, 0, 0, 0, 0, 0, 0, 0, 0, 0, 0, 0, 0, 0, 0, 0, 0, 0, 0, 0, 0, 2, 0, 0, 0, 0, 0, 0, 0, 0, 0, 0, 0, 0, 0, 0, 0, 0, 0, 0, 0, 0, 0, 0, 0, 0, 0, 0, 0, 0, 0, 0, 0, 0, 0, 0, 0, 0, 0, 0, 0, 0, 0, 0, 0, 0, 0, 0, 0, 0, 0, 0, 0, 0, 0, 0, 0], [1, 0, 0, 0, 0, 0, 0, 0, 0, 0, 0, 0, 0, 0, 0, 0, 0, 0, 0, 0, 0, 0, 0, 0, 0, 0, 2, 0, 0, 0, 0, 0, 0, 0, 0, 0, 0, 0, 0, 0, 0, 0, 0, 0, 0, 0, 0, 0, 0, 0, 0, 0, 2, 0, 0, 0, 0, 0, 0, 0, 0, 0, 0, 0, 0, 0, 0, 0, 0, 0, 0, 0, 0, 0, 0, 0, 0, 0, 0, 0, 0, 0], [0, 1, 2, 0], [-1, 1, 0, -1], [0, 2, 3, 0])
  | 1 => ([1, 3, 0, 0, 0, 0, 0, 0, 0, 0, 0, 0, 0, 0, 0, 0, 0, 0, 0, 0, 0, 0, 0, 0, 0, 0, 0, 2, 0, 0, 0, 0, 0, 0, 0, 0, 0, 0, 0, 0, 0, 0, 0, 0, 0, 0, 0, 0, 0, 0, 0, 0, 0, 0, 0, 0, 0, 0, 0, 0, 0, 0, 0, 0, 0, 0, 0, 0, 0, 0, 0, 0, 0, 0, 0, 0, 0, 0, 0, 0, 0, 0], [1, 3, 0, 0, 0, 0, 0, 0, 0, 0, 0, 0, 0, 0, 0, 0, 0, 0, 0, 0, 0, 0, 0, 0, 0, 0, 1, 2, 0, 0, 0, 0, 0, 0, 0, 0, 0, 0, 0, 0, 0, 0, 0, 0, 0, 0, 0, 0, 0, 0, 0, 0, 1, 3, 0, 0, 0, 0, 0, 0, 0, 0, 0, 0, 0, 0, 0, 0, 0, 0, 0, 0, 0, 0, 0, 0, 0, 0, 1, 3, 0, 0], [0, 1, 2, 1], [-1, -1, 0, 1], [0, 0, 3, 2])
  | 2 => ([1, 0, 3, 0, 0, 0, 0, 0, 0, 0, 0, 0, 0, 0, 0, 0, 0, 0, 0, 0, 0, 0, 0, 0, 0, 0, 0, 0, 2, 0, 0, 0, 0, 0, 0, 0, 0, 0, 0, 0, 0, 0, 0, 0, 0, 0, 0, 0, 0, 0, 0, 0, 0, 0, 0, 0, 0, 0, 0, 0, 0, 0, 0, 0, 0, 0, 0, 0, 0, 0, 0, 0, 0, 0, 0, 0, 0, 0, 0, 0, 0, 0], [1, 0, 3, 0, 0, 0, 0, 0, 0, 0, 0, 0, 0, 0, 0, 0, 0, 0, 0, 0, 0, 0, 0, 0, 0, 0, 1, 0, 2, 0, 0, 0, 0, 0, 0, 0, 0, 0, 0, 0, 0, 0, 0, 0, 0, 0, 0, 0, 0, 0, 0, 0, 1, 0, 3, 0, 0, 0, 0, 0, 0, 0, 0, 0, 0, 0, 0, 0, 0, 0, 0, 0, 0, 0, 0, 0, 0, 0, 1, 0, 3, 0], [0, 1, 2, 1], [-1, -1, 0, 1], [0, 0, 3, 2])
  | 3 => ([1, 0, 0, 3, 0, 0, 0, 0, 0, 0, 0, 0, 0, 0, 0, 0, 0, 0, 0, 0, 0, 0, 0, 0, 0, 0, 0, 0, 0, 2, 0, 0, 0, 0, 0, 0, 0, 0, 0, 0, 0, 0, 0, 0, 0, 0, 0, 0, 0, 0, 0, 0, 0, 0, 0, 0, 0, 0, 0, 0, 0, 0, 0, 0, 0, 0, 0, 0, 0, 0, 0, 0, 0, 0, 0, 0, 0, 0, 0, 0, 0, 0], [1, 0, 0, 3, 0, 0, 0, 0, 0, 0, 0, 0, 0, 0, 0, 0, 0, 0, 0, 0, 0, 0, 0, 0, 0, 0, 1, 0, 0, 2, 0, 0, 0, 0, 0, 0, 0, 0, 0, 0, 0, 0, 0, 0, 0, 0, 0, 0, 0, 0, 0, 0, 1, 0, 0, 3, 0, 0, 0, 0, 0, 0, 0, 0, 0, 0, 0, 0, 0, 0, 0, 0, 0, 0, 0, 0, 0, 0, 1, 0, 0, 3], [0, 1, 2, 1], [-1, -1, 0, 1], [0, 0, 3, 2])
  | 4 => ([3, 1, 0, 0, 0, 0, 0, 0, 0, 0, 0, 0, 0, 0, 0, 0, 0, 0, 0, 0, 0, 0, 0, 0, 0, 0, 2, 0, 0, 0, 0, 0, 0, 0, 0, 0, 0, 0, 0, 0, 0, 0, 0, 0, 0, 0, 0, 0, 0, 0, 0, 0, 0, 0, 0, 0, 0, 0, 0, 0, 0, 0, 0, 0, 0, 0, 0, 0, 0, 0, 0, 0, 0, 0, 0, 0, 0, 0, 0, 0, 0, 0], [3, 1, 0, 0, 0, 0, 0, 0, 0, 0, 0, 0, 0, 0, 0, 0, 0, 0, 0, 0, 0, 0, 0, 0, 0, 0, 2, 1, 0, 0, 0, 0, 0, 0, 0, 0, 0, 0, 0, 0, 0, 0, 0, 0, 0, 0, 0, 0, 0, 0, 0, 0, 3, 1, 0, 0, 0, 0, 0, 0, 0, 0, 0, 0, 0, 0, 0, 0, 0, 0, 0, 0, 0, 0, 0, 0, 0, 0, 3, 1, 0, 0], [0, 1, 2, 1], [-1, -1, 0, 1], [0, 0, 3, 2])
  | 5 => ([0, 1, 0, 0, 0, 0, 0, 0, 0, 0, 0, 0, 0, 0, 0, 0, 0, 0, 0, 0, 0, 0, 0, 0, 0, 0, 0, 2, 0, 0, 0, 0, 0, 0, 0, 0, 0, 0, 0, 0, 0, 0, 0, 0, 0, 0, 0, 0, 0, 0, 0, 0, 0, 0, 0, 0, 0, 0, 0, 0, 0, 0, 0, 0, 0, 0, 0, 0, 0, 0, 0, 0, 0, 0, 0, 0, 0, 0, 0, 0, 0, 0], [0, 1, 0, 0, 0, 0, 0, 0, 0, 0, 0, 0, 0, 0, 0, 0, 0, 0, 0, 0, 0, 0, 0, 0, 0, 0, 0, 2, 0, 0, 0, 0, 0, 0, 0, 0, 0, 0, 0, 0, 0, 0, 0, 0, 0, 0, 0, 0, 0, 0, 0, 0, 0, 2, 0, 0, 0, 0, 0, 0, 0, 0, 0, 0, 0, 0, 0, 0, 0, 0, 0, 0, 0, 0, 0, 0, 0, 0, 0, 0, 0, 0], [0, 1, 2, 0], [-1, 1, 0, -1], [0, 2, 3, 0])
  | 6 => ([0, 1, 3, 0, 0, 0, 0, 0, 0, 0, 0, 0, 0, 0, 0, 0, 0, 0, 0, 0, 0, 0, 0, 0, 0, 0, 0, 0, 2, 0, 0, 0, 0, 0, 0, 0, 0, 0, 0, 0, 0, 0, 0, 0, 0, 0, 0, 0, 0, 0, 0, 0, 0, 0, 0, 0, 0, 0, 0, 0, 0, 0, 0, 0, 0, 0, 0, 0, 0, 0, 0, 0, 0, 0, 0, 0, 0, 0, 0, 0, 0, 0], [0, 1, 3, 0, 0, 0, 0, 0, 0, 0, 0, 0, 0, 0, 0, 0, 0, 0, 0, 0, 0, 0, 0, 0, 0, 0, 0, 1, 2, 0, 0, 0, 0, 0, 0, 0, 0, 0, 0, 0, 0, 0, 0, 0, 0, 0, 0, 0, 0, 0, 0, 0, 0, 1, 3, 0, 0, 0, 0, 0, 0, 0, 0, 0, 0, 0, 0, 0, 0, 0, 0, 0, 0, 0, 0, 0, 0, 0, 0, 1, 3, 0], [0, 1, 2, 1], [-1, -1, 0, 1], [0, 0, 3, 2])
  | 7 => ([0, 1, 0, 3, 0, 0, 0, 0, 0, 0, 0, 0, 0, 0, 0, 0, 0, 0, 0, 0, 0, 0, 0, 0, 0, 0, 0, 0, 0, 2, 0, 0, 0, 0, 0, 0, 0, 0, 0, 0, 0, 0, 0, 0, 0, 0, 0, 0, 0, 0, 0, 0, 0, 0, 0, 0, 0, 0, 0, 0, 0, 0, 0, 0, 0, 0, 0, 0, 0, 0, 0, 0, 0, 0, 0, 0, 0, 0, 0, 0, 0, 0], [0, 1, 0, 3, 0, 0, 0, 0, 0, 0, 0, 0, 0, 0, 0, 0, 0, 0, 0, 0, 0, 0, 0, 0, 0, 0, 0, 1, 0, 2, 0, 0, 0, 0, 0, 0, 0, 0, 0, 0, 0, 0, 0, 0, 0, 0, 0, 0, 0, 0, 0, 0, 0, 1, 0, 3, 0, 0, 0, 0, 0, 0, 0, 0, 0, 0, 0, 0, 0, 0, 0, 0, 0, 0, 0, 0, 0, 0, 0, 1, 0, 3], [0, 1, 2, 1], [-1, -1, 0, 1], [0, 0, 3, 2])
  | 8 => ([3, 0, 1, 0, 0, 0, 0, 0, 0, 0, 0, 0, 0, 0, 0, 0, 0, 0, 0, 0, 0, 0, 0, 0, 0, 0, 2, 0, 0, 0, 0, 0, 0, 0, 0, 0, 0, 0, 0, 0, 0, 0, 0, 0, 0, 0, 0, 0, 0, 0, 0, 0, 0, 0, 0, 0, 0, 0, 0, 0, 0, 0, 0, 0, 0, 0, 0, 0, 0, 0, 0, 0, 0, 0, 0, 0, 0, 0, 0, 0, 0, 0], [3, 0, 1, 0, 0, 0, 0, 0, 0, 0, 0, 0, 0, 0, 0, 0, 0, 0, 0, 0, 0, 0, 0, 0, 0, 0, 2, 0, 1, 0, 0, 0, 0, 0, 0, 0, 0, 0, 0, 0, 0, 0, 0, 0, 0, 0, 0, 0, 0, 0, 0, 0, 3, 0, 1, 0, 0, 0, 0, 0, 0, 0, 0, 0, 0, 0, 0, 0, 0, 0, 0, 0, 0, 0, 0, 0, 0, 0, 3, 0, 1, 0], [0, 1, 2, 1], [-1, -1, 0, 1], [0, 0, 3, 2])
  | 9 => ([0, 3, 1, 0, 0, 0, 0, 0, 0, 0, 0, 0, 0, 0, 0, 0, 0, 0, 0, 0, 0, 0, 0, 0, 0, 0, 0, 2, 0, 0, 0, 0, 0, 0, 0, 0, 0, 0, 0, 0, 0, 0, 0, 0, 0, 0, 0, 0, 0, 0, 0, 0, 0, 0, 0, 0, 0, 0, 0, 0, 0, 0, 0, 0, 0, 0, 0, 0, 0, 0, 0, 0, 0, 0, 0, 0, 0, 0, 0, 0, 0, 0], [0, 3, 1, 0, 0, 0, 0, 0, 0, 0, 0, 0, 0, 0, 0, 0, 0, 0, 0, 0, 0, 0, 0, 0, 0, 0, 0, 2, 1, 0, 0, 0, 0, 0, 0, 0, 0, 0, 0, 0, 0, 0, 0, 0, 0, 0, 0, 0, 0, 0, 0, 0, 0, 3, 1, 0, 0, 0, 0, 0, 0, 0, 0, 0, 0, 0, 0, 0, 0, 0, 0, 0, 0, 0, 0, 0, 0, 0, 0, 3, 1, 0], [0, 1, 2, 1], [-1, -1, 0, 1], [0, 0, 3, 2])
  | 10 => ([0, 0, 1, 0, 0, 0, 0, 0, 0, 0, 0, 0, 0, 0, 0, 0, 0, 0, 0, 0, 0, 0, 0, 0, 0, 0, 0, 0, 2, 0, 0, 0, 0, 0, 0, 0, 0, 0, 0, 0, 0, 0, 0, 0, 0, 0, 0, 0, 0, 0, 0, 0, 0, 0, 0, 0, 0, 0, 0, 0, 0, 0, 0, 0, 0, 0, 0, 0, 0, 0, 0, 0, 0, 0, 0, 0, 0, 0, 0, 0, 0, 0], [0, 0, 1, 0, 0, 0, 0, 0, 0, 0, 0, 0, 0, 0, 0, 0, 0, 0, 0, 0, 0, 0, 0, 0, 0, 0, 0, 0, 2, 0, 0, 0, 0, 0, 0, 0, 0, 0, 0, 0, 0, 0, 0, 0, 0, 0, 0, 0, 0, 0, 0, 0, 0, 0, 2, 0, 0, 0, 0, 0, 0, 0, 0, 0, 0, 0, 0, 0, 0, 0, 0, 0, 0, 0, 0, 0, 0, 0, 0, 0, 0, 0], [0, 1, 2, 0], [-1, 1, 0, -1], [0, 2, 3, 0])
  | 11 => ([0, 0, 1, 3, 0, 0, 0, 0, 0, 0, 0, 0, 0, 0, 0, 0, 0, 0, 0, 0, 0, 0, 0, 0, 0, 0, 0, 0, 0, 2, 0, 0, 0, 0, 0, 0, 0, 0, 0, 0, 0, 0, 0, 0, 0, 0, 0, 0, 0, 0, 0, 0, 0, 0, 0, 0, 0, 0, 0, 0, 0, 0, 0, 0, 0, 0, 0, 0, 0, 0, 0, 0, 0, 0, 0, 0, 0, 0, 0, 0, 0, 0], [0, 0, 1, 3, 0, 0, 0, 0, 0, 0, 0, 0, 0, 0, 0, 0, 0, 0, 0, 0, 0, 0, 0, 0, 0, 0, 0, 0, 1, 2, 0, 0, 0, 0, 0, 0, 0, 0, 0, 0, 0, 0, 0, 0, 0, 0, 0, 0, 0, 0, 0, 0, 0, 0, 1, 3, 0, 0, 0, 0, 0, 0, 0, 0, 0, 0, 0, 0, 0, 0, 0, 0, 0, 0, 0, 0, 0, 0, 0, 0, 1, 3], [0, 1, 2, 1], [-1, -1, 0, 1], [0, 0, 3, 2])
  | 12 => ([3, 0, 0, 1, 0, 0, 0, 0, 0, 0, 0, 0, 0, 0, 0, 0, 0, 0, 0, 0, 0, 0, 0, 0, 0, 0, 2, 0, 0, 0, 0, 0, 0, 0, 0, 0, 0, 0, 0, 0, 0, 0, 0, 0, 0, 0, 0, 0, 0, 0, 0, 0, 0, 0, 0, 0, 0, 0, 0, 0, 0, 0, 0, 0, 0, 0, 0, 0, 0, 0, 0, 0, 0, 0, 0, 0, 0, 0, 0, 0, 0, 0], [3, 0, 0, 1, 0, 0, 0, 0, 0, 0, 0, 0, 0, 0, 0, 0, 0, 0, 0, 0, 0, 0, 0, 0, 0, 0, 2, 0, 0, 1, 0, 0, 0, 0, 0, 0, 0, 0, 0, 0, 0, 0, 0, 0, 0, 0, 0, 0, 0, 0, 0, 0, 3, 0, 0, 1, 0, 0, 0, 0, 0, 0, 0, 0, 0, 0, 0, 0, 0, 0, 0, 0, 0, 0, 0, 0, 0, 0, 3, 0, 0, 1], [0, 1, 2, 1], [-1, -1, 0, 1], [0, 0, 3, 2])
  | 13 => ([0, 3, 0, 1, 0, 0, 0, 0, 0, 0, 0, 0, 0, 0, 0, 0, 0, 0, 0, 0, 0, 0, 0, 0, 0, 0, 0, 2, 0, 0, 0, 0, 0, 0, 0, 0, 0, 0, 0, 0, 0, 0, 0, 0, 0, 0, 0, 0, 0, 0, 0, 0, 0, 0, 0, 0, 0, 0, 0, 0, 0, 0, 0, 0, 0, 0, 0, 0, 0, 0, 0, 0, 0, 0, 0, 0, 0, 0, 0, 0, 0, 0], [0, 3, 0, 1, 0, 0, 0, 0, 0, 0, 0, 0, 0, 0, 0, 0, 0, 0, 0, 0, 0, 0, 0, 0, 0, 0, 0, 2, 0, 1, 0, 0, 0, 0, 0, 0, 0, 0, 0, 0, 0, 0, 0, 0, 0, 0, 0, 0, 0, 0, 0, 0, 0, 3, 0, 1, 0, 0, 0, 0, 0, 0, 0, 0, 0, 0, 0, 0, 0, 0, 0, 0, 0, 0, 0, 0, 0, 0, 0, 3, 0, 1], [0, 1, 2, 1], [-1, -1, 0, 1], [0, 0, 3, 2])
  | 14 => ([0, 0, 3, 1, 0, 0, 0, 0, 0, 0, 0, 0, 0, 0, 0, 0, 0, 0, 0, 0, 0, 0, 0, 0, 0, 0, 0, 0, 2, 0, 0, 0, 0, 0, 0, 0, 0, 0, 0, 0, 0, 0, 0, 0, 0, 0, 0, 0, 0, 0, 0, 0, 0, 0, 0, 0, 0, 0, 0, 0, 0, 0, 0, 0, 0, 0, 0, 0, 0, 0, 0, 0, 0, 0, 0, 0, 0, 0, 0, 0, 0, 0], [0, 0, 3, 1, 0, 0, 0, 0, 0, 0, 0, 0, 0, 0, 0, 0, 0, 0, 0, 0, 0, 0, 0, 0, 0, 0, 0, 0, 2, 1, 0, 0, 0, 0, 0, 0, 0, 0, 0, 0, 0, 0, 0, 0, 0, 0, 0, 0, 0, 0, 0, 0, 0, 0, 3, 1, 0, 0, 0, 0, 0, 0, 0, 0, 0, 0, 0, 0, 0, 0, 0, 0, 0, 0, 0, 0, 0, 0, 0, 0, 3, 1], [0, 1, 2, 1], [-1, -1, 0, 1], [0, 0, 3, 2])
  | _ => ([0, 0, 0, 1, 0, 0, 0, 0, 0, 0, 0, 0, 0, 0, 0, 0, 0, 0, 0, 0, 0, 0, 0, 0, 0, 0, 0, 0, 0, 2, 0, 0, 0, 0, 0, 0, 0, 0, 0, 0, 0, 0, 0, 0, 0, 0, 0, 0, 0, 0, 0, 0, 0, 0, 0, 0, 0, 0, 0, 0, 0, 0, 0, 0, 0, 0, 0, 0, 0, 0, 0, 0, 0, 0, 0, 0, 0, 0, 0, 0, 0, 0], [0, 0, 0, 1, 0, 0, 0, 0, 0, 0, 0, 0, 0, 0, 0, 0, 0, 0, 0, 0, 0, 0, 0, 0, 0, 0, 0, 0, 0, 2, 0, 0, 0, 0, 0, 0, 0, 0, 0, 0, 0, 0, 0, 0, 0, 0, 0, 0, 0, 0, 0, 0, 0, 0, 0, 2, 0, 0, 0, 0, 0, 0, 0, 0, 0, 0, 0, 0, 0, 0, 0, 0, 0, 0, 0, 0, 0, 0, 0, 0, 0, 0], [0, 1, 2, 0], [-1, 1, 0, -1], [0, 2, 3, 0])
def own_ev (p : Nat) (t : Int32) : Option Int32 := f_L_law_139 f_L_law_285 100000 [2, 1] [65, 73] (own_tb p).1 (own_tb p).2.1 (own_tb p).2.2.1 (own_tb p).2.2.2.1 (own_tb p).2.2.2.2 [0, 0, 0, 0] [0, 0, 0, 0] [0, 0, 0, 0] [0, 0, 0, 0, 0, 0, 0, 0] 1 2 0 0 0 0 0 0 t (97 + Int32.ofNat (p / 4)) (97 + Int32.ofNat (p % 4)) 65 73 0 0
def own_kcp (x y : Int32) : List Int32 := (((List.replicate 128 0).set 0 x).set 1 y).set 8 y
def own_klp : List Int32 := ((List.replicate 16 0).set 0 2).set 1 1
def own_bu (p : Nat) := f_build (own_kcp (97 + Int32.ofNat (p / 4)) (97 + Int32.ofNat (p % 4))) own_klp 2 0 (List.replicate 3354 0) (List.replicate 3354 0) (List.replicate 129 0) (List.replicate 129 0) (List.replicate 129 (-1)) (List.replicate 129 0) (List.replicate 129 0) 0 1 1 0 0 0 0 0 0
def own_bp (p : Nat) : Bool := match own_bu p with
  | some (r, CH, DE, FA, DP, TM, OM, QU, ph, nc, lk, n, st, to, ol, cp, tn) => decide (r = 0 ∧ CH.take 82 = (own_tb p).1 ∧ DE.take 82 = (own_tb p).2.1 ∧ DP.take 4 = (own_tb p).2.2.1 ∧ TM.take 4 = (own_tb p).2.2.2.1 ∧ OM.take 4 = (own_tb p).2.2.2.2 ∧ ph = 1 ∧ lk = 2 ∧ n = 0 ∧ st = 0 ∧ to = 0 ∧ ol = 0 ∧ cp = 0 ∧ tn = 0)
  | none => false
/-! one run beside another on longer lists, replacement signs renamed -/
def own_le {α : Type} (o o' : Option α) (R : α → α → Prop) : Prop := ∀ r, o = some r → ∃ r', o' = some r' ∧ R r r'
theorem own_le.bd {α β : Type} {o o' : Option α} {R : α → α → Prop} {f f' : α → Option β} {S : β → β → Prop} (h : own_le o o' R) (g : ∀ r r', R r r' → own_le (f r) (f' r') S) : own_le (o.bind f) (o'.bind f') S := by
  intro s hs
  cases o with
  | none => cases hs
  | some a =>
    obtain ⟨r', e, hr⟩ := h a rfl
    rw [e, Option.bind_some]
    exact g a r' hr s hs
theorem own_le.rf {α : Type} (o : Option α) : own_le o o Eq := fun r h => ⟨r, h, rfl⟩
theorem own_le.eq {α : Type} {o o' : Option α} (h : o = o') : own_le o o' Eq := fun r e => ⟨r, by rw [← h]; exact e, rfl⟩
theorem own_le.so {α : Type} {a b : α} {R : α → α → Prop} (h : R a b) : own_le (some a) (some b) R := fun r e => ⟨b, rfl, by cases e; exact h⟩
theorem own_le.it {α : Type} {p : Prop} [Decidable p] {a b a' b' : Option α} {R : α → α → Prop} (h1 : p → own_le a a' R) (h2 : ¬ p → own_le b b' R) : own_le (if p then a else b) (if p then a' else b') R := by
  by_cases q : p
  · rw [if_pos q, if_pos q]; exact h1 q
  · rw [if_neg q, if_neg q]; exact h2 q
theorem own_le.i2 {α : Type} {p p' : Prop} [Decidable p] [Decidable p'] (e : p ↔ p') {a b a' b' : Option α} {R : α → α → Prop} (h1 : p → own_le a a' R) (h2 : ¬ p → own_le b b' R) : own_le (if p then a else b) (if p' then a' else b') R := by
  by_cases q : p
  · rw [if_pos q, if_pos (e.1 q)]; exact h1 q
  · rw [if_neg q, if_neg (fun z => q (e.2 z))]; exact h2 q
def own_sm (φ : Int32 → Int32) (L L' : List Int32) : Prop := ∀ k x, rdA L k = some x → rdA L' k = some (φ x)
def own_si (L L' : List Int32) : Prop := ∀ k x, rdA L k = some x → rdA L' k = some x
def own_fx (φ : Int32 → Int32) (L : List Int32) : Prop := ∀ k x, rdA L k = some x → φ x = x
theorem own_sm.rd {φ : Int32 → Int32} {L L' : List Int32} (h : own_sm φ L L') (k : Int32) : own_le (rdA L k) (rdA L' k) (fun x x' => x' = φ x) := fun r e => ⟨_, h k r e, rfl⟩
theorem own_si.rd {L L' : List Int32} (h : own_si L L') (k : Int32) : own_le (rdA L k) (rdA L' k) Eq := fun r e => ⟨_, h k r e, rfl⟩
theorem own_wrd {L M : List Int32} {k x : Int32} (h : wrA L k x = some M) : 0 ≤ k.toInt ∧ k.toInt.toNat < L.length ∧ M = L.set k.toInt.toNat x := by
  have e0 : (0 : Int32).toInt = 0 := rfl
  unfold wrA at h
  by_cases q : k < 0
  · rw [if_pos q] at h; cases h
  · rw [if_neg q] at h
    rw [ilt] at q
    have c : k.toNatClampNeg = k.toInt.toNat := rfl
    by_cases q2 : k.toNatClampNeg < L.length
    · rw [if_pos q2] at h
      rw [c] at h q2
      exact ⟨by omega, q2, (Option.some.inj h).symm⟩
    · rw [if_neg q2] at h; cases h
theorem own_rdd {L : List Int32} {k x : Int32} (h : rdA L k = some x) : 0 ≤ k.toInt ∧ k.toInt.toNat < L.length ∧ L[k.toInt.toNat]? = some x := by
  have e0 : (0 : Int32).toInt = 0 := rfl
  by_cases q : k < 0
  · unfold rdA at h; rw [if_pos q] at h; cases h
  · rw [ilt] at q
    rw [rdA_nn (by omega)] at h
    refine ⟨by omega, ?_, h⟩
    rcases Nat.lt_or_ge k.toInt.toNat L.length with g | g
    · exact g
    · rw [List.getElem?_eq_none g] at h; cases h
theorem own_sm.len {φ : Int32 → Int32} {L L' : List Int32} (h : own_sm φ L L') {k : Int32} (k0 : 0 ≤ k.toInt) (k1 : k.toInt.toNat < L.length) : k.toInt.toNat < L'.length := by
  have := h k _ (rdA_in k0 k1)
  exact (own_rdd this).2.1
theorem own_sm.wr {φ : Int32 → Int32} {L L' : List Int32} (h : own_sm φ L L') (k x : Int32) : own_le (wrA L k x) (wrA L' k (φ x)) (own_sm φ) := by
  intro M e
  obtain ⟨a, b, rfl⟩ := own_wrd e
  refine ⟨_, wrA_in a (h.len a b), fun j y hy => ?_⟩
  obtain ⟨j0, j1, jy⟩ := own_rdd hy
  rw [rdA_nn j0]
  by_cases z : k.toInt.toNat = j.toInt.toNat
  · rw [z, List.getElem?_set_self (by rw [List.length_set] at j1; exact j1)] at jy
    rw [z, List.getElem?_set_self (by rw [← z]; exact h.len a b)]
    rw [Option.some.inj jy]
  · rw [List.getElem?_set_ne z] at jy
    rw [List.getElem?_set_ne z, ← rdA_nn j0]
    exact h j y (by rw [rdA_nn j0]; exact jy)
theorem own_si.sm {L L' : List Int32} (h : own_si L L') : own_sm id L L' := h
theorem own_si.wr {L L' : List Int32} (h : own_si L L') (k x : Int32) : own_le (wrA L k x) (wrA L' k x) own_si := h.sm.wr k x
theorem own_fx.wr {φ : Int32 → Int32} {L M : List Int32} (h : own_fx φ L) {k x : Int32} (hx : φ x = x) (e : wrA L k x = some M) : own_fx φ M := by
  obtain ⟨a, b, rfl⟩ := own_wrd e
  intro j y hy
  obtain ⟨j0, j1, jy⟩ := own_rdd hy
  by_cases z : k.toInt.toNat = j.toInt.toNat
  · rw [z, List.getElem?_set_self (by rw [List.length_set] at j1; exact j1)] at jy
    rw [← Option.some.inj jy]; exact hx
  · rw [List.getElem?_set_ne z] at jy
    exact h j y (by rw [rdA_nn j0]; exact jy)
theorem own_nsS {DE DE' : List Int32} (h : own_si DE DE') (s c : Int32) : own_le (f_nextState DE s c) (f_nextState DE' s c) Eq := by
  unfold f_nextState
  refine (own_le.rf _).bd ?_
  rintro r _ rfl
  refine own_le.it (fun _ => own_le.rf _) (fun _ => own_le.it (fun _ => own_le.rf _) (fun _ => own_le.it (fun _ => ?_) (fun _ => own_le.rf _)))
  refine (h.rd _).bd ?_
  rintro r _ rfl
  exact own_le.rf _
theorem own_laS {CH CH' TM TM' TX TX' : List Int32} (hC : own_si CH CH') (hT : own_si TM TM') (hX : own_si TX TX') (n : Int32) : ∀ (f : Nat) (a b c d : Int32), own_le (f_longestAt_7 CH TM TX n f a b c d) (f_longestAt_7 CH' TM' TX' n f a b c d) Eq := by
  intro f
  induction f with
  | zero => intro a b c d r h; cases h
  | succ f ih =>
    intro a b c d
    unfold f_longestAt_7
    refine own_le.it (fun _ => own_le.it (fun _ => own_le.rf _) (fun _ => own_le.it (fun _ => ?_) (fun _ => own_le.rf _))) (fun _ => own_le.rf _)
    refine (hX.rd _).bd ?_
    rintro x _ rfl
    refine (own_le.rf _).bd ?_
    rintro r _ rfl
    refine own_le.it (fun _ => own_le.rf _) (fun _ => ?_)
    refine (hC.rd _).bd ?_
    rintro u _ rfl
    refine own_le.it (fun _ => own_le.rf _) (fun _ => ?_)
    refine (hT.rd _).bd ?_
    rintro w _ rfl
    refine own_le.it (fun _ => ih _ _ _ _) (fun _ => ?_)
    refine (hT.rd _).bd ?_
    rintro w _ rfl
    exact ih _ _ _ _
theorem own_laT {CH CH' TM TM' TX TX' : List Int32} (hC : own_si CH CH') (hT : own_si TM TM') (hX : own_si TX TX') (n i : Int32) : own_le (f_longestAt CH TM TX n i) (f_longestAt CH' TM' TX' n i) Eq := own_laS hC hT hX n 100000 _ _ _ _
def own_R3 (φ : Int32 → Int32) (r r' : List Int32 × Int32 × Int32) : Prop := own_sm φ r.1 r'.1 ∧ r.2 = r'.2
theorem own_coS {φ : Int32 → Int32} {KL KL' KR KR' CH CH' TM TM' TX TX' OU OU' : List Int32} (hL : own_si KL KL') (hR : own_sm φ KR KR') (hC : own_si CH CH') (hT : own_si TM TM') (hX : own_si TX TX') (fX : own_fx φ TX) (hO : own_sm φ OU OU') (n ol cp : Int32) : own_le (f_commitOne KL KR CH TM TX n OU ol cp) (f_commitOne KL' KR' CH' TM' TX' n OU' ol cp) (own_R3 φ) := by
  unfold f_commitOne f_commitOne_74
  refine (own_laT hC hT hX n cp).bd ?_
  rintro k _ rfl
  refine own_le.it (fun _ => ?_) (fun _ => ?_)
  · intro s hs
    refine (own_le.bd (R := fun x x' => x = x' ∧ φ x = x) (fun r e => ⟨r, hX _ _ e, rfl, fX _ _ e⟩) ?_) s hs
    rintro x _ ⟨rfl, fx⟩
    refine own_le.bd (R := own_sm φ) ?_ (fun A A' hA => own_le.so ⟨hA, rfl⟩)
    have := hO.wr ol x
    rw [fx] at this
    exact this
  · refine (hR.rd _).bd ?_
    rintro x _ rfl
    refine (hO.wr ol x).bd ?_
    intro A A' hA
    refine (hL.rd _).bd ?_
    rintro y _ rfl
    exact own_le.so ⟨hA, rfl⟩
theorem own_crS {φ : Int32 → Int32} {KL KL' KR KR' CH CH' TM TM' TX TX' : List Int32} (hL : own_si KL KL') (hR : own_sm φ KR KR') (hC : own_si CH CH') (hT : own_si TM TM') (hX : own_si TX TX') (fX : own_fx φ TX) (lk n : Int32) : ∀ (f : Nat) (OU OU' : List Int32) (ol cp v : Int32), own_sm φ OU OU' → own_le (f_commitReady_2 KL KR CH TM TX lk n f OU ol cp v) (f_commitReady_2 KL' KR' CH' TM' TX' lk n f OU' ol cp v) (own_R3 φ) := by
  intro f
  induction f with
  | zero => intro OU OU' ol cp v _ r h; cases h
  | succ f ih =>
    intro OU OU' ol cp v hO
    have st : own_le (some (OU, ol, cp)) (some (OU', ol, cp)) (own_R3 φ) := own_le.so ⟨hO, rfl⟩
    unfold f_commitReady_2
    refine own_le.it (fun _ => own_le.it (fun _ => st) (fun _ => own_le.it (fun _ => own_le.it (fun _ => st) (fun _ => own_le.it (fun _ => ?_) (fun _ => st))) (fun _ => st))) (fun _ => st)
    refine (own_coS hL hR hC hT hX fX hO n ol cp).bd ?_
    rintro ⟨A, a, b⟩ ⟨A', a', b'⟩ ⟨h1, h2⟩
    cases h2
    exact ih _ _ _ _ _ h1
def own_R2 (φ : Int32 → Int32) (r r' : List Int32 × Int32) : Prop := own_sm φ r.1 r'.1 ∧ r.2 = r'.2
theorem own_rtS {φ : Int32 → Int32} {KL KL' KR KR' CH CH' TM TM' TX TX' : List Int32} (hL : own_si KL KL') (hR : own_sm φ KR KR') (hC : own_si CH CH') (hT : own_si TM TM') (hX : own_si TX TX') (fX : own_fx φ TX) (n cp : Int32) : ∀ (f : Nat) (TL TL' : List Int32) (tn a v : Int32), own_sm φ TL TL' → own_le (f_rebuildTail_12 KL KR CH TM TX n cp f TL tn a v) (f_rebuildTail_12 KL' KR' CH' TM' TX' n cp f TL' tn a v) (own_R2 φ) := by
  intro f
  induction f with
  | zero => intro TL TL' tn a v _ r h; cases h
  | succ f ih =>
    intro TL TL' tn a v hO
    have st : own_le (some (TL, tn)) (some (TL', tn)) (own_R2 φ) := own_le.so ⟨hO, rfl⟩
    unfold f_rebuildTail_12
    refine own_le.it (fun _ => own_le.it (fun _ => st) (fun _ => own_le.it (fun _ => own_le.it (fun _ => ?_) (fun _ => st)) (fun _ => st))) (fun _ => st)
    refine (own_laT hC hT hX n a).bd ?_
    rintro k _ rfl
    refine own_le.it (fun _ => ?_) (fun _ => ?_)
    · refine (own_le.bd (R := fun x x' => x = x' ∧ φ x = x) (fun r e => ⟨r, hX _ _ e, rfl, fX _ _ e⟩) ?_)
      rintro x _ ⟨rfl, fx⟩
      refine own_le.bd (R := own_sm φ) ?_ (fun A A' hA => ?_)
      · have := hO.wr tn x
        rw [fx] at this
        exact this
      · unfold f_rebuildTail_95
        exact ih _ _ _ _ _ hA
    · refine (hR.rd _).bd ?_
      rintro x _ rfl
      refine (hO.wr tn x).bd ?_
      intro A A' hA
      refine (hL.rd _).bd ?_
      rintro y _ rfl
      unfold f_rebuildTail_95
      exact ih _ _ _ _ _ hA
abbrev own_G (φ : Int32 → Int32) (KL KL' KR KR' CH CH' DE DE' DP DP' TM TM' OM OM' : List Int32) : Prop := (own_si KL KL') ∧ (own_sm φ KR KR') ∧ (own_si CH CH') ∧ (own_si DE DE') ∧ (own_si DP DP') ∧ (own_si TM TM') ∧ (own_si OM OM')
theorem own_G.kl {φ : Int32 → Int32} {KL KL' KR KR' CH CH' DE DE' DP DP' TM TM' OM OM' : List Int32} (self : own_G φ KL KL' KR KR' CH CH' DE DE' DP DP' TM TM' OM OM') : own_si KL KL' := self.1
theorem own_G.kr {φ : Int32 → Int32} {KL KL' KR KR' CH CH' DE DE' DP DP' TM TM' OM OM' : List Int32} (self : own_G φ KL KL' KR KR' CH CH' DE DE' DP DP' TM TM' OM OM') : own_sm φ KR KR' := self.2.1
theorem own_G.ch {φ : Int32 → Int32} {KL KL' KR KR' CH CH' DE DE' DP DP' TM TM' OM OM' : List Int32} (self : own_G φ KL KL' KR KR' CH CH' DE DE' DP DP' TM TM' OM OM') : own_si CH CH' := self.2.2.1
theorem own_G.de {φ : Int32 → Int32} {KL KL' KR KR' CH CH' DE DE' DP DP' TM TM' OM OM' : List Int32} (self : own_G φ KL KL' KR KR' CH CH' DE DE' DP DP' TM TM' OM OM') : own_si DE DE' := self.2.2.2.1
theorem own_G.dp {φ : Int32 → Int32} {KL KL' KR KR' CH CH' DE DE' DP DP' TM TM' OM OM' : List Int32} (self : own_G φ KL KL' KR KR' CH CH' DE DE' DP DP' TM TM' OM OM') : own_si DP DP' := self.2.2.2.2.1
theorem own_G.tm {φ : Int32 → Int32} {KL KL' KR KR' CH CH' DE DE' DP DP' TM TM' OM OM' : List Int32} (self : own_G φ KL KL' KR KR' CH CH' DE DE' DP DP' TM TM' OM OM') : own_si TM TM' := self.2.2.2.2.2.1
theorem own_G.om {φ : Int32 → Int32} {KL KL' KR KR' CH CH' DE DE' DP DP' TM TM' OM OM' : List Int32} (self : own_G φ KL KL' KR KR' CH CH' DE DE' DP DP' TM TM' OM OM') : own_si OM OM' := self.2.2.2.2.2.2
abbrev own_Hh (φ : Int32 → Int32) (TX TX' MS MS' OU OU' TL TL' : List Int32) : Prop := (own_si TX TX') ∧ (own_fx φ TX) ∧ (own_si MS MS') ∧ (own_sm φ OU OU') ∧ (own_sm φ TL TL')
theorem own_Hh.tx {φ : Int32 → Int32} {TX TX' MS MS' OU OU' TL TL' : List Int32} (self : own_Hh φ TX TX' MS MS' OU OU' TL TL') : own_si TX TX' := self.1
theorem own_Hh.fx {φ : Int32 → Int32} {TX TX' MS MS' OU OU' TL TL' : List Int32} (self : own_Hh φ TX TX' MS MS' OU OU' TL TL') : own_fx φ TX := self.2.1
theorem own_Hh.ms {φ : Int32 → Int32} {TX TX' MS MS' OU OU' TL TL' : List Int32} (self : own_Hh φ TX TX' MS MS' OU OU' TL TL') : own_si MS MS' := self.2.2.1
theorem own_Hh.ou {φ : Int32 → Int32} {TX TX' MS MS' OU OU' TL TL' : List Int32} (self : own_Hh φ TX TX' MS MS' OU OU' TL TL') : own_sm φ OU OU' := self.2.2.2.1
theorem own_Hh.tl {φ : Int32 → Int32} {TX TX' MS MS' OU OU' TL TL' : List Int32} (self : own_Hh φ TX TX' MS MS' OU OU' TL TL') : own_sm φ TL TL' := self.2.2.2.2
def own_R11 (φ : Int32 → Int32) (r r' : Int32 × List Int32 × List Int32 × List Int32 × List Int32 × Int32 × Int32 × Int32 × Int32 × Int32 × Int32) : Prop := r.1 = r'.1 ∧ own_Hh φ r.2.1 r'.2.1 r.2.2.1 r'.2.2.1 r.2.2.2.1 r'.2.2.2.1 r.2.2.2.2.1 r'.2.2.2.2.1 ∧ r.2.2.2.2.2 = r'.2.2.2.2.2
theorem own_feS {φ : Int32 → Int32} {KL KL' KR KR' CH CH' DE DE' DP DP' TM TM' OM OM' TX TX' MS MS' OU OU' TL TL' : List Int32} (G : own_G φ KL KL' KR KR' CH CH' DE DE' DP DP' TM TM' OM OM') (H : own_Hh φ TX TX' MS MS' OU OU' TL TL') {c : Int32} (hc : φ c = c) (ph lk n s to ol cp tn : Int32) : own_le (f_feed KL KR CH DE TM OM ph lk TX MS OU TL n s to ol cp tn c) (f_feed KL' KR' CH' DE' TM' OM' ph lk TX' MS' OU' TL' n s to ol cp tn c) (own_R11 φ) := by
  have st : ∀ e : Int32, own_le (some (e, TX, MS, OU, TL, n, s, to, ol, cp, tn)) (some (e, TX', MS', OU', TL', n, s, to, ol, cp, tn)) (own_R11 φ) := fun e => own_le.so ⟨rfl, H, rfl⟩
  unfold f_feed
  refine own_le.it (fun _ => ?_) (fun _ => st _)
  refine (own_le.rf _).bd ?_
  rintro r _ rfl
  refine own_le.it (fun _ => st _) (fun _ => own_le.it (fun _ => ?_) (fun _ => st _))
  refine (own_nsS G.de s c).bd ?_
  rintro s' _ rfl
  refine (G.om.rd _).bd ?_
  rintro m _ rfl
  refine own_le.bd (R := fun A A' => own_si A A' ∧ own_fx φ A) ?_ ?_
  · intro A e
    obtain ⟨A', e', q⟩ := H.tx.wr n c A e
    exact ⟨A', e', q, H.fx.wr hc e⟩
  rintro A A' ⟨hA, fA⟩
  refine (H.ms.wr n m).bd ?_
  intro B B' hB
  refine (own_le.rf _).bd ?_
  rintro p _ rfl
  unfold f_commitReady f_rebuildTail
  refine (own_crS G.kl G.kr G.ch G.tm hA fA lk (n + 1) 100000 OU OU' ol cp 0 H.ou).bd ?_
  rintro ⟨C, a, b⟩ ⟨C', a', b'⟩ ⟨h1, h2⟩
  cases h2
  refine (own_rtS G.kl G.kr G.ch G.tm hA fA (n + 1) b 100000 TL TL' 0 b 0 H.tl).bd ?_
  rintro ⟨D, d⟩ ⟨D', d'⟩ ⟨h3, h4⟩
  cases h4
  exact own_le.so ⟨rfl, ⟨hA, fA, hB, h1, h3⟩, rfl⟩
/-! the law's own walk beside another -/
abbrev own_F (φ : Int32 → Int32) : Prop := (∀ a b, φ a = φ b → a = b) ∧ (φ (-1) = -1) ∧ (∀ c : Int32, 97 ≤ c.toInt → c.toInt ≤ 100 → φ c = c)
theorem own_F.ij {φ : Int32 → Int32} (self : own_F φ) : ∀ a b, φ a = φ b → a = b := self.1
theorem own_F.m1 {φ : Int32 → Int32} (self : own_F φ) : φ (-1) = -1 := self.2.1
theorem own_F.lt {φ : Int32 → Int32} (self : own_F φ) : ∀ c : Int32, 97 ≤ c.toInt → c.toInt ≤ 100 → φ c = c := self.2.2
def own_tcE (v v' : Int32) : Prop := ∀ i : Int32, 0 ≤ i.toInt → i.toInt < 4 → f_L_tc v i = f_L_tc v' i
theorem own_tcS {v v' i : Int32} (h : own_tcE v v') (i0 : 0 ≤ i.toInt) (i1 : i.toInt < 4) : own_le (f_L_tc v i) (f_L_tc v' i) (fun a b => a = b ∧ 97 ≤ a.toInt ∧ a.toInt ≤ 100) := by
  intro r e
  refine ⟨r, by rw [← h i i0 i1]; exact e, rfl, ?_⟩
  unfold f_L_tc at e
  have e := Option.some.inj e
  have a := iand_rng (v >>> (2 * i &&& 31)) 3 (by decide)
  have e3 : (3 : Int32).toInt = 3 := rfl
  rw [← e, iadd_i (by have e97 : (97 : Int32).toInt = 97 := rfl; omega) (by have e97 : (97 : Int32).toInt = 97 := rfl; omega)]
  have e97 : (97 : Int32).toInt = 97 := rfl
  omega
theorem own_ocS {φ : Int32 → Int32} (F : own_F φ) {OU OU' TL TL' : List Int32} (hO : own_sm φ OU OU') (hT : own_sm φ TL TL') (ol tn i : Int32) : own_le (f_outChar OU TL ol tn i) (f_outChar OU' TL' ol tn i) (fun a b => b = φ a) := by
  unfold f_outChar
  have st : own_le (some (-1 : Int32)) (some (-1)) (fun a b => b = φ a) := own_le.so F.m1.symm
  refine own_le.it (fun _ => st) (fun _ => own_le.it (fun _ => ?_) (fun _ => own_le.it (fun _ => own_le.it (fun _ => ?_) (fun _ => st)) (fun _ => st)))
  · refine (hO.rd _).bd ?_
    rintro x _ rfl
    exact own_le.so rfl
  · refine (hT.rd _).bd ?_
    rintro x _ rfl
    exact own_le.so rfl
theorem own_491S {φ : Int32 → Int32} (F : own_F φ) {OU OU' TL TL' : List Int32} (hO : own_sm φ OU OU') (hT : own_sm φ TL TL') (ol tn i : Int32) : own_le (f_L_law_491 OU TL ol tn i) (f_L_law_491 OU' TL' ol tn i) Eq := by
  unfold f_L_law_491
  refine (own_le.rf _).bd ?_
  rintro r _ rfl
  refine own_le.it (fun _ => ?_) (fun _ => own_le.rf _)
  refine (own_ocS F hO hT ol tn i).bd ?_
  rintro x _ rfl
  refine own_le.so ?_
  by_cases q : x = -1
  · rw [if_pos q, if_pos (by rw [q]; exact F.m1)]
  · rw [if_neg q, if_neg (fun z => q (F.ij _ _ (z.trans F.m1.symm)))]
theorem own_384S {φ : Int32 → Int32} (F : own_F φ) {OU OU' TL TL' : List Int32} (hO : own_sm φ OU OU') (hT : own_sm φ TL TL') {v v' x y r0 r1 : Int32} (hv : own_tcE v v') (y0 : 97 ≤ y.toInt) (ol tn : Int32) : ∀ (f : Nat) (a b c : Int32), 0 ≤ a.toInt → own_le (f_L_law_384 f_L_law_491 f OU TL ol tn v x y r0 r1 a b c) (f_L_law_384 f_L_law_491 f OU' TL' ol tn v' x y (φ r0) (φ r1) a b c) Eq := by
  intro f
  have e4 : (4 : Int32).toInt = 4 := rfl
  induction f with
  | zero => intro a b c _ r h; cases h
  | succ f ih =>
    intro a b c a0
    unfold f_L_law_384
    have k : ∀ (a' w : Int32), 0 ≤ a'.toInt → own_le (f_L_law_468 (f_L_law_384 f_L_law_491 f) f_L_law_491 OU TL ol tn v x y r0 r1 a' b c w) (f_L_law_468 (f_L_law_384 f_L_law_491 f) f_L_law_491 OU' TL' ol tn v' x y (φ r0) (φ r1) a' b c (φ w)) Eq := by
      intro a' w h
      unfold f_L_law_468
      refine (own_ocS F hO hT ol tn b).bd ?_
      rintro u _ rfl
      exact own_le.i2 ⟨fun q => by rw [q], fun q => F.ij _ _ q⟩ (fun _ => ih _ _ _ h) (fun _ => own_le.rf _)
    refine own_le.it (fun _ => own_le.it (fun q => ?_) (fun _ => ih _ _ _ a0)) (fun _ => own_491S F hO hT ol tn b)
    rw [ilt] at q
    have p := own_p1 (a := a) (by omega)
    refine (own_tcS hv a0 (by omega)).bd ?_
    rintro u _ ⟨rfl, u0, u1⟩
    have k4 : own_le (f_L_law_444 (f_L_law_384 f_L_law_491 f) f_L_law_491 OU TL ol tn v x y r0 r1 a b c u) (f_L_law_444 (f_L_law_384 f_L_law_491 f) f_L_law_491 OU' TL' ol tn v' x y (φ r0) (φ r1) a b c u) Eq := by
      unfold f_L_law_444
      have := k (a + 1) (if u = y then r1 else u) (by omega)
      by_cases z : u = y
      · rw [if_pos z, if_pos z]; rw [if_pos z] at this; exact this
      · rw [if_neg z, if_neg z]; rw [if_neg z, F.lt u u0 u1] at this; exact this
    refine own_le.it (fun q2 => own_le.it (fun _ => ?_) (fun _ => k4)) (fun _ => k4)
    rw [ilt] at q2
    refine (own_tcS hv (by omega) (by omega)).bd ?_
    rintro w _ ⟨rfl, -, -⟩
    refine own_le.it (fun _ => ?_) (fun _ => k4)
    exact k _ _ (by rw [iadd_i (by have e2 : (2 : Int32).toInt = 2 := rfl; omega) (by have e2 : (2 : Int32).toInt = 2 := rfl; omega)]; have e2 : (2 : Int32).toInt = 2 := rfl; omega)
theorem own_361S {φ : Int32 → Int32} (F : own_F φ) {DP DP' OU OU' TL TL' : List Int32} (hD : own_si DP DP') (hO : own_sm φ OU OU') (hT : own_sm φ TL TL') {v v' x y r0 r1 : Int32} (hv : own_tcE v v') (y0 : 97 ≤ y.toInt) (n s ol tn t : Int32) : own_le (f_L_law_361 DP OU TL n s ol tn v x y r0 r1 t) (f_L_law_361 DP' OU' TL' n s ol tn v' x y (φ r0) (φ r1) t) Eq := by
  unfold f_L_law_361 f_longestPartial
  refine own_le.bd (R := Eq) ?_ ?_
  · refine own_le.it (fun _ => own_le.rf _) (fun _ => own_le.it (fun _ => own_le.rf _) (fun _ => own_le.it (fun _ => ?_) (fun _ => own_le.rf _)))
    refine (hD.rd _).bd ?_
    rintro r _ rfl
    exact own_le.rf _
  rintro r _ rfl
  exact own_le.it (fun _ => own_384S F hO hT hv y0 ol tn 100000 0 0 0 (by decide)) (fun _ => own_le.rf _)
theorem own_285S {φ : Int32 → Int32} (F : own_F φ) {DP DP' OU OU' TL TL' : List Int32} (hD : own_si DP DP') (hO : own_sm φ OU OU') (hT : own_sm φ TL TL') {v v' x y r0 r1 : Int32} (hv : own_tcE v v') (y0 : 97 ≤ y.toInt) (n s to ol tn t : Int32) : own_le (f_L_law_285 DP OU TL n s to ol tn v x y r0 r1 t) (f_L_law_285 DP' OU' TL' n s to ol tn v' x y (φ r0) (φ r1) t) Eq := by
  unfold f_L_law_285
  refine (own_le.rf _).bd ?_
  rintro r _ rfl
  refine own_le.it (fun _ => ?_) (fun _ => own_le.rf _)
  refine (own_le.rf _).bd ?_
  rintro r _ rfl
  refine own_le.it (fun _ => ?_) (fun _ => own_le.rf _)
  have k : own_le (f_L_law_334 DP OU TL n s ol tn v x y r0 r1) (f_L_law_334 DP' OU' TL' n s ol tn v' x y (φ r0) (φ r1)) Eq := by
    unfold f_L_law_334
    refine (own_tcS hv (by decide) (by decide)).bd ?_
    rintro r _ ⟨rfl, -, -⟩
    refine own_le.it (fun _ => own_361S F hD hO hT hv y0 n s ol tn _) (fun _ => ?_)
    refine (own_tcS hv (by decide) (by decide)).bd ?_
    rintro r _ ⟨rfl, -, -⟩
    exact own_361S F hD hO hT hv y0 n s ol tn _
  refine (own_tcS hv (by decide) (by decide)).bd ?_
  rintro r _ ⟨rfl, -, -⟩
  refine own_le.it (fun _ => ?_) (fun _ => k)
  refine (own_tcS hv (by decide) (by decide)).bd ?_
  rintro r _ ⟨rfl, -, -⟩
  exact own_le.it (fun _ => own_361S F hD hO hT hv y0 n s ol tn _) (fun _ => k)
theorem own_139S {φ : Int32 → Int32} (F : own_F φ) {KL KL' KR KR' CH CH' DE DE' DP DP' TM TM' OM OM' : List Int32} (G : own_G φ KL KL' KR KR' CH CH' DE DE' DP DP' TM TM' OM OM') {v v' x y r0 r1 : Int32} (hv : own_tcE v v') (y0 : 97 ≤ y.toInt) (ph lk : Int32) : ∀ (f : Nat) (TX TX' MS MS' OU OU' TL TL' : List Int32) (n s to ol cp tn a p : Int32), own_Hh φ TX TX' MS MS' OU OU' TL TL' → 0 ≤ p.toInt → own_le (f_L_law_139 f_L_law_285 f KL KR CH DE DP TM OM TX MS OU TL ph lk n s to ol cp tn v x y r0 r1 a p) (f_L_law_139 f_L_law_285 f KL' KR' CH' DE' DP' TM' OM' TX' MS' OU' TL' ph lk n s to ol cp tn v' x y (φ r0) (φ r1) a p) Eq := by
  intro f
  have e4 : (4 : Int32).toInt = 4 := rfl
  have e1 : (1 : Int32).toInt = 1 := rfl
  induction f with
  | zero => intro TX TX' MS MS' OU OU' TL TL' n s to ol cp tn a p _ _ r h; cases h
  | succ f ih =>
    intro TX TX' MS MS' OU OU' TL TL' n s to ol cp tn a p H p0
    unfold f_L_law_139
    refine own_le.it (fun q => ?_) (fun _ => own_285S F G.dp H.ou H.tl hv y0 n s to ol tn a)
    rw [ilt] at q
    have pp := own_p1 (a := p) (by omega)
    refine (own_tcS hv p0 (by omega)).bd ?_
    rintro c _ ⟨rfl, c0, c1⟩
    have k : ∀ w : Int32, own_le (f_L_law_186 (f_L_law_139 f_L_law_285 f) f_L_law_285 KL KR CH DE DP TM OM TX MS OU TL ph lk n s to ol cp tn v x y r0 r1 a p c w) (f_L_law_186 (f_L_law_139 f_L_law_285 f) f_L_law_285 KL' KR' CH' DE' DP' TM' OM' TX' MS' OU' TL' ph lk n s to ol cp tn v' x y (φ r0) (φ r1) a p c w) Eq := by
      intro w
      unfold f_L_law_186 f_L_law_200 f_L_law_212 f_L_law_222
      refine (own_feS G H (F.lt c c0 c1) ph lk n s to ol cp tn).bd ?_
      rintro ⟨r, A, B, C, D, n2, s2, t2, o2, c2, l2⟩ ⟨r', A', B', C', D', n2', s2', t2', o2', c2', l2'⟩ ⟨h1, h2, h3⟩
      cases h1
      cases h3
      refine own_le.it (fun _ => ?_) (fun _ => own_le.rf _)
      refine own_le.bd (R := Eq) ?_ ?_
      · unfold f_occurrenceMask
        refine own_le.it (fun _ => own_le.rf _) (fun _ => own_le.it (fun _ => ?_) (fun _ => own_le.rf _))
        refine (h2.ms.rd _).bd ?_
        rintro r _ rfl
        exact own_le.rf _
      rintro m _ rfl
      unfold f_L_law_256 f_L_law_266
      exact own_le.it (fun _ => ih _ _ _ _ _ _ _ _ _ _ _ _ _ _ _ _ h2 (by omega)) (fun _ => own_le.rf _)
    refine own_le.it (fun _ => k _) (fun q2 => ?_)
    rw [ilt] at q2
    have pm : (p - 1).toInt = p.toInt - 1 := by rw [isub_i (by omega) (by omega), e1]
    refine (own_tcS hv (by omega) (by omega)).bd ?_
    rintro c2 _ ⟨rfl, -, -⟩
    exact k _
/-! the law x5: the keywords stored, the text as a number below 256 -/
theorem own_inT : ∀ (f : Nat) (KC KL KR PD CH DE FA DP TM OM QU TX MS OU TL : List Int32) (mk ml ph ct pn nc lk n st to ol cp tn v : Int32), TM.length = 129 → (∀ j : Int32, 0 ≤ j.toInt → j.toInt < v.toInt → gI TM j = -1) → 0 ≤ v.toInt → v.toInt ≤ 129 → 129 - v.toInt < f → ∃ TM', own_V TM' 129 (-1) (-1) ∧ f_init_215 f_init_237 f KC KL KR PD CH DE FA DP TM OM QU TX MS OU TL mk ml ph ct pn nc lk n st to ol cp tn v = some (KC, KL, KR, PD, CH, DE, FA, DP, TM', OM, QU, TX, MS, OU, TL, mk, ml, ph, ct, pn, nc, lk, 0, 0, 0, 0, 0, 0) := by
  intro f
  have e129 : (129 : Int32).toInt = 129 := rfl
  have em : (-1 : Int32).toInt = -1 := rfl
  induction f with
  | zero => intro KC KL KR PD CH DE FA DP TM OM QU TX MS OU TL mk ml ph ct pn nc lk n st to ol cp tn v _ _ a b c; exfalso; omega
  | succ f ih =>
    intro KC KL KR PD CH DE FA DP TM OM QU TX MS OU TL mk ml ph ct pn nc lk n st to ol cp tn v lT h a b c
    unfold f_init_215
    by_cases g : v < 129
    · rw [if_pos g]
      rw [ilt] at g
      have p := own_p1 (a := v) (by omega)
      rw [wrA_in a (by omega), Option.bind_some]
      refine ih _ _ _ _ _ _ _ _ _ _ _ _ _ _ _ _ _ _ _ _ _ _ _ _ _ _ _ _ _ (by rw [List.length_set]; exact lT) (fun j j0 j1 => ?_) (by omega) (by omega) (by omega)
      rw [gset a (by omega) j0]
      by_cases z : v = j
      · rw [if_pos z]
      · rw [if_neg z]
        rw [ieq] at z
        exact h j j0 (by omega)
    · rw [if_neg g]
      rw [ilt] at g
      unfold f_init_237 f_clearText
      exact ⟨TM, ⟨lT, fun j j0 j1 => by rw [h j j0 (by omega)]; omega⟩, rfl⟩
theorem own_tcb (v : BitVec 32) (k : Nat) (hk : k ≤ 6) : ((v &&& 255#32).sshiftRight k) &&& 3#32 = (v.sshiftRight k) &&& 3#32 := by
  apply BitVec.eq_of_getLsbD_eq
  intro i hi
  rw [BitVec.getLsbD_and, BitVec.getLsbD_and]
  by_cases z : i < 2
  · have b : ∀ j : Fin 8, (255#32).getLsbD j.val = true := by decide
    have := b ⟨k + i, by omega⟩
    simp only at this
    rw [BitVec.getLsbD_sshiftRight, BitVec.getLsbD_sshiftRight, BitVec.getLsbD_and, this, if_pos (show k + i < 32 by omega), if_pos (show k + i < 32 by omega)]
    simp
  · have b : ∀ j : Fin 32, 2 ≤ j.val → (3#32).getLsbD j.val = false := by decide
    rw [b ⟨i, hi⟩ (by simp only; omega)]
    simp
theorem own_sar2 : ∀ i : Fin 4, (((2 : Int32) * Int32.ofNat i.val &&& 31).toBitVec.smod 32#32).toNat = 2 * i.val := by decide +kernel
theorem own_tc8 (v : Int32) : own_tcE (v &&& 255) v := by
  intro i i0 i1
  have ei : i = Int32.ofNat i.toInt.toNat := by
    rw [ieq, Int32.toInt_ofNat_of_lt (by omega)]; omega
  generalize hk : i.toInt.toNat = k at ei
  have k4 : k < 4 := by omega
  have s := own_sar2 ⟨k, k4⟩
  simp only at s
  unfold f_L_tc
  have e : ∀ w : Int32, ((w >>> (2 * i &&& 31)) &&& 3).toBitVec = (w.toBitVec.sshiftRight (2 * k)) &&& 3#32 := by
    intro w
    rw [Int32.toBitVec_and]
    have : (w >>> (2 * i &&& 31)).toBitVec = w.toBitVec.sshiftRight (2 * k) := by
      show w.toBitVec.sshiftRight' ((2 * i &&& 31).toBitVec.smod 32#32) = _
      rw [BitVec.sshiftRight', ei, s]
    rw [this]
    rfl
  have : (v &&& 255) >>> (2 * i &&& 31) &&& 3 = v >>> (2 * i &&& 31) &&& 3 := by
    rw [← Int32.toBitVec_inj, e, e, Int32.toBitVec_and]
    exact own_tcb _ _ (by omega)
  rw [this]
def own_sw (a b c : Int32) : Int32 := if c = a then b else if c = b then a else c
theorem own_sw_sw (a b c : Int32) : own_sw a b (own_sw a b c) = c := by
  unfold own_sw
  by_cases h1 : c = a
  · rw [if_pos h1]
    by_cases h2 : b = a
    · rw [if_pos h2, h2, h1]
    · rw [if_neg h2, if_pos rfl, h1]
  · rw [if_neg h1]
    by_cases h2 : c = b
    · rw [if_pos h2, if_pos rfl, h2]
    · rw [if_neg h2, if_neg h1, if_neg h2]
theorem own_sw_n {a b c : Int32} (h1 : ¬ c = a) (h2 : ¬ c = b) : own_sw a b c = c := by
  unfold own_sw
  rw [if_neg h1, if_neg h2]
def own_ph (r0 r1 c : Int32) : Int32 := own_sw 73 r1 (own_sw 65 r0 c)
theorem own_ne {a b : Int32} (h : ¬ a.toInt = b.toInt) : ¬ a = b := fun z => h (by rw [z])
theorem own_phn {r0 r1 c : Int32} (a0 : 65 ≤ r0.toInt) (a1 : r0.toInt ≤ 72) (b0 : 73 ≤ r1.toInt) (b1 : r1.toInt ≤ 80) (h : c.toInt < 65 ∨ 80 < c.toInt) : own_ph r0 r1 c = c := by
  have e65 : (65 : Int32).toInt = 65 := rfl
  have e73 : (73 : Int32).toInt = 73 := rfl
  unfold own_ph
  rw [own_sw_n (a := 65) (own_ne (by omega)) (own_ne (by omega)), own_sw_n (own_ne (by omega)) (own_ne (by omega))]
theorem own_phF {r0 r1 : Int32} (a0 : 65 ≤ r0.toInt) (a1 : r0.toInt ≤ 72) (b0 : 73 ≤ r1.toInt) (b1 : r1.toInt ≤ 80) : own_F (own_ph r0 r1) ∧ own_ph r0 r1 65 = r0 ∧ own_ph r0 r1 73 = r1 ∧ own_ph r0 r1 0 = 0 := by
  have e65 : (65 : Int32).toInt = 65 := rfl
  have e73 : (73 : Int32).toInt = 73 := rfl
  refine ⟨⟨fun a b h => ?_, own_phn a0 a1 b0 b1 (Or.inl (by decide)), fun c c0 c1 => own_phn a0 a1 b0 b1 (Or.inr (by omega))⟩, ?_, ?_, own_phn a0 a1 b0 b1 (Or.inl (by decide))⟩
  · unfold own_ph at h
    have := congrArg (own_sw 73 r1) h
    rw [own_sw_sw, own_sw_sw] at this
    have := congrArg (own_sw 65 r0) this
    rw [own_sw_sw, own_sw_sw] at this
    exact this
  · unfold own_ph
    have : own_sw 65 r0 65 = r0 := by unfold own_sw; rw [if_pos rfl]
    rw [this, own_sw_n (own_ne (by omega)) (own_ne (by omega))]
  · unfold own_ph
    rw [own_sw_n (a := 65) (own_ne (by omega)) (own_ne (by omega))]
    unfold own_sw
    rw [if_pos rfl]
theorem own_adE {PD : List Int32} {mk ml ct pn v : Int32} (l : PD.length = 8) (p0 : 0 ≤ pn.toInt) (p1 : pn.toInt < 2) (m1 : 2 ≤ ml.toInt) (c1 : ct.toInt < mk.toInt) (v0 : 97 ≤ v.toInt) (v1 : v.toInt ≤ 122) : f_addChar mk ml 0 ct PD pn v = some (pn + 1, PD.set pn.toInt.toNat v, pn + 1) := by
  have e8 : (8 : Int32).toInt = 8 := rfl
  unfold f_addChar
  rw [if_pos rfl]
  rcases own_let v with ⟨e, h⟩ | ⟨e, h1, h2⟩
  · exact absurd ⟨v0, v1⟩ h
  · rw [e, Option.bind_some, if_neg (by decide), if_pos (by rw [ilt]; omega), if_pos (by rw [ilt]; omega), if_pos (by rw [ilt]; omega), wrA_in p0 (by omega), Option.bind_some]
theorem own_ek1 {PD KC KL KR : List Int32} {x y r0 : Int32} (lC : KC.length = 128) (lL : KL.length = 16) (lR : KR.length = 16) (q0 : rdA PD 0 = some x) (q1 : rdA PD 1 = some y) (a0 : 65 ≤ r0.toInt) (a1 : r0.toInt ≤ 80) : f_endKeyword PD 0 KC KL KR 0 2 r0 = some (0, (KC.set 0 x).set 1 y, KL.set 0 2, KR.set 0 r0, 1, 0) := by
  unfold f_endKeyword f_pendingIsDuplicate f_pendingIsDuplicate_2
  rw [if_pos rfl, if_neg (by decide)]
  rcases own_pri r0 with ⟨-, h⟩ | ⟨e, -⟩
  · exact absurd ⟨by omega, by omega⟩ h
  rw [e, Option.bind_some, if_neg (by decide), if_neg (by decide), Option.bind_some, if_pos rfl, if_pos (by decide)]
  have s : f_storePending PD KC KL KR 0 2 r0 = some ((KC.set 0 x).set 1 y, KL.set 0 2, KR.set 0 r0, 1, 0) := by
    unfold f_storePending f_storePending_10
    rw [if_pos (by decide), if_pos (by decide), q0, Option.bind_some, wrA_in (by decide) (by rw [lC]; decide), Option.bind_some]
    unfold f_storePending_10
    rw [if_pos (by decide), if_pos (by decide)]
    have z : (0 : Int32) + 1 = 1 := rfl
    rw [z, q1, Option.bind_some, wrA_in (by decide) (by rw [List.length_set, lC]; decide), Option.bind_some]
    unfold f_storePending_10
    rw [if_neg (by decide)]
    unfold f_storePending_44
    rw [wrA_in (by decide) (by rw [lL]; decide), Option.bind_some, wrA_in (by decide) (by rw [lR]; decide), Option.bind_some]
    rfl
  rw [s]
  rfl
theorem own_ek2 {PD KC KL KR : List Int32} {y r1 : Int32} (lC : KC.length = 128) (lL : KL.length = 16) (lR : KR.length = 16) (q0 : rdA PD 0 = some y) (k0 : rdA KL 0 = some 2) (a0 : 65 ≤ r1.toInt) (a1 : r1.toInt ≤ 80) : f_endKeyword PD 0 KC KL KR 1 1 r1 = some (1, KC.set 8 y, KL.set 1 1, KR.set 1 r1, 2, 0) := by
  unfold f_endKeyword f_pendingIsDuplicate f_pendingIsDuplicate_2 f_pendingEquals
  rw [if_pos rfl, if_neg (by decide)]
  rcases own_pri r1 with ⟨-, h⟩ | ⟨e, -⟩
  · exact absurd ⟨by omega, by omega⟩ h
  rw [e, Option.bind_some, if_neg (by decide), if_pos (by decide), if_pos (by decide), k0, Option.bind_some, if_neg (by decide), Option.bind_some, if_pos rfl]
  unfold f_pendingIsDuplicate_2
  rw [if_neg (by decide), Option.bind_some, if_pos rfl, if_pos (by decide)]
  have s : f_storePending PD KC KL KR 1 1 r1 = some (KC.set 8 y, KL.set 1 1, KR.set 1 r1, 2, 0) := by
    unfold f_storePending f_storePending_10
    rw [if_pos (by decide), if_pos (by decide), q0, Option.bind_some, wrA_in (by decide) (by rw [lC]; decide), Option.bind_some]
    unfold f_storePending_10
    rw [if_neg (by decide)]
    unfold f_storePending_44
    rw [wrA_in (by decide) (by rw [lL]; decide), Option.bind_some, wrA_in (by decide) (by rw [lR]; decide), Option.bind_some]
    rfl
  rw [s]
  rfl
theorem own_sitk {L M : List Int32} (n : Nat) (h : L.take n = M) : own_si M L := by
  intro k x e
  obtain ⟨k0, k1, kx⟩ := own_rdd e
  rw [rdA_nn k0]
  rw [← h, List.getElem?_take] at kx
  by_cases q : k.toInt.toNat < n
  · rw [if_pos q] at kx; exact kx
  · rw [if_neg q] at kx; cases kx
theorem own_si.ph {φ : Int32 → Int32} {L L' : List Int32} (h : own_si L L') (f : own_fx φ L) : own_sm φ L L' := by
  intro k x e
  rw [f k x e]
  exact h k x e
/-! the law x5 (printed by gen196y.py) -/
theorem own_e0 : (List.range 256).all (fun t => decide (own_ev 0 (Int32.ofNat t) = some 1)) = true := by decide +kernel
theorem own_b0 : own_bp 0 = true := by decide +kernel
theorem own_e1 : (List.range 256).all (fun t => decide (own_ev 1 (Int32.ofNat t) = some 1)) = true := by decide +kernel
theorem own_b1 : own_bp 1 = true := by decide +kernel
theorem own_e2 : (List.range 256).all (fun t => decide (own_ev 2 (Int32.ofNat t) = some 1)) = true := by decide +kernel
theorem own_b2 : own_bp 2 = true := by decide +kernel
theorem own_e3 : (List.range 256).all (fun t => decide (own_ev 3 (Int32.ofNat t) = some 1)) = true := by decide +kernel
theorem own_b3 : own_bp 3 = true := by decide +kernel
theorem own_e4 : (List.range 256).all (fun t => decide (own_ev 4 (Int32.ofNat t) = some 1)) = true := by decide +kernel
theorem own_b4 : own_bp 4 = true := by decide +kernel
theorem own_e5 : (List.range 256).all (fun t => decide (own_ev 5 (Int32.ofNat t) = some 1)) = true := by decide +kernel
theorem own_b5 : own_bp 5 = true := by decide +kernel
theorem own_e6 : (List.range 256).all (fun t => decide (own_ev 6 (Int32.ofNat t) = some 1)) = true := by decide +kernel
theorem own_b6 : own_bp 6 = true := by decide +kernel
theorem own_e7 : (List.range 256).all (fun t => decide (own_ev 7 (Int32.ofNat t) = some 1)) = true := by decide +kernel
theorem own_b7 : own_bp 7 = true := by decide +kernel
theorem own_e8 : (List.range 256).all (fun t => decide (own_ev 8 (Int32.ofNat t) = some 1)) = true := by decide +kernel
theorem own_b8 : own_bp 8 = true := by decide +kernel
theorem own_e9 : (List.range 256).all (fun t => decide (own_ev 9 (Int32.ofNat t) = some 1)) = true := by decide +kernel
theorem own_b9 : own_bp 9 = true := by decide +kernel
theorem own_e10 : (List.range 256).all (fun t => decide (own_ev 10 (Int32.ofNat t) = some 1)) = true := by decide +kernel
theorem own_b10 : own_bp 10 = true := by decide +kernel
theorem own_e11 : (List.range 256).all (fun t => decide (own_ev 11 (Int32.ofNat t) = some 1)) = true := by decide +kernel
theorem own_b11 : own_bp 11 = true := by decide +kernel
theorem own_e12 : (List.range 256).all (fun t => decide (own_ev 12 (Int32.ofNat t) = some 1)) = true := by decide +kernel
theorem own_b12 : own_bp 12 = true := by decide +kernel
theorem own_e13 : (List.range 256).all (fun t => decide (own_ev 13 (Int32.ofNat t) = some 1)) = true := by decide +kernel
theorem own_b13 : own_bp 13 = true := by decide +kernel
theorem own_e14 : (List.range 256).all (fun t => decide (own_ev 14 (Int32.ofNat t) = some 1)) = true := by decide +kernel
theorem own_b14 : own_bp 14 = true := by decide +kernel
theorem own_e15 : (List.range 256).all (fun t => decide (own_ev 15 (Int32.ofNat t) = some 1)) = true := by decide +kernel
theorem own_b15 : own_bp 15 = true := by decide +kernel
theorem own_evA : ∀ p : Nat, p < 16 → (List.range 256).all (fun t => decide (own_ev p (Int32.ofNat t) = some 1)) = true ∧ own_bp p = true := by
  intro p h
  match p, h with
  | 0, _ => exact ⟨own_e0, own_b0⟩
  | 1, _ => exact ⟨own_e1, own_b1⟩
  | 2, _ => exact ⟨own_e2, own_b2⟩
  | 3, _ => exact ⟨own_e3, own_b3⟩
  | 4, _ => exact ⟨own_e4, own_b4⟩
  | 5, _ => exact ⟨own_e5, own_b5⟩
  | 6, _ => exact ⟨own_e6, own_b6⟩
  | 7, _ => exact ⟨own_e7, own_b7⟩
  | 8, _ => exact ⟨own_e8, own_b8⟩
  | 9, _ => exact ⟨own_e9, own_b9⟩
  | 10, _ => exact ⟨own_e10, own_b10⟩
  | 11, _ => exact ⟨own_e11, own_b11⟩
  | 12, _ => exact ⟨own_e12, own_b12⟩
  | 13, _ => exact ⟨own_e13, own_b13⟩
  | 14, _ => exact ⟨own_e14, own_b14⟩
  | 15, _ => exact ⟨own_e15, own_b15⟩
  | p + 16, h => omega
theorem own_and3 (v : Int32) : ∃ a : Nat, a < 4 ∧ v &&& 3 = Int32.ofNat a := by
  have r := iand_rng v 3 (by decide)
  have e3 : (3 : Int32).toInt = 3 := rfl
  refine ⟨(v &&& 3).toInt.toNat, by omega, ?_⟩
  rw [ieq, Int32.toInt_ofNat_of_lt (by omega)]
  omega
theorem own_tail {p : Nat} (hp : p < 16) {x y r0 r1 v4 : Int32} (ex : x = 97 + Int32.ofNat (p / 4)) (ey : y = 97 + Int32.ofNat (p % 4)) (y0 : 97 ≤ y.toInt) (a0 : 65 ≤ r0.toInt) (a1 : r0.toInt ≤ 72) (b0 : 73 ≤ r1.toInt) (b1 : r1.toInt ≤ 80) {CH DE DP TM OM : List Int32} (h1 : CH.take 82 = (own_tb p).1) (h2 : DE.take 82 = (own_tb p).2.1) (h3 : DP.take 4 = (own_tb p).2.2.1) (h4 : TM.take 4 = (own_tb p).2.2.2.1) (h5 : OM.take 4 = (own_tb p).2.2.2.2) : f_L_law_139 f_L_law_285 100000 own_klp (((List.replicate 16 0).set 0 r0).set 1 r1) CH DE DP TM OM (List.replicate 240 0) (List.replicate 240 0) (List.replicate 240 0) (List.replicate 8 0) 1 2 0 0 0 0 0 0 v4 x y r0 r1 0 0 = some 1 := by
  obtain ⟨F, f0, f1, fz⟩ := own_phF a0 a1 b0 b1
  have ev := (own_evA p hp).1
  have r := iand_rng v4 255 (by decide)
  have e255 : (255 : Int32).toInt = 255 := rfl
  have et : v4 &&& 255 = Int32.ofNat (v4 &&& 255).toInt.toNat := by
    rw [ieq, Int32.toInt_ofNat_of_lt (by omega)]; omega
  have e1 : own_ev p (v4 &&& 255) = some 1 := by
    have := List.all_eq_true.1 ev (v4 &&& 255).toInt.toNat (List.mem_range.2 (by omega))
    rw [← et] at this
    exact of_decide_eq_true this
  unfold own_ev at e1
  rw [← ex, ← ey] at e1
  have z4 : own_si [0, 0, 0, 0] (List.replicate 240 (0 : Int32)) := own_sitk 4 rfl
  have z8 : own_si [0, 0, 0, 0, 0, 0, 0, 0] (List.replicate 8 (0 : Int32)) := own_sitk 8 rfl
  have zf : ∀ L : List Int32, (∀ c ∈ L, c = 0) → own_fx (own_ph r0 r1) L := by
    intro L hL k x e
    obtain ⟨-, -, kx⟩ := own_rdd e
    rw [hL x (List.mem_of_getElem? kx)]
    exact fz
  have zf4 : own_fx (own_ph r0 r1) [0, 0, 0, 0] := zf _ (by decide)
  have zf8 : own_fx (own_ph r0 r1) [0, 0, 0, 0, 0, 0, 0, 0] := zf _ (by decide)
  have kr : own_sm (own_ph r0 r1) [65, 73] (((List.replicate 16 0).set 0 r0).set 1 r1) := by
    intro k x e
    obtain ⟨k0, k1, kx⟩ := own_rdd e
    rw [rdA_nn k0]
    have k2 : k.toInt.toNat < 2 := k1
    rcases (show k.toInt.toNat = 0 ∨ k.toInt.toNat = 1 by omega) with z | z
    · rw [z] at kx ⊢
      rw [← Option.some.inj kx, f0]; rfl
    · rw [z] at kx ⊢
      rw [← Option.some.inj kx, f1]; rfl
  have G : own_G (own_ph r0 r1) [2, 1] own_klp [65, 73] (((List.replicate 16 0).set 0 r0).set 1 r1) (own_tb p).1 CH (own_tb p).2.1 DE (own_tb p).2.2.1 DP (own_tb p).2.2.2.1 TM (own_tb p).2.2.2.2 OM := ⟨own_sitk 2 rfl, kr, own_sitk 82 h1, own_sitk 82 h2, own_sitk 4 h3, own_sitk 4 h4, own_sitk 4 h5⟩
  have H : own_Hh (own_ph r0 r1) [0, 0, 0, 0] (List.replicate 240 0) [0, 0, 0, 0] (List.replicate 240 0) [0, 0, 0, 0] (List.replicate 240 0) [0, 0, 0, 0, 0, 0, 0, 0] (List.replicate 8 0) := ⟨z4, zf4, z4, z4.ph zf4, z8.ph zf8⟩
  obtain ⟨w, ew, hw⟩ := own_139S F G (own_tc8 v4) (x := x) y0 (r0 := 65) (r1 := 73) 1 2 100000 _ _ _ _ _ _ _ _ 0 0 0 0 0 0 0 0 H (by decide) 1 e1
  rw [f0, f1] at ew
  rw [ew, hw]
theorem own_true (v0 v1 v2 v3 v4 : Int32) : f_L_law v0 v1 v2 v3 v4 = some 1 := by
  have z0 : (0 : Int32).toInt = 0 := rfl
  have z1 : (1 : Int32).toInt = 1 := rfl
  have z2 : (2 : Int32).toInt = 2 := rfl
  have z7 : (7 : Int32).toInt = 7 := rfl
  have z8 : (8 : Int32).toInt = 8 := rfl
  have z15 : (15 : Int32).toInt = 15 := rfl
  have z16 : (16 : Int32).toInt = 16 := rfl
  have z65 : (65 : Int32).toInt = 65 := rfl
  have z73 : (73 : Int32).toInt = 73 := rfl
  have z97 : (97 : Int32).toInt = 97 := rfl
  have q1 := iand_rng v0 15 (by decide)
  have q2 := iand_rng (v0 >>> (4 &&& 31)) 7 (by decide)
  have q3 := iand_rng v3 7 (by decide)
  have q4 := iand_rng (v3 >>> (3 &&& 31)) 7 (by decide)
  unfold f_L_law
  have hk : 2 ≤ ((2 : Int32) + (v0 &&& 15)).toInt := by rw [iadd_i (by omega) (by omega)]; omega
  have hl : 2 ≤ ((2 : Int32) + (v0 >>> (4 &&& 31) &&& 7)).toInt := by rw [iadd_i (by omega) (by omega)]; omega
  have A0 : 65 ≤ ((65 : Int32) + (v3 &&& 7)).toInt ∧ ((65 : Int32) + (v3 &&& 7)).toInt ≤ 72 := by rw [iadd_i (by omega) (by omega)]; omega
  have B0 : 73 ≤ ((73 : Int32) + (v3 >>> (3 &&& 31) &&& 7)).toInt ∧ ((73 : Int32) + (v3 >>> (3 &&& 31) &&& 7)).toInt ≤ 80 := by rw [iadd_i (by omega) (by omega)]; omega
  generalize (2 : Int32) + (v0 &&& 15) = rk at hk ⊢
  generalize (2 : Int32) + (v0 >>> (4 &&& 31) &&& 7) = rl at hl ⊢
  generalize (65 : Int32) + (v3 &&& 7) = r0 at A0 ⊢
  generalize (73 : Int32) + (v3 >>> (3 &&& 31) &&& 7) = r1 at B0 ⊢
  obtain ⟨a, a4, ea⟩ := own_and3 v1
  obtain ⟨b, b4, eb⟩ := own_and3 v2
  rw [ea, eb]
  have ra : (Int32.ofNat a).toInt = a := Int32.toInt_ofNat_of_lt (by omega)
  have rb : (Int32.ofNat b).toInt = b := Int32.toInt_ofNat_of_lt (by omega)
  have X0 : ((97 : Int32) + Int32.ofNat a).toInt = 97 + a := by rw [iadd_i (by omega) (by omega), ra, z97]
  have Y0 : ((97 : Int32) + Int32.ofNat b).toInt = 97 + b := by rw [iadd_i (by omega) (by omega), rb, z97]
  have hp : a * 4 + b < 16 := by omega
  have ex : (97 : Int32) + Int32.ofNat a = 97 + Int32.ofNat ((a * 4 + b) / 4) := by rw [show (a * 4 + b) / 4 = a by omega]
  have ey : (97 : Int32) + Int32.ofNat b = 97 + Int32.ofNat ((a * 4 + b) % 4) := by rw [show (a * 4 + b) % 4 = b by omega]
  generalize a * 4 + b = p at hp ex ey
  generalize (97 : Int32) + Int32.ofNat a = x at X0 ex ⊢
  generalize (97 : Int32) + Int32.ofNat b = y at Y0 ey ⊢
  obtain ⟨mk, ml, TM0, hT, m0, l0, hi⟩ : ∃ mk ml TM0, own_V TM0 129 (-1) (-1) ∧ 2 ≤ mk.toInt ∧ 2 ≤ ml.toInt ∧ f_init rk rl = some (List.replicate 128 0, List.replicate 16 0, List.replicate 16 0, List.replicate 8 0, List.replicate 3354 0, List.replicate 3354 0, List.replicate 129 0, List.replicate 129 0, TM0, List.replicate 129 0, List.replicate 129 0, List.replicate 240 0, List.replicate 240 0, List.replicate 240 0, List.replicate 8 0, mk, ml, 0, 0, 0, 1, 1, 0, 0, 0, 0, 0, 0) := by
    have r : (List.replicate 129 (0 : Int32)).length = 129 := by simp
    have cl : ∀ (v hi : Int32), 2 ≤ v.toInt → 2 ≤ hi.toInt → 2 ≤ (if hi < (if v < 1 then 1 else v) then hi else (if v < 1 then 1 else v)).toInt := by
      intro v hi h h2
      rw [if_neg (show ¬ v < 1 by rw [ilt]; omega)]
      by_cases q : hi < v
      · rw [if_pos q]; exact h2
      · rw [if_neg q]; exact h
    unfold f_init f_init_144 f_init_153 f_init_165 f_init_176
    generalize List.replicate 128 (0 : Int32) = x1
    generalize List.replicate 16 (0 : Int32) = x2
    generalize List.replicate 8 (0 : Int32) = x3
    generalize List.replicate 3354 (0 : Int32) = x4
    generalize List.replicate 240 (0 : Int32) = x5
    generalize List.replicate 129 (0 : Int32) = x6 at r
    have c1 := cl rk 16 hk (by decide)
    have c2 := cl rl 8 hl (by decide)
    obtain ⟨T, t1, t2⟩ := own_inT 100000 x1 x2 x2 x3 x4 x4 x6 x6 x6 x6 x6 x5 x5 x5 x3 (if 16 < (if rk < 1 then 1 else rk) then 16 else (if rk < 1 then 1 else rk)) (if 8 < (if rl < 1 then 1 else rl) then 8 else (if rl < 1 then 1 else rl)) 0 0 0 1 1 0 0 0 0 0 0 0 r (fun j j0 j1 => by omega) (by decide) (by decide) (by decide)
    exact ⟨_, _, T, t1, c1, c2, t2⟩
  have eT : TM0 = List.replicate 129 (-1) := by
    refine gext (by rw [hT.1]; decide) (by rw [hT.1, List.length_replicate]) (fun i i0 i1 => ?_)
    have lT := hT.1
    rw [gI_rep i0 (by omega)]
    have := hT.2 i i0 (by omega)
    rw [ieq]
    have em : (-1 : Int32).toInt = -1 := rfl
    omega
  have l1 : (List.replicate 128 (0 : Int32)).length = 128 := List.length_replicate
  have l2 : (List.replicate 16 (0 : Int32)).length = 16 := List.length_replicate
  have l3 : (List.replicate 8 (0 : Int32)).length = 8 := List.length_replicate
  have P1 : rdA (((List.replicate 8 (0 : Int32)).set 0 x).set 1 y) 0 = some x := rfl
  have P2 : rdA (((List.replicate 8 (0 : Int32)).set 0 x).set 1 y) 1 = some y := rfl
  have P3 : rdA ((((List.replicate 8 (0 : Int32)).set 0 x).set 1 y).set 0 y) 0 = some y := rfl
  have P4 : rdA ((List.replicate 16 (0 : Int32)).set 0 2) 0 = some 2 := rfl
  have B := (own_evA p hp).2
  unfold own_bp at B
  have bu : own_bu p = f_build (own_kcp x y) own_klp 2 0 (List.replicate 3354 0) (List.replicate 3354 0) (List.replicate 129 0) (List.replicate 129 0) TM0 (List.replicate 129 0) (List.replicate 129 0) 0 1 1 0 0 0 0 0 0 := by
    unfold own_bu
    rw [eT, ← ex, ← ey]
  rw [bu] at B
  rw [hi, Option.bind_some]
  show Option.bind (f_addChar mk ml 0 0 (List.replicate 8 0) 0 x) _ = _
  rw [own_adE l3 (by decide) (by decide) l0 (by omega) (by omega) (by omega), Option.bind_some]
  show (if (0 : Int32) + 1 = 1 then _ else _) = _
  rw [if_pos (by decide)]
  show Option.bind (f_addChar mk ml 0 0 ((List.replicate 8 0).set 0 x) 1 y) _ = _
  rw [own_adE (by rw [List.length_set]; exact l3) (by decide) (by decide) l0 (by omega) (by omega) (by omega), Option.bind_some]
  show (if (1 : Int32) + 1 = 2 then _ else _) = _
  rw [if_pos (by decide)]
  show Option.bind (f_endKeyword (((List.replicate 8 0).set 0 x).set 1 y) 0 (List.replicate 128 0) (List.replicate 16 0) (List.replicate 16 0) 0 2 r0) _ = _
  rw [own_ek1 l1 l2 l2 P1 P2 A0.1 (by omega), Option.bind_some]
  show (if (0 : Int32) = 0 then _ else _) = _
  rw [if_pos rfl]
  show Option.bind (f_addChar mk ml 0 1 (((List.replicate 8 0).set 0 x).set 1 y) 0 y) _ = _
  rw [own_adE (by rw [List.length_set, List.length_set]; exact l3) (by decide) (by decide) l0 (by omega) (by omega) (by omega), Option.bind_some]
  show (if (0 : Int32) + 1 = 1 then _ else _) = _
  rw [if_pos (by decide)]
  show Option.bind (f_endKeyword ((((List.replicate 8 0).set 0 x).set 1 y).set 0 y) 0 (((List.replicate 128 0).set 0 x).set 1 y) ((List.replicate 16 0).set 0 2) ((List.replicate 16 0).set 0 r0) 1 1 r1) _ = _
  rw [own_ek2 (by rw [List.length_set, List.length_set]; exact l1) (by rw [List.length_set]; exact l2) (by rw [List.length_set]; exact l2) P3 P4 (by omega) B0.2, Option.bind_some]
  show (if (1 : Int32) = 1 then _ else _) = _
  rw [if_pos rfl]
  show Option.bind (f_build (own_kcp x y) own_klp 2 0 (List.replicate 3354 0) (List.replicate 3354 0) (List.replicate 129 0) (List.replicate 129 0) TM0 (List.replicate 129 0) (List.replicate 129 0) 0 1 1 0 0 0 0 0 0) _ = _
  generalize f_build (own_kcp x y) own_klp 2 0 (List.replicate 3354 0) (List.replicate 3354 0) (List.replicate 129 0) (List.replicate 129 0) TM0 (List.replicate 129 0) (List.replicate 129 0) 0 1 1 0 0 0 0 0 0 = w at B ⊢
  match w, B with
  | some (r, CH, DE, FA, DP, TM, OM, QU, ph, nc, lk, n, st, to, ol, cp, tn), B =>
    obtain ⟨rfl, h1, h2, h3, h4, h5, rfl, rfl, rfl, rfl, rfl, rfl, rfl, rfl⟩ := of_decide_eq_true B
    rw [Option.bind_some]
    show (if (0 : Int32) = 0 then _ else _) = _
    rw [if_pos rfl]
    exact own_tail hp ex ey (by omega) A0.1 A0.2 B0.1 B0.2 h1 h2 h3 h4 h5
  | none, B => cases B
set_option maxRecDepth 65536 in
theorem comes_1 {Post : Tables → Env → Array Value → State → Outcome → State → Prop} (hpost : ∀ tb e args s v u, (limb_1_1.after args s (.returned v) u = true ∧ limb_1_2.after args s (.returned v) u = true ∧ True) → FrameEnd s (.returned v) u (Jvm.fieldLocs frame_1_writes args s ++ Jvm.arrayLocs frame_1_arrays args s ++ Jvm.staticLocs frame_1_statics s) 40 16640 → Post tb e args s (.returned v) u) :
    ArmFor flags0 classFile x code maxLocals ret World_1 tables_1 room_1 Calls_1 rest_1 Pre_1 Post := by
  intro l hfl _ _ p e ha hc hk s m args below hf hA hF happ hP
  obtain ⟨hcalls, hrest, hpre⟩ := hP
  obtain ⟨-, -, -, hnamed, -, -, -, hat⟩ := (Spec.applies_iff hf).mp happ
  obtain ⟨hg, hn⟩ := and_e (Cond.before_iff.mp (show (Jvm.Cond.and given_1 narrow_1).before args s = true from hpre))
  obtain ⟨h1, h2⟩ := and_e hg
  have hw := fun d (hd : d ∈ tables_1) => atoms_spec (ws := Jvm.Cond.code x code maxLocals ret :: tables_1) hat d (List.mem_cons_of_mem _ hd)
  obtain ⟨w0, w1, w2, w3, w4, rfl⟩ : ∃ w0 w1 w2 w3 w4 : Value, args = #[w0, w1, w2, w3, w4] := by
    have hs : args.size = 5 := by simpa [Cond.value, given_1] using h1
    obtain ⟨L⟩ := args
    match L, hs with
    | [w0, w1, w2, w3, w4], _ => exact ⟨w0, w1, w2, w3, w4, rfl⟩
  obtain ⟨g0, t0⟩ := and_e h2
  obtain ⟨i0, e0⟩ := is_v g0
  obtain rfl : w0 = (.int i0) := Option.some.inj e0
  obtain ⟨g1, t1⟩ := and_e t0
  obtain ⟨i1, e1⟩ := is_v g1
  obtain rfl : w1 = (.int i1) := Option.some.inj e1
  obtain ⟨g2, t2⟩ := and_e t1
  obtain ⟨i2, e2⟩ := is_v g2
  obtain rfl : w2 = (.int i2) := Option.some.inj e2
  obtain ⟨g3, t3⟩ := and_e t2
  obtain ⟨i3, e3⟩ := is_v g3
  obtain rfl : w3 = (.int i3) := Option.some.inj e3
  obtain ⟨i4, e4⟩ := is_v t3
  obtain rfl : w4 = (.int i4) := Option.some.inj e4
  have E : OEndsQ own_P 0 0 (entL [.int i0, .int i1, .int i2, .int i3, .int i4] d_0.maxL) [] [] (LawQ 1 16 8277) := ok_L_law (own_true i0 i1 i2 i3 i4)
  have hS : SR [] [.int i0, .int i1, .int i2, .int i3, .int i4] [.int i0, .int i1, .int i2, .int i3, .int i4] := ⟨_, _, rfl, rfl, ⟨_, _, rfl, rfl, ⟨_, _, rfl, rfl, ⟨_, _, rfl, rfl, ⟨_, _, rfl, rfl, rfl⟩⟩⟩⟩⟩
  have hH : HR own_P s s.heap.size s.heap [] [] := ⟨Nat.le_refl _, rfl, fun i j a h => by simp at h, fun k a h => by simp at h, fun k a c h => by simp at h⟩
  have M := law_met (l := l) own_chk (fun w hw' => hw w (own_in w hw')) hm_0 E hS (Nat.le_of_ble_eq_true rfl) hH tables_1 room_1 (Nat.le_of_ble_eq_true rfl) (Nat.le_of_ble_eq_true rfl) (Nat.le_of_ble_eq_true rfl) (Nat.le_of_ble_eq_true rfl)
  obtain ⟨n, o, h1, h2, h3, L, rfl, N, hq⟩ := M p e ha hc hk s m _ below hf ((Spec.applies_iff_loose hf).mp happ).1 ⟨rfl, State.Warmed39.refl s, rfl⟩ trivial
  refine ⟨n, _, h1, h2, h3, hpost _ _ _ _ _ _ ⟨Cond.after_iff.mpr rfl, Cond.after_iff.mpr (eq_i res_at (Term.int_eval (1)) rfl), trivial⟩ ⟨hq.1, hq.2.1, (hq.2.2.sift fun y hy => Or.inr (N y hy)).mono (by decide) (by decide)⟩⟩
theorem main_1_1 : Claimed_1_1 := comes_1 fun _ _ _ _ _ _ h hF => ⟨h.1, hF⟩
theorem main_1_2 : Claimed_1_2 := comes_1 fun _ _ _ _ _ _ h hF => ⟨h.2.1, hF⟩
end Jvm.Pilot.@@N@@
namespace Jvm.Pilot.@@N@@
open Jvm Jvm.ClassFile Sem Op Lib Jvm.Free Jvm.Stand Jvm.Pilot.@@N@@.Jvm.D
/-! MADE BY PROGRAM (witnessworld.py) out of the Statement's table words and the real class files: 9 classes; the members and pool entries that the words name. The judged class is class 1, her method 2. -/
namespace start1
open Jvm.ClassFile
def u (s : String) : CpInfo := .utf8 (stringToUtf16 s)
/-- a pool by its gaps: so many unusable entries, then the entry; so many at the end -/
def gap : Nat → List CpInfo → List CpInfo
  | 0, r => r
  | n + 1, r => .unusable :: gap n r
def poolList (es : List (Nat × CpInfo)) (last : Nat) : List CpInfo := es.foldr (fun e r => gap e.1 (e.2 :: r)) (gap last [])
def pool (es : List (Nat × CpInfo)) (last : Nat) : Array CpInfo := ⟨poolList es last⟩
def fileOf (pool : Array CpInfo) (this : Nat) (attrs : Array Attribute := #[]) (ms : Array MethodInfo := #[]) (fl : Nat := 33) (sup : Nat := 0) (ifs : Array Nat := #[]) (fds : Array FieldInfo := #[]) : ClassFile where
  minorVersion := 0
  majorVersion := 65
  constantPool := pool
  accessFlags := fl
  thisClass := this
  superClass := sup
  interfaces := ifs
  fields := fds
  methods := ms
  attributes := attrs
def plain (name : String) (sup : Option ClassId) : Class where
  name := name
  kind := .ordinary
  loader := none
  accessFlags := 33
  super := sup
  interfaces := #[]
  cf := none
  fields := #[]
  methods := #[]
  instanceTypes := #[]
  staticTypes := #[]
  resolved := #[]
  callSites := []
  init := .initialized
  statics := none
  mirror := none

def pool0 : Array CpInfo := pool [(5, u "<init>"), (0, u "()V"), (1, .class_ 10), (1, u "java/lang/Object")] 113

def k0c0 : Code := { maxStack := 0, maxLocals := 1, code := object_method_1_code, exceptionTable := #[], attributes := #[] }
def k0m0 : Method := { name := "<init>", desc := "()V", sig := { parameters := [], returnType := none }, accessFlags := 1, code := some k0c0 }
/-- java/lang/Object -/
def k0 : Class := { plain "java/lang/Object" none with
  accessFlags := 33
  interfaces := #[]
  cf := some (fileOf pool0 8 #[] #[{ accessFlags := 1, nameIndex := 5, descriptorIndex := 6, attributes := #[] }] 33 0 #[] #[])
  fields := #[]
  methods := #[k0m0]
  instanceTypes := #[]
  staticTypes := #[]
  resolved := Array.replicate 124 none
  statics := none }

def pool1 : Array CpInfo := pool [(2, .class_ 4), (1, u "java/lang/Object"), (0, u "<init>"), (0, u "()V"), (0, .class_ 8), (0, u "MultiPatternScan"), (0, .methodref 7 10), (0, .nameAndType 5 11), (0, u "(II)V"), (0, .methodref 7 13), (0, .nameAndType 14 15), (0, u "addChar"), (0, u "(I)I"), (0, .methodref 7 17), (0, .nameAndType 18 15), (0, u "endKeyword"), (0, .methodref 7 20), (0, .nameAndType 21 22), (0, u "build"), (0, u "()I"), (0, .methodref 24 25), (0, .class_ 26), (0, .nameAndType 27 28), (0, u "MultiPatternScanL3"), (0, u "tc"), (0, u "(II)I"), (0, .methodref 7 30), (0, .nameAndType 31 15), (0, u "feed"), (0, .methodref 7 33), (0, .nameAndType 34 15), (0, u "occurrenceMask"), (0, .methodref 7 36), (0, .nameAndType 37 22), (0, u "textLength"), (0, .methodref 7 39), (0, .nameAndType 40 22), (0, u "totalOccurrences"), (0, .methodref 7 42), (0, .nameAndType 43 22), (0, u "longestPartial"), (0, .methodref 7 45), (0, .nameAndType 46 15), (0, u "outChar"), (0, .methodref 7 48), (0, .nameAndType 49 22), (0, u "outLength"), (2, u "law"), (0, u "(IIIII)Z")] 3

def k1m0 : Method := { name := "<init>", desc := "()V", sig := { parameters := [], returnType := none }, accessFlags := 1, code := none }
def k1c1 : Code := { maxStack := 4, maxLocals := 2, code := method_2_code, exceptionTable := #[], attributes := #[] }
def k1m1 : Method := { name := "tc", desc := "(II)I", sig := { parameters := [.int, .int], returnType := some .int }, accessFlags := 10, code := some k1c1 }
def k1c2 : Code := { maxStack := 6, maxLocals := 17, code := code, exceptionTable := #[], attributes := #[] }
def k1m2 : Method := { name := "law", desc := "(IIIII)Z", sig := { parameters := [.int, .int, .int, .int, .int], returnType := some .boolean }, accessFlags := 9, code := some k1c2 }
/-- MultiPatternScanL3 -/
def k1 : Class := { plain "MultiPatternScanL3" (some 0) with
  accessFlags := 49
  interfaces := #[]
  cf := some (fileOf pool1 24 #[] #[{ accessFlags := 1, nameIndex := 5, descriptorIndex := 6, attributes := #[] }, { accessFlags := 10, nameIndex := 27, descriptorIndex := 28, attributes := #[] }, { accessFlags := 9, nameIndex := 52, descriptorIndex := 53, attributes := #[] }] 49 2 #[] #[])
  fields := #[]
  methods := #[k1m0, k1m1, k1m2]
  instanceTypes := #[]
  staticTypes := #[]
  resolved := Array.replicate 57 none
  statics := none }

def pool2 : Array CpInfo := pool [(1, .methodref 2 3), (0, .class_ 4), (0, .nameAndType 5 6), (0, u "java/lang/Object"), (0, u "<init>"), (0, u "()V"), (0, .fieldref 8 9), (0, .class_ 10), (0, .nameAndType 11 12), (0, u "MultiPatternScan"), (0, u "kwChars"), (0, u "[I"), (0, .fieldref 8 14), (0, .nameAndType 15 12), (0, u "kwLen"), (0, .fieldref 8 17), (0, .nameAndType 18 12), (0, u "kwRepl"), (0, .fieldref 8 20), (0, .nameAndType 21 12), (0, u "pend"), (0, .fieldref 8 23), (0, .nameAndType 24 12), (0, u "child"), (0, .fieldref 8 26), (0, .nameAndType 27 12), (0, u "delta"), (0, .fieldref 8 29), (0, .nameAndType 30 12), (0, u "fail"), (0, .fieldref 8 32), (0, .nameAndType 33 12), (0, u "depth"), (0, .fieldref 8 35), (0, .nameAndType 36 12), (0, u "term"), (0, .fieldref 8 38), (0, .nameAndType 39 12), (0, u "outMask"), (0, .fieldref 8 41), (0, .nameAndType 42 12), (0, u "queue"), (0, .fieldref 8 44), (0, .nameAndType 45 12), (0, u "text"), (0, .fieldref 8 47), (0, .nameAndType 48 12), (0, u "masks"), (0, .fieldref 8 50), (0, .nameAndType 51 12), (0, u "out"), (0, .fieldref 8 53), (0, .nameAndType 54 12), (0, u "tail"), (0, .fieldref 8 56), (0, .nameAndType 57 58), (0, u "maxKw"), (0, u "I"), (0, .fieldref 8 60), (0, .nameAndType 61 58), (0, u "maxLen"), (0, .fieldref 8 63), (0, .nameAndType 64 58), (0, u "phaseNow"), (0, .fieldref 8 66), (0, .nameAndType 67 58), (0, u "count"), (0, .fieldref 8 69), (0, .nameAndType 70 58), (0, u "pendLen"), (0, .fieldref 8 72), (0, .nameAndType 73 58), (0, u "nodeCount"), (0, .fieldref 8 75), (0, .nameAndType 76 58), (0, u "longestKw"), (0, .methodref 8 78), (0, .nameAndType 79 6), (0, u "clearText"), (0, .methodref 8 81), (0, .nameAndType 82 83), (0, u "isLetter"), (0, u "(I)Z"), (0, .methodref 8 85), (0, .nameAndType 86 83), (0, u "isPrintable"), (0, .methodref 8 88), (0, .nameAndType 89 90), (0, u "pendingIsDuplicate"), (0, u "()Z"), (0, .methodref 8 92), (0, .nameAndType 93 94), (0, u "storePending"), (0, u "(I)V"), (0, .methodref 8 96), (0, .nameAndType 97 6), (0, u "buildTrie"), (0, .methodref 8 99), (0, .nameAndType 100 6), (0, u "computeLinks"), (0, .fieldref 8 102), (0, .nameAndType 103 58), (0, u "n"), (0, .fieldref 8 105), (0, .nameAndType 106 58), (0, u "state"), (0, .methodref 8 108), (0, .nameAndType 109 110), (0, u "nextState"), (0, u "(II)I"), (0, .methodref 8 112), (0, .nameAndType 113 114), (0, u "popCount"), (0, u "(I)I"), (0, .fieldref 8 116), (0, .nameAndType 117 58), (0, u "total"), (0, .methodref 8 119), (0, .nameAndType 120 6), (0, u "commitReady"), (0, .methodref 8 122), (0, .nameAndType 123 6), (0, u "rebuildTail"), (3, .fieldref 8 128), (0, .nameAndType 129 58), (0, u "outLen"), (0, .fieldref 8 131), (0, .nameAndType 132 58), (0, u "tailLen"), (0, .methodref 8 134), (0, .nameAndType 135 83), (0, u "pendingEquals"), (0, .methodref 8 137), (0, .nameAndType 138 94), (0, u "insertKeyword"), (0, .methodref 8 140), (0, .nameAndType 141 110), (0, u "expandNode"), (0, .fieldref 8 143), (0, .nameAndType 144 58), (0, u "commitPos"), (0, .methodref 8 146), (0, .nameAndType 147 6), (0, u "commitOne"), (0, .methodref 8 149), (0, .nameAndType 150 114), (0, u "longestAt"), (0, u "PHASE_BUILD"), (2, u "PHASE_SCAN"), (1, u "OK"), (0, u "ERR_PHASE"), (1, u "ERR_CHAR"), (1, u "ERR_FULL"), (1, u "ERR_EMPTY"), (1, u "ERR_DUPLICATE"), (1, u "ERR_REPL"), (1, u "ERR_PENDING"), (1, u "MAX_KEYWORDS"), (1, u "MAX_KEYWORD_LEN"), (1, u "MAX_TEXT"), (1, u "MAX_NODES"), (1, u "ALPHA"), (1, u "TAIL_CAP"), (0, u "(II)V"), (3, u "addChar"), (0, u "endKeyword"), (0, u "build"), (0, u "()I"), (0, u "feed"), (5, u "textLength"), (1, u "occurrenceMask"), (0, u "totalOccurrences"), (0, u "longestPartial"), (0, u "outLength"), (0, u "outChar")] 2

def k2c0 : Code := { maxStack := 3, maxLocals := 6, code := prog_1_method_1_code, exceptionTable := #[], attributes := #[] }
def k2m0 : Method := { name := "<init>", desc := "(II)V", sig := { parameters := [.int, .int], returnType := none }, accessFlags := 1, code := some k2c0 }
def k2c1 : Code := { maxStack := 3, maxLocals := 2, code := prog_1_method_2_code, exceptionTable := #[], attributes := #[] }
def k2m1 : Method := { name := "addChar", desc := "(I)I", sig := { parameters := [.int], returnType := some .int }, accessFlags := 1, code := some k2c1 }
def k2c2 : Code := { maxStack := 2, maxLocals := 2, code := prog_1_method_3_code, exceptionTable := #[], attributes := #[] }
def k2m2 : Method := { name := "endKeyword", desc := "(I)I", sig := { parameters := [.int], returnType := some .int }, accessFlags := 1, code := some k2c2 }
def k2c3 : Code := { maxStack := 2, maxLocals := 1, code := prog_1_method_4_code, exceptionTable := #[], attributes := #[] }
def k2m3 : Method := { name := "build", desc := "()I", sig := { parameters := [], returnType := some .int }, accessFlags := 1, code := some k2c3 }
def k2c4 : Code := { maxStack := 4, maxLocals := 4, code := prog_1_method_5_code, exceptionTable := #[], attributes := #[] }
def k2m4 : Method := { name := "feed", desc := "(I)I", sig := { parameters := [.int], returnType := some .int }, accessFlags := 1, code := some k2c4 }
def k2c5 : Code := { maxStack := 1, maxLocals := 1, code := prog_1_method_11_code, exceptionTable := #[], attributes := #[] }
def k2m5 : Method := { name := "textLength", desc := "()I", sig := { parameters := [], returnType := some .int }, accessFlags := 1, code := some k2c5 }
def k2c6 : Code := { maxStack := 2, maxLocals := 2, code := prog_1_method_13_code, exceptionTable := #[], attributes := #[] }
def k2m6 : Method := { name := "occurrenceMask", desc := "(I)I", sig := { parameters := [.int], returnType := some .int }, accessFlags := 1, code := some k2c6 }
def k2c7 : Code := { maxStack := 1, maxLocals := 1, code := prog_1_method_14_code, exceptionTable := #[], attributes := #[] }
def k2m7 : Method := { name := "totalOccurrences", desc := "()I", sig := { parameters := [], returnType := some .int }, accessFlags := 1, code := some k2c7 }
def k2c8 : Code := { maxStack := 2, maxLocals := 1, code := prog_1_method_15_code, exceptionTable := #[], attributes := #[] }
def k2m8 : Method := { name := "longestPartial", desc := "()I", sig := { parameters := [], returnType := some .int }, accessFlags := 1, code := some k2c8 }
def k2c9 : Code := { maxStack := 2, maxLocals := 1, code := prog_1_method_16_code, exceptionTable := #[], attributes := #[] }
def k2m9 : Method := { name := "outLength", desc := "()I", sig := { parameters := [], returnType := some .int }, accessFlags := 1, code := some k2c9 }
def k2c10 : Code := { maxStack := 2, maxLocals := 3, code := prog_1_method_17_code, exceptionTable := #[], attributes := #[] }
def k2m10 : Method := { name := "outChar", desc := "(I)I", sig := { parameters := [.int], returnType := some .int }, accessFlags := 1, code := some k2c10 }
def k2c11 : Code := { maxStack := 2, maxLocals := 2, code := prog_1_method_19_code, exceptionTable := #[], attributes := #[] }
def k2m11 : Method := { name := "pendingIsDuplicate", desc := "()Z", sig := { parameters := [], returnType := some .boolean }, accessFlags := 2, code := some k2c11 }
def k2c12 : Code := { maxStack := 3, maxLocals := 4, code := prog_1_method_20_code, exceptionTable := #[], attributes := #[] }
def k2m12 : Method := { name := "pendingEquals", desc := "(I)Z", sig := { parameters := [.int], returnType := some .boolean }, accessFlags := 2, code := some k2c12 }
def k2c13 : Code := { maxStack := 4, maxLocals := 4, code := prog_1_method_21_code, exceptionTable := #[], attributes := #[] }
def k2m13 : Method := { name := "storePending", desc := "(I)V", sig := { parameters := [.int], returnType := none }, accessFlags := 2, code := some k2c13 }
def k2c14 : Code := { maxStack := 3, maxLocals := 2, code := prog_1_method_22_code, exceptionTable := #[], attributes := #[] }
def k2m14 : Method := { name := "buildTrie", desc := "()V", sig := { parameters := [], returnType := none }, accessFlags := 2, code := some k2c14 }
def k2c15 : Code := { maxStack := 5, maxLocals := 7, code := prog_1_method_23_code, exceptionTable := #[], attributes := #[] }
def k2m15 : Method := { name := "insertKeyword", desc := "(I)V", sig := { parameters := [.int], returnType := none }, accessFlags := 2, code := some k2c15 }
def k2c16 : Code := { maxStack := 3, maxLocals := 5, code := prog_1_method_24_code, exceptionTable := #[], attributes := #[] }
def k2m16 : Method := { name := "computeLinks", desc := "()V", sig := { parameters := [], returnType := none }, accessFlags := 2, code := some k2c16 }
def k2c17 : Code := { maxStack := 5, maxLocals := 8, code := prog_1_method_25_code, exceptionTable := #[], attributes := #[] }
def k2m17 : Method := { name := "expandNode", desc := "(II)I", sig := { parameters := [.int, .int], returnType := some .int }, accessFlags := 2, code := some k2c17 }
def k2c18 : Code := { maxStack := 4, maxLocals := 3, code := prog_1_method_26_code, exceptionTable := #[], attributes := #[] }
def k2m18 : Method := { name := "nextState", desc := "(II)I", sig := { parameters := [.int, .int], returnType := some .int }, accessFlags := 2, code := some k2c18 }
def k2c19 : Code := { maxStack := 2, maxLocals := 1, code := prog_1_method_27_code, exceptionTable := #[], attributes := #[] }
def k2m19 : Method := { name := "clearText", desc := "()V", sig := { parameters := [], returnType := none }, accessFlags := 2, code := some k2c19 }
def k2c20 : Code := { maxStack := 4, maxLocals := 8, code := prog_1_method_28_code, exceptionTable := #[], attributes := #[] }
def k2m20 : Method := { name := "longestAt", desc := "(I)I", sig := { parameters := [.int], returnType := some .int }, accessFlags := 2, code := some k2c20 }
def k2c21 : Code := { maxStack := 2, maxLocals := 2, code := prog_1_method_29_code, exceptionTable := #[], attributes := #[] }
def k2m21 : Method := { name := "commitReady", desc := "()V", sig := { parameters := [], returnType := none }, accessFlags := 2, code := some k2c21 }
def k2c22 : Code := { maxStack := 4, maxLocals := 2, code := prog_1_method_30_code, exceptionTable := #[], attributes := #[] }
def k2m22 : Method := { name := "commitOne", desc := "()V", sig := { parameters := [], returnType := none }, accessFlags := 2, code := some k2c22 }
def k2c23 : Code := { maxStack := 4, maxLocals := 4, code := prog_1_method_31_code, exceptionTable := #[], attributes := #[] }
def k2m23 : Method := { name := "rebuildTail", desc := "()V", sig := { parameters := [], returnType := none }, accessFlags := 2, code := some k2c23 }
def k2c24 : Code := { maxStack := 2, maxLocals := 2, code := prog_1_method_32_code, exceptionTable := #[], attributes := #[] }
def k2m24 : Method := { name := "isLetter", desc := "(I)Z", sig := { parameters := [.int], returnType := some .boolean }, accessFlags := 2, code := some k2c24 }
def k2c25 : Code := { maxStack := 2, maxLocals := 2, code := prog_1_method_33_code, exceptionTable := #[], attributes := #[] }
def k2m25 : Method := { name := "isPrintable", desc := "(I)Z", sig := { parameters := [.int], returnType := some .boolean }, accessFlags := 2, code := some k2c25 }
def k2c26 : Code := { maxStack := 2, maxLocals := 4, code := prog_1_method_34_code, exceptionTable := #[], attributes := #[] }
def k2m26 : Method := { name := "popCount", desc := "(I)I", sig := { parameters := [.int], returnType := some .int }, accessFlags := 2, code := some k2c26 }
/-- MultiPatternScan -/
def k2 : Class := { plain "MultiPatternScan" (some 0) with
  accessFlags := 49
  interfaces := #[]
  cf := some (fileOf pool2 8 #[] #[{ accessFlags := 1, nameIndex := 5, descriptorIndex := 182, attributes := #[] }, { accessFlags := 1, nameIndex := 186, descriptorIndex := 114, attributes := #[] }, { accessFlags := 1, nameIndex := 187, descriptorIndex := 114, attributes := #[] }, { accessFlags := 1, nameIndex := 188, descriptorIndex := 189, attributes := #[] }, { accessFlags := 1, nameIndex := 190, descriptorIndex := 114, attributes := #[] }, { accessFlags := 1, nameIndex := 196, descriptorIndex := 189, attributes := #[] }, { accessFlags := 1, nameIndex := 198, descriptorIndex := 114, attributes := #[] }, { accessFlags := 1, nameIndex := 199, descriptorIndex := 189, attributes := #[] }, { accessFlags := 1, nameIndex := 200, descriptorIndex := 189, attributes := #[] }, { accessFlags := 1, nameIndex := 201, descriptorIndex := 189, attributes := #[] }, { accessFlags := 1, nameIndex := 202, descriptorIndex := 114, attributes := #[] }, { accessFlags := 2, nameIndex := 89, descriptorIndex := 90, attributes := #[] }, { accessFlags := 2, nameIndex := 135, descriptorIndex := 83, attributes := #[] }, { accessFlags := 2, nameIndex := 93, descriptorIndex := 94, attributes := #[] }, { accessFlags := 2, nameIndex := 97, descriptorIndex := 6, attributes := #[] }, { accessFlags := 2, nameIndex := 138, descriptorIndex := 94, attributes := #[] }, { accessFlags := 2, nameIndex := 100, descriptorIndex := 6, attributes := #[] }, { accessFlags := 2, nameIndex := 141, descriptorIndex := 110, attributes := #[] }, { accessFlags := 2, nameIndex := 109, descriptorIndex := 110, attributes := #[] }, { accessFlags := 2, nameIndex := 79, descriptorIndex := 6, attributes := #[] }, { accessFlags := 2, nameIndex := 150, descriptorIndex := 114, attributes := #[] }, { accessFlags := 2, nameIndex := 120, descriptorIndex := 6, attributes := #[] }, { accessFlags := 2, nameIndex := 147, descriptorIndex := 6, attributes := #[] }, { accessFlags := 2, nameIndex := 123, descriptorIndex := 6, attributes := #[] }, { accessFlags := 2, nameIndex := 82, descriptorIndex := 83, attributes := #[] }, { accessFlags := 2, nameIndex := 86, descriptorIndex := 83, attributes := #[] }, { accessFlags := 2, nameIndex := 113, descriptorIndex := 114, attributes := #[] }] 49 2 #[] #[{ accessFlags := 25, nameIndex := 151, descriptorIndex := 58, attributes := #[] }, { accessFlags := 25, nameIndex := 154, descriptorIndex := 58, attributes := #[] }, { accessFlags := 25, nameIndex := 156, descriptorIndex := 58, attributes := #[] }, { accessFlags := 25, nameIndex := 157, descriptorIndex := 58, attributes := #[] }, { accessFlags := 25, nameIndex := 159, descriptorIndex := 58, attributes := #[] }, { accessFlags := 25, nameIndex := 161, descriptorIndex := 58, attributes := #[] }, { accessFlags := 25, nameIndex := 163, descriptorIndex := 58, attributes := #[] }, { accessFlags := 25, nameIndex := 165, descriptorIndex := 58, attributes := #[] }, { accessFlags := 25, nameIndex := 167, descriptorIndex := 58, attributes := #[] }, { accessFlags := 25, nameIndex := 169, descriptorIndex := 58, attributes := #[] }, { accessFlags := 25, nameIndex := 171, descriptorIndex := 58, attributes := #[] }, { accessFlags := 25, nameIndex := 173, descriptorIndex := 58, attributes := #[] }, { accessFlags := 25, nameIndex := 175, descriptorIndex := 58, attributes := #[] }, { accessFlags := 26, nameIndex := 177, descriptorIndex := 58, attributes := #[] }, { accessFlags := 26, nameIndex := 179, descriptorIndex := 58, attributes := #[] }, { accessFlags := 26, nameIndex := 181, descriptorIndex := 58, attributes := #[] }, { accessFlags := 2, nameIndex := 57, descriptorIndex := 58, attributes := #[] }, { accessFlags := 2, nameIndex := 61, descriptorIndex := 58, attributes := #[] }, { accessFlags := 2, nameIndex := 64, descriptorIndex := 58, attributes := #[] }, { accessFlags := 2, nameIndex := 67, descriptorIndex := 58, attributes := #[] }, { accessFlags := 2, nameIndex := 11, descriptorIndex := 12, attributes := #[] }, { accessFlags := 2, nameIndex := 15, descriptorIndex := 12, attributes := #[] }, { accessFlags := 2, nameIndex := 18, descriptorIndex := 12, attributes := #[] }, { accessFlags := 2, nameIndex := 70, descriptorIndex := 58, attributes := #[] }, { accessFlags := 2, nameIndex := 21, descriptorIndex := 12, attributes := #[] }, { accessFlags := 2, nameIndex := 73, descriptorIndex := 58, attributes := #[] }, { accessFlags := 2, nameIndex := 76, descriptorIndex := 58, attributes := #[] }, { accessFlags := 2, nameIndex := 24, descriptorIndex := 12, attributes := #[] }, { accessFlags := 2, nameIndex := 27, descriptorIndex := 12, attributes := #[] }, { accessFlags := 2, nameIndex := 30, descriptorIndex := 12, attributes := #[] }, { accessFlags := 2, nameIndex := 33, descriptorIndex := 12, attributes := #[] }, { accessFlags := 2, nameIndex := 36, descriptorIndex := 12, attributes := #[] }, { accessFlags := 2, nameIndex := 39, descriptorIndex := 12, attributes := #[] }, { accessFlags := 2, nameIndex := 42, descriptorIndex := 12, attributes := #[] }, { accessFlags := 2, nameIndex := 103, descriptorIndex := 58, attributes := #[] }, { accessFlags := 2, nameIndex := 106, descriptorIndex := 58, attributes := #[] }, { accessFlags := 2, nameIndex := 117, descriptorIndex := 58, attributes := #[] }, { accessFlags := 2, nameIndex := 45, descriptorIndex := 12, attributes := #[] }, { accessFlags := 2, nameIndex := 48, descriptorIndex := 12, attributes := #[] }, { accessFlags := 2, nameIndex := 129, descriptorIndex := 58, attributes := #[] }, { accessFlags := 2, nameIndex := 144, descriptorIndex := 58, attributes := #[] }, { accessFlags := 2, nameIndex := 51, descriptorIndex := 12, attributes := #[] }, { accessFlags := 2, nameIndex := 132, descriptorIndex := 58, attributes := #[] }, { accessFlags := 2, nameIndex := 54, descriptorIndex := 12, attributes := #[] }])
  fields := #[{ name := "PHASE_BUILD", type := .int, accessFlags := 25, slot := 0, constantValue := 0 }, { name := "PHASE_SCAN", type := .int, accessFlags := 25, slot := 1, constantValue := 0 }, { name := "OK", type := .int, accessFlags := 25, slot := 2, constantValue := 0 }, { name := "ERR_PHASE", type := .int, accessFlags := 25, slot := 3, constantValue := 0 }, { name := "ERR_CHAR", type := .int, accessFlags := 25, slot := 4, constantValue := 0 }, { name := "ERR_FULL", type := .int, accessFlags := 25, slot := 5, constantValue := 0 }, { name := "ERR_EMPTY", type := .int, accessFlags := 25, slot := 6, constantValue := 0 }, { name := "ERR_DUPLICATE", type := .int, accessFlags := 25, slot := 7, constantValue := 0 }, { name := "ERR_REPL", type := .int, accessFlags := 25, slot := 8, constantValue := 0 }, { name := "ERR_PENDING", type := .int, accessFlags := 25, slot := 9, constantValue := 0 }, { name := "MAX_KEYWORDS", type := .int, accessFlags := 25, slot := 10, constantValue := 0 }, { name := "MAX_KEYWORD_LEN", type := .int, accessFlags := 25, slot := 11, constantValue := 0 }, { name := "MAX_TEXT", type := .int, accessFlags := 25, slot := 12, constantValue := 0 }, { name := "MAX_NODES", type := .int, accessFlags := 26, slot := 13, constantValue := 0 }, { name := "ALPHA", type := .int, accessFlags := 26, slot := 14, constantValue := 0 }, { name := "TAIL_CAP", type := .int, accessFlags := 26, slot := 15, constantValue := 0 }, { name := "maxKw", type := .int, accessFlags := 2, slot := 0, constantValue := 0 }, { name := "maxLen", type := .int, accessFlags := 2, slot := 1, constantValue := 0 }, { name := "phaseNow", type := .int, accessFlags := 2, slot := 2, constantValue := 0 }, { name := "count", type := .int, accessFlags := 2, slot := 3, constantValue := 0 }, { name := "kwChars", type := (.array .int), accessFlags := 2, slot := 4, constantValue := 0 }, { name := "kwLen", type := (.array .int), accessFlags := 2, slot := 5, constantValue := 0 }, { name := "kwRepl", type := (.array .int), accessFlags := 2, slot := 6, constantValue := 0 }, { name := "pendLen", type := .int, accessFlags := 2, slot := 7, constantValue := 0 }, { name := "pend", type := (.array .int), accessFlags := 2, slot := 8, constantValue := 0 }, { name := "nodeCount", type := .int, accessFlags := 2, slot := 9, constantValue := 0 }, { name := "longestKw", type := .int, accessFlags := 2, slot := 10, constantValue := 0 }, { name := "child", type := (.array .int), accessFlags := 2, slot := 11, constantValue := 0 }, { name := "delta", type := (.array .int), accessFlags := 2, slot := 12, constantValue := 0 }, { name := "fail", type := (.array .int), accessFlags := 2, slot := 13, constantValue := 0 }, { name := "depth", type := (.array .int), accessFlags := 2, slot := 14, constantValue := 0 }, { name := "term", type := (.array .int), accessFlags := 2, slot := 15, constantValue := 0 }, { name := "outMask", type := (.array .int), accessFlags := 2, slot := 16, constantValue := 0 }, { name := "queue", type := (.array .int), accessFlags := 2, slot := 17, constantValue := 0 }, { name := "n", type := .int, accessFlags := 2, slot := 18, constantValue := 0 }, { name := "state", type := .int, accessFlags := 2, slot := 19, constantValue := 0 }, { name := "total", type := .int, accessFlags := 2, slot := 20, constantValue := 0 }, { name := "text", type := (.array .int), accessFlags := 2, slot := 21, constantValue := 0 }, { name := "masks", type := (.array .int), accessFlags := 2, slot := 22, constantValue := 0 }, { name := "outLen", type := .int, accessFlags := 2, slot := 23, constantValue := 0 }, { name := "commitPos", type := .int, accessFlags := 2, slot := 24, constantValue := 0 }, { name := "out", type := (.array .int), accessFlags := 2, slot := 25, constantValue := 0 }, { name := "tailLen", type := .int, accessFlags := 2, slot := 26, constantValue := 0 }, { name := "tail", type := (.array .int), accessFlags := 2, slot := 27, constantValue := 0 }]
  methods := #[k2m0, k2m1, k2m2, k2m3, k2m4, k2m5, k2m6, k2m7, k2m8, k2m9, k2m10, k2m11, k2m12, k2m13, k2m14, k2m15, k2m16, k2m17, k2m18, k2m19, k2m20, k2m21, k2m22, k2m23, k2m24, k2m25, k2m26]
  instanceTypes := #[.int, .int, .int, .int, (.array .int), (.array .int), (.array .int), .int, (.array .int), .int, .int, (.array .int), (.array .int), (.array .int), (.array .int), (.array .int), (.array .int), (.array .int), .int, .int, .int, (.array .int), (.array .int), .int, .int, (.array .int), .int, (.array .int)]
  staticTypes := #[.int, .int, .int, .int, .int, .int, .int, .int, .int, .int, .int, .int, .int, .int, .int, .int]
  resolved := Array.replicate 205 none
  statics := none }

def pool3 : Array CpInfo := pool [(1, u "java/lang/Cloneable"), (0, .class_ 1), (0, u "java/lang/Object"), (0, .class_ 3)] 3

/-- java/lang/Cloneable -/
def k3 : Class := { plain "java/lang/Cloneable" (some 0) with
  accessFlags := 1537
  interfaces := #[]
  cf := some (fileOf pool3 2 #[] #[] 1537 4 #[] #[])
  fields := #[]
  methods := #[]
  instanceTypes := #[]
  staticTypes := #[]
  resolved := Array.replicate 8 none
  statics := none }

def pool4 : Array CpInfo := pool [(1, u "java/io/Serializable"), (0, .class_ 1), (0, u "java/lang/Object"), (0, .class_ 3)] 3

/-- java/io/Serializable -/
def k4 : Class := { plain "java/io/Serializable" (some 0) with
  accessFlags := 1537
  interfaces := #[]
  cf := some (fileOf pool4 2 #[] #[] 1537 4 #[] #[])
  fields := #[]
  methods := #[]
  instanceTypes := #[]
  staticTypes := #[]
  resolved := Array.replicate 8 none
  statics := none }

/-- the primitive byte -/
def k5 : Class := { plain "byte" none with kind := .primitive 'B', accessFlags := 0x411 }
/-- [B -/
def k6 : Class := { plain "[B" (some 0) with kind := .array 5 .byte, interfaces := #[3, 4], accessFlags := 1041 }

/-- the primitive int -/
def k7 : Class := { plain "int" none with kind := .primitive 'I', accessFlags := 0x411 }
/-- [I -/
def k8 : Class := { plain "[I" (some 0) with kind := .array 7 .int, interfaces := #[3, 4], accessFlags := 1041 }

def heap : Heap := #[]
def classes : Array Class := #[k0, k1, k2, k3, k4, k5, k6, k7, k8]
def interned : List (Array UInt16 × Addr) := []
def slotsUsed : Nat := 0
def theMethod : MethodId := ⟨1, 2⟩
def args0 : Array Value := #[.int 1, .int 2, .int 3, .int 4, .int 5]
def aboutOver (below : List Frame) : State where
  vm := { classes := classes, interned := interned.toArray }
  heap := heap
  slotsUsed := slotsUsed
  threads := #[{ frames := .invoking theMethod args0 :: below }]
def below0 : List Frame := [.native { method := ⟨0, 0⟩, args := #[] }]
def about1 : State := aboutOver below0
def p0 : Program := .bare "" "" ""
def e0 : Env := launch0.env 0 0 0
theorem w_frames : about1.frames = Frame.invoking theMethod args0 :: below0 := rfl
set_option maxRecDepth 65536 in
theorem w_args : argsFit about1.vm theMethod args0 = true := by decide +kernel
set_option maxRecDepth 65536 in
theorem w_heap : heapFits about1 = true := by decide +kernel
set_option maxRecDepth 65536 in
theorem w_runnable : about1.curStatus? = some .runnable := by decide +kernel
set_option maxRecDepth 65536 in
theorem w_alone : about1.alone = true := by decide +kernel
set_option maxRecDepth 65536 in
theorem w_named : about1.methodNamed? x = some theMethod := by decide +kernel
set_option maxRecDepth 65536 in
theorem w_hears : about1.hears theMethod below0 = true := by decide +kernel
set_option maxRecDepth 65536 in
theorem w_ripe : about1.ripe theMethod args0 below0 = true := by decide +kernel
theorem w_running : about1.status = .running := rfl
set_option maxRecDepth 65536 in
theorem w_room : about1.hasRoom e0.platform room_1 = true :=
  launch0.hasRoom_least _ room_1 (by decide +kernel) (by decide +kernel) (by decide +kernel) (by decide +kernel) (by decide +kernel) (by decide +kernel)
theorem allAtoms_all (ts : List Jvm.Cond) (a : Array Jvm.Value) (st : Jvm.State) : (allAtoms ts).before a st = ts.all (fun c => c.before a st) := by
  induction ts with
  | nil => rfl
  | cons c t ih =>
    show (Jvm.Cond.and c (allAtoms t)).before a st = _
    rw [Jvm.Cond.before_and, ih, List.all_cons]
def words1 : List Jvm.Cond := Jvm.Cond.code x code maxLocals ret :: tables_1
/-- a 'code' word, met by the world's own term for the bytes: nothing is compared byte by byte -/
theorem code_word {y : MethodName} {bytes : ByteArray} {mx : Nat} {rt : Option FieldType} {a : Array Value} {s : State} {m : MethodId} {meth : Method} {c : Code} (h1 : s.methodNamed? y = some m) (h2 : s.vm.method? m = some meth) (h3 : meth.code = some c) (h4 : c.code = bytes)
    (h5 : (c.maxLocals == mx && c.exceptionTable.isEmpty && decide (c.maxStack ≤ mostOperands) && decide (meth.sig.returnType = rt) && !meth.locks && decide (parseMethodDescriptor y.desc = some meth.sig)) = true) : (Jvm.Cond.code y bytes mx rt).before a s = true := by
  simp only [Bool.and_eq_true, beq_iff_eq, Bool.not_eq_true', decide_eq_true_eq] at h5
  obtain ⟨⟨⟨⟨⟨g1, g2⟩, g3⟩, g4⟩, g5⟩, g6⟩ := h5
  simp [Cond.before, Cond.holds, Cond.value, h1, h2, h3, h4, g1, g2, g3, g4, g5, g6]
def isCode : Jvm.Cond → Bool
  | .code _ _ _ _ => true
  | _ => false
theorem all_split {L : List Jvm.Cond} {P : Jvm.Cond → Bool} (h1 : L.all (fun c => isCode c || P c) = true) (h2 : ∀ c ∈ L.filter isCode, P c = true) : L.all P = true := by
  refine List.all_eq_true.mpr fun c hc => ?_
  have h := List.all_eq_true.mp h1 c hc
  rcases Bool.eq_false_or_eq_true (isCode c) with hi | hi
  · exact h2 c (List.mem_filter.mpr ⟨hc, hi⟩)
  · simpa [hi] using h
set_option maxRecDepth 65536 in
theorem w_c0 : (Jvm.Cond.code x code maxLocals ret).before args0 about1 = true := code_word (m := ⟨1, 2⟩) (meth := k1m2) (c := k1c2) (by decide +kernel) rfl rfl rfl (by decide +kernel)
set_option maxRecDepth 65536 in
theorem w_c1 : (Jvm.Cond.code ({ cls := "MultiPatternScan", name := "<init>", desc := "(II)V" } : Jvm.MethodName) prog_1_method_1_code (6 : Nat) (Option.none : Option Jvm.ClassFile.FieldType)).before args0 about1 = true := code_word (m := ⟨2, 0⟩) (meth := k2m0) (c := k2c0) (by decide +kernel) rfl rfl rfl (by decide +kernel)
set_option maxRecDepth 65536 in
theorem w_c2 : (Jvm.Cond.code ({ cls := "java/lang/Object", name := "<init>", desc := "()V" } : Jvm.MethodName) object_method_1_code (1 : Nat) (Option.none : Option Jvm.ClassFile.FieldType)).before args0 about1 = true := code_word (m := ⟨0, 0⟩) (meth := k0m0) (c := k0c0) (by decide +kernel) rfl rfl rfl (by decide +kernel)
set_option maxRecDepth 65536 in
theorem w_c3 : (Jvm.Cond.code ({ cls := "MultiPatternScan", name := "clearText", desc := "()V" } : Jvm.MethodName) prog_1_method_27_code (1 : Nat) (Option.none : Option Jvm.ClassFile.FieldType)).before args0 about1 = true := code_word (m := ⟨2, 19⟩) (meth := k2m19) (c := k2c19) (by decide +kernel) rfl rfl rfl (by decide +kernel)
set_option maxRecDepth 65536 in
theorem w_c4 : (Jvm.Cond.code ({ cls := "MultiPatternScan", name := "addChar", desc := "(I)I" } : Jvm.MethodName) prog_1_method_2_code (2 : Nat) (Option.some Jvm.ClassFile.FieldType.int)).before args0 about1 = true := code_word (m := ⟨2, 1⟩) (meth := k2m1) (c := k2c1) (by decide +kernel) rfl rfl rfl (by decide +kernel)
set_option maxRecDepth 65536 in
theorem w_c5 : (Jvm.Cond.code ({ cls := "MultiPatternScan", name := "isLetter", desc := "(I)Z" } : Jvm.MethodName) prog_1_method_32_code (2 : Nat) (Option.some Jvm.ClassFile.FieldType.boolean)).before args0 about1 = true := code_word (m := ⟨2, 24⟩) (meth := k2m24) (c := k2c24) (by decide +kernel) rfl rfl rfl (by decide +kernel)
set_option maxRecDepth 65536 in
theorem w_c6 : (Jvm.Cond.code ({ cls := "MultiPatternScan", name := "endKeyword", desc := "(I)I" } : Jvm.MethodName) prog_1_method_3_code (2 : Nat) (Option.some Jvm.ClassFile.FieldType.int)).before args0 about1 = true := code_word (m := ⟨2, 2⟩) (meth := k2m2) (c := k2c2) (by decide +kernel) rfl rfl rfl (by decide +kernel)
set_option maxRecDepth 65536 in
theorem w_c7 : (Jvm.Cond.code ({ cls := "MultiPatternScan", name := "isPrintable", desc := "(I)Z" } : Jvm.MethodName) prog_1_method_33_code (2 : Nat) (Option.some Jvm.ClassFile.FieldType.boolean)).before args0 about1 = true := code_word (m := ⟨2, 25⟩) (meth := k2m25) (c := k2c25) (by decide +kernel) rfl rfl rfl (by decide +kernel)
set_option maxRecDepth 65536 in
theorem w_c8 : (Jvm.Cond.code ({ cls := "MultiPatternScan", name := "pendingIsDuplicate", desc := "()Z" } : Jvm.MethodName) prog_1_method_19_code (2 : Nat) (Option.some Jvm.ClassFile.FieldType.boolean)).before args0 about1 = true := code_word (m := ⟨2, 11⟩) (meth := k2m11) (c := k2c11) (by decide +kernel) rfl rfl rfl (by decide +kernel)
set_option maxRecDepth 65536 in
theorem w_c9 : (Jvm.Cond.code ({ cls := "MultiPatternScan", name := "storePending", desc := "(I)V" } : Jvm.MethodName) prog_1_method_21_code (4 : Nat) (Option.none : Option Jvm.ClassFile.FieldType)).before args0 about1 = true := code_word (m := ⟨2, 13⟩) (meth := k2m13) (c := k2c13) (by decide +kernel) rfl rfl rfl (by decide +kernel)
set_option maxRecDepth 65536 in
theorem w_c10 : (Jvm.Cond.code ({ cls := "MultiPatternScan", name := "pendingEquals", desc := "(I)Z" } : Jvm.MethodName) prog_1_method_20_code (4 : Nat) (Option.some Jvm.ClassFile.FieldType.boolean)).before args0 about1 = true := code_word (m := ⟨2, 12⟩) (meth := k2m12) (c := k2c12) (by decide +kernel) rfl rfl rfl (by decide +kernel)
set_option maxRecDepth 65536 in
theorem w_c11 : (Jvm.Cond.code ({ cls := "MultiPatternScan", name := "build", desc := "()I" } : Jvm.MethodName) prog_1_method_4_code (1 : Nat) (Option.some Jvm.ClassFile.FieldType.int)).before args0 about1 = true := code_word (m := ⟨2, 3⟩) (meth := k2m3) (c := k2c3) (by decide +kernel) rfl rfl rfl (by decide +kernel)
set_option maxRecDepth 65536 in
theorem w_c12 : (Jvm.Cond.code ({ cls := "MultiPatternScan", name := "buildTrie", desc := "()V" } : Jvm.MethodName) prog_1_method_22_code (2 : Nat) (Option.none : Option Jvm.ClassFile.FieldType)).before args0 about1 = true := code_word (m := ⟨2, 14⟩) (meth := k2m14) (c := k2c14) (by decide +kernel) rfl rfl rfl (by decide +kernel)
set_option maxRecDepth 65536 in
theorem w_c13 : (Jvm.Cond.code ({ cls := "MultiPatternScan", name := "insertKeyword", desc := "(I)V" } : Jvm.MethodName) prog_1_method_23_code (7 : Nat) (Option.none : Option Jvm.ClassFile.FieldType)).before args0 about1 = true := code_word (m := ⟨2, 15⟩) (meth := k2m15) (c := k2c15) (by decide +kernel) rfl rfl rfl (by decide +kernel)
set_option maxRecDepth 65536 in
theorem w_c14 : (Jvm.Cond.code ({ cls := "MultiPatternScan", name := "computeLinks", desc := "()V" } : Jvm.MethodName) prog_1_method_24_code (5 : Nat) (Option.none : Option Jvm.ClassFile.FieldType)).before args0 about1 = true := code_word (m := ⟨2, 16⟩) (meth := k2m16) (c := k2c16) (by decide +kernel) rfl rfl rfl (by decide +kernel)
set_option maxRecDepth 65536 in
theorem w_c15 : (Jvm.Cond.code ({ cls := "MultiPatternScan", name := "expandNode", desc := "(II)I" } : Jvm.MethodName) prog_1_method_25_code (8 : Nat) (Option.some Jvm.ClassFile.FieldType.int)).before args0 about1 = true := code_word (m := ⟨2, 17⟩) (meth := k2m17) (c := k2c17) (by decide +kernel) rfl rfl rfl (by decide +kernel)
set_option maxRecDepth 65536 in
theorem w_c16 : (Jvm.Cond.code ({ cls := "MultiPatternScanL3", name := "tc", desc := "(II)I" } : Jvm.MethodName) method_2_code (2 : Nat) (Option.some Jvm.ClassFile.FieldType.int)).before args0 about1 = true := code_word (m := ⟨1, 1⟩) (meth := k1m1) (c := k1c1) (by decide +kernel) rfl rfl rfl (by decide +kernel)
set_option maxRecDepth 65536 in
theorem w_c17 : (Jvm.Cond.code ({ cls := "MultiPatternScan", name := "feed", desc := "(I)I" } : Jvm.MethodName) prog_1_method_5_code (4 : Nat) (Option.some Jvm.ClassFile.FieldType.int)).before args0 about1 = true := code_word (m := ⟨2, 4⟩) (meth := k2m4) (c := k2c4) (by decide +kernel) rfl rfl rfl (by decide +kernel)
set_option maxRecDepth 65536 in
theorem w_c18 : (Jvm.Cond.code ({ cls := "MultiPatternScan", name := "nextState", desc := "(II)I" } : Jvm.MethodName) prog_1_method_26_code (3 : Nat) (Option.some Jvm.ClassFile.FieldType.int)).before args0 about1 = true := code_word (m := ⟨2, 18⟩) (meth := k2m18) (c := k2c18) (by decide +kernel) rfl rfl rfl (by decide +kernel)
set_option maxRecDepth 65536 in
theorem w_c19 : (Jvm.Cond.code ({ cls := "MultiPatternScan", name := "popCount", desc := "(I)I" } : Jvm.MethodName) prog_1_method_34_code (4 : Nat) (Option.some Jvm.ClassFile.FieldType.int)).before args0 about1 = true := code_word (m := ⟨2, 26⟩) (meth := k2m26) (c := k2c26) (by decide +kernel) rfl rfl rfl (by decide +kernel)
set_option maxRecDepth 65536 in
theorem w_c20 : (Jvm.Cond.code ({ cls := "MultiPatternScan", name := "commitReady", desc := "()V" } : Jvm.MethodName) prog_1_method_29_code (2 : Nat) (Option.none : Option Jvm.ClassFile.FieldType)).before args0 about1 = true := code_word (m := ⟨2, 21⟩) (meth := k2m21) (c := k2c21) (by decide +kernel) rfl rfl rfl (by decide +kernel)
set_option maxRecDepth 65536 in
theorem w_c21 : (Jvm.Cond.code ({ cls := "MultiPatternScan", name := "rebuildTail", desc := "()V" } : Jvm.MethodName) prog_1_method_31_code (4 : Nat) (Option.none : Option Jvm.ClassFile.FieldType)).before args0 about1 = true := code_word (m := ⟨2, 23⟩) (meth := k2m23) (c := k2c23) (by decide +kernel) rfl rfl rfl (by decide +kernel)
set_option maxRecDepth 65536 in
theorem w_c22 : (Jvm.Cond.code ({ cls := "MultiPatternScan", name := "longestAt", desc := "(I)I" } : Jvm.MethodName) prog_1_method_28_code (8 : Nat) (Option.some Jvm.ClassFile.FieldType.int)).before args0 about1 = true := code_word (m := ⟨2, 20⟩) (meth := k2m20) (c := k2c20) (by decide +kernel) rfl rfl rfl (by decide +kernel)
set_option maxRecDepth 65536 in
theorem w_c23 : (Jvm.Cond.code ({ cls := "MultiPatternScan", name := "occurrenceMask", desc := "(I)I" } : Jvm.MethodName) prog_1_method_13_code (2 : Nat) (Option.some Jvm.ClassFile.FieldType.int)).before args0 about1 = true := code_word (m := ⟨2, 6⟩) (meth := k2m6) (c := k2c6) (by decide +kernel) rfl rfl rfl (by decide +kernel)
set_option maxRecDepth 65536 in
theorem w_c24 : (Jvm.Cond.code ({ cls := "MultiPatternScan", name := "commitOne", desc := "()V" } : Jvm.MethodName) prog_1_method_30_code (2 : Nat) (Option.none : Option Jvm.ClassFile.FieldType)).before args0 about1 = true := code_word (m := ⟨2, 22⟩) (meth := k2m22) (c := k2c22) (by decide +kernel) rfl rfl rfl (by decide +kernel)
set_option maxRecDepth 65536 in
theorem w_c25 : (Jvm.Cond.code ({ cls := "MultiPatternScan", name := "textLength", desc := "()I" } : Jvm.MethodName) prog_1_method_11_code (1 : Nat) (Option.some Jvm.ClassFile.FieldType.int)).before args0 about1 = true := code_word (m := ⟨2, 5⟩) (meth := k2m5) (c := k2c5) (by decide +kernel) rfl rfl rfl (by decide +kernel)
set_option maxRecDepth 65536 in
theorem w_c26 : (Jvm.Cond.code ({ cls := "MultiPatternScan", name := "totalOccurrences", desc := "()I" } : Jvm.MethodName) prog_1_method_14_code (1 : Nat) (Option.some Jvm.ClassFile.FieldType.int)).before args0 about1 = true := code_word (m := ⟨2, 7⟩) (meth := k2m7) (c := k2c7) (by decide +kernel) rfl rfl rfl (by decide +kernel)
set_option maxRecDepth 65536 in
theorem w_c27 : (Jvm.Cond.code ({ cls := "MultiPatternScan", name := "longestPartial", desc := "()I" } : Jvm.MethodName) prog_1_method_15_code (1 : Nat) (Option.some Jvm.ClassFile.FieldType.int)).before args0 about1 = true := code_word (m := ⟨2, 8⟩) (meth := k2m8) (c := k2c8) (by decide +kernel) rfl rfl rfl (by decide +kernel)
set_option maxRecDepth 65536 in
theorem w_c28 : (Jvm.Cond.code ({ cls := "MultiPatternScan", name := "outChar", desc := "(I)I" } : Jvm.MethodName) prog_1_method_17_code (3 : Nat) (Option.some Jvm.ClassFile.FieldType.int)).before args0 about1 = true := code_word (m := ⟨2, 10⟩) (meth := k2m10) (c := k2c10) (by decide +kernel) rfl rfl rfl (by decide +kernel)
set_option maxRecDepth 65536 in
theorem w_c29 : (Jvm.Cond.code ({ cls := "MultiPatternScan", name := "outLength", desc := "()I" } : Jvm.MethodName) prog_1_method_16_code (1 : Nat) (Option.some Jvm.ClassFile.FieldType.int)).before args0 about1 = true := code_word (m := ⟨2, 9⟩) (meth := k2m9) (c := k2c9) (by decide +kernel) rfl rfl rfl (by decide +kernel)
def codes1 : List Jvm.Cond := [Jvm.Cond.code x code maxLocals ret, Jvm.Cond.code ({ cls := "MultiPatternScan", name := "<init>", desc := "(II)V" } : Jvm.MethodName) prog_1_method_1_code (6 : Nat) (Option.none : Option Jvm.ClassFile.FieldType), Jvm.Cond.code ({ cls := "java/lang/Object", name := "<init>", desc := "()V" } : Jvm.MethodName) object_method_1_code (1 : Nat) (Option.none : Option Jvm.ClassFile.FieldType), Jvm.Cond.code ({ cls := "MultiPatternScan", name := "clearText", desc := "()V" } : Jvm.MethodName) prog_1_method_27_code (1 : Nat) (Option.none : Option Jvm.ClassFile.FieldType), Jvm.Cond.code ({ cls := "MultiPatternScan", name := "addChar", desc := "(I)I" } : Jvm.MethodName) prog_1_method_2_code (2 : Nat) (Option.some Jvm.ClassFile.FieldType.int), Jvm.Cond.code ({ cls := "MultiPatternScan", name := "isLetter", desc := "(I)Z" } : Jvm.MethodName) prog_1_method_32_code (2 : Nat) (Option.some Jvm.ClassFile.FieldType.boolean), Jvm.Cond.code ({ cls := "MultiPatternScan", name := "endKeyword", desc := "(I)I" } : Jvm.MethodName) prog_1_method_3_code (2 : Nat) (Option.some Jvm.ClassFile.FieldType.int), Jvm.Cond.code ({ cls := "MultiPatternScan", name := "isPrintable", desc := "(I)Z" } : Jvm.MethodName) prog_1_method_33_code (2 : Nat) (Option.some Jvm.ClassFile.FieldType.boolean), Jvm.Cond.code ({ cls := "MultiPatternScan", name := "pendingIsDuplicate", desc := "()Z" } : Jvm.MethodName) prog_1_method_19_code (2 : Nat) (Option.some Jvm.ClassFile.FieldType.boolean), Jvm.Cond.code ({ cls := "MultiPatternScan", name := "storePending", desc := "(I)V" } : Jvm.MethodName) prog_1_method_21_code (4 : Nat) (Option.none : Option Jvm.ClassFile.FieldType), Jvm.Cond.code ({ cls := "MultiPatternScan", name := "pendingEquals", desc := "(I)Z" } : Jvm.MethodName) prog_1_method_20_code (4 : Nat) (Option.some Jvm.ClassFile.FieldType.boolean), Jvm.Cond.code ({ cls := "MultiPatternScan", name := "build", desc := "()I" } : Jvm.MethodName) prog_1_method_4_code (1 : Nat) (Option.some Jvm.ClassFile.FieldType.int), Jvm.Cond.code ({ cls := "MultiPatternScan", name := "buildTrie", desc := "()V" } : Jvm.MethodName) prog_1_method_22_code (2 : Nat) (Option.none : Option Jvm.ClassFile.FieldType), Jvm.Cond.code ({ cls := "MultiPatternScan", name := "insertKeyword", desc := "(I)V" } : Jvm.MethodName) prog_1_method_23_code (7 : Nat) (Option.none : Option Jvm.ClassFile.FieldType), Jvm.Cond.code ({ cls := "MultiPatternScan", name := "computeLinks", desc := "()V" } : Jvm.MethodName) prog_1_method_24_code (5 : Nat) (Option.none : Option Jvm.ClassFile.FieldType), Jvm.Cond.code ({ cls := "MultiPatternScan", name := "expandNode", desc := "(II)I" } : Jvm.MethodName) prog_1_method_25_code (8 : Nat) (Option.some Jvm.ClassFile.FieldType.int), Jvm.Cond.code ({ cls := "MultiPatternScanL3", name := "tc", desc := "(II)I" } : Jvm.MethodName) method_2_code (2 : Nat) (Option.some Jvm.ClassFile.FieldType.int), Jvm.Cond.code ({ cls := "MultiPatternScan", name := "feed", desc := "(I)I" } : Jvm.MethodName) prog_1_method_5_code (4 : Nat) (Option.some Jvm.ClassFile.FieldType.int), Jvm.Cond.code ({ cls := "MultiPatternScan", name := "nextState", desc := "(II)I" } : Jvm.MethodName) prog_1_method_26_code (3 : Nat) (Option.some Jvm.ClassFile.FieldType.int), Jvm.Cond.code ({ cls := "MultiPatternScan", name := "popCount", desc := "(I)I" } : Jvm.MethodName) prog_1_method_34_code (4 : Nat) (Option.some Jvm.ClassFile.FieldType.int), Jvm.Cond.code ({ cls := "MultiPatternScan", name := "commitReady", desc := "()V" } : Jvm.MethodName) prog_1_method_29_code (2 : Nat) (Option.none : Option Jvm.ClassFile.FieldType), Jvm.Cond.code ({ cls := "MultiPatternScan", name := "rebuildTail", desc := "()V" } : Jvm.MethodName) prog_1_method_31_code (4 : Nat) (Option.none : Option Jvm.ClassFile.FieldType), Jvm.Cond.code ({ cls := "MultiPatternScan", name := "longestAt", desc := "(I)I" } : Jvm.MethodName) prog_1_method_28_code (8 : Nat) (Option.some Jvm.ClassFile.FieldType.int), Jvm.Cond.code ({ cls := "MultiPatternScan", name := "occurrenceMask", desc := "(I)I" } : Jvm.MethodName) prog_1_method_13_code (2 : Nat) (Option.some Jvm.ClassFile.FieldType.int), Jvm.Cond.code ({ cls := "MultiPatternScan", name := "commitOne", desc := "()V" } : Jvm.MethodName) prog_1_method_30_code (2 : Nat) (Option.none : Option Jvm.ClassFile.FieldType), Jvm.Cond.code ({ cls := "MultiPatternScan", name := "textLength", desc := "()I" } : Jvm.MethodName) prog_1_method_11_code (1 : Nat) (Option.some Jvm.ClassFile.FieldType.int), Jvm.Cond.code ({ cls := "MultiPatternScan", name := "totalOccurrences", desc := "()I" } : Jvm.MethodName) prog_1_method_14_code (1 : Nat) (Option.some Jvm.ClassFile.FieldType.int), Jvm.Cond.code ({ cls := "MultiPatternScan", name := "longestPartial", desc := "()I" } : Jvm.MethodName) prog_1_method_15_code (1 : Nat) (Option.some Jvm.ClassFile.FieldType.int), Jvm.Cond.code ({ cls := "MultiPatternScan", name := "outChar", desc := "(I)I" } : Jvm.MethodName) prog_1_method_17_code (3 : Nat) (Option.some Jvm.ClassFile.FieldType.int), Jvm.Cond.code ({ cls := "MultiPatternScan", name := "outLength", desc := "()I" } : Jvm.MethodName) prog_1_method_16_code (1 : Nat) (Option.some Jvm.ClassFile.FieldType.int)]
set_option maxRecDepth 65536 in
theorem codes_eq : words1.filter isCode = codes1 := rfl
theorem w_codes : ∀ c ∈ words1.filter isCode, c.before args0 about1 = true := by
  rw [codes_eq]
  intro c hc
  simp only [codes1, List.mem_cons, List.not_mem_nil, or_false] at hc
  rcases hc with rfl | rfl | rfl | rfl | rfl | rfl | rfl | rfl | rfl | rfl | rfl | rfl | rfl | rfl | rfl | rfl | rfl | rfl | rfl | rfl | rfl | rfl | rfl | rfl | rfl | rfl | rfl | rfl | rfl | rfl
  · exact w_c0
  · exact w_c1
  · exact w_c2
  · exact w_c3
  · exact w_c4
  · exact w_c5
  · exact w_c6
  · exact w_c7
  · exact w_c8
  · exact w_c9
  · exact w_c10
  · exact w_c11
  · exact w_c12
  · exact w_c13
  · exact w_c14
  · exact w_c15
  · exact w_c16
  · exact w_c17
  · exact w_c18
  · exact w_c19
  · exact w_c20
  · exact w_c21
  · exact w_c22
  · exact w_c23
  · exact w_c24
  · exact w_c25
  · exact w_c26
  · exact w_c27
  · exact w_c28
  · exact w_c29
set_option maxRecDepth 65536 in
theorem w_t1 : (words1.take 24).all (fun c => isCode c || c.before args0 about1) = true := by decide +kernel
set_option maxRecDepth 65536 in
theorem w_t2 : ((words1.drop 24).take 24).all (fun c => isCode c || c.before args0 about1) = true := by decide +kernel
set_option maxRecDepth 65536 in
theorem w_t3 : (((words1.drop 24).drop 24).take 24).all (fun c => isCode c || c.before args0 about1) = true := by decide +kernel
set_option maxRecDepth 65536 in
theorem w_t4 : ((((words1.drop 24).drop 24).drop 24).take 24).all (fun c => isCode c || c.before args0 about1) = true := by decide +kernel
set_option maxRecDepth 65536 in
theorem w_t5 : (((((words1.drop 24).drop 24).drop 24).drop 24).take 24).all (fun c => isCode c || c.before args0 about1) = true := by decide +kernel
set_option maxRecDepth 65536 in
theorem w_t6 : ((((((words1.drop 24).drop 24).drop 24).drop 24).drop 24).take 24).all (fun c => isCode c || c.before args0 about1) = true := by decide +kernel
set_option maxRecDepth 65536 in
theorem w_t7 : (((((((words1.drop 24).drop 24).drop 24).drop 24).drop 24).drop 24).take 24).all (fun c => isCode c || c.before args0 about1) = true := by decide +kernel
set_option maxRecDepth 65536 in
theorem w_t8 : (((((((words1.drop 24).drop 24).drop 24).drop 24).drop 24).drop 24).drop 24).all (fun c => isCode c || c.before args0 about1) = true := by decide +kernel
theorem w_tables : (allAtoms (Jvm.Cond.code x code maxLocals ret :: tables_1)).before args0 about1 = true := by
  rw [allAtoms_all]
  show words1.all (fun c => c.before args0 about1) = true
  refine all_split ?_ w_codes
  rw [← List.take_append_drop 24 words1, List.all_append, w_t1, ← List.take_append_drop 24 (words1.drop 24), List.all_append, w_t2, ← List.take_append_drop 24 ((words1.drop 24).drop 24), List.all_append, w_t3, ← List.take_append_drop 24 (((words1.drop 24).drop 24).drop 24), List.all_append, w_t4, ← List.take_append_drop 24 ((((words1.drop 24).drop 24).drop 24).drop 24), List.all_append, w_t5, ← List.take_append_drop 24 (((((words1.drop 24).drop 24).drop 24).drop 24).drop 24), List.all_append, w_t6, ← List.take_append_drop 24 ((((((words1.drop 24).drop 24).drop 24).drop 24).drop 24).drop 24), List.all_append, w_t7, w_t8]
  rfl
set_option maxRecDepth 65536 in
theorem w_case : (Jvm.Cond.and given_1 narrow_1).before args0 about1 = true := by decide +kernel
theorem w_applies : (headSpec (Jvm.Cond.code x code maxLocals ret :: tables_1) room_1).applies x e0.platform about1 = true :=
  (Spec.applies_iff w_frames).mpr ⟨w_running, w_runnable, w_alone, w_named, w_hears, w_ripe, w_room, w_tables⟩
theorem atStart : AtStart classFile x code maxLocals ret World_1 tables_1 room_1 Calls_1 rest_1 Pre_1 launch0 p0 e0 about1 theMethod args0 below0 :=
  ⟨lists_1, trivial, launch0.admits_env _ _ _, launch0.least_env, fairChoices_fair.cas, fairChoices_fair.clock, w_frames, w_args, w_heap, w_applies, trivial, trivial, w_case⟩
end start1
theorem witness_1 : WitnessClaimed_1 := ⟨start1.p0, start1.e0, start1.about1, start1.theMethod, start1.args0, start1.below0, start1.atStart⟩
end Jvm.Pilot.@@N@@
