import JvmDerived
import JvmDerived.Pilot.@@N@@Statement
import JvmDerived.Pilot.@@N@@Code
set_option linter.unusedVariables false
set_option linter.unusedSimpArgs false
namespace Jvm.Own
open Jvm Jvm.ClassFile Sem Op Lib Jvm.Free Jvm.Stand Jvm.LawKit Jvm.RoadKit Bundle

/-! A plain machine: the few instructions that these classes use, over a heap of plain lists. -/
/-- an object (class number, fields in order) | an int array (false) or boolean array (true) | a long array -/
abbrev ACell := (Nat × List Value) ⊕ ((Bool × List Int32) ⊕ List Int64)
abbrev AHeap := List ACell
/-- instruction, length, variables forgotten ahead of it, link number, constant -/
abbrev It := Instr × Nat × List Bool × Nat × Int
/-- a field: name, descriptor, type, final -/
abbrev FD := String × String × FieldType × Bool
/-- a class: name, number of its slots, its fields -/
abbrev CD := String × Nat × List FD
/-- a method: name, bytes, variables, return type; kind (0 static, 1 constructor, 2 private, 3 virtual), parameters, class number, frames, words; code -/
abbrev MD := MethodName × ByteArray × Nat × Option FieldType × Nat × Nat × Nat × Nat × Nat × List (Nat × It)
/-- classes, methods, number of cells that are only read -/
abbrev PD := List CD × List MD × Nat
abbrev PD.cls (P : PD) : List CD := P.1
abbrev PD.mth (P : PD) : List MD := P.2.1
abbrev PD.nr (P : PD) : Nat := P.2.2
abbrev MD.name (d : MD) : MethodName := d.1
abbrev MD.bytes (d : MD) : ByteArray := d.2.1
abbrev MD.maxL (d : MD) : Nat := d.2.2.1
abbrev MD.ret (d : MD) : Option FieldType := d.2.2.2.1
abbrev MD.kind (d : MD) : Nat := d.2.2.2.2.1
abbrev MD.npar (d : MD) : Nat := d.2.2.2.2.2.1
abbrev MD.cid (d : MD) : Nat := d.2.2.2.2.2.2.1
abbrev MD.rf (d : MD) : Nat := d.2.2.2.2.2.2.2.1
abbrev MD.rw (d : MD) : Nat := d.2.2.2.2.2.2.2.2.1
abbrev MD.code (d : MD) : List (Nat × It) := d.2.2.2.2.2.2.2.2.2

def rdA {α : Type} (L : List α) (j : Int32) : Option α := if j < 0 then none else L[j.toNatClampNeg]?
def wrA {α : Type} (L : List α) (j : Int32) (x : α) : Option (List α) := if j < 0 then none else if j.toNatClampNeg < L.length then some (L.set j.toNatClampNeg x) else none
def getL (L : List Slot) (k : Nat) : Option Value := match L[k]? with | some (.val v) => some v | _ => none
def isC2 : Option Slot → Bool | some (.val v) => v.category == 2 | _ => false
def isSec : Option Slot → Bool | some .second => true | _ => false
def free1 : Option Slot → Bool | some .unset => true | some (.val v) => v.category == 1 | _ => false
def st1 (L : List Slot) (k : Nat) (v : Value) : Option (List Slot) :=
  if free1 L[k]? && (k == 0 || !isC2 L[k - 1]?) && !isSec L[k + 1]? then some (L.set k (.val v)) else none
def free2 : Option Slot → Option Slot → Bool | some .unset, some .unset => true | some (.val v), some .second => v.category == 2 | _, _ => false
def st2 (L : List Slot) (k : Nat) (v : Value) : Option (List Slot) :=
  if free2 L[k]? L[k + 1]? && (k == 0 || !isC2 L[k - 1]?) && !isSec L[k + 2]? then some ((L.set k (.val v)).set (k + 1) .second) else none
def forget : List Bool → List Slot → List Slot
  | [], L => L
  | _ :: _, [] => []
  | true :: r, _ :: L => .unset :: forget r L
  | false :: r, s :: L => s :: forget r L
def catSum : List Value → Nat
  | [] => 0
  | v :: r => v.category + catSum r
def entA : List Value → List Slot
  | [] => []
  | v :: r => if v.category = 2 then .val v :: .second :: entA r else .val v :: entA r
def entL (as : List Value) (n : Nat) : List Slot := entA as ++ List.replicate (n - (entA as).length) .unset
def putOk : FieldType → Value → Bool
  | .int, .int _ => true
  | .long, .long _ => true
  | .boolean, .int x => (x == 0) || (x == 1)
  | .array _, .ref _ => true
  | _, _ => false
def dflt : FieldType → Value
  | .long => .long 0
  | .array _ => .null
  | _ => .int 0
def dfOk : FieldType → Bool
  | .int => true
  | .boolean => true
  | .long => true
  | .array _ => true
  | _ => false
def tgt (pc : Nat) (o : Int) : Option Nat := if 0 ≤ (pc : Int) + o then some ((pc : Int) + o).toNat else none
def fetch : List (Nat × It) → Nat → Option It
  | [], _ => none
  | (q, i) :: r, pc => if q = pc then some i else fetch r pc
/-- one instruction that neither branches nor calls nor returns -/
def xI (P : PD) (ini : Bool) (cid : Nat) (i : Instr) (a : Nat) (b : Int) (L : List Slot) (S : List Value) (H : AHeap) : Option (List Slot × List Value × AHeap) :=
  match i with
  | .aload_n k => match getL L k.val with | some (.ref x) => some (L, .ref x :: S, H) | _ => none
  | .aload k => match getL L k with | some (.ref x) => some (L, .ref x :: S, H) | _ => none
  | .iload_n k => match getL L k.val with | some (.int x) => some (L, .int x :: S, H) | _ => none
  | .iload k => match getL L k with | some (.int x) => some (L, .int x :: S, H) | _ => none
  | .lload_n k => match getL L k.val with | some (.long x) => some (L, .long x :: S, H) | _ => none
  | .lload k => match getL L k with | some (.long x) => some (L, .long x :: S, H) | _ => none
  | .istore_n k => match S with | .int x :: S' => (st1 L k.val (.int x)).map fun L' => (L', S', H) | _ => none
  | .istore k => match S with | .int x :: S' => (st1 L k (.int x)).map fun L' => (L', S', H) | _ => none
  | .astore_n k => match S with | .ref x :: S' => (st1 L k.val (.ref x)).map fun L' => (L', S', H) | _ => none
  | .astore k => match S with | .ref x :: S' => (st1 L k (.ref x)).map fun L' => (L', S', H) | _ => none
  | .lstore_n k => match S with | .long x :: S' => (st2 L k.val (.long x)).map fun L' => (L', S', H) | _ => none
  | .lstore k => match S with | .long x :: S' => (st2 L k (.long x)).map fun L' => (L', S', H) | _ => none
  | .iinc k d => match getL L k with | some (.int x) => (st1 L k (.int (x + Int32.ofInt d))).map fun L' => (L', S, H) | _ => none
  | .iconst d => some (L, .int (Int32.ofInt d) :: S, H)
  | .bipush d => some (L, .int (Int8.ofInt d).toInt32 :: S, H)
  | .sipush d => some (L, .int (Int16.ofInt d).toInt32 :: S, H)
  | .lconst k => some (L, .long (Int64.ofNat k) :: S, H)
  | .ldc _ => some (L, .int (Int32.ofInt b) :: S, H)
  | .ldc2_w _ => some (L, .long (Int64.ofInt b) :: S, H)
  | .iadd => match S with | .int y :: .int x :: S' => some (L, .int (x + y) :: S', H) | _ => none
  | .isub => match S with | .int y :: .int x :: S' => some (L, .int (x - y) :: S', H) | _ => none
  | .imul => match S with | .int y :: .int x :: S' => some (L, .int (x * y) :: S', H) | _ => none
  | .iand => match S with | .int y :: .int x :: S' => some (L, .int (x &&& y) :: S', H) | _ => none
  | .ior => match S with | .int y :: .int x :: S' => some (L, .int (x ||| y) :: S', H) | _ => none
  | .ixor => match S with | .int y :: .int x :: S' => some (L, .int (x ^^^ y) :: S', H) | _ => none
  | .ishl => match S with | .int y :: .int x :: S' => some (L, .int (x <<< (y &&& 31)) :: S', H) | _ => none
  | .ishr => match S with | .int y :: .int x :: S' => some (L, .int (x >>> (y &&& 31)) :: S', H) | _ => none
  | .iushr => match S with | .int y :: .int x :: S' => some (L, .int (XT.ushr x y) :: S', H) | _ => none
  | .idiv => match S with | .int y :: .int x :: S' => if y = 0 then none else some (L, .int (x / y) :: S', H) | _ => none
  | .irem => match S with | .int y :: .int x :: S' => if y = 0 then none else some (L, .int (x % y) :: S', H) | _ => none
  | .ladd => match S with | .long y :: .long x :: S' => some (L, .long (x + y) :: S', H) | _ => none
  | .lsub => match S with | .long y :: .long x :: S' => some (L, .long (x - y) :: S', H) | _ => none
  | .lmul => match S with | .long y :: .long x :: S' => some (L, .long (x * y) :: S', H) | _ => none
  | .land => match S with | .long y :: .long x :: S' => some (L, .long (x &&& y) :: S', H) | _ => none
  | .lor => match S with | .long y :: .long x :: S' => some (L, .long (x ||| y) :: S', H) | _ => none
  | .lxor => match S with | .long y :: .long x :: S' => some (L, .long (x ^^^ y) :: S', H) | _ => none
  | .lshl => match S with | .int y :: .long x :: S' => some (L, .long (x <<< (y.toInt64 &&& 63)) :: S', H) | _ => none
  | .lshr => match S with | .int y :: .long x :: S' => some (L, .long (x >>> (y.toInt64 &&& 63)) :: S', H) | _ => none
  | .lushr => match S with | .int y :: .long x :: S' => some (L, .long (XT.ushrL x y) :: S', H) | _ => none
  | .ldiv => match S with | .long y :: .long x :: S' => if y = 0 then none else some (L, .long (x / y) :: S', H) | _ => none
  | .lrem => match S with | .long y :: .long x :: S' => if y = 0 then none else some (L, .long (x % y) :: S', H) | _ => none
  | .lcmp => match S with | .long y :: .long x :: S' => some (L, .int (XT.cmpL x y) :: S', H) | _ => none
  | .i2l => match S with | .int x :: S' => some (L, .long x.toInt64 :: S', H) | _ => none
  | .l2i => match S with | .long x :: S' => some (L, .int x.toInt32 :: S', H) | _ => none
  | .dup => match S with
    | .int x :: S' => some (L, .int x :: .int x :: S', H)
    | .ref x :: S' => some (L, .ref x :: .ref x :: S', H)
    | _ => none
  | .dup2 => match S with
    | .int x :: .ref y :: S' => some (L, .int x :: .ref y :: .int x :: .ref y :: S', H)
    | .long x :: S' => some (L, .long x :: .long x :: S', H)
    | _ => none
  | .pop => match S with | .int _ :: S' => some (L, S', H) | _ => none
  | .getfield _ => match S with
    | .ref o :: S' => match H[o]? with
      | some (.inl (c, fs)) => if c = cid then match fs[a]? with
        | some (.int x) => some (L, .int x :: S', H)
        | some (.long x) => some (L, .long x :: S', H)
        | some (.ref x) => some (L, .ref x :: S', H)
        | _ => none
        else none
      | _ => none
    | _ => none
  | .putfield _ => match S with
    | v :: .ref o :: S' => match H[o]? with
      | some (.inl (c, fs)) => if c = cid ∧ P.nr ≤ o then match (P.cls[c]?).bind fun cd => cd.2.2[a]? with
        | some (_, _, ty, fin) => if putOk ty v && (!fin || ini) then some (L, S', H.set o (.inl (c, fs.set a v))) else none
        | none => none
        else none
      | _ => none
    | _ => none
  | .iaload => match S with
    | .int j :: .ref o :: S' => match H[o]? with
      | some (.inr (.inl (false, A))) => (rdA A j).map fun x => (L, .int x :: S', H)
      | _ => none
    | _ => none
  | .baload => match S with
    | .int j :: .ref o :: S' => match H[o]? with
      | some (.inr (.inl (true, A))) => (rdA A j).map fun x => (L, .int x :: S', H)
      | _ => none
    | _ => none
  | .laload => match S with
    | .int j :: .ref o :: S' => match H[o]? with
      | some (.inr (.inr A)) => (rdA A j).map fun x => (L, .long x :: S', H)
      | _ => none
    | _ => none
  | .iastore => match S with
    | .int x :: .int j :: .ref o :: S' => match H[o]? with
      | some (.inr (.inl (false, A))) => if P.nr ≤ o then (wrA A j x).map fun A' => (L, S', H.set o (.inr (.inl (false, A')))) else none
      | _ => none
    | _ => none
  | .bastore => match S with
    | .int x :: .int j :: .ref o :: S' => match H[o]? with
      | some (.inr (.inl (true, A))) => if P.nr ≤ o then (wrA A j (x &&& 1)).map fun A' => (L, S', H.set o (.inr (.inl (true, A')))) else none
      | _ => none
    | _ => none
  | .lastore => match S with
    | .long x :: .int j :: .ref o :: S' => match H[o]? with
      | some (.inr (.inr A)) => if P.nr ≤ o then (wrA A j x).map fun A' => (L, S', H.set o (.inr (.inr A'))) else none
      | _ => none
    | _ => none
  | .arraylength => match S with
    | .ref o :: S' => match H[o]? with
      | some (.inr (.inl (_, A))) => some (L, .int A.length.toInt32 :: S', H)
      | _ => none
    | _ => none
  | _ => none
/-- one instruction that makes a cell: how many slots it takes stands last -/
def xN (P : PD) (i : Instr) (a : Nat) (S : List Value) (H : AHeap) : Option (List Value × AHeap × Nat) :=
  match i with
  | .new _ => match P.cls[a]? with
    | some cd => some (.ref H.length :: S, H ++ [.inl (a, cd.2.2.map fun f => dflt f.2.2.1)], cd.2.1)
    | none => none
  | .newarray t => match S with
    | .int n :: S' => if n < 0 ∨ 100000 < n.toNatClampNeg then none else match t with
      | .int => some (.ref H.length :: S', H ++ [.inr (.inl (false, List.replicate n.toNatClampNeg 0))], n.toNatClampNeg)
      | .boolean => some (.ref H.length :: S', H ++ [.inr (.inl (true, List.replicate n.toNatClampNeg 0))], n.toNatClampNeg)
      | .long => some (.ref H.length :: S', H ++ [.inr (.inr (List.replicate n.toNatClampNeg 0))], n.toNatClampNeg)
      | _ => none
    | _ => none
  | _ => none
/-- the words that a call from d to y asks -/
def fitsRoom (d y : MD) (rest : List Value) : Bool := decide (y.rf + 1 ≤ d.rf) && decide (catSum rest + (y.maxL + 11) + y.rw ≤ d.rw)
/-- the arguments of a call, first to last, and what lies under them -/
def argsOf (n : Nat) (S : List Value) : Option (List Value × List Value) := if n ≤ S.length then some ((S.take n).reverse, S.drop n) else none
def recvOk (P : PD) (H : AHeap) (y : MD) (as : List Value) : Bool :=
  if y.kind = 0 then true else match as with
    | .ref o :: _ => match H[o]? with
      | some (.inl (c, _)) => decide (c = y.cid)
      | _ => false
    | _ => false
def nargs (y : MD) : Nat := if y.kind = 0 then y.npar else y.npar + 1
def invKind (i : Instr) (k : Nat) : Bool := match i with
  | .invokestatic _ => k == 0
  | .invokespecial _ => k == 1
  | .invokevirtual _ => k == 2 || k == 3
  | _ => false
/-- what a method returns of an int on its stack -/
def retV (r : Option FieldType) (x : Int32) : Option Value := match r with
  | some .int => some (.int x)
  | some .boolean => some (.int (x &&& 1))
  | _ => none
def isInv : Instr → Bool
  | .invokestatic _ => true
  | .invokespecial _ => true
  | .invokevirtual _ => true
  | _ => false
def isNew : Instr → Bool
  | .new _ => true
  | .newarray _ => true
  | _ => false
/-- what a run answers: what it returns, the heap, how many cells and slots it has made -/
abbrev Res := Option Value × AHeap × Nat × Nat
def addR (r : Res) (kc ks : Nat) : Res := (r.1, r.2.1, r.2.2.1 + kc, r.2.2.2 + ks)
/-- n instructions at the most, from pc of method mi to its return -/
def exe (P : PD) : Nat → Nat → Nat → List Slot → List Value → AHeap → Option Res
  | 0, _, _, _, _, _ => none
  | n + 1, mi, pc, L0, S, H => match P.mth[mi]? with
    | none => none
    | some d => match fetch d.code pc with
      | none => none
      | some (i, len, er, a, b) =>
        let L := forget er L0
        match i with
        | .goto o => match tgt pc o with
          | some q => exe P n mi q L S H
          | none => none
        | .if_icmp cd o => match S with
          | .int y :: .int x :: S' => if if_icmp.holds cd x y = true then match tgt pc o with
              | some q => exe P n mi q L S' H
              | none => none
            else exe P n mi (pc + 3) L S' H
          | _ => none
        | .ifCond cd o => match S with
          | .int x :: S' => if ifCond.holds cd x = true then match tgt pc o with
              | some q => exe P n mi q L S' H
              | none => none
            else exe P n mi (pc + 3) L S' H
          | _ => none
        | .ifnonnull o => match S with
          | .ref _ :: S' => match tgt pc o with
            | some q => exe P n mi q L S' H
            | none => none
          | _ => none
        | .ireturn => match S with
          | [.int x] => match retV d.ret x with
            | some v => some (some v, H, 0, 0)
            | none => none
          | _ => none
        | .lreturn => match S with
          | [.long x] => if d.ret = some .long then some (some (.long x), H, 0, 0) else none
          | _ => none
        | .return_ => match S with
          | [] => if d.ret = none then some (none, H, 0, 0) else none
          | _ => none
        | i => if isInv i = true then
            if b = -1 then match i, S with
              | .invokespecial _, .ref _ :: S' => if 1 ≤ d.rf ∧ catSum S' + 12 ≤ d.rw then exe P n mi (pc + 3) L S' H else none
              | _, _ => none
            else match P.mth[a]? with
              | none => none
              | some y => match argsOf (nargs y) S with
                | none => none
                | some (as, rest) =>
                  if decide (0 < a) && invKind i y.kind && recvOk P H y as && fitsRoom d y rest && decide ((entA as).length ≤ y.maxL) then
                    match exe P n a 0 (entL as y.maxL) [] H with
                    | some (v, H1, kc, ks) => (exe P n mi (pc + 3) L (v.toList ++ rest) H1).map fun r => addR r kc ks
                    | none => none
                  else none
          else if isNew i = true then match xN P i a S H with
            | some (S', H', ks) => (exe P n mi (pc + len) L S' H').map fun r => addR r 1 ks
            | none => none
          else match xI P (d.name.name == "<init>") d.cid i a b L S H with
            | some (L', S', H') => exe P n mi (pc + len) L' S' H'
            | none => none
end Jvm.Own
namespace Jvm.Own
open Jvm Jvm.ClassFile Sem Op Lib Jvm.Free Jvm.Stand Jvm.LawKit Jvm.RoadKit Bundle

/-! The words that the machine's program rests on -/
def fWord (C : String) (f : FD) : Jvm.Cond := if f.2.2.2 then .laysFinal C C f.1 f.2.1 else .lays C C f.1 f.2.1
def cWords (cd : CD) : List Jvm.Cond := .instantiable cd.1 cd.2.1 :: .initialized cd.1 :: cd.2.2.map (fWord cd.1)
def mWords (y : MD) : List Jvm.Cond := .code y.name y.bytes y.maxL y.ret :: .initialized y.name.cls ::
  (if y.kind = 0 then [.static y.name] else if y.kind = 1 then [.instanceMethod y.name] else if y.kind = 2 then [.instanceMethod y.name, .privateMethod y.name]
   else [.declares y.name, .selects y.name.cls y.name y.name, .instanceMethod y.name])
def fieldOf (P : PD) (c a : Nat) : Option FD := (P.cls[c]?).bind fun cd => cd.2.2[a]?
def fLink (P : PD) (d : MD) (k a : Nat) : List Jvm.Cond := match fieldOf P d.cid a with | some f => [.fieldLink d.name.cls k d.name.cls f.1 f.2.1] | none => []
def mLink (P : PD) (d : MD) (k a : Nat) (b : Int) : List Jvm.Cond :=
  if b = -1 then [.methodLink d.name.cls k Lib.objectInit, .instanceMethod Lib.objectInit, .code Lib.objectInit ⟨#[0xb1]⟩ 1 none]
  else match P.mth[a]? with | some y => [.methodLink d.name.cls k y.name] | none => []
def iWords (P : PD) (d : MD) (x : Nat × It) : List Jvm.Cond := match x with
  | (_, .getfield k, _, _, a, _) => fLink P d k a
  | (_, .putfield k, _, _, a, _) => fLink P d k a
  | (_, .ldc k, _, _, _, b) => [.constant d.name.cls k (Int32.ofInt b)]
  | (_, .ldc2_w k, _, _, _, b) => [.constantLong d.name.cls k (Int64.ofInt b)]
  | (_, .new k, _, _, a, _) => match P.cls[a]? with | some cd => [.classLink d.name.cls k cd.1] | none => []
  | (_, .newarray t, _, _, _, _) => [.arrayClass (newarray.typeOf t)]
  | (_, .invokestatic k, _, _, a, b) => mLink P d k a b
  | (_, .invokespecial k, _, _, a, b) => mLink P d k a b
  | (_, .invokevirtual k, _, _, a, b) => mLink P d k a b
  | _ => []
def wordsOf (P : PD) : List Jvm.Cond := P.cls.flatMap cWords ++ (P.mth.drop 1).flatMap mWords ++ P.mth.flatMap fun d => d.code.flatMap (iWords P d)
/-! What can be looked up in the program itself -/
def nodup : List String → Bool
  | [] => true
  | x :: r => !r.contains x && nodup r
def fChk (f : FD) : Bool := decide (parseFieldDescriptor f.2.1 = some f.2.2.1) && dfOk f.2.2.1
def cChk (cd : CD) : Bool := nodup (cd.2.2.map fun f => f.1) && cd.2.2.all fChk
def sigChk (y : MD) : Bool := match parseMethodDescriptor y.name.desc with
  | some g => decide (g.parameters.length = y.npar)
  | none => false
def lenOk (i : Instr) (n : Nat) : Bool := match i with
  | .aload _ | .iload _ | .lload _ | .istore _ | .astore _ | .lstore _ | .bipush _ | .ldc _ | .newarray _ => n == 2
  | .iinc _ _ | .sipush _ | .ldc2_w _ | .getfield _ | .putfield _ | .new _ | .goto _ | .if_icmp _ _ | .ifCond _ _ | .ifnonnull _ | .invokestatic _ | .invokespecial _ | .invokevirtual _ => n == 3
  | _ => n == 1
def codeChk (y : MD) : Bool := y.code.all fun x => decide (decode y.bytes x.1 = .ok (x.2.1, x.2.2.1)) && lenOk x.2.1 x.2.2.1
def clsChk (P : PD) (y : MD) : Bool := match P.cls[y.cid]? with | some cd => cd.1 == y.name.cls | none => y.kind == 0
def mChk (P : PD) (y : MD) : Bool := plainName y.name.cls && sigChk y && codeChk y && clsChk P y && decide (y.name.cls ≠ "java/lang/invoke/MethodHandle") && decide (y.name.cls ≠ "java/lang/invoke/VarHandle") && (y.kind != 1 || (y.name.name == "<init>" && decide (y.ret = none)))
def chk (P : PD) : Bool := P.cls.all cChk && P.mth.all (mChk P)

/-! Plain and real values -/
def VR (ρ : List Addr) : Value → Value → Prop
  | .ref k, w => ∃ a, ρ[k]? = some a ∧ w = .ref a
  | v, w => w = v
def SR (ρ : List Addr) : List Value → List Value → Prop
  | [], ws => ws = []
  | v :: vs, ws => ∃ w ws', ws = w :: ws' ∧ VR ρ v w ∧ SR ρ vs ws'
def OV (ρ : List Addr) : Option Value → Option Value → Prop
  | none, w => w = none
  | some v, w => ∃ u, w = some u ∧ VR ρ v u
def WFc (A : Array Slot) : Prop := (∀ (i : Nat) w, A[i]? = some (.val w) → w.category = 2 → A[i + 1]? = some .second) ∧ ∀ (i : Nat), A[i]? = some .second → ∃ j w, i = j + 1 ∧ A[j]? = some (.val w) ∧ w.category = 2
def SlR (ρ : List Addr) : Slot → Option Slot → Prop
  | .unset, _ => True
  | .second, o => o = some .second
  | .val v, o => ∃ w, VR ρ v w ∧ o = some (.val w)
def LR (ρ : List Addr) (L : List Slot) (A : Array Slot) : Prop := A.size = L.length ∧ WFc A ∧ ∀ (i : Nat) s, L[i]? = some s → SlR ρ s A[i]?
theorem VR.mono {ρ t : List Addr} {v w : Value} (h : VR ρ v w) : VR (ρ ++ t) v w := by
  cases v <;> first | exact h | skip
  obtain ⟨a, h1, h2⟩ := h
  exact ⟨a, by rw [List.getElem?_append_left (List.getElem?_eq_some_iff.mp h1).1]; exact h1, h2⟩
theorem SR.mono {ρ t : List Addr} : ∀ {v w : List Value}, SR ρ v w → SR (ρ ++ t) v w
  | [], _, h => h
  | _ :: _, _, ⟨w, ws, h1, h2, h3⟩ => ⟨w, ws, h1, h2.mono, SR.mono h3⟩
theorem SlR.mono {ρ t : List Addr} {s : Slot} {o : Option Slot} (h : SlR ρ s o) : SlR (ρ ++ t) s o := by
  cases s with
  | unset => trivial
  | second => exact h
  | val v => obtain ⟨w, h1, h2⟩ := h; exact ⟨w, h1.mono, h2⟩
theorem LR.mono {ρ t : List Addr} {L : List Slot} {A : Array Slot} (h : LR ρ L A) : LR (ρ ++ t) L A := ⟨h.1, h.2.1, fun i s q => (h.2.2 i s q).mono⟩
theorem VR.cat {ρ : List Addr} {v w : Value} (h : VR ρ v w) : w.category = v.category := by
  cases v <;> first | (obtain ⟨a, -, rfl⟩ := h; rfl) | (cases h; rfl)
theorem SR.cat {ρ : List Addr} : ∀ {v w : List Value}, SR ρ v w → (w.map fun v => v.category).sum = catSum v
  | [], _, h => by cases h; rfl
  | _ :: _, _, ⟨w, ws, h1, h2, h3⟩ => by subst h1; simp [catSum, h2.cat, SR.cat h3]
theorem SR.len {ρ : List Addr} : ∀ {v w : List Value}, SR ρ v w → w.length = v.length
  | [], _, h => by cases h; rfl
  | _ :: _, _, ⟨w, ws, h1, h2, h3⟩ => by subst h1; simp [SR.len h3]
theorem SR.app {ρ : List Addr} : ∀ {v w v' w' : List Value}, SR ρ v w → SR ρ v' w' → SR ρ (v ++ v') (w ++ w')
  | [], _, _, _, h, h' => by cases h; exact h'
  | _ :: _, _, _, _, ⟨w, ws, h1, h2, h3⟩, h' => by subst h1; exact ⟨w, ws ++ _, rfl, h2, SR.app h3 h'⟩
theorem SR.rev {ρ : List Addr} : ∀ {v w : List Value}, SR ρ v w → SR ρ v.reverse w.reverse
  | [], _, h => by cases h; exact rfl
  | _ :: _, _, ⟨w, ws, h1, h2, h3⟩ => by subst h1; simp only [List.reverse_cons]; exact (SR.rev h3).app ⟨w, [], rfl, h2, rfl⟩
theorem SR.take {ρ : List Addr} : ∀ (n : Nat) {v w : List Value}, SR ρ v w → SR ρ (v.take n) (w.take n)
  | 0, _, _, _ => rfl
  | n + 1, [], _, h => by cases h; exact rfl
  | n + 1, _ :: _, _, ⟨w, ws, h1, h2, h3⟩ => by subst h1; exact ⟨w, _, rfl, h2, SR.take n h3⟩
theorem SR.drop {ρ : List Addr} : ∀ (n : Nat) {v w : List Value}, SR ρ v w → SR ρ (v.drop n) (w.drop n)
  | 0, _, _, h => h
  | n + 1, [], _, h => by cases h; exact rfl
  | n + 1, _ :: _, _, ⟨w, ws, h1, h2, h3⟩ => by subst h1; exact SR.drop n h3
theorem OV.list {ρ : List Addr} {v w : Option Value} (h : OV ρ v w) : SR ρ v.toList w.toList := by
  cases v with
  | none => cases h; exact rfl
  | some v => obtain ⟨u, rfl, h⟩ := h; exact ⟨u, [], rfl, h, rfl⟩
theorem LR.get {ρ : List Addr} {L : List Slot} {A : Array Slot} (h : LR ρ L A) {k : Nat} {v : Value} (g : getL L k = some v) : ∃ w, VR ρ v w ∧ A[k]? = some (.val w) := by
  unfold getL at g
  split at g
  · rename_i u q
    cases g
    exact h.2.2 k _ q
  · cases g
theorem forget_get : ∀ (er : List Bool) (L : List Slot) (i : Nat) (s : Slot), (forget er L)[i]? = some s → s = .unset ∨ L[i]? = some s
  | [], L, i, s, h => Or.inr h
  | _ :: _, [], i, s, h => by simp [forget] at h
  | true :: r, t :: L, 0, s, h => by simp [forget] at h; exact Or.inl h.symm
  | false :: r, t :: L, 0, s, h => by simp [forget] at h; exact Or.inr (by simp [h])
  | true :: r, t :: L, i + 1, s, h => by simp [forget] at h; simpa using forget_get r L i s h
  | false :: r, t :: L, i + 1, s, h => by simp [forget] at h; simpa using forget_get r L i s h
theorem forget_len : ∀ (er : List Bool) (L : List Slot), (forget er L).length = L.length
  | [], _ => rfl
  | _ :: _, [] => rfl
  | true :: r, _ :: L => by simp [forget, forget_len r L]
  | false :: r, _ :: L => by simp [forget, forget_len r L]
theorem LR.forget {ρ : List Addr} {A : Array Slot} (er : List Bool) {L : List Slot} (h : LR ρ L A) : LR ρ (forget er L) A :=
  ⟨by rw [forget_len]; exact h.1, h.2.1, fun i s q => by
    rcases forget_get er L i s q with rfl | z
    · trivial
    · exact h.2.2 i s z⟩
/-! Stores -/
theorem setAt_ok {A : Array Slot} {i : Nat} (h : i < A.size) (x : Slot) : setAt A i x = some (A.setIfInBounds i x) := by simp [setAt, h]
theorem get_set (A : Array Slot) (i j : Nat) (x : Slot) : (A.setIfInBounds i x)[j]? = if i = j then (if i < A.size then some x else none) else A[j]? := by
  rw [Array.getElem?_setIfInBounds]
theorem sl_unset {A : Array Slot} {k : Nat} {w : Value} (h : A[k]? = some .unset) : storeLocals A k w = storeSelf A k w := by
  unfold storeLocals; rw [h]; rfl
theorem sl_second {A : Array Slot} {k : Nat} {w : Value} (h : A[k]? = some .second) (hk : k - 1 < A.size) : storeLocals A k w = storeSelf (A.setIfInBounds (k - 1) .unset) k w := by
  unfold storeLocals; rw [h]
  show (setAt A (k - 1) .unset).bind _ = _
  rw [setAt_ok hk]; rfl
theorem sl_val2 {A : Array Slot} {k : Nat} {w u : Value} (h : A[k]? = some (.val u)) (hu : u.category = 2) (hk : k + 1 < A.size) : storeLocals A k w = storeSelf (A.setIfInBounds (k + 1) .unset) k w := by
  unfold storeLocals; rw [h]
  show (if u.category = 2 then (setAt A (k + 1) .unset).bind _ else _) = _
  rw [if_pos hu, setAt_ok hk]; rfl
theorem sl_val1 {A : Array Slot} {k : Nat} {w u : Value} (h : A[k]? = some (.val u)) (hu : ¬ u.category = 2) : storeLocals A k w = storeSelf A k w := by
  unfold storeLocals; rw [h]
  show (if u.category = 2 then (setAt A (k + 1) .unset).bind _ else _) = _
  rw [if_neg hu]
theorem ss_1 {A : Array Slot} {k : Nat} {w : Value} (hk : k < A.size) (hw : ¬ w.category = 2) : storeSelf A k w = some (A.setIfInBounds k (.val w)) := by
  unfold storeSelf; rw [setAt_ok hk]
  show (if w.category = 2 then _ else _) = _
  rw [if_neg hw]
theorem ss_2c {A : Array Slot} {k : Nat} {w u : Value} (hk : k < A.size) (hk1 : k + 1 < A.size) (hk2 : k + 2 < A.size) (hw : w.category = 2) (h : (A.setIfInBounds k (.val w))[k + 1]? = some (.val u)) (hu : u.category = 2) : storeSelf A k w = some (((A.setIfInBounds k (.val w)).setIfInBounds (k + 2) .unset).setIfInBounds (k + 1) .second) := by
  unfold storeSelf; rw [setAt_ok hk]
  show (if w.category = 2 then _ else _) = _
  rw [if_pos hw, h]
  show (if u.category = 2 then (setAt _ (k + 2) .unset).bind _ else _) = _
  rw [if_pos hu, setAt_ok (by simpa using hk2)]
  exact setAt_ok (by simpa using hk1) _
theorem ss_2 {A : Array Slot} {k : Nat} {w : Value} {o : Slot} (hk : k < A.size) (hk1 : k + 1 < A.size) (hw : w.category = 2) (h : (A.setIfInBounds k (.val w))[k + 1]? = some o) (ho : ¬ ∃ u, o = .val u ∧ u.category = 2) : storeSelf A k w = some ((A.setIfInBounds k (.val w)).setIfInBounds (k + 1) .second) := by
  unfold storeSelf; rw [setAt_ok hk]
  show (if w.category = 2 then _ else _) = _
  rw [if_pos hw, h]
  cases o with
  | unset => exact setAt_ok (by simpa using hk1) _
  | second => exact setAt_ok (by simpa using hk1) _
  | val u =>
    show (if u.category = 2 then _ else _) = _
    rw [if_neg fun z => ho ⟨u, rfl, z⟩]
    exact setAt_ok (by simpa using hk1) _
theorem store1_sim {ρ : List Addr} {L : List Slot} {A : Array Slot} (h : LR ρ L A) {k : Nat} {v w : Value} {L' : List Slot} (hs : st1 L k v = some L') (hv : VR ρ v w) (hc : w.category = 1) : ∃ A', storeLocals A k w = some A' ∧ LR ρ L' A' := by
  unfold st1 at hs
  split at hs
  · rename_i q
    cases hs
    simp only [Bool.and_eq_true] at q
    obtain ⟨⟨q1, q2⟩, q3⟩ := q
    obtain ⟨hA, ⟨w1, w2⟩, hl⟩ := h
    have hk : k < L.length := by
      rcases Nat.lt_or_ge k L.length with z | z
      · exact z
      · rw [List.getElem?_eq_none z] at q1; cases q1
    have hkA : k < A.size := hA ▸ hk
    obtain ⟨sl, hsl⟩ : ∃ sl, A[k]? = some sl := ⟨A[k], Array.getElem?_eq_getElem hkA⟩
    have hc2 : ¬ w.category = 2 := by rw [hc]; decide
    classical
    have key : ∃ A', storeLocals A k w = some A' ∧ A'.size = A.size ∧ (∀ j, A'[j]? = if j = k then some (.val w) else if (sl = .second ∧ j + 1 = k) ∨ ((∃ u, sl = .val u ∧ u.category = 2) ∧ j = k + 1) then some .unset else A[j]?) := by
      cases sl with
      | unset =>
        refine ⟨A.setIfInBounds k (.val w), by rw [sl_unset hsl]; exact ss_1 hkA hc2, by simp, fun j => ?_⟩
        rw [get_set]
        by_cases e : k = j
        · subst e; simp [hkA]
        · have e' : ¬ j = k := fun z => e z.symm
          simp [e, e']
      | second =>
        obtain ⟨j0, u, rfl, g1, g2⟩ := w2 k hsl
        refine ⟨(A.setIfInBounds j0 .unset).setIfInBounds (j0 + 1) (.val w), by rw [sl_second hsl (show j0 + 1 - 1 < A.size by omega)]; exact ss_1 (by simpa using hkA) hc2, by simp, fun j => ?_⟩
        rw [get_set, get_set]
        by_cases e : j0 + 1 = j
        · subst e; simp [hkA]
        · by_cases e2 : j0 = j
          · subst e2; simp; omega
          · have e' : ¬ j = j0 + 1 := fun z => e z.symm
            have e2' : ¬ j = j0 := fun z => e2 z.symm
            simp [e, e', e2, e2']
      | val u =>
        by_cases hu : u.category = 2
        · have g := w1 k u hsl hu
          have hk1 : k + 1 < A.size := (Array.getElem?_eq_some_iff.mp g).1
          refine ⟨(A.setIfInBounds (k + 1) .unset).setIfInBounds k (.val w), by rw [sl_val2 hsl hu hk1]; exact ss_1 (by simpa using hkA) hc2, by simp, fun j => ?_⟩
          rw [get_set, get_set]
          by_cases e : k = j
          · subst e; simp [hkA]
          · have e' : ¬ j = k := fun z => e z.symm
            by_cases e2 : k + 1 = j
            · subst e2; simp [hk1, hu]
            · have e2' : ¬ j = k + 1 := fun z => e2 z.symm
              simp [e, e', e2, e2']
        · refine ⟨A.setIfInBounds k (.val w), by rw [sl_val1 hsl hu]; exact ss_1 hkA hc2, by simp, fun j => ?_⟩
          rw [get_set]
          by_cases e : k = j
          · subst e; simp [hkA]
          · have e' : ¬ j = k := fun z => e z.symm
            simp [e, e', hu]
    obtain ⟨A', k1, k2, k3⟩ := key
    refine ⟨A', k1, by rw [k2, hA]; simp, ⟨fun i u g1 g2 => ?_, fun i g1 => ?_⟩, fun i s g => ?_⟩
    · rw [k3] at g1
      split at g1
      · cases g1; exact absurd g2 hc2
      · rename_i e1
        split at g1
        · cases g1
        · rename_i e2
          have g3 := w1 i u g1 g2
          rw [k3]
          split
          · rename_i e3
            have : sl = .second := by rw [← e3] at hsl; exact Option.some.inj (hsl.symm.trans g3)
            exact absurd (Or.inl ⟨this, e3⟩) e2
          · rename_i e3
            split
            · rename_i e4
              rcases e4 with ⟨z1, z2⟩ | ⟨⟨u', z1, z2⟩, z3⟩
              · exfalso
                have : k = i + 1 + 1 := z2.symm
                subst this
                rw [z1] at hsl
                obtain ⟨j0, u0, y1, y2, y3⟩ := w2 _ hsl
                have : j0 = i + 1 := by omega
                subst this
                rw [g3] at y2; cases y2
              · exact absurd (by omega) e1
            · exact g3
    · rw [k3] at g1
      split at g1
      · cases g1
      · rename_i e1
        split at g1
        · cases g1
        · rename_i e2
          obtain ⟨j, u, z1, z2, z3⟩ := w2 i g1
          refine ⟨j, u, z1, ?_, z3⟩
          rw [k3]
          split
          · rename_i e3
            subst e3
            have : sl = .val u := Option.some.inj (hsl.symm.trans z2)
            exact absurd (Or.inr ⟨⟨u, this, z3⟩, z1⟩) e2
          · split
            · rename_i e3 e4
              rcases e4 with ⟨y1, y2⟩ | ⟨⟨u', y1, y2⟩, y3⟩
              · exact absurd (z1.trans y2) e1
              · subst y3
                have g5 := w1 k u' (y1 ▸ hsl) y2
                rw [z2] at g5; cases g5
            · exact z2
    · rw [List.getElem?_set] at g
      split at g
      · rename_i e
        subst e
        cases g
        exact ⟨w, hv, by rw [k3]; simp⟩
      · rename_i e
        have e' : ¬ i = k := fun z => e z.symm
        have g2 := hl i s g
        rw [k3, if_neg e']
        split
        · rename_i e4
          cases s with
          | unset => trivial
          | second =>
            exfalso
            have g2' : A[i]? = some .second := g2
            rcases e4 with ⟨y1, y2⟩ | ⟨⟨u', y1, y2⟩, y3⟩
            · obtain ⟨j0, u0, x1, x2, x3⟩ := w2 k (y1 ▸ hsl)
              have : i = j0 := by omega
              subst this
              rw [x2] at g2'; cases g2'
            · subst y3
              rw [g] at q3
              simp [isSec] at q3
          | val v0 =>
            exfalso
            obtain ⟨w0, x1, x2⟩ := g2
            rcases e4 with ⟨y1, y2⟩ | ⟨⟨u', y1, y2⟩, y3⟩
            · obtain ⟨j0, u0, z1, z2, z3⟩ := w2 k (y1 ▸ hsl)
              have : i = j0 := by omega
              subst this
              have hw0 : w0 = u0 := by rw [x2] at z2; cases z2; rfl
              have hcat : v0.category = 2 := by rw [← x1.cat, hw0]; exact z3
              subst y2
              have : L[i + 1 - 1]? = some (.val v0) := g
              rw [this] at q2
              simp [isC2, hcat] at q2
            · subst y3
              have g5 := w1 k u' (y1 ▸ hsl) y2
              rw [x2] at g5; cases g5
        · exact g2
  · cases hs
end Jvm.Own
namespace Jvm.Own
open Jvm Jvm.ClassFile Sem Op Lib Jvm.Free Jvm.Stand Jvm.LawKit Jvm.RoadKit Bundle
theorem store2_sim {ρ : List Addr} {L : List Slot} {A : Array Slot} (h : LR ρ L A) {k : Nat} {v w : Value} {L' : List Slot} (hs : st2 L k v = some L') (hv : VR ρ v w) (hc : w.category = 2) : ∃ A', storeLocals A k w = some A' ∧ LR ρ L' A' := by
  unfold st2 at hs
  split at hs
  · rename_i q
    cases hs
    simp only [Bool.and_eq_true] at q
    obtain ⟨⟨q1, q2⟩, q3⟩ := q
    obtain ⟨hA, ⟨w1, w2⟩, hl⟩ := h
    have hk1 : k + 1 < L.length := by
      rcases Nat.lt_or_ge (k + 1) L.length with z | z
      · exact z
      · rw [List.getElem?_eq_none z] at q1
        cases h0 : L[k]? with
        | none => rw [h0] at q1; cases q1
        | some s0 => rw [h0] at q1; cases s0 <;> cases q1
    have hk : k < L.length := by omega
    have hkA : k < A.size := hA ▸ hk
    have hkA1 : k + 1 < A.size := hA ▸ hk1
    obtain ⟨sl, hsl⟩ : ∃ sl, A[k]? = some sl := ⟨A[k], Array.getElem?_eq_getElem hkA⟩
    obtain ⟨sm, hsm⟩ : ∃ sm, A[k + 1]? = some sm := ⟨A[k + 1], Array.getElem?_eq_getElem hkA1⟩
    have n1 : ¬ k = k + 1 := by omega
    have n2 : ¬ k + 2 = k + 1 := by omega
    have n3 : ¬ k + 2 = k := by omega
    classical
    have key : ∃ A', storeLocals A k w = some A' ∧ A'.size = A.size ∧ (∀ j, A'[j]? = if j = k then some (.val w) else if j = k + 1 then some .second else if (sl = .second ∧ j + 1 = k) ∨ ((∃ u, sm = .val u ∧ u.category = 2) ∧ j = k + 2) then some .unset else A[j]?) := by
      by_cases hm : ∃ u, sm = .val u ∧ u.category = 2
      · obtain ⟨u, rfl, hu⟩ := hm
        have g := w1 (k + 1) u hsm hu
        have hk2 : k + 2 < A.size := (Array.getElem?_eq_some_iff.mp g).1
        cases sl with
        | unset =>
          refine ⟨((A.setIfInBounds k (.val w)).setIfInBounds (k + 2) .unset).setIfInBounds (k + 1) .second, ?_, by simp, fun j => ?_⟩
          · rw [sl_unset hsl]; exact ss_2c hkA hkA1 hk2 hc (by rw [get_set, if_neg n1]; exact hsm) hu
          · rw [get_set, get_set, get_set]
            by_cases e0 : j = k
            · subst e0; simp [hkA]
            · by_cases e1 : j = k + 1
              · subst e1; simp [hkA1]
              · by_cases e2 : j = k + 2
                · subst e2; simp [hk2, hu]
                · have e0' : ¬ k = j := fun z => e0 z.symm
                  have e1' : ¬ k + 1 = j := fun z => e1 z.symm
                  have e2' : ¬ k + 2 = j := fun z => e2 z.symm
                  simp [e0, e1, e2, e0', e1', e2']
        | second =>
          obtain ⟨j0, u0, rfl, g1, g2⟩ := w2 k hsl
          have hj0 : j0 < A.size := by omega
          refine ⟨(((A.setIfInBounds j0 .unset).setIfInBounds (j0 + 1) (.val w)).setIfInBounds (j0 + 1 + 2) .unset).setIfInBounds (j0 + 1 + 1) .second, ?_, by simp, fun j => ?_⟩
          · have m1 : ¬ j0 + 1 = j0 + 1 + 1 := by omega
            have m2 : ¬ j0 = j0 + 1 + 1 := by omega
            rw [sl_second hsl (show j0 + 1 - 1 < A.size by omega)]
            exact ss_2c (by simpa using hkA) (by simpa using hkA1) (by simpa using hk2) hc (by rw [get_set, if_neg m1, get_set, if_neg (by omega)]; exact hsm) hu
          · rw [get_set, get_set, get_set, get_set]
            by_cases e0 : j = j0 + 1
            · subst e0; simp [hkA]
            · by_cases e1 : j = j0 + 1 + 1
              · subst e1; simp [hkA1]
              · by_cases e2 : j = j0 + 1 + 2
                · subst e2; simp [hk2, hu]
                · by_cases e3 : j = j0
                  · subst e3
                    rw [if_neg (by omega), if_neg (by omega), if_neg (by omega), if_pos rfl, if_pos hj0, if_neg (by omega), if_neg (by omega), if_pos (Or.inl ⟨rfl, rfl⟩)]
                  · have e0' : ¬ j0 + 1 = j := fun z => e0 z.symm
                    have e1' : ¬ j0 + 1 + 1 = j := fun z => e1 z.symm
                    have e2' : ¬ j0 + 1 + 2 = j := fun z => e2 z.symm
                    have e3' : ¬ j0 = j := fun z => e3 z.symm
                    simp [e0, e1, e2, e3, e0', e1', e2', e3']
        | val u1 =>
          have hu1 : ¬ u1.category = 2 := fun z => by have := w1 k u1 hsl z; rw [hsm] at this; cases this
          refine ⟨((A.setIfInBounds k (.val w)).setIfInBounds (k + 2) .unset).setIfInBounds (k + 1) .second, ?_, by simp, fun j => ?_⟩
          · rw [sl_val1 hsl hu1]; exact ss_2c hkA hkA1 hk2 hc (by rw [get_set, if_neg n1]; exact hsm) hu
          · rw [get_set, get_set, get_set]
            by_cases e0 : j = k
            · subst e0; simp [hkA]
            · by_cases e1 : j = k + 1
              · subst e1; simp [hkA1]
              · by_cases e2 : j = k + 2
                · subst e2; simp [hk2, hu]
                · have e0' : ¬ k = j := fun z => e0 z.symm
                  have e1' : ¬ k + 1 = j := fun z => e1 z.symm
                  have e2' : ¬ k + 2 = j := fun z => e2 z.symm
                  simp [e0, e1, e2, e0', e1', e2']
      · cases sl with
        | unset =>
          refine ⟨(A.setIfInBounds k (.val w)).setIfInBounds (k + 1) .second, ?_, by simp, fun j => ?_⟩
          · rw [sl_unset hsl]; exact ss_2 hkA hkA1 hc (by rw [get_set, if_neg n1]; exact hsm) hm
          · rw [get_set, get_set]
            by_cases e0 : j = k
            · subst e0; simp [hkA]
            · by_cases e1 : j = k + 1
              · subst e1; simp [hkA1]
              · have e0' : ¬ k = j := fun z => e0 z.symm
                have e1' : ¬ k + 1 = j := fun z => e1 z.symm
                simp [e0, e1, e0', e1', hm]
        | second =>
          obtain ⟨j0, u0, rfl, g1, g2⟩ := w2 k hsl
          have hj0 : j0 < A.size := by omega
          have m1 : ¬ j0 + 1 = j0 + 1 + 1 := by omega
          have m2 : ¬ j0 = j0 + 1 + 1 := by omega
          refine ⟨((A.setIfInBounds j0 .unset).setIfInBounds (j0 + 1) (.val w)).setIfInBounds (j0 + 1 + 1) .second, ?_, by simp, fun j => ?_⟩
          · rw [sl_second hsl (show j0 + 1 - 1 < A.size by omega)]
            exact ss_2 (by simpa using hkA) (by simpa using hkA1) hc (by rw [get_set, if_neg m1, get_set, if_neg (by omega)]; exact hsm) hm
          · rw [get_set, get_set, get_set]
            by_cases e0 : j = j0 + 1
            · subst e0; simp [hkA]
            · by_cases e1 : j = j0 + 1 + 1
              · subst e1; simp [hkA1]
              · by_cases e3 : j = j0
                · subst e3
                  rw [if_neg (by omega), if_neg (by omega), if_pos rfl, if_pos hj0, if_neg (by omega), if_neg (by omega), if_pos (Or.inl ⟨rfl, rfl⟩)]
                · have e0' : ¬ j0 + 1 = j := fun z => e0 z.symm
                  have e1' : ¬ j0 + 1 + 1 = j := fun z => e1 z.symm
                  have e3' : ¬ j0 = j := fun z => e3 z.symm
                  simp [e0, e1, e3, e0', e1', e3', hm]
        | val u1 =>
          by_cases hu1 : u1.category = 2
          · refine ⟨((A.setIfInBounds (k + 1) .unset).setIfInBounds k (.val w)).setIfInBounds (k + 1) .second, ?_, by simp, fun j => ?_⟩
            · rw [sl_val2 hsl hu1 hkA1]
              exact ss_2 (o := .unset) (by simpa using hkA) (by simpa using hkA1) hc (by rw [get_set, if_neg n1, get_set, if_pos rfl, if_pos hkA1]) (by rintro ⟨u, z, -⟩; cases z)
            · rw [get_set, get_set, get_set]
              by_cases e0 : j = k
              · subst e0; simp [hkA]
              · by_cases e1 : j = k + 1
                · subst e1; simp [hkA1]
                · have e0' : ¬ k = j := fun z => e0 z.symm
                  have e1' : ¬ k + 1 = j := fun z => e1 z.symm
                  simp [e0, e1, e0', e1', hm]
          · refine ⟨(A.setIfInBounds k (.val w)).setIfInBounds (k + 1) .second, ?_, by simp, fun j => ?_⟩
            · rw [sl_val1 hsl hu1]; exact ss_2 hkA hkA1 hc (by rw [get_set, if_neg n1]; exact hsm) hm
            · rw [get_set, get_set]
              by_cases e0 : j = k
              · subst e0; simp [hkA]
              · by_cases e1 : j = k + 1
                · subst e1; simp [hkA1]
                · have e0' : ¬ k = j := fun z => e0 z.symm
                  have e1' : ¬ k + 1 = j := fun z => e1 z.symm
                  simp [e0, e1, e0', e1', hm]
    obtain ⟨A', k1, k2, k3⟩ := key
    refine ⟨A', k1, by rw [k2, hA]; simp, ⟨fun i u g1 g2 => ?_, fun i g1 => ?_⟩, fun i s g => ?_⟩
    · by_cases e1 : i = k
      · subst e1; rw [k3]; simp
      · have g1' := g1
        rw [k3, if_neg e1] at g1'
        split at g1'
        · cases g1'
        · rename_i e2
          split at g1'
          · cases g1'
          · rename_i e4
            have g3 := w1 i u g1' g2
            rw [k3]
            have c1 : ¬ i + 1 = k := fun e3 => by
              have : sl = .second := by rw [← e3] at hsl; exact Option.some.inj (hsl.symm.trans g3)
              exact e4 (Or.inl ⟨this, e3⟩)
            have c2 : ¬ i + 1 = k + 1 := by omega
            have c3 : ¬ ((sl = .second ∧ i + 1 + 1 = k) ∨ ((∃ u, sm = .val u ∧ u.category = 2) ∧ i + 1 = k + 2)) := fun z => by
              rcases z with ⟨z1, z2⟩ | ⟨z1, z2⟩
              · subst z2
                rw [z1] at hsl
                obtain ⟨j0, u0, y1, y2, y3⟩ := w2 _ hsl
                have : j0 = i + 1 := by omega
                subst this
                rw [g3] at y2; cases y2
              · omega
            rw [if_neg c1, if_neg c2, if_neg c3]
            exact g3
    · rw [k3] at g1
      split at g1
      · cases g1
      · rename_i e1
        split at g1
        · rename_i e2
          exact ⟨k, w, e2, by rw [k3]; simp, hc⟩
        · rename_i e2
          split at g1
          · cases g1
          · rename_i e4
            obtain ⟨j, u, z1, z2, z3⟩ := w2 i g1
            refine ⟨j, u, z1, ?_, z3⟩
            rw [k3]
            have c1 : ¬ j = k := by omega
            have c2 : ¬ j = k + 1 := fun e => by
              subst e
              exact e4 (Or.inr ⟨⟨u, Option.some.inj (hsm.symm.trans z2), z3⟩, by omega⟩)
            have c3 : ¬ ((sl = .second ∧ j + 1 = k) ∨ ((∃ u, sm = .val u ∧ u.category = 2) ∧ j = k + 2)) := fun z => by
              rcases z with ⟨y1, y2⟩ | ⟨⟨u', y1, y2⟩, y3⟩
              · exact e1 (z1.trans y2)
              · subst y3
                have g5 := w1 (k + 1) u' (y1 ▸ hsm) y2
                rw [z2] at g5; cases g5
            rw [if_neg c1, if_neg c2, if_neg c3]
            exact z2
    · rw [List.getElem?_set] at g
      split at g
      · rename_i e
        subst e
        have : k + 1 < (L.set k (.val v)).length := by simp [hk1]
        rw [if_pos this] at g
        cases g
        show A'[k + 1]? = some .second
        rw [k3]; simp
      · rename_i e
        have e' : ¬ i = k + 1 := fun z => e z.symm
        rw [List.getElem?_set] at g
        split at g
        · rename_i e0
          subst e0
          cases g
          exact ⟨w, hv, by rw [k3]; simp⟩
        · rename_i e0
          have e0' : ¬ i = k := fun z => e0 z.symm
          have g2 := hl i s g
          rw [k3, if_neg e0', if_neg e']
          split
          · rename_i e4
            cases s with
            | unset => trivial
            | second =>
              exfalso
              have g2' : A[i]? = some .second := g2
              rcases e4 with ⟨y1, y2⟩ | ⟨⟨u', y1, y2⟩, y3⟩
              · obtain ⟨j0, u0, x1, x2, x3⟩ := w2 k (y1 ▸ hsl)
                have : i = j0 := by omega
                subst this
                rw [x2] at g2'; cases g2'
              · subst y3
                rw [g] at q3
                simp [isSec] at q3
            | val v0 =>
              exfalso
              obtain ⟨w0, x1, x2⟩ := g2
              rcases e4 with ⟨y1, y2⟩ | ⟨⟨u', y1, y2⟩, y3⟩
              · obtain ⟨j0, u0, z1, z2, z3⟩ := w2 k (y1 ▸ hsl)
                have : i = j0 := by omega
                subst this
                have hw0 : w0 = u0 := by rw [x2] at z2; cases z2; rfl
                have hcat : v0.category = 2 := by rw [← x1.cat, hw0]; exact z3
                subst y2
                have : L[i + 1 - 1]? = some (.val v0) := g
                rw [this] at q2
                simp [isC2, hcat] at q2
              · subst y3
                have g5 := w1 (k + 1) u' (y1 ▸ hsm) y2
                rw [x2] at g5; cases g5
          · exact g2
  · cases hs
/-! The frame with which a method is entered -/
theorem entA_app (ws : List Value) : ∀ acc : Array Slot, ws.foldl (fun acc v => if v.category = 2 then (acc.push (.val v)).push .second else acc.push (.val v)) acc = acc ++ (entA ws).toArray := by
  induction ws with
  | nil => intro acc; simp [entA]
  | cons v r ih =>
    intro acc
    rw [List.foldl_cons, ih]
    show _ = acc ++ (if v.category = 2 then .val v :: .second :: entA r else .val v :: entA r).toArray
    by_cases h : v.category = 2
    · rw [if_pos h, if_pos h]; simp
    · rw [if_neg h, if_neg h]; simp
theorem argsToLocals_eq (ws : List Value) (n : Nat) : argsToLocals ws.toArray n = (entL ws n).toArray := by
  unfold argsToLocals entL
  have h := entA_app ws #[]
  simp only [List.foldl_toArray', List.size_toArray] at *
  simp [h]
theorem entA_len {ρ : List Addr} : ∀ {v w : List Value}, SR ρ v w → (entA w).length = (entA v).length
  | [], _, h => by cases h; rfl
  | _ :: _, _, ⟨w, ws, h1, h2, h3⟩ => by
    subst h1
    unfold entA
    rw [h2.cat]
    split <;> simp [entA_len h3]
theorem entA_rel {ρ : List Addr} : ∀ {v w : List Value}, SR ρ v w → ∀ (m i : Nat) (s : Slot), (entA v ++ List.replicate m .unset)[i]? = some s → SlR ρ s (entA w ++ List.replicate m .unset)[i]?
  | [], _, h, m, i, s, q => by
    cases h
    simp only [entA, List.nil_append] at q ⊢
    rw [List.getElem?_replicate] at q
    split at q
    · cases q; trivial
    · cases q
  | v :: vs, _, ⟨w, ws, h1, h2, h3⟩, m, i, s, q => by
    subst h1
    unfold entA at q ⊢
    rw [h2.cat]
    split
    · rename_i c
      rw [if_pos c] at q
      match i, q with
      | 0, q => simp at q; subst q; exact ⟨w, h2, by simp⟩
      | 1, q => simp at q; subst q; simp [SlR]
      | i + 2, q => simp at q ⊢; exact entA_rel h3 m i s q
    · rename_i c
      rw [if_neg c] at q
      match i, q with
      | 0, q => simp at q; subst q; exact ⟨w, h2, by simp⟩
      | i + 1, q => simp at q ⊢; exact entA_rel h3 m i s q
theorem entA_wf : ∀ (ws : List Value) (m : Nat), (∀ (i : Nat) w, (entA ws ++ List.replicate m .unset)[i]? = some (.val w) → w.category = 2 → (entA ws ++ List.replicate m .unset)[i + 1]? = some .second) ∧
    ∀ (i : Nat), (entA ws ++ List.replicate m .unset)[i]? = some .second → ∃ j w, i = j + 1 ∧ (entA ws ++ List.replicate m .unset)[j]? = some (.val w) ∧ w.category = 2
  | [], m => by
    constructor
    · intro i w q
      simp only [entA, List.nil_append, List.getElem?_replicate] at q
      split at q <;> cases q
    · intro i q
      simp only [entA, List.nil_append, List.getElem?_replicate] at q
      split at q <;> cases q
  | v :: vs, m => by
    obtain ⟨h1, h2⟩ := entA_wf vs m
    unfold entA
    split
    · rename_i c
      constructor
      · intro i w q
        match i, q with
        | 0, q => intro _; simp
        | 1, q => simp at q
        | i + 2, q => simp at q ⊢; exact h1 i w q
      · intro i q
        match i, q with
        | 0, q => simp at q
        | 1, q => exact ⟨0, v, rfl, by simp, c⟩
        | i + 2, q =>
          simp at q
          obtain ⟨j, w, e, g1, g2⟩ := h2 i q
          exact ⟨j + 2, w, by omega, by simpa using g1, g2⟩
    · rename_i c
      constructor
      · intro i w q
        match i, q with
        | 0, q => intro z; simp at q; subst q; exact absurd z c
        | i + 1, q => simp at q ⊢; exact h1 i w q
      · intro i q
        match i, q with
        | 0, q => simp at q
        | i + 1, q =>
          simp at q
          obtain ⟨j, w, e, g1, g2⟩ := h2 i q
          exact ⟨j + 1, w, by omega, by simpa using g1, g2⟩
theorem LR.enter {ρ : List Addr} {v w : List Value} (h : SR ρ v w) {n : Nat} (hn : (entA v).length ≤ n) : LR ρ (entL v n) (argsToLocals w.toArray n) ∧ (argsToLocals w.toArray n).size = n := by
  rw [argsToLocals_eq]
  have hl := entA_len h
  refine ⟨⟨by simp [entL, hl], ?_, fun i s q => ?_⟩, by simp [entL, hl]; omega⟩
  · obtain ⟨h1, h2⟩ := entA_wf w (n - (entA w).length)
    exact ⟨fun i u q c => by simpa [entL] using h1 i u (by simpa [entL] using q) c, fun i q => by
      obtain ⟨j, u, e, g1, g2⟩ := h2 i (by simpa [entL] using q)
      exact ⟨j, u, e, by simpa [entL] using g1, g2⟩⟩
  · unfold entL at q ⊢
    rw [hl]
    simpa using entA_rel h _ i s q
end Jvm.Own
namespace Jvm.RoadKit
open Sem ClassFile Op Lib Jvm.Stand Jvm.Free Jvm.LawKit
section New
variable {p : Program} {l : Launch} {e : Env} {R : Room} {s : State} {m : MethodId} {args : Array Value} {below : List Frame} {meth : Method} {c : Code} {T : State} {locs : List Loc} {cells slots : Nat}
theorem retI (X : Stand p l e R s m args below meth c T locs cells slots) (hx : p.tables.exec = Jvm.exec) {pc : Nat} {Ls : Array Slot} {z : Int32} {rest : List Value} (hret : meth.sig.returnType = some .int) (hd : decode c.code pc = .ok (.ireturn, 1)) {fs : List Frame}
    (hl : ∀ (f : JFrame) (acts : List Action), f.method = m → f.locked = none → f.entered = [] → (doReturn e (T.setTop f) acts (some (.int z))).1 = T.setFrames fs) : Steps p.tables e below (T.setTop (mkF m pc Ls (.int z :: rest))) (T.setFrames fs) := by
  have hm' : T.vm.method? m = some meth := X.method'
  have hn : narrow .int (.int z) = .int z := rfl
  show Steps p.tables e below (T.setTop { method := m, pc := pc, locals := Ls, stack := _ :: rest, locked := none }) _
  jvm_step X.here [X.here.top, hx, hd, hm', hret, hn]
  first | (intro acts; rw [hl _ acts rfl rfl rfl]) | rw [hl _ _ rfl rfl rfl]
  exact Steps.refl _
end New
end Jvm.RoadKit
namespace Jvm.Own
open Jvm Jvm.ClassFile Sem Op Lib Jvm.Free Jvm.Stand Jvm.LawKit Jvm.RoadKit Bundle
/-! The plain heap and the real one -/
def tyA (b : Bool) : FieldType := if b then .boolean else .int
def CR (P : PD) (Z : State) (h : Heap) (ρ : List Addr) (a : Addr) : ACell → Prop
  | .inl (c, fs) => ∃ cd, P.cls[c]? = some cd ∧ Exa Z h a cd.1 ∧ fs.length = cd.2.2.length ∧ ∀ (i : Nat) v fd, fs[i]? = some v → cd.2.2[i]? = some fd → ∃ w, VR ρ v w ∧ Fld Z h a cd.1 fd.1 fd.2.1 w
  | .inr (.inl (b, L)) => ∃ cl, Arr Z h a cl (tyA b) ∧ cl.slots.size = L.length ∧ L.length < 2 ^ 31 ∧ ∀ (i : Nat) x, L[i]? = some x → cl.slots[i]? = some (.int x)
  | .inr (.inr L) => ∃ cl, Arr Z h a cl .long ∧ cl.slots.size = L.length ∧ L.length < 2 ^ 31 ∧ ∀ (i : Nat) x, L[i]? = some x → cl.slots[i]? = some (.long x)
def HR (P : PD) (Z : State) (n0 : Nat) (h : Heap) (ρ : List Addr) (H : AHeap) : Prop :=
  n0 ≤ h.size ∧ ρ.length = H.length ∧ (∀ (i j : Nat) a, ρ[i]? = some a → ρ[j]? = some a → i = j) ∧ (∀ (k : Nat) a, ρ[k]? = some a → P.nr ≤ k → n0 ≤ a) ∧ ∀ (k : Nat) a c, ρ[k]? = some a → H[k]? = some c → CR P Z h ρ a c
section Heaps
variable {P : PD} {Z : State} {n0 : Nat} {h h' : Heap} {ρ : List Addr} {H : AHeap} {a : Addr} {k : Nat} {a0 : Array Value}
theorem CR.lt {c : ACell} (q : CR P Z h ρ a c) : a < h.size := by
  match c, q with
  | .inl (_, _), q => obtain ⟨cd, -, E, -⟩ := q; exact E.lt
  | .inr (.inl (_, _)), q => obtain ⟨cl, A, -⟩ := q; exact A.lt
  | .inr (.inr _), q => obtain ⟨cl, A, -⟩ := q; exact A.lt
theorem HR.at (q : HR P Z n0 h ρ H) {c : ACell} (hc : H[k]? = some c) : ∃ a, ρ[k]? = some a ∧ CR P Z h ρ a c := by
  obtain ⟨-, q1, -, -, q4⟩ := q
  have hk : k < ρ.length := by rw [q1]; exact (List.getElem?_eq_some_iff.mp hc).1
  exact ⟨ρ[k], List.getElem?_eq_getElem hk, q4 k _ c (List.getElem?_eq_getElem hk) hc⟩
theorem HR.lt (q : HR P Z n0 h ρ H) (hk : ρ[k]? = some a) : a < h.size := by
  obtain ⟨-, q1, -, -, q4⟩ := q
  have hk' : k < H.length := by rw [← q1]; exact (List.getElem?_eq_some_iff.mp hk).1
  exact (q4 k a _ hk (List.getElem?_eq_getElem hk')).lt
theorem CR.grow {t : List Addr} {c : ACell} (E : Ext h h') (q : CR P Z h ρ a c) : CR P Z h' (ρ ++ t) a c := by
  match c, q with
  | .inl (_, _), ⟨cd, q1, q2, q3, q4⟩ => exact ⟨cd, q1, q2.ext E, q3, fun i v fd g1 g2 => by obtain ⟨w, z1, z2⟩ := q4 i v fd g1 g2; exact ⟨w, z1.mono, z2.ext E⟩⟩
  | .inr (.inl (_, _)), ⟨cl, q1, q2⟩ => exact ⟨cl, q1.ext E, q2⟩
  | .inr (.inr _), ⟨cl, q1, q2⟩ => exact ⟨cl, q1.ext E, q2⟩
theorem HR.push {c : ACell} (q : HR P Z n0 h ρ H) (E : Ext h h') (hc : CR P Z h' (ρ ++ [h.size]) h.size c) : HR P Z n0 h' (ρ ++ [h.size]) (H ++ [c]) := by
  have q0 := q
  obtain ⟨q1, q2, q3, q4, q5⟩ := q
  have old : ∀ (i : Nat) b, (ρ ++ [h.size])[i]? = some b → (ρ[i]? = some b ∧ b < h.size) ∨ (i = ρ.length ∧ b = h.size) := fun i b g => by
    rw [List.getElem?_append] at g
    split at g
    · exact Or.inl ⟨g, q0.lt g⟩
    · rename_i z
      right
      have : i - ρ.length = 0 := by
        rcases Nat.eq_zero_or_pos (i - ρ.length) with y | y
        · exact y
        · rw [List.getElem?_eq_none (by simp; omega)] at g; cases g
      rw [this] at g
      simp at g
      exact ⟨by omega, g.symm⟩
  refine ⟨Nat.le_trans q1 E.1, by simp [q2], fun i j b g1 g2 => ?_, fun i b g1 g2 => ?_, fun i b c' g1 g2 => ?_⟩
  · rcases old i b g1 with ⟨y1, y2⟩ | ⟨y1, y2⟩ <;> rcases old j b g2 with ⟨z1, z2⟩ | ⟨z1, z2⟩
    · exact q3 i j b y1 z1
    · exact absurd (z2 ▸ y2) (Nat.lt_irrefl _)
    · exact absurd (y2 ▸ z2) (Nat.lt_irrefl _)
    · rw [y1, z1]
  · rcases old i b g1 with ⟨y1, y2⟩ | ⟨y1, y2⟩
    · exact q4 i b y1 g2
    · rw [y2]; exact q1
  · rcases old i b g1 with ⟨y1, y2⟩ | ⟨y1, y2⟩
    · have hi : i < H.length := by rw [← q2]; exact (List.getElem?_eq_some_iff.mp y1).1
      rw [List.getElem?_append_left hi] at g2
      exact (q5 i b c' y1 g2).grow E
    · subst y1 y2
      rw [q2] at g2
      simp at g2
      subst g2
      exact hc
theorem CR.other {v : Value} {sl : Nat} {b : Addr} {c : ACell} (W : Wr h h' a sl v) (ne : b ≠ a) (q : CR P Z h ρ b c) : CR P Z h' ρ b c := by
  match c, q with
  | .inl (_, _), ⟨cd, q1, q2, q3, q4⟩ => exact ⟨cd, q1, q2.wr W, q3, fun i v fd g1 g2 => by obtain ⟨w, z1, z2⟩ := q4 i v fd g1 g2; exact ⟨w, z1, z2.other W (Or.inl ne)⟩⟩
  | .inr (.inl (_, _)), ⟨cl, q1, q2⟩ => exact ⟨cl, q1.other W ne, q2⟩
  | .inr (.inr _), ⟨cl, q1, q2⟩ => exact ⟨cl, q1.other W ne, q2⟩
theorem HR.set {v : Value} {sl : Nat} {c : ACell} (q : HR P Z n0 h ρ H) (hk : ρ[k]? = some a) (W : Wr h h' a sl v) (hc : CR P Z h' ρ a c) : HR P Z n0 h' ρ (H.set k c) := by
  obtain ⟨q1, q2, q3, q4, q5⟩ := q
  refine ⟨by rw [W.size]; exact q1, by simp [q2], q3, q4, fun i b c' g1 g2 => ?_⟩
  rw [List.getElem?_set] at g2
  split at g2
  · rename_i e
    subst e
    split at g2
    · cases g2
      rw [hk] at g1; cases g1
      exact hc
    · cases g2
  · rename_i e
    exact (q5 i b c' g1 g2).other W fun z => e (q3 k i a hk (z ▸ g1))
theorem nodup_ne : ∀ {l : List String}, nodup l = true → ∀ {i j : Nat} {x y : String}, l[i]? = some x → l[j]? = some y → i ≠ j → x ≠ y
  | [], _, i, j, x, y, h1, _, _ => by simp at h1
  | z :: r, hn, i, j, x, y, h1, h2, ne => by
    simp only [nodup, Bool.and_eq_true, Bool.not_eq_true', List.contains_eq_mem, decide_eq_false_iff_not] at hn
    match i, j, h1, h2, ne with
    | 0, 0, _, _, ne => exact absurd rfl ne
    | 0, j + 1, h1, h2, _ => simp at h1 h2; subst h1; exact fun e => hn.1 (e ▸ List.mem_of_getElem? h2)
    | i + 1, 0, h1, h2, _ => simp at h1 h2; subst h2; exact fun e => hn.1 (e ▸ List.mem_of_getElem? h1)
    | i + 1, j + 1, h1, h2, ne => simp at h1 h2; exact nodup_ne hn.2 h1 h2 (fun e => ne (by rw [e]))
theorem laid_of {C : String} {f : FD} (w : (fWord C f).before a0 Z = true) : Laid Z a0 C C f.1 f.2.1 := by
  unfold fWord at w
  split at w
  · exact Or.inr w
  · exact Or.inl w
theorem HR.putF {c j : Nat} {fs : List Value} {cd : CD} {fd : FD} {v w : Value} (q : HR P Z n0 h ρ H) (hk : ρ[k]? = some a) (hc : H[k]? = some (.inl (c, fs))) (hcd : P.cls[c]? = some cd) (hfd : cd.2.2[j]? = some fd)
    (hck : cChk cd = true) (hl : ∀ f ∈ cd.2.2, (fWord cd.1 f).before a0 Z = true) (W : Wr h h' a (RoadKit.slotOf Z cd.1 fd.1 fd.2.1) w) (hv : VR ρ v w) : HR P Z n0 h' ρ (H.set k (.inl (c, fs.set j v))) := by
  obtain ⟨a', ha, cr⟩ := q.at hc
  rw [hk] at ha; cases ha
  obtain ⟨cd', q1, q2, q3, q4⟩ := cr
  rw [hcd] at q1; cases q1
  refine q.set hk W ⟨cd, hcd, q2.wr W, by simp [q3], fun i v0 fd' g1 g2 => ?_⟩
  simp only [cChk, Bool.and_eq_true, List.all_eq_true] at hck
  obtain ⟨n1, n2⟩ := hck
  by_cases e : j = i
  · subst e
    rw [hfd] at g2; cases g2
    rw [List.getElem?_set] at g1
    split at g1
    · split at g1
      · cases g1
        rename_i z
        obtain ⟨w0, -, F⟩ := q4 j _ fd (List.getElem?_eq_getElem z) hfd
        exact ⟨w, hv, F.same W⟩
      · cases g1
    · rename_i z; exact absurd rfl z
  · rw [List.getElem?_set_ne e] at g1
    obtain ⟨w0, z1, F⟩ := q4 i v0 fd' g1 g2
    refine ⟨w0, z1, F.other W (Or.inr ?_)⟩
    have m1 := List.mem_of_getElem? hfd
    have m2 := List.mem_of_getElem? g2
    have f1 := n2 fd m1
    have f2 := n2 fd' m2
    simp only [fChk, Bool.and_eq_true, decide_eq_true_eq] at f1 f2
    refine slot_ne (laid_of (hl fd' m2)) (laid_of (hl fd m1)) ?_ f2.1 f1.1
    exact nodup_ne n1 (i := i) (j := j) (by simp [g2]) (by simp [hfd]) (fun z => e z.symm)
theorem HR.wrI {b : Bool} {L : List Int32} {i : Nat} {x : Int32} (q : HR P Z n0 h ρ H) (hk : ρ[k]? = some a) (hc : H[k]? = some (.inr (.inl (b, L)))) (W : Wr h h' a i (.int x)) : HR P Z n0 h' ρ (H.set k (.inr (.inl (b, L.set i x)))) := by
  obtain ⟨a', ha, cr⟩ := q.at hc
  rw [hk] at ha; cases ha
  obtain ⟨cl, A, q2, q3, q4⟩ := cr
  have lt : i < cl.slots.size := by
    obtain ⟨cl', z1, -, z3, -⟩ := W
    rw [A.1] at z1; cases z1
    exact z3
  refine q.set hk W ⟨_, A.same W, by simp [sz_set, q2], by simpa using q3, fun j y g => ?_⟩
  rw [List.getElem?_set] at g
  split at g
  · rename_i e
    subst e
    split at g
    · cases g; simp [Cell.setSlot, lt]
    · cases g
  · rename_i e
    have := q4 j y g
    simp [Cell.setSlot, Array.getElem?_setIfInBounds, e, this]
theorem HR.wrJ {L : List Int64} {i : Nat} {x : Int64} (q : HR P Z n0 h ρ H) (hk : ρ[k]? = some a) (hc : H[k]? = some (.inr (.inr L))) (W : Wr h h' a i (.long x)) : HR P Z n0 h' ρ (H.set k (.inr (.inr (L.set i x)))) := by
  obtain ⟨a', ha, cr⟩ := q.at hc
  rw [hk] at ha; cases ha
  obtain ⟨cl, A, q2, q3, q4⟩ := cr
  have lt : i < cl.slots.size := by
    obtain ⟨cl', z1, -, z3, -⟩ := W
    rw [A.1] at z1; cases z1
    exact z3
  refine q.set hk W ⟨_, A.same W, by simp [sz_set, q2], by simpa using q3, fun j y g => ?_⟩
  rw [List.getElem?_set] at g
  split at g
  · rename_i e
    subst e
    split at g
    · cases g; simp [Cell.setSlot, lt]
    · cases g
  · rename_i e
    have := q4 j y g
    simp [Cell.setSlot, Array.getElem?_setIfInBounds, e, this]
end Heaps
theorem SR.int {ρ : List Addr} {x : Int32} {S Sc : List Value} (h : SR ρ (.int x :: S) Sc) : ∃ Sc', Sc = .int x :: Sc' ∧ SR ρ S Sc' := by
  obtain ⟨w, ws, h1, h2, h3⟩ := h
  exact ⟨ws, by rw [h1, show w = .int x from h2], h3⟩
theorem SR.long {ρ : List Addr} {x : Int64} {S Sc : List Value} (h : SR ρ (.long x :: S) Sc) : ∃ Sc', Sc = .long x :: Sc' ∧ SR ρ S Sc' := by
  obtain ⟨w, ws, h1, h2, h3⟩ := h
  exact ⟨ws, by rw [h1, show w = .long x from h2], h3⟩
theorem SR.ref {ρ : List Addr} {x : Nat} {S Sc : List Value} (h : SR ρ (.ref x :: S) Sc) : ∃ a Sc', ρ[x]? = some a ∧ Sc = .ref a :: Sc' ∧ SR ρ S Sc' := by
  obtain ⟨w, ws, h1, ⟨a, h2, h4⟩, h3⟩ := h
  exact ⟨a, ws, h2, by rw [h1, h4], h3⟩
theorem rdA_spec {α : Type} {L : List α} {j : Int32} {x : α} (h : rdA L j = some x) : ¬ j < 0 ∧ L[j.toNatClampNeg]? = some x := by
  unfold rdA at h
  split at h
  · cases h
  · rename_i q; exact ⟨q, h⟩
theorem wrA_spec {α : Type} {L L' : List α} {j : Int32} {x : α} (h : wrA L j x = some L') : ¬ j < 0 ∧ j.toNatClampNeg < L.length ∧ L' = L.set j.toNatClampNeg x := by
  unfold wrA at h
  split at h
  · cases h
  · rename_i q
    split at h
    · rename_i z; cases h; exact ⟨q, z, rfl⟩
    · cases h
end Jvm.Own
namespace Jvm.Own
open Jvm Jvm.ClassFile Sem Op Lib Jvm.Free Jvm.Stand Jvm.LawKit Jvm.RoadKit Bundle
theorem st1_len {L L' : List Slot} {k : Nat} {v : Value} (h : st1 L k v = some L') : L'.length = L.length := by
  unfold st1 at h
  split at h
  · cases h; simp
  · cases h
theorem st2_len {L L' : List Slot} {k : Nat} {v : Value} (h : st2 L k v = some L') : L'.length = L.length := by
  unfold st2 at h
  split at h
  · cases h; simp
  · cases h
theorem lrem_mod (x y : Int64) : x - (x / y) * y = x % y := by
  apply Int64.toInt_inj.mp
  have h1 := Int64.le_toInt (x % y)
  have h2 := Int64.toInt_lt (x % y)
  rw [Int64.toInt_sub, Int64.toInt_mul, Int64.toInt_div, Int.bmod_mul_bmod, Int.sub_bmod_bmod, Int.mul_comm (x.toInt.tdiv y.toInt), ← Int.tmod_def, ← Int64.toInt_mod]
  exact Int.bmod_eq_of_le_mul_two (by omega) (by omega)
theorem putOk_sim {ρ : List Addr} {ty : FieldType} {v w : Value} (h : putOk ty v = true) (hv : VR ρ v w) : narrow ty w = w ∧ fits ty w = true := by
  cases ty <;> cases v <;> first | (simp [putOk] at h; done) | skip
  · cases hv; exact ⟨rfl, rfl⟩
  · cases hv; exact ⟨rfl, rfl⟩
  · rename_i x
    cases hv
    simp only [putOk, Bool.or_eq_true, beq_iff_eq] at h
    rcases h with rfl | rfl
    · exact ⟨rfl, rfl⟩
    · exact ⟨rfl, rfl⟩
  · obtain ⟨a, -, rfl⟩ := hv; exact ⟨rfl, rfl⟩
theorem dflt_sim {ρ : List Addr} {ty : FieldType} (h : dfOk ty = true) : VR ρ (dflt ty) (defaultValue ty) := by
  cases ty <;> first | (simp [dfOk] at h; done) | exact rfl
theorem fieldOf_spec {P : PD} {c a : Nat} {cd : CD} {f : FD} (h1 : P.cls[c]? = some cd) (h2 : cd.2.2[a]? = some f) : fieldOf P c a = some f := by simp [fieldOf, h1, h2]
theorem in_wordsOf {P : PD} {d : MD} {x : Nat × It} {w : Jvm.Cond} (hd : d ∈ P.mth) (hx : x ∈ d.code) (hw : w ∈ iWords P d x) : w ∈ wordsOf P :=
  List.mem_append_right _ (List.mem_flatMap.mpr ⟨d, hd, List.mem_flatMap.mpr ⟨x, hx, hw⟩⟩)
theorem in_wordsC {P : PD} {cd : CD} {w : Jvm.Cond} (hd : cd ∈ P.cls) (hw : w ∈ cWords cd) : w ∈ wordsOf P :=
  List.mem_append_left _ (List.mem_append_left _ (List.mem_flatMap.mpr ⟨cd, hd, hw⟩))
theorem in_wordsM {P : PD} {y : MD} {j : Nat} {w : Jvm.Cond} (hd : P.mth[j]? = some y) (hj : 0 < j) (hw : w ∈ mWords y) : w ∈ wordsOf P := by
  refine List.mem_append_left _ (List.mem_append_right _ (List.mem_flatMap.mpr ⟨y, ?_, hw⟩))
  have : (P.mth.drop 1)[j - 1]? = some y := by rw [List.getElem?_drop]; rw [show 1 + (j - 1) = j by omega]; exact hd
  exact List.mem_of_getElem? this
theorem fWord_in {cd : CD} {f : FD} (h : f ∈ cd.2.2) : fWord cd.1 f ∈ cWords cd := List.mem_cons_of_mem _ (List.mem_cons_of_mem _ (List.mem_map.mpr ⟨f, h, rfl⟩))
theorem cChk_of {P : PD} (hP : chk P = true) {cd : CD} (h : cd ∈ P.cls) : cChk cd = true := by
  simp only [chk, Bool.and_eq_true, List.all_eq_true] at hP
  exact hP.1 cd h
theorem mChk_of {P : PD} (hP : chk P = true) {d : MD} (h : d ∈ P.mth) : mChk P d = true := by
  simp only [chk, Bool.and_eq_true, List.all_eq_true] at hP
  exact hP.2 d h
theorem cid_of {P : PD} (hP : chk P = true) {d : MD} (h : d ∈ P.mth) {cd : CD} (hc : P.cls[d.cid]? = some cd) : cd.1 = d.name.cls := by
  have := mChk_of hP h
  simp only [mChk, Bool.and_eq_true] at this
  have h4 := this.1.1.1.2
  unfold clsChk at h4
  rw [hc] at h4
  simpa using h4
section Step
variable {P : PD} {Z : State} {n0 : Nat} {a0 : Array Value} {l : Launch} {p : Program} {e : Env} {R : Room} {s : State} {m : MethodId} {args : Array Value} {below : List Frame} {meth : Method} {c : Code} {T : State} {locs : List Loc} {cells slots : Nat} {d : MD}
def Nxt (P : PD) (Z : State) (n0 : Nat) (l : Launch) (p : Program) (e : Env) (R : Room) (s : State) (m : MethodId) (args : Array Value) (below : List Frame) (meth : Method) (c : Code) (T : State) (cells slots : Nat) (ρ : List Addr) (g : JFrame) (pc' : Nat) (L L' : List Slot) (S' : List Value) (H1 : AHeap) : Prop :=
  ∃ T' locs' A' Sc', Stand p l e R s m args below meth c T' locs' cells slots ∧ L'.length = L.length ∧ LR ρ L' A' ∧ SR ρ S' Sc' ∧ HR P Z n0 T'.heap ρ H1 ∧ Fr n0 locs' ∧
    ∀ target, Steps p.tables e below (T'.setTop (mkF m pc' A' Sc')) target → Steps p.tables e below (T.setTop g) target
theorem Nxt.pure {ρ : List Addr} {H : AHeap} {g : JFrame} {pc' : Nat} {L L' : List Slot} {S' Sc' : List Value} {A' : Array Slot} (X : Stand p l e R s m args below meth c T locs cells slots) (hl : L'.length = L.length) (hL : LR ρ L' A') (hS : SR ρ S' Sc') (hH : HR P Z n0 T.heap ρ H) (hF : Fr n0 locs)
    (k : ∀ target, Steps p.tables e below (T.setTop (mkF m pc' A' Sc')) target → Steps p.tables e below (T.setTop g) target) : Nxt P Z n0 l p e R s m args below meth c T cells slots ρ g pc' L L' S' H :=
  ⟨T, locs, A', Sc', X, hl, hL, hS, hH, hF, k⟩
theorem Nxt.mem {ρ : List Addr} {H1 : AHeap} {g : JFrame} {pc' : Nat} {L L' : List Slot} {S' Sc' : List Value} {A' : Array Slot} {T' : State} {locs' : List Loc} (X : Stand p l e R s m args below meth c T' locs' cells slots) (hl : L'.length = L.length) (hL : LR ρ L' A') (hS : SR ρ S' Sc') (hH : HR P Z n0 T'.heap ρ H1) (hF : Fr n0 locs')
    (k : ∀ target, Steps p.tables e below (T'.setTop (mkF m pc' A' Sc')) target → Steps p.tables e below (T.setTop g) target) : Nxt P Z n0 l p e R s m args below meth c T cells slots ρ g pc' L L' S' H1 :=
  ⟨T', locs', A', Sc', X, hl, hL, hS, hH, hF, k⟩
set_option maxHeartbeats 4000000 in
theorem stepX (X : Stand p l e R s m args below meth c T locs cells slots) (hx : p.tables.exec = Jvm.exec) (hZ : Z.Warmed39 s.vm) (hown : s.vm.findClass d.name.cls = some m.cls) (hnm : meth.name = d.name.name) (hP : chk P = true) (hW : ∀ w ∈ wordsOf P, w.before a0 Z = true) (hdm : d ∈ P.mth)
    {pc len a : Nat} {er : List Bool} {b : Int} {i : Instr} (hit : (pc, i, len, er, a, b) ∈ d.code) (hd : decode c.code pc = .ok (i, len)) (hlen : lenOk i len = true) {ρ : List Addr} {L L' : List Slot} {S S' Sc : List Value} {H H1 : AHeap} {A : Array Slot}
    (hL : LR ρ L A) (hS : SR ρ S Sc) (hH : HR P Z n0 T.heap ρ H) (hF : Fr n0 locs) (h : xI P (d.name.name == "<init>") d.cid i a b L S H = some (L', S', H1)) :
    Nxt P Z n0 l p e R s m args below meth c T cells slots ρ (mkF m pc A Sc) (pc + len) L L' S' H1 := by
  have hWi : ∀ w ∈ iWords P d (pc, i, len, er, a, b), w.before a0 Z = true := fun w q => hW w (in_wordsOf hdm hit q)
  cases i with
  | aload_n k =>
    obtain rfl : len = 1 := by simpa [lenOk] using hlen
    simp only [xI] at h
    split at h
    · rename_i x q
      cases h
      obtain ⟨w, hv, hg⟩ := hL.get q
      obtain ⟨ad, h1, rfl⟩ := hv
      exact Nxt.pure X rfl hL ⟨_, _, rfl, ⟨ad, h1, rfl⟩, hS⟩ hH hF (fun t z => XS.aloadN (g := mkF m pc A Sc) X.here hx rfl hd hg rfl z)
    · cases h
  | aload k =>
    obtain rfl : len = 2 := by simpa [lenOk] using hlen
    simp only [xI] at h
    split at h
    · rename_i x q
      cases h
      obtain ⟨w, hv, hg⟩ := hL.get q
      obtain ⟨ad, h1, rfl⟩ := hv
      exact Nxt.pure X rfl hL ⟨_, _, rfl, ⟨ad, h1, rfl⟩, hS⟩ hH hF (fun t z => XS.aload (g := mkF m pc A Sc) X.here hx rfl hd hg rfl z)
    · cases h
  | iload_n k =>
    obtain rfl : len = 1 := by simpa [lenOk] using hlen
    simp only [xI] at h
    split at h
    · rename_i x q
      cases h
      obtain ⟨w, hv, hg⟩ := hL.get q
      obtain rfl : w = .int _ := hv
      exact Nxt.pure X rfl hL ⟨_, _, rfl, rfl, hS⟩ hH hF (fun t z => XS.iloadN (g := mkF m pc A Sc) X.here hx rfl hd hg z)
    · cases h
  | iload k =>
    obtain rfl : len = 2 := by simpa [lenOk] using hlen
    simp only [xI] at h
    split at h
    · rename_i x q
      cases h
      obtain ⟨w, hv, hg⟩ := hL.get q
      obtain rfl : w = .int _ := hv
      exact Nxt.pure X rfl hL ⟨_, _, rfl, rfl, hS⟩ hH hF (fun t z => XS.iload (g := mkF m pc A Sc) X.here hx rfl hd hg z)
    · cases h
  | lload_n k =>
    obtain rfl : len = 1 := by simpa [lenOk] using hlen
    simp only [xI] at h
    split at h
    · rename_i x q
      cases h
      obtain ⟨w, hv, hg⟩ := hL.get q
      obtain rfl : w = .long _ := hv
      exact Nxt.pure X rfl hL ⟨_, _, rfl, rfl, hS⟩ hH hF (fun t z => XT.lloadN (g := mkF m pc A Sc) X.here hx rfl hd hg z)
    · cases h
  | lload k =>
    obtain rfl : len = 2 := by simpa [lenOk] using hlen
    simp only [xI] at h
    split at h
    · rename_i x q
      cases h
      obtain ⟨w, hv, hg⟩ := hL.get q
      obtain rfl : w = .long _ := hv
      exact Nxt.pure X rfl hL ⟨_, _, rfl, rfl, hS⟩ hH hF (fun t z => XT.lload (g := mkF m pc A Sc) X.here hx rfl hd hg z)
    · cases h
  | istore_n k =>
    obtain rfl : len = 1 := by simpa [lenOk] using hlen
    simp only [xI] at h
    split at h
    · rename_i x S0
      obtain ⟨L1, q, e1⟩ := Option.map_eq_some_iff.mp h
      cases e1
      obtain ⟨S2, rfl, h2⟩ := hS.int
      obtain ⟨A', z1, z2⟩ := store1_sim hL q (show VR ρ (.int x) (.int x) from rfl) rfl
      exact Nxt.pure X (st1_len q) z2 h2 hH hF (fun t z => XS.istoreN (g := mkF m pc A _) X.here hx rfl hd rfl z1 z)
    · cases h
  | istore k =>
    obtain rfl : len = 2 := by simpa [lenOk] using hlen
    simp only [xI] at h
    split at h
    · rename_i x S0
      obtain ⟨L1, q, e1⟩ := Option.map_eq_some_iff.mp h
      cases e1
      obtain ⟨S2, rfl, h2⟩ := hS.int
      obtain ⟨A', z1, z2⟩ := store1_sim hL q (show VR ρ (.int x) (.int x) from rfl) rfl
      exact Nxt.pure X (st1_len q) z2 h2 hH hF (fun t z => XS.istore (g := mkF m pc A _) X.here hx rfl hd rfl z1 z)
    · cases h
  | astore_n k =>
    obtain rfl : len = 1 := by simpa [lenOk] using hlen
    simp only [xI] at h
    split at h
    · rename_i x S0
      obtain ⟨L1, q, e1⟩ := Option.map_eq_some_iff.mp h
      cases e1
      obtain ⟨ad, S2, h1, rfl, h2⟩ := hS.ref
      obtain ⟨A', z1, z2⟩ := store1_sim hL q (show VR ρ (.ref x) (.ref ad) from ⟨ad, h1, rfl⟩) rfl
      exact Nxt.pure X (st1_len q) z2 h2 hH hF (fun t z => XS.astoreN (g := mkF m pc A _) X.here hx rfl hd rfl rfl z1 z)
    · cases h
  | astore k =>
    obtain rfl : len = 2 := by simpa [lenOk] using hlen
    simp only [xI] at h
    split at h
    · rename_i x S0
      obtain ⟨L1, q, e1⟩ := Option.map_eq_some_iff.mp h
      cases e1
      obtain ⟨ad, S2, h1, rfl, h2⟩ := hS.ref
      obtain ⟨A', z1, z2⟩ := store1_sim hL q (show VR ρ (.ref x) (.ref ad) from ⟨ad, h1, rfl⟩) rfl
      exact Nxt.pure X (st1_len q) z2 h2 hH hF (fun t z => XS.astore (g := mkF m pc A _) X.here hx rfl hd rfl rfl z1 z)
    · cases h
  | lstore_n k =>
    obtain rfl : len = 1 := by simpa [lenOk] using hlen
    simp only [xI] at h
    split at h
    · rename_i x S0
      obtain ⟨L1, q, e1⟩ := Option.map_eq_some_iff.mp h
      cases e1
      obtain ⟨S2, rfl, h2⟩ := hS.long
      obtain ⟨A', z1, z2⟩ := store2_sim hL q (show VR ρ (.long x) (.long x) from rfl) rfl
      exact Nxt.pure X (st2_len q) z2 h2 hH hF (fun t z => XT.lstoreN (g := mkF m pc A _) X.here hx rfl hd rfl z1 z)
    · cases h
  | lstore k =>
    obtain rfl : len = 2 := by simpa [lenOk] using hlen
    simp only [xI] at h
    split at h
    · rename_i x S0
      obtain ⟨L1, q, e1⟩ := Option.map_eq_some_iff.mp h
      cases e1
      obtain ⟨S2, rfl, h2⟩ := hS.long
      obtain ⟨A', z1, z2⟩ := store2_sim hL q (show VR ρ (.long x) (.long x) from rfl) rfl
      exact Nxt.pure X (st2_len q) z2 h2 hH hF (fun t z => XT.lstore (g := mkF m pc A _) X.here hx rfl hd rfl z1 z)
    · cases h
  | iinc k dd =>
    obtain rfl : len = 3 := by simpa [lenOk] using hlen
    simp only [xI] at h
    split at h
    · rename_i x q0
      obtain ⟨L1, q, e1⟩ := Option.map_eq_some_iff.mp h
      cases e1
      obtain ⟨w, hv, hg⟩ := hL.get q0
      obtain rfl : w = .int _ := hv
      obtain ⟨A', z1, z2⟩ := store1_sim hL q (show VR ρ (.int (x + Int32.ofInt dd)) (.int (x + Int32.ofInt dd)) from rfl) rfl
      exact Nxt.pure X (st1_len q) z2 hS hH hF (fun t z => XS.iinc (g := mkF m pc A Sc) X.here hx rfl hd hg z1 z)
    · cases h
  | iconst v =>
    obtain rfl : len = 1 := by simpa [lenOk] using hlen
    simp only [xI] at h
    cases h
    exact Nxt.pure X rfl hL ⟨_, _, rfl, rfl, hS⟩ hH hF (fun t z => XS.iconst (g := mkF m pc A Sc) X.here hx rfl hd z)
  | bipush v =>
    obtain rfl : len = 2 := by simpa [lenOk] using hlen
    simp only [xI] at h
    cases h
    exact Nxt.pure X rfl hL ⟨_, _, rfl, rfl, hS⟩ hH hF (fun t z => XS.bipush (g := mkF m pc A Sc) X.here hx rfl hd z)
  | sipush v =>
    obtain rfl : len = 3 := by simpa [lenOk] using hlen
    simp only [xI] at h
    cases h
    exact Nxt.pure X rfl hL ⟨_, _, rfl, rfl, hS⟩ hH hF (fun t z => XS.sipush (g := mkF m pc A Sc) X.here hx rfl hd z)
  | lconst v =>
    obtain rfl : len = 1 := by simpa [lenOk] using hlen
    simp only [xI] at h
    cases h
    exact Nxt.pure X rfl hL ⟨_, _, rfl, rfl, hS⟩ hH hF (fun t z => XT.lconst (g := mkF m pc A Sc) X.here hx rfl hd z)
  | ldc k =>
    obtain rfl : len = 2 := by simpa [lenOk] using hlen
    simp only [xI] at h
    cases h
    have w1 := hWi (.constant d.name.cls k (Int32.ofInt b)) (List.mem_singleton.mpr rfl)
    exact Nxt.pure X rfl hL ⟨_, _, rfl, rfl, hS⟩ hH hF (fun t z => X.ldcInt hx hown (mvT hZ w1) (g := mkF m pc A Sc) rfl hd t z)
  | ldc2_w k =>
    obtain rfl : len = 3 := by simpa [lenOk] using hlen
    simp only [xI] at h
    cases h
    have w1 := hWi (.constantLong d.name.cls k (Int64.ofInt b)) (List.mem_singleton.mpr rfl)
    exact Nxt.pure X rfl hL ⟨_, _, rfl, rfl, hS⟩ hH hF (fun t z => X.ldc2Long hx hown (mvT hZ w1) (g := mkF m pc A Sc) rfl hd t z)
  | iadd =>
    obtain rfl : len = 1 := by simpa [lenOk] using hlen
    simp only [xI] at h
    split at h
    · rename_i y x S0
      cases h
      obtain ⟨S1, rfl, h1⟩ := hS.int
      obtain ⟨S2, rfl, h2⟩ := h1.int
      exact Nxt.pure X rfl hL ⟨_, _, rfl, rfl, h2⟩ hH hF (fun t z => XS.iadd (g := mkF m pc A _) X.here hx rfl hd rfl z)
    · cases h
  | isub =>
    obtain rfl : len = 1 := by simpa [lenOk] using hlen
    simp only [xI] at h
    split at h
    · rename_i y x S0
      cases h
      obtain ⟨S1, rfl, h1⟩ := hS.int
      obtain ⟨S2, rfl, h2⟩ := h1.int
      exact Nxt.pure X rfl hL ⟨_, _, rfl, rfl, h2⟩ hH hF (fun t z => XS.isub (g := mkF m pc A _) X.here hx rfl hd rfl z)
    · cases h
  | imul =>
    obtain rfl : len = 1 := by simpa [lenOk] using hlen
    simp only [xI] at h
    split at h
    · rename_i y x S0
      cases h
      obtain ⟨S1, rfl, h1⟩ := hS.int
      obtain ⟨S2, rfl, h2⟩ := h1.int
      exact Nxt.pure X rfl hL ⟨_, _, rfl, rfl, h2⟩ hH hF (fun t z => XS.imul (g := mkF m pc A _) X.here hx rfl hd rfl z)
    · cases h
  | iand =>
    obtain rfl : len = 1 := by simpa [lenOk] using hlen
    simp only [xI] at h
    split at h
    · rename_i y x S0
      cases h
      obtain ⟨S1, rfl, h1⟩ := hS.int
      obtain ⟨S2, rfl, h2⟩ := h1.int
      exact Nxt.pure X rfl hL ⟨_, _, rfl, rfl, h2⟩ hH hF (fun t z => XS.iand (g := mkF m pc A _) X.here hx rfl hd rfl z)
    · cases h
  | ior =>
    obtain rfl : len = 1 := by simpa [lenOk] using hlen
    simp only [xI] at h
    split at h
    · rename_i y x S0
      cases h
      obtain ⟨S1, rfl, h1⟩ := hS.int
      obtain ⟨S2, rfl, h2⟩ := h1.int
      exact Nxt.pure X rfl hL ⟨_, _, rfl, rfl, h2⟩ hH hF (fun t z => XT.ior (g := mkF m pc A _) X.here hx rfl hd rfl z)
    · cases h
  | ixor =>
    obtain rfl : len = 1 := by simpa [lenOk] using hlen
    simp only [xI] at h
    split at h
    · rename_i y x S0
      cases h
      obtain ⟨S1, rfl, h1⟩ := hS.int
      obtain ⟨S2, rfl, h2⟩ := h1.int
      exact Nxt.pure X rfl hL ⟨_, _, rfl, rfl, h2⟩ hH hF (fun t z => XT.ixor (g := mkF m pc A _) X.here hx rfl hd rfl z)
    · cases h
  | ishl =>
    obtain rfl : len = 1 := by simpa [lenOk] using hlen
    simp only [xI] at h
    split at h
    · rename_i y x S0
      cases h
      obtain ⟨S1, rfl, h1⟩ := hS.int
      obtain ⟨S2, rfl, h2⟩ := h1.int
      exact Nxt.pure X rfl hL ⟨_, _, rfl, rfl, h2⟩ hH hF (fun t z => XT.ishl (g := mkF m pc A _) X.here hx rfl hd rfl z)
    · cases h
  | ishr =>
    obtain rfl : len = 1 := by simpa [lenOk] using hlen
    simp only [xI] at h
    split at h
    · rename_i y x S0
      cases h
      obtain ⟨S1, rfl, h1⟩ := hS.int
      obtain ⟨S2, rfl, h2⟩ := h1.int
      exact Nxt.pure X rfl hL ⟨_, _, rfl, rfl, h2⟩ hH hF (fun t z => XT.ishr (g := mkF m pc A _) X.here hx rfl hd rfl z)
    · cases h
  | iushr =>
    obtain rfl : len = 1 := by simpa [lenOk] using hlen
    simp only [xI] at h
    split at h
    · rename_i y x S0
      cases h
      obtain ⟨S1, rfl, h1⟩ := hS.int
      obtain ⟨S2, rfl, h2⟩ := h1.int
      exact Nxt.pure X rfl hL ⟨_, _, rfl, rfl, h2⟩ hH hF (fun t z => XT.iushr (g := mkF m pc A _) X.here hx rfl hd rfl z)
    · cases h
  | ladd =>
    obtain rfl : len = 1 := by simpa [lenOk] using hlen
    simp only [xI] at h
    split at h
    · rename_i y x S0
      cases h
      obtain ⟨S1, rfl, h1⟩ := hS.long
      obtain ⟨S2, rfl, h2⟩ := h1.long
      exact Nxt.pure X rfl hL ⟨_, _, rfl, rfl, h2⟩ hH hF (fun t z => XT.ladd (g := mkF m pc A _) X.here hx rfl hd rfl z)
    · cases h
  | lsub =>
    obtain rfl : len = 1 := by simpa [lenOk] using hlen
    simp only [xI] at h
    split at h
    · rename_i y x S0
      cases h
      obtain ⟨S1, rfl, h1⟩ := hS.long
      obtain ⟨S2, rfl, h2⟩ := h1.long
      exact Nxt.pure X rfl hL ⟨_, _, rfl, rfl, h2⟩ hH hF (fun t z => XT.lsub (g := mkF m pc A _) X.here hx rfl hd rfl z)
    · cases h
  | lmul =>
    obtain rfl : len = 1 := by simpa [lenOk] using hlen
    simp only [xI] at h
    split at h
    · rename_i y x S0
      cases h
      obtain ⟨S1, rfl, h1⟩ := hS.long
      obtain ⟨S2, rfl, h2⟩ := h1.long
      exact Nxt.pure X rfl hL ⟨_, _, rfl, rfl, h2⟩ hH hF (fun t z => XT.lmul (g := mkF m pc A _) X.here hx rfl hd rfl z)
    · cases h
  | land =>
    obtain rfl : len = 1 := by simpa [lenOk] using hlen
    simp only [xI] at h
    split at h
    · rename_i y x S0
      cases h
      obtain ⟨S1, rfl, h1⟩ := hS.long
      obtain ⟨S2, rfl, h2⟩ := h1.long
      exact Nxt.pure X rfl hL ⟨_, _, rfl, rfl, h2⟩ hH hF (fun t z => XT.land (g := mkF m pc A _) X.here hx rfl hd rfl z)
    · cases h
  | lor =>
    obtain rfl : len = 1 := by simpa [lenOk] using hlen
    simp only [xI] at h
    split at h
    · rename_i y x S0
      cases h
      obtain ⟨S1, rfl, h1⟩ := hS.long
      obtain ⟨S2, rfl, h2⟩ := h1.long
      exact Nxt.pure X rfl hL ⟨_, _, rfl, rfl, h2⟩ hH hF (fun t z => XT.lor (g := mkF m pc A _) X.here hx rfl hd rfl z)
    · cases h
  | lxor =>
    obtain rfl : len = 1 := by simpa [lenOk] using hlen
    simp only [xI] at h
    split at h
    · rename_i y x S0
      cases h
      obtain ⟨S1, rfl, h1⟩ := hS.long
      obtain ⟨S2, rfl, h2⟩ := h1.long
      exact Nxt.pure X rfl hL ⟨_, _, rfl, rfl, h2⟩ hH hF (fun t z => XT.lxor (g := mkF m pc A _) X.here hx rfl hd rfl z)
    · cases h
  | lcmp =>
    obtain rfl : len = 1 := by simpa [lenOk] using hlen
    simp only [xI] at h
    split at h
    · rename_i y x S0
      cases h
      obtain ⟨S1, rfl, h1⟩ := hS.long
      obtain ⟨S2, rfl, h2⟩ := h1.long
      exact Nxt.pure X rfl hL ⟨_, _, rfl, rfl, h2⟩ hH hF (fun t z => XT.lcmp (g := mkF m pc A _) X.here hx rfl hd rfl z)
    · cases h
  | lshl =>
    obtain rfl : len = 1 := by simpa [lenOk] using hlen
    simp only [xI] at h
    split at h
    · rename_i y x S0
      cases h
      obtain ⟨S1, rfl, h1⟩ := hS.int
      obtain ⟨S2, rfl, h2⟩ := h1.long
      exact Nxt.pure X rfl hL ⟨_, _, rfl, rfl, h2⟩ hH hF (fun t z => XT.lshl (g := mkF m pc A _) X.here hx rfl hd rfl z)
    · cases h
  | lshr =>
    obtain rfl : len = 1 := by simpa [lenOk] using hlen
    simp only [xI] at h
    split at h
    · rename_i y x S0
      cases h
      obtain ⟨S1, rfl, h1⟩ := hS.int
      obtain ⟨S2, rfl, h2⟩ := h1.long
      exact Nxt.pure X rfl hL ⟨_, _, rfl, rfl, h2⟩ hH hF (fun t z => XT.lshr (g := mkF m pc A _) X.here hx rfl hd rfl z)
    · cases h
  | lushr =>
    obtain rfl : len = 1 := by simpa [lenOk] using hlen
    simp only [xI] at h
    split at h
    · rename_i y x S0
      cases h
      obtain ⟨S1, rfl, h1⟩ := hS.int
      obtain ⟨S2, rfl, h2⟩ := h1.long
      exact Nxt.pure X rfl hL ⟨_, _, rfl, rfl, h2⟩ hH hF (fun t z => XT.lushr (g := mkF m pc A _) X.here hx rfl hd rfl z)
    · cases h
  | idiv =>
    obtain rfl : len = 1 := by simpa [lenOk] using hlen
    simp only [xI] at h
    split at h
    · rename_i y x S0
      split at h
      · cases h
      · rename_i hy
        cases h
        obtain ⟨S1, rfl, h1⟩ := hS.int
        obtain ⟨S2, rfl, h2⟩ := h1.int
        exact Nxt.pure X rfl hL ⟨_, _, rfl, rfl, h2⟩ hH hF (fun t z => XS.idiv (g := mkF m pc A _) X.here hx rfl hd rfl hy z)
    · cases h
  | irem =>
    obtain rfl : len = 1 := by simpa [lenOk] using hlen
    simp only [xI] at h
    split at h
    · rename_i y x S0
      split at h
      · cases h
      · rename_i hy
        cases h
        obtain ⟨S1, rfl, h1⟩ := hS.int
        obtain ⟨S2, rfl, h2⟩ := h1.int
        exact Nxt.pure X rfl hL ⟨_, _, rfl, rfl, h2⟩ hH hF (fun t z => iremM (g := mkF m pc A _) X hx rfl hd rfl hy z)
    · cases h
  | ldiv =>
    obtain rfl : len = 1 := by simpa [lenOk] using hlen
    simp only [xI] at h
    split at h
    · rename_i y x S0
      split at h
      · cases h
      · rename_i hy
        cases h
        obtain ⟨S1, rfl, h1⟩ := hS.long
        obtain ⟨S2, rfl, h2⟩ := h1.long
        exact Nxt.pure X rfl hL ⟨_, _, rfl, rfl, h2⟩ hH hF (fun t z => XT.ldiv (g := mkF m pc A _) X.here hx rfl hd rfl hy z)
    · cases h
  | lrem =>
    obtain rfl : len = 1 := by simpa [lenOk] using hlen
    simp only [xI] at h
    split at h
    · rename_i y x S0
      split at h
      · cases h
      · rename_i hy
        cases h
        obtain ⟨S1, rfl, h1⟩ := hS.long
        obtain ⟨S2, rfl, h2⟩ := h1.long
        exact Nxt.pure X rfl hL ⟨_, _, rfl, rfl, h2⟩ hH hF (fun t z => XT.lrem (g := mkF m pc A _) X.here hx rfl hd rfl hy (by rw [lrem_mod]; exact z))
    · cases h
  | i2l =>
    obtain rfl : len = 1 := by simpa [lenOk] using hlen
    simp only [xI] at h
    split at h
    · rename_i x S0
      cases h
      obtain ⟨S1, rfl, h1⟩ := hS.int
      exact Nxt.pure X rfl hL ⟨_, _, rfl, rfl, h1⟩ hH hF (fun t z => XT.i2l (g := mkF m pc A _) X.here hx rfl hd rfl z)
    · cases h
  | l2i =>
    obtain rfl : len = 1 := by simpa [lenOk] using hlen
    simp only [xI] at h
    split at h
    · rename_i x S0
      cases h
      obtain ⟨S1, rfl, h1⟩ := hS.long
      exact Nxt.pure X rfl hL ⟨_, _, rfl, rfl, h1⟩ hH hF (fun t z => XT.l2i (g := mkF m pc A _) X.here hx rfl hd rfl z)
    · cases h
  | dup =>
    obtain rfl : len = 1 := by simpa [lenOk] using hlen
    simp only [xI] at h
    split at h
    · rename_i x S0
      cases h
      obtain ⟨S1, rfl, h1⟩ := hS.int
      exact Nxt.pure X rfl hL ⟨_, _, rfl, rfl, _, _, rfl, rfl, h1⟩ hH hF (fun t z => XS.dup (g := mkF m pc A _) X.here hx rfl hd rfl rfl z)
    · rename_i x S0
      cases h
      obtain ⟨ad, S1, g1, rfl, h1⟩ := hS.ref
      exact Nxt.pure X rfl hL ⟨_, _, rfl, ⟨ad, g1, rfl⟩, _, _, rfl, ⟨ad, g1, rfl⟩, h1⟩ hH hF (fun t z => XS.dup (g := mkF m pc A _) X.here hx rfl hd rfl rfl z)
    · cases h
  | dup2 =>
    obtain rfl : len = 1 := by simpa [lenOk] using hlen
    simp only [xI] at h
    split at h
    · rename_i x y S0
      cases h
      obtain ⟨S1, rfl, h1⟩ := hS.int
      obtain ⟨ad, S2, g1, rfl, h2⟩ := h1.ref
      exact Nxt.pure X rfl hL ⟨_, _, rfl, rfl, _, _, rfl, ⟨ad, g1, rfl⟩, _, _, rfl, rfl, _, _, rfl, ⟨ad, g1, rfl⟩, h2⟩ hH hF (fun t z => XT.dup2 (g := mkF m pc A _) X.here hx rfl hd rfl rfl rfl z)
    · rename_i x S0
      cases h
      obtain ⟨S1, rfl, h1⟩ := hS.long
      exact Nxt.pure X rfl hL ⟨_, _, rfl, rfl, _, _, rfl, rfl, h1⟩ hH hF (fun t z => XT.dup2L (g := mkF m pc A _) X.here hx rfl hd rfl z)
    · cases h
  | pop =>
    obtain rfl : len = 1 := by simpa [lenOk] using hlen
    simp only [xI] at h
    split at h
    · rename_i x S0
      cases h
      obtain ⟨S1, rfl, h1⟩ := hS.int
      exact Nxt.pure X rfl hL h1 hH hF (fun t z => XT.pop (g := mkF m pc A _) X.here hx rfl hd rfl rfl z)
    · cases h
  | getfield k =>
    obtain rfl : len = 3 := by simpa [lenOk] using hlen
    simp only [xI] at h
    split at h
    · rename_i o S0
      obtain ⟨ad, S1, g1, rfl, h1⟩ := hS.ref
      split at h
      · rename_i c0 fs hc0
        split at h
        · rename_i ec
          subst ec
          obtain ⟨ad', g2, cd, q1, q2, q3, q4⟩ := hH.at hc0
          rw [g1] at g2; cases g2
          have hcd := cid_of hP hdm q1
          have core : ∀ v, fs[a]? = some v → ∃ w T2, VR ρ v w ∧ Stand p l e R s m args below meth c T2 locs cells slots ∧ T2.heap = T.heap ∧ ∀ target, Steps p.tables e below (T2.setTop (mkF m (pc + 3) A (w :: S1))) target → Steps p.tables e below (T.setTop (mkF m pc A (.ref ad :: S1))) target := fun v hv => by
            have ha : a < cd.2.2.length := by rw [← q3]; exact (List.getElem?_eq_some_iff.mp hv).1
            obtain ⟨w, hvw, F⟩ := q4 a v _ hv (List.getElem?_eq_getElem ha)
            have w1 := hWi (.fieldLink d.name.cls k d.name.cls cd.2.2[a].1 cd.2.2[a].2.1) (by
              show _ ∈ fLink P d k a
              unfold fLink
              rw [fieldOf_spec q1 (List.getElem?_eq_getElem ha)]
              exact List.mem_singleton.mpr rfl)
            rw [hcd] at F
            obtain ⟨T2, X2, e2, st2⟩ := getF X hx hZ hown (host := "") (Or.inl w1) Via.refl rfl F (g := mkF m pc A (.ref ad :: S1)) rfl rfl hd
            exact ⟨w, T2, hvw, X2, e2, st2⟩
          split at h
          · rename_i x hv
            cases h
            obtain ⟨w, T2, hvw, X2, e2, st2⟩ := core _ hv
            exact Nxt.mem X2 rfl hL ⟨_, _, rfl, hvw, h1⟩ (by rw [e2]; exact hH) hF st2
          · rename_i x hv
            cases h
            obtain ⟨w, T2, hvw, X2, e2, st2⟩ := core _ hv
            exact Nxt.mem X2 rfl hL ⟨_, _, rfl, hvw, h1⟩ (by rw [e2]; exact hH) hF st2
          · rename_i x hv
            cases h
            obtain ⟨w, T2, hvw, X2, e2, st2⟩ := core _ hv
            exact Nxt.mem X2 rfl hL ⟨_, _, rfl, hvw, h1⟩ (by rw [e2]; exact hH) hF st2
          · cases h
        · cases h
      · cases h
    · cases h
  | putfield k =>
    obtain rfl : len = 3 := by simpa [lenOk] using hlen
    simp only [xI] at h
    split at h
    · rename_i v o S0
      obtain ⟨w, Sx, rfl, hvw, hS1⟩ := hS
      obtain ⟨ad, S1, g1, rfl, h1⟩ := hS1.ref
      split at h
      · rename_i c0 fs hc0
        split at h
        · rename_i ec
          obtain ⟨ec, enr⟩ := ec
          subst ec
          split at h
          · rename_i nm ds ty fin hf
            split at h
            · rename_i hok
              cases h
              simp only [Bool.and_eq_true] at hok
              obtain ⟨hok, hfin⟩ := hok
              obtain ⟨ad', g2, cd, q1, q2, q3, q4⟩ := hH.at hc0
              rw [g1] at g2; cases g2
              have hcd := cid_of hP hdm q1
              rw [q1] at hf
              have hf' : cd.2.2[a]? = some (nm, ds, ty, fin) := hf
              have ha : a < fs.length := by rw [q3]; exact (List.getElem?_eq_some_iff.mp hf').1
              obtain ⟨w0, -, F⟩ := q4 a _ _ (List.getElem?_eq_getElem ha) hf'
              have w1 := hWi (.fieldLink d.name.cls k d.name.cls nm ds) (by
                show _ ∈ fLink P d k a
                unfold fLink
                rw [fieldOf_spec q1 hf']
                exact List.mem_singleton.mpr rfl)
              have hcm : cd ∈ P.cls := List.mem_of_getElem? q1
              have w2 := hW _ (in_wordsC hcm (fWord_in (List.mem_of_getElem? hf')))
              have w3 := hW (.instantiable cd.1 cd.2.1) (in_wordsC hcm (List.mem_cons_self ..))
              have hck := cChk_of hP hcm
              have hck' := hck
              simp only [cChk, Bool.and_eq_true, List.all_eq_true] at hck'
              have f1 := hck'.2 _ (List.mem_of_getElem? hf')
              simp only [fChk, Bool.and_eq_true, decide_eq_true_eq] at f1
              obtain ⟨p1, p2⟩ := putOk_sim hok hvw
              have Ly : (Jvm.Cond.lays cd.1 cd.1 nm ds).before a0 Z = true ∨ ((Jvm.Cond.laysFinal cd.1 cd.1 nm ds).before a0 Z = true ∧ d.name.cls = cd.1 ∧ meth.name = "<init>") := by
                unfold fWord at w2
                cases fin with
                | false => exact Or.inl w2
                | true => exact Or.inr ⟨w2, hcd.symm, by rw [hnm]; simpa using hfin⟩
              obtain ⟨T2, h2, X2, e2, W2, st2⟩ := putF X hx hZ hown (host := "") (R0 := d.name.cls) (O := cd.1) (Or.inl w1) (by rw [hcd]; exact Via.refl) rfl F q2 Ly w3 f1.1 p1 p2 (g := mkF m pc A (w :: .ref ad :: S1)) rfl rfl hd
              have hH2 := hH.putF (a0 := a0) g1 hc0 q1 hf' hck (fun f hfm => hW _ (in_wordsC hcm (fWord_in hfm))) W2 hvw
              exact Nxt.mem X2 rfl hL h1 (by rw [e2]; exact hH2) (Fr.snoc X2 hF (hH.2.2.2.1 _ _ g1 enr)) st2
            · cases h
          · cases h
        · cases h
      · cases h
    · cases h
  | iaload =>
    obtain rfl : len = 1 := by simpa [lenOk] using hlen
    simp only [xI] at h
    split at h
    · rename_i j o S0
      obtain ⟨S1, rfl, h1⟩ := hS.int
      obtain ⟨ad, S2, g1, rfl, h2⟩ := h1.ref
      split at h
      · rename_i B hc0
        obtain ⟨x, q, e1⟩ := Option.map_eq_some_iff.mp h
        cases e1
        obtain ⟨hj, hat⟩ := rdA_spec q
        obtain ⟨ad', g2, cl, Ar, z1, z2, z3⟩ := hH.at hc0
        rw [g1] at g2; cases g2
        have hin : ¬ (j < 0 ∨ cl.slots.size ≤ j.toNatClampNeg) := by
          have := (List.getElem?_eq_some_iff.mp hat).1
          rintro (y | y)
          · exact hj y
          · omega
        exact Nxt.pure X rfl hL ⟨_, _, rfl, rfl, h2⟩ hH hF (fun t z => X.iaload hx (j := j) (v := .int x) Ar.1 (State.isArrayOf_alike hZ.alike Ar.2.1) Ar.2.2 hin (z3 _ _ hat) (g := mkF m pc A _) rfl rfl hd t z)
      · cases h
    · cases h
  | baload =>
    obtain rfl : len = 1 := by simpa [lenOk] using hlen
    simp only [xI] at h
    split at h
    · rename_i j o S0
      obtain ⟨S1, rfl, h1⟩ := hS.int
      obtain ⟨ad, S2, g1, rfl, h2⟩ := h1.ref
      split at h
      · rename_i B hc0
        obtain ⟨x, q, e1⟩ := Option.map_eq_some_iff.mp h
        cases e1
        obtain ⟨hj, hat⟩ := rdA_spec q
        obtain ⟨ad', g2, cl, Ar, z1, z2, z3⟩ := hH.at hc0
        rw [g1] at g2; cases g2
        have hin : ¬ (j < 0 ∨ cl.slots.size ≤ j.toNatClampNeg) := by
          have := (List.getElem?_eq_some_iff.mp hat).1
          rintro (y | y)
          · exact hj y
          · omega
        exact Nxt.pure X rfl hL ⟨_, _, rfl, rfl, h2⟩ hH hF (fun t z => X.baloadBooleans hx (j := j) (v := .int x) Ar.1 (State.isArrayOf_alike hZ.alike Ar.2.1) Ar.2.2 hin (z3 _ _ hat) (g := mkF m pc A _) rfl rfl hd t z)
      · cases h
    · cases h
  | laload =>
    obtain rfl : len = 1 := by simpa [lenOk] using hlen
    simp only [xI] at h
    split at h
    · rename_i j o S0
      obtain ⟨S1, rfl, h1⟩ := hS.int
      obtain ⟨ad, S2, g1, rfl, h2⟩ := h1.ref
      split at h
      · rename_i B hc0
        obtain ⟨x, q, e1⟩ := Option.map_eq_some_iff.mp h
        cases e1
        obtain ⟨hj, hat⟩ := rdA_spec q
        obtain ⟨ad', g2, cl, Ar, z1, z2, z3⟩ := hH.at hc0
        rw [g1] at g2; cases g2
        have hin : ¬ (j < 0 ∨ cl.slots.size ≤ j.toNatClampNeg) := by
          have := (List.getElem?_eq_some_iff.mp hat).1
          rintro (y | y)
          · exact hj y
          · omega
        exact Nxt.pure X rfl hL ⟨_, _, rfl, rfl, h2⟩ hH hF (fun t z => X.laload hx (j := j) (v := .long x) Ar.1 (State.isArrayOf_alike hZ.alike Ar.2.1) Ar.2.2 hin (z3 _ _ hat) (g := mkF m pc A _) rfl rfl hd t z)
      · cases h
    · cases h
  | iastore =>
    obtain rfl : len = 1 := by simpa [lenOk] using hlen
    simp only [xI] at h
    split at h
    · rename_i x j o S0
      obtain ⟨S1, rfl, h1⟩ := hS.int
      obtain ⟨S2, rfl, h2⟩ := h1.int
      obtain ⟨ad, S3, g1, rfl, h3⟩ := h2.ref
      split at h
      · rename_i B hc0
        split at h
        · rename_i enr
          obtain ⟨B', q, e1⟩ := Option.map_eq_some_iff.mp h
          cases e1
          obtain ⟨hj, hlt, rfl⟩ := wrA_spec q
          obtain ⟨ad', g2, cl, Ar, z1, z2, z3⟩ := hH.at hc0
          rw [g1] at g2; cases g2
          have hin : ¬ (j < 0 ∨ cl.slots.size ≤ j.toNatClampNeg) := by
            rintro (y | y)
            · exact hj y
            · omega
          obtain ⟨T2, h2', X2, e2, W2, st2⟩ := stI X hx hZ rfl Ar (j := j) (x := x) hin (g := mkF m pc A _) rfl rfl hd
          exact Nxt.mem X2 rfl hL h3 (by rw [e2]; exact hH.wrI g1 hc0 W2) (Fr.snoc X2 hF (hH.2.2.2.1 _ _ g1 enr)) st2
        · cases h
      · cases h
    · cases h
  | bastore =>
    obtain rfl : len = 1 := by simpa [lenOk] using hlen
    simp only [xI] at h
    split at h
    · rename_i x j o S0
      obtain ⟨S1, rfl, h1⟩ := hS.int
      obtain ⟨S2, rfl, h2⟩ := h1.int
      obtain ⟨ad, S3, g1, rfl, h3⟩ := h2.ref
      split at h
      · rename_i B hc0
        split at h
        · rename_i enr
          obtain ⟨B', q, e1⟩ := Option.map_eq_some_iff.mp h
          cases e1
          obtain ⟨hj, hlt, rfl⟩ := wrA_spec q
          obtain ⟨ad', g2, cl, Ar, z1, z2, z3⟩ := hH.at hc0
          rw [g1] at g2; cases g2
          have hin : ¬ (j < 0 ∨ cl.slots.size ≤ j.toNatClampNeg) := by
            rintro (y | y)
            · exact hj y
            · omega
          obtain ⟨T2, h2', X2, e2, W2, st2⟩ := stZ X hx hZ rfl Ar (j := j) (x := x) hin (g := mkF m pc A _) rfl rfl hd
          exact Nxt.mem X2 rfl hL h3 (by rw [e2]; exact hH.wrI g1 hc0 W2) (Fr.snoc X2 hF (hH.2.2.2.1 _ _ g1 enr)) st2
        · cases h
      · cases h
    · cases h
  | lastore =>
    obtain rfl : len = 1 := by simpa [lenOk] using hlen
    simp only [xI] at h
    split at h
    · rename_i x j o S0
      obtain ⟨S1, rfl, h1⟩ := hS.long
      obtain ⟨S2, rfl, h2⟩ := h1.int
      obtain ⟨ad, S3, g1, rfl, h3⟩ := h2.ref
      split at h
      · rename_i B hc0
        split at h
        · rename_i enr
          obtain ⟨B', q, e1⟩ := Option.map_eq_some_iff.mp h
          cases e1
          obtain ⟨hj, hlt, rfl⟩ := wrA_spec q
          obtain ⟨ad', g2, cl, Ar, z1, z2, z3⟩ := hH.at hc0
          rw [g1] at g2; cases g2
          have hin : ¬ (j < 0 ∨ cl.slots.size ≤ j.toNatClampNeg) := by
            rintro (y | y)
            · exact hj y
            · omega
          obtain ⟨T2, h2', X2, e2, W2, st2⟩ := stJ X hx hZ rfl Ar (j := j) (x := x) hin (g := mkF m pc A _) rfl rfl hd
          exact Nxt.mem X2 rfl hL h3 (by rw [e2]; exact hH.wrJ g1 hc0 W2) (Fr.snoc X2 hF (hH.2.2.2.1 _ _ g1 enr)) st2
        · cases h
      · cases h
    · cases h
  | arraylength =>
    obtain rfl : len = 1 := by simpa [lenOk] using hlen
    simp only [xI] at h
    split at h
    · rename_i o S0
      obtain ⟨ad, S1, g1, rfl, h1⟩ := hS.ref
      split at h
      · rename_i bb B hc0
        cases h
        obtain ⟨ad', g2, cl, Ar, z1, z2, z3⟩ := hH.at hc0
        rw [g1] at g2; cases g2
        exact Nxt.pure X rfl hL ⟨_, _, rfl, rfl, h1⟩ hH hF (fun t z => X.arraylength hx (cell := cl) Ar.1 (State.isArrayOf_alike hZ.alike Ar.2.1) (g := mkF m pc A _) rfl rfl hd t (by rw [z1]; exact z))
      · cases h
    · cases h
  | _ => simp [xI] at h
set_option maxHeartbeats 4000000 in
theorem stepN (X : Stand p l e R s m args below meth c T locs cells slots) (hx : p.tables.exec = Jvm.exec) (hZ : Z.Warmed39 s.vm) (hown : s.vm.findClass d.name.cls = some m.cls) (hP : chk P = true) (hW : ∀ w ∈ wordsOf P, w.before a0 Z = true) (hdm : d ∈ P.mth)
    {pc len a ks : Nat} {er : List Bool} {b : Int} {i : Instr} (hit : (pc, i, len, er, a, b) ∈ d.code) (hd : decode c.code pc = .ok (i, len)) (hlen : lenOk i len = true) {ρ : List Addr} {S S' Sc : List Value} {H H1 : AHeap} {A : Array Slot}
    (hS : SR ρ S Sc) (hH : HR P Z n0 T.heap ρ H) (h : xN P i a S H = some (S', H1, ks)) (hc : cells + 1 ≤ R.cells) (hl : slots + ks ≤ R.slots) :
    ∃ T' ad Sc', Stand p l e R s m args below meth c T' locs (cells + 1) (slots + ks) ∧ SR (ρ ++ [ad]) S' Sc' ∧ HR P Z n0 T'.heap (ρ ++ [ad]) H1 ∧
      ∀ target, Steps p.tables e below (T'.setTop (mkF m (pc + len) A Sc')) target → Steps p.tables e below (T.setTop (mkF m pc A Sc)) target := by
  have hWi : ∀ w ∈ iWords P d (pc, i, len, er, a, b), w.before a0 Z = true := fun w q => hW w (in_wordsOf hdm hit q)
  cases i with
  | new k =>
    obtain rfl : len = 3 := by simpa [lenOk] using hlen
    simp only [xN] at h
    split at h
    · rename_i cd q1
      cases h
      have hcm : cd ∈ P.cls := List.mem_of_getElem? q1
      have w1 := hWi (.classLink d.name.cls k cd.1) (by simp only [iWords, q1]; exact List.mem_singleton.mpr rfl)
      have w2 := hW (.instantiable cd.1 cd.2.1) (in_wordsC hcm (List.mem_cons_self ..))
      have w3 := hW (.initialized cd.1) (in_wordsC hcm (List.mem_cons_of_mem _ (List.mem_cons_self ..)))
      obtain ⟨T2, h2, X2, e2, E2, A2, D2, -, st2⟩ := newO X hx hZ hown w1 w2 w3 rfl (g := mkF m pc A Sc) rfl hd hc hl
      have hck := cChk_of hP hcm
      simp only [cChk, Bool.and_eq_true, List.all_eq_true] at hck
      have hcr : CR P Z h2 (ρ ++ [T.heap.size]) T.heap.size (.inl (a, cd.2.2.map fun f => dflt f.2.2.1)) := by
        refine ⟨cd, q1, A2, by simp, fun j v fd y1 y2 => ?_⟩
        rw [List.getElem?_map, y2] at y1
        cases y1
        have f1 := hck.2 _ (List.mem_of_getElem? y2)
        simp only [fChk, Bool.and_eq_true, decide_eq_true_eq] at f1
        exact ⟨_, dflt_sim f1.2, D2 (laid_of (hW _ (in_wordsC hcm (fWord_in (List.mem_of_getElem? y2))))) f1.1⟩
      refine ⟨T2, T.heap.size, _, X2, ⟨_, _, rfl, ⟨T.heap.size, ?_, rfl⟩, hS.mono⟩, (by rw [e2]; exact hH.push E2 hcr), st2⟩
      rw [← hH.2.1]; simp
    · cases h
  | newarray t =>
    obtain rfl : len = 2 := by simpa [lenOk] using hlen
    simp only [xN] at h
    split at h
    · rename_i n S0
      obtain ⟨S1, rfl, h1⟩ := hS.int
      split at h
      · cases h
      · rename_i hn
        have hn1 : ¬ n < 0 := fun z => hn (Or.inl z)
        have hn2 : n.toNatClampNeg ≤ 100000 := Nat.le_of_not_lt fun z => hn (Or.inr z)
        have w1 := hWi (.arrayClass (newarray.typeOf t)) (List.mem_singleton.mpr rfl)
        have top : (ρ ++ [T.heap.size])[H.length]? = some T.heap.size := by rw [← hH.2.1]; simp
        split at h
        · cases h
          obtain ⟨T2, h2, cA, X2, e2, E2, A2, st2⟩ := newP X hx hZ w1 rfl (g := mkF m pc A _) rfl hd rfl hn1 (cap := n.toNatClampNeg) (Nat.le_refl _) (by omega) hc hl
          have hcr : CR P Z h2 (ρ ++ [T.heap.size]) T.heap.size ((.inr (.inl (false, List.replicate n.toNatClampNeg 0)) : ACell)) := by
            refine ⟨_, A2, by simp [sz_new], by simp; omega, fun j x y => ?_⟩
            rw [List.getElem?_replicate] at y
            split at y
            · rename_i lt
              cases y
              simp [newA, lt, newarray.typeOf, defaultValue]
            · cases y
          exact ⟨T2, T.heap.size, _, X2, ⟨_, _, rfl, ⟨T.heap.size, top, rfl⟩, h1.mono⟩, (by rw [e2]; exact hH.push E2 hcr), st2⟩
        · cases h
          obtain ⟨T2, h2, cA, X2, e2, E2, A2, st2⟩ := newP X hx hZ w1 rfl (g := mkF m pc A _) rfl hd rfl hn1 (cap := n.toNatClampNeg) (Nat.le_refl _) (by omega) hc hl
          have hcr : CR P Z h2 (ρ ++ [T.heap.size]) T.heap.size ((.inr (.inl (true, List.replicate n.toNatClampNeg 0)) : ACell)) := by
            refine ⟨_, A2, by simp [sz_new], by simp; omega, fun j x y => ?_⟩
            rw [List.getElem?_replicate] at y
            split at y
            · rename_i lt
              cases y
              simp [newA, lt, newarray.typeOf, defaultValue]
            · cases y
          exact ⟨T2, T.heap.size, _, X2, ⟨_, _, rfl, ⟨T.heap.size, top, rfl⟩, h1.mono⟩, (by rw [e2]; exact hH.push E2 hcr), st2⟩
        · cases h
          obtain ⟨T2, h2, cA, X2, e2, E2, A2, st2⟩ := newP X hx hZ w1 rfl (g := mkF m pc A _) rfl hd rfl hn1 (cap := n.toNatClampNeg) (Nat.le_refl _) (by omega) hc hl
          have hcr : CR P Z h2 (ρ ++ [T.heap.size]) T.heap.size ((.inr (.inr (List.replicate n.toNatClampNeg 0)) : ACell)) := by
            refine ⟨_, A2, by simp [sz_new], by simp; omega, fun j x y => ?_⟩
            rw [List.getElem?_replicate] at y
            split at y
            · rename_i lt
              cases y
              simp [newA, lt, newarray.typeOf, defaultValue]
            · cases y
          exact ⟨T2, T.heap.size, _, X2, ⟨_, _, rfl, ⟨T.heap.size, top, rfl⟩, h1.mono⟩, (by rw [e2]; exact hH.push E2 hcr), st2⟩
        · cases h
    · cases h
  | _ => simp [xN] at h
end Step
end Jvm.Own
namespace Jvm.Own
open Jvm Jvm.ClassFile Sem Op Lib Jvm.Free Jvm.Stand Jvm.LawKit Jvm.RoadKit Bundle
theorem fetch_mem : ∀ {l : List (Nat × It)} {pc : Nat} {i : It}, fetch l pc = some i → (pc, i) ∈ l
  | [], _, _, h => by simp [fetch] at h
  | (q, j) :: r, pc, i, h => by
    unfold fetch at h
    split at h
    · rename_i e; cases h; subst e; exact List.mem_cons_self ..
    · exact List.mem_cons_of_mem _ (fetch_mem h)
theorem tgt_spec {pc q : Nat} {o : Int} (h : tgt pc o = some q) : 0 ≤ (pc : Int) + o ∧ ((pc : Int) + o).toNat = q := by
  unfold tgt at h
  split at h
  · rename_i z; cases h; exact ⟨z, rfl⟩
  · cases h
/-- the end of a method's run -/
def Done (P : PD) (Z : State) (n0 : Nat) (p : Program) (e : Env) (below : List Frame) (s : State) (ρ : List Addr) (v : Option Value) (H' : AHeap) (kc ks : Nat) (t0 : State) : Prop :=
  ∃ s₂ v' L' t, Steps p.tables e below t0 s₂ ∧ s₂.status = .running ∧ Ended s₂ below (.returned v') ∧ OV (ρ ++ t) v v' ∧ HR P Z n0 s₂.heap (ρ ++ t) H' ∧ Fr n0 L' ∧ FrameEnd s (.returned v') s₂ L' kc ks
def Cx (P : PD) (Z : State) (p : Program) (R : Room) (s : State) (m : MethodId) (meth : Method) (c : Code) (d : MD) : Prop :=
  p.tables.exec = Jvm.exec ∧ Z.Warmed39 s.vm ∧ c.code = d.bytes ∧ c.maxLocals = d.maxL ∧ s.vm.findClass d.name.cls = some m.cls ∧ meth.name = d.name.name ∧ meth.sig.returnType = d.ret ∧ meth.locks = false ∧ d.rf ≤ R.frames ∧ d.rw ≤ R.locals
/-- what the machine says of a run that has come to pc is what the model does -/
def Says (P : PD) (Z : State) (n0 : Nat) (l : Launch) (n : Nat) : Prop :=
  ∀ (mi pc : Nat) (L : List Slot) (S : List Value) (H : AHeap) (v : Option Value) (H' : AHeap) (kc ks : Nat), exe P n mi pc L S H = some (v, H', kc, ks) → ∀ d, P.mth[mi]? = some d →
    ∀ (p : Program) (e : Env) (R : Room) (s : State) (m : MethodId) (args : Array Value) (below : List Frame) (meth : Method) (c : Code) (T : State) (locs : List Loc) (cells slots : Nat),
      Stand p l e R s m args below meth c T locs cells slots → Cx P Z p R s m meth c d → cells + kc ≤ R.cells → slots + ks ≤ R.slots →
      ∀ (ρ : List Addr) (A : Array Slot) (Sc : List Value), LR ρ L A → L.length = d.maxL → SR ρ S Sc → HR P Z n0 T.heap ρ H → Fr n0 locs →
        Done P Z n0 p e below s ρ v H' (cells + kc) (slots + ks) (T.setTop (mkF m pc A Sc))
def QQ (P : PD) (Z : State) (n0 : Nat) (ρ : List Addr) (v : Option Value) (H1 : AHeap) (v' : Option Value) (h' : Heap) (L : List Loc) : Prop := Fr n0 L ∧ ∃ t, OV (ρ ++ t) v v' ∧ HR P Z n0 h' (ρ ++ t) H1
theorem met_of {P : PD} {Z : State} {n0 : Nat} {l : Launch} {n : Nat} (ih : Says P Z n0 l n) {j : Nat} {y : MD} (hy : P.mth[j]? = some y) (hpn : plainName y.name.cls = true) {as ws : List Value} {H H1 : AHeap} {v : Option Value} {kc ks : Nat} (he : exe P n j 0 (entL as y.maxL) [] H = some (v, H1, kc, ks)) {ρ : List Addr} (hS : SR ρ as ws) (hlen : (entA as).length ≤ y.maxL) {h : Heap} (hH : HR P Z n0 h ρ H) (w0 : List Jvm.Cond) (rm : Room) (r1 : y.rf ≤ rm.frames) (r2 : y.rw ≤ rm.locals) (r3 : kc ≤ rm.cells) (r4 : ks ≤ rm.slots) :
    MetFree l y.name (head1 (Jvm.Cond.code y.name y.bytes y.maxL y.ret :: w0) rm) (fun a U => a = ws.toArray ∧ Z.Warmed39 U.vm ∧ U.heap = h) (fun _ _ _ _ _ => True)
      (fun _ U o U' => ∃ v' L, o = .returned v' ∧ QQ P Z n0 ρ v H1 v' U'.heap L ∧ FrameEnd U o U' L kc ks) := by
  refine MetFree.of_bodySF (plainFor_of_name hpn) hisR ?_
  intro p e s m args below meth c s₁ Bd hml0 hP hK
  obtain ⟨rfl, hZ, hh⟩ := hP
  have X0 : Stand p l e rm s m ws.toArray below meth c s₁ [] 0 0 := Stand.of_body Bd
  have e0 : s₁.heap = h := by rw [← hh, Bd.state]; rfl
  obtain ⟨hL, hsz⟩ := LR.enter hS hlen
  have hLl : (entL as y.maxL).length = y.maxL := by rw [← hL.1]; exact hsz
  obtain ⟨s₂, v', L', t, h1, h2, h3, h4, h5, h6, h7⟩ := ih j 0 _ [] H v H1 kc ks he y hy p e _ s m ws.toArray below meth c s₁ [] 0 0 X0
    ⟨Bd.exec, hZ, Bd.bytes, hml0, findClass_of_methodNamed Bd.named, (name_of_methodNamed Bd.named Bd.method).1, Bd.returns, BodyLoose.notSynchronized Bd, r1, r2⟩
    (by rw [Nat.zero_add]; exact r3) (by rw [Nat.zero_add]; exact r4) ρ _ [] hL hLl rfl (by rw [e0]; exact hH) (Fr.nil n0)
  refine ⟨s₂, _, h1, h2, h3, v', L', rfl, ⟨h6, t, h4, h5⟩, ?_⟩
  rw [Nat.zero_add, Nat.zero_add] at h7
  exact h7
section Sound
variable {P : PD} {Z : State} {n0 : Nat} {a0 : Array Value} {l : Launch}
theorem Done.step {p : Program} {e : Env} {below : List Frame} {s : State} {ρ t : List Addr} {v : Option Value} {H' : AHeap} {kc ks : Nat} {t0 t1 : State} (h : Done P Z n0 p e below s (ρ ++ t) v H' kc ks t1) (k : ∀ target, Steps p.tables e below t1 target → Steps p.tables e below t0 target) : Done P Z n0 p e below s ρ v H' kc ks t0 := by
  obtain ⟨s₂, v', L', t', h1, h2, h3, h4, h5, h6, h7⟩ := h
  exact ⟨s₂, v', L', t ++ t', k _ h1, h2, h3, by rw [← List.append_assoc]; exact h4, by rw [← List.append_assoc]; exact h5, h6, h7⟩
theorem argsOf_spec {n : Nat} {S as rest : List Value} (h : argsOf n S = some (as, rest)) : n ≤ S.length ∧ as = (S.take n).reverse ∧ rest = S.drop n := by
  unfold argsOf at h
  split at h
  · rename_i z; cases h; exact ⟨z, rfl, rfl⟩
  · cases h
theorem res_ext {α : Type} {o : Option Res} {v : Option Value} {H' : AHeap} {kc ks c1 s1 : Nat} (h : (o.map fun r => addR r c1 s1) = some (v, H', kc, ks)) : ∃ kc' ks', o = some (v, H', kc', ks') ∧ kc = kc' + c1 ∧ ks = ks' + s1 := by
  obtain ⟨⟨v0, H0, c0, s0⟩, h1, h2⟩ := Option.map_eq_some_iff.mp h
  simp only [addR] at h2
  cases h2
  exact ⟨c0, s0, h1, rfl, rfl⟩
set_option maxHeartbeats 4000000 in
theorem sound (hP : chk P = true) (hW : ∀ w ∈ wordsOf P, w.before a0 Z = true) : ∀ n, Says P Z n0 l n
  | 0 => fun mi pc L S H v H' kc ks h => by simp [exe] at h
  | n + 1 => by
    have ih := sound hP hW n
    intro mi pc L S H v H' kc ks h d hmi
    unfold exe at h
    rw [hmi] at h
    simp only at h
    have hdm : d ∈ P.mth := List.mem_of_getElem? hmi
    split at h
    · cases h
    rename_i it i len er a b hft
    have hit := fetch_mem hft
    have hmc := mChk_of hP hdm
    simp only [mChk, Bool.and_eq_true] at hmc
    obtain ⟨⟨⟨⟨⟨⟨mc1, mc2⟩, mc3⟩, mc4⟩, mc5⟩, mc6⟩, mc7⟩ := hmc
    unfold codeChk at mc3
    rw [List.all_eq_true] at mc3
    have hci := mc3 _ hit
    simp only [Bool.and_eq_true, decide_eq_true_eq] at hci
    obtain ⟨hdec, hlenOk⟩ := hci
    -- a jump, or a fall through
    have jump : ∀ (q : Nat) (S1 : List Value) (h1 : exe P n mi q (forget er L) S1 H = some (v, H', kc, ks)),
        (∀ (p : Program) (e : Env) (R : Room) (s : State) (m : MethodId) (args : Array Value) (below : List Frame) (meth : Method) (c : Code) (T : State) (locs : List Loc) (cells slots : Nat),
          Stand p l e R s m args below meth c T locs cells slots → Cx P Z p R s m meth c d → ∀ (ρ : List Addr) (A : Array Slot) (Sc : List Value), LR ρ L A → SR ρ S Sc → ∃ Sc1, SR ρ S1 Sc1 ∧ ∀ target, Steps p.tables e below (T.setTop (mkF m q A Sc1)) target → Steps p.tables e below (T.setTop (mkF m pc A Sc)) target) →
        ∀ (p : Program) (e : Env) (R : Room) (s : State) (m : MethodId) (args : Array Value) (below : List Frame) (meth : Method) (c : Code) (T : State) (locs : List Loc) (cells slots : Nat),
          Stand p l e R s m args below meth c T locs cells slots → Cx P Z p R s m meth c d → cells + kc ≤ R.cells → slots + ks ≤ R.slots →
          ∀ (ρ : List Addr) (A : Array Slot) (Sc : List Value), LR ρ L A → L.length = d.maxL → SR ρ S Sc → HR P Z n0 T.heap ρ H → Fr n0 locs →
            Done P Z n0 p e below s ρ v H' (cells + kc) (slots + ks) (T.setTop (mkF m pc A Sc)) := by
      intro q S1 h1 st p e R s m args below meth c T locs cells slots X cx k1 k2 ρ A Sc hL hLl hS hH hF
      obtain ⟨Sc1, hS1, st1⟩ := st p e R s m args below meth c T locs cells slots X cx ρ A Sc hL hS
      have := ih mi q _ S1 H v H' kc ks h1 d hmi p e R s m args below meth c T locs cells slots X cx k1 k2 ρ A Sc1 (hL.forget er) (by rw [forget_len]; exact hLl) hS1 hH hF
      exact Done.step (t := []) (by rw [List.append_nil]; exact this) st1
    have dec : ∀ {c : Code}, c.code = d.bytes → decode c.code pc = .ok (i, len) := fun hc => by rw [hc]; exact hdec
    split at h
    · -- goto
      rename_i o
      split at h
      · rename_i q hq
        obtain ⟨t1, t2⟩ := tgt_spec hq
        have m3 := jump q S h
        obtain rfl : len = 3 := by simpa [lenOk] using hlenOk
        exact m3 fun p e R s m args below meth c T locs cells slots X cx ρ A Sc hL hS => ⟨Sc, hS, fun t z => XS.goto (g := mkF m pc A Sc) X.here cx.1 rfl (pc0 := pc) (pc' := q) rfl (dec cx.2.2.1) t1 t2 z⟩
      · cases h
    · -- if_icmp
      rename_i cd o
      split at h
      · rename_i y x S1
        obtain rfl : len = 3 := by simpa [lenOk] using hlenOk
        split at h
        · rename_i hc
          split at h
          · rename_i q hq
            obtain ⟨t1, t2⟩ := tgt_spec hq
            have m3 := jump q S1 h
            exact m3 fun p e R s m args below meth c T locs cells slots X cx ρ A Sc hL hS => by
              obtain ⟨Sa, rfl, ha⟩ := hS.int
              obtain ⟨Sb, rfl, hb⟩ := ha.int
              exact ⟨Sb, hb, fun t z => XS.icmpYes (g := mkF m pc A _) X.here cx.1 rfl (pc0 := pc) (pc' := q) rfl (dec cx.2.2.1) rfl hc t1 t2 z⟩
          · cases h
        · rename_i hc
          have m3 := jump (pc + 3) S1 h
          exact m3 fun p e R s m args below meth c T locs cells slots X cx ρ A Sc hL hS => by
            obtain ⟨Sa, rfl, ha⟩ := hS.int
            obtain ⟨Sb, rfl, hb⟩ := ha.int
            exact ⟨Sb, hb, fun t z => XS.icmpNo (g := mkF m pc A _) X.here cx.1 rfl (dec cx.2.2.1) rfl (by simpa using hc) z⟩
      · cases h
    · -- ifCond
      rename_i cd o
      split at h
      · rename_i x S1
        obtain rfl : len = 3 := by simpa [lenOk] using hlenOk
        split at h
        · rename_i hc
          split at h
          · rename_i q hq
            obtain ⟨t1, t2⟩ := tgt_spec hq
            have m3 := jump q S1 h
            exact m3 fun p e R s m args below meth c T locs cells slots X cx ρ A Sc hL hS => by
              obtain ⟨Sa, rfl, ha⟩ := hS.int
              exact ⟨Sa, ha, fun t z => XS.ifYes (g := mkF m pc A _) X.here cx.1 rfl (pc0 := pc) (pc' := q) rfl (dec cx.2.2.1) rfl hc t1 t2 z⟩
          · cases h
        · rename_i hc
          have m3 := jump (pc + 3) S1 h
          exact m3 fun p e R s m args below meth c T locs cells slots X cx ρ A Sc hL hS => by
            obtain ⟨Sa, rfl, ha⟩ := hS.int
            exact ⟨Sa, ha, fun t z => XS.ifNo (g := mkF m pc A _) X.here cx.1 rfl (dec cx.2.2.1) rfl (by simpa using hc) z⟩
      · cases h
    · -- ifnonnull
      rename_i o
      split at h
      · rename_i x S1
        split at h
        · rename_i q hq
          obtain ⟨t1, t2⟩ := tgt_spec hq
          have m3 := jump q S1 h
          obtain rfl : len = 3 := by simpa [lenOk] using hlenOk
          exact m3 fun p e R s m args below meth c T locs cells slots X cx ρ A Sc hL hS => by
            obtain ⟨ad, Sa, -, rfl, ha⟩ := hS.ref
            exact ⟨Sa, ha, fun t z => XT.ifnonnullYes (g := mkF m pc A _) X.here cx.1 rfl (pc0 := pc) (pc' := q) rfl (dec cx.2.2.1) rfl t1 t2 z⟩
        · cases h
      · cases h
    · -- ireturn
      split at h
      · rename_i x
        split at h
        · rename_i v0 hv0
          cases h
          obtain rfl : len = 1 := by simpa [lenOk] using hlenOk
          intro p e R s m args below meth c T locs cells slots X cx k1 k2 ρ A Sc hL hLl hS hH hF
          obtain ⟨hx, hZ, hby, hml, hown, hnm, hret, hlk, -, -⟩ := cx
          obtain ⟨Sa, rfl, ha⟩ := hS.int
          unfold retV at hv0
          split at hv0
          · rename_i hr0
            cases hv0
            obtain ⟨fs, hr, hrun, hended, hWm, hsame⟩ := X.leave (v := some (.int x)) (fun q => by rw [hret, hr0] at q; cases q) hlk
            exact ⟨_, _, locs, [], retI X hx (by rw [hret, hr0]) (dec hby) hr, hrun, hended, ⟨_, rfl, rfl⟩, by rw [List.append_nil]; exact hH, hF, ⟨_, rfl⟩, hWm, hsame⟩
          · rename_i hr0
            cases hv0
            obtain ⟨fs, hr, hrun, hended, hWm, hsame⟩ := X.leave (v := some (.int (x &&& 1))) (fun q => by rw [hret, hr0] at q; cases q) hlk
            exact ⟨_, _, locs, [], retN X hx (t := .boolean) (by rw [hret, hr0]) (by simp) (dec hby) hr, hrun, hended, ⟨_, rfl, rfl⟩, by rw [List.append_nil]; exact hH, hF, ⟨_, rfl⟩, hWm, hsame⟩
          · cases hv0
        · cases h
      · cases h
    · -- lreturn
      split at h
      · rename_i x
        split at h
        · rename_i hr0
          cases h
          obtain rfl : len = 1 := by simpa [lenOk] using hlenOk
          intro p e R s m args below meth c T locs cells slots X cx k1 k2 ρ A Sc hL hLl hS hH hF
          obtain ⟨hx, hZ, hby, hml, hown, hnm, hret, hlk, -, -⟩ := cx
          obtain ⟨Sa, rfl, ha⟩ := hS.long
          obtain rfl : Sa = [] := ha
          obtain ⟨fs, hr, hrun, hended, hWm, hsame⟩ := X.leave (v := some (.long x)) (fun q => by rw [hret, hr0] at q; cases q) hlk
          exact ⟨_, _, locs, [], X.lreturnOut hx (by rw [hret, hr0]) (dec hby) hr, hrun, hended, ⟨_, rfl, rfl⟩, by rw [List.append_nil]; exact hH, hF, ⟨_, rfl⟩, hWm, hsame⟩
        · cases h
      · cases h
    · -- return
      split at h
      · split at h
        · rename_i hr0
          cases h
          obtain rfl : len = 1 := by simpa [lenOk] using hlenOk
          intro p e R s m args below meth c T locs cells slots X cx k1 k2 ρ A Sc hL hLl hS hH hF
          obtain ⟨hx, hZ, hby, hml, hown, hnm, hret, hlk, -, -⟩ := cx
          obtain rfl : Sc = [] := hS
          obtain ⟨fs, hr, hrun, hended, hWm, hsame⟩ := X.leave (v := none) (fun _ => rfl) hlk
          exact ⟨_, _, locs, [], X.returnOut hx (by rw [hret, hr0]) (dec hby) hr, hrun, hended, rfl, by rw [List.append_nil]; exact hH, hF, ⟨_, rfl⟩, hWm, hsame⟩
        · cases h
      · cases h
    · -- a call, or a plain step
      split at h
      · rename_i hinv
        split at h
        · -- Object.<init>
          rename_i hb1
          subst hb1
          have hk : ∃ k x S1, i = .invokespecial k ∧ S = .ref x :: S1 ∧ (if 1 ≤ d.rf ∧ catSum S1 + 12 ≤ d.rw then exe P n mi (pc + 3) (forget er L) S1 H else none) = some (v, H', kc, ks) := by
            split at h
            · exact ⟨_, _, _, rfl, rfl, h⟩
            · cases h
          clear h
          obtain ⟨k, x, S1, rfl, rfl, h⟩ := hk
          · split at h
            · rename_i hroom
              have m3 := ih mi (pc + 3) _ S1 H v H' kc ks h d hmi
              obtain rfl : len = 3 := by simpa [lenOk] using hlenOk
              have hWi : ∀ w ∈ iWords P d (pc, .invokespecial k, 3, er, a, -1), w.before a0 Z = true := fun w q => hW w (in_wordsOf hdm hit q)
              have hWi' : ∀ w ∈ [Jvm.Cond.methodLink d.name.cls k Lib.objectInit, .instanceMethod Lib.objectInit, .code Lib.objectInit ⟨#[0xb1]⟩ 1 none], w.before a0 Z = true := hWi
              intro p e R s m args below meth c T locs cells slots X cx k1 k2 ρ A Sc hL hLl hS hH hF
              have cx0 := cx
              obtain ⟨hx, hZ, hby, hml, hown, hnm, hret, hlk, hrf, hrw⟩ := cx
              obtain ⟨ad, Sa, -, rfl, ha⟩ := hS.ref
              obtain ⟨T2, X2, e2, st2⟩ := initO X hx hZ hown (hWi' _ (by simp)) (hWi' _ (by simp)) (hWi' _ (by simp)) rfl (g := mkF m pc A (.ref ad :: Sa)) rfl (by rw [hml]; exact hL.1.trans hLl) rfl (dec hby) (by omega) (W := catSum S1) (by show 2 * 0 + _ ≤ _; rw [ha.cat]; omega) (by omega)
              have := m3 p e R s m args below meth c T2 locs cells slots X2 cx0 k1 k2 ρ A Sa (hL.forget er) (by rw [forget_len]; exact hLl) ha (by rw [e2]; exact hH) hF
              exact Done.step (t := []) (by rw [List.append_nil]; exact this) st2
            · cases h
        · rename_i hb1
          split at h
          · cases h
          rename_i y hy
          split at h
          · cases h
          rename_i as rest hao
          split at h
          · rename_i hcond
            simp only [Bool.and_eq_true, decide_eq_true_eq] at hcond
            obtain ⟨⟨⟨⟨hj, hik⟩, hrecv⟩, hroom⟩, hent⟩ := hcond
            split at h
            · rename_i v1 H1 c1 s1 hcal
              obtain ⟨c0, s0, hcon, rfl, rfl⟩ := res_ext (α := Unit) h
              have m3 := ih mi (pc + 3) _ _ H1 v H' c0 s0 hcon d hmi
              intro p e R s m args below meth c T locs cells slots X cx k1 k2 ρ A Sc hL hLl hS hH hF
              have cx0 := cx
              obtain ⟨hx, hZ, hby, hml, hown, hnm, hret, hlk, hrf, hrw⟩ := cx
              have hym : y ∈ P.mth := List.mem_of_getElem? hy
              have hyc := mChk_of hP hym
              simp only [mChk, Bool.and_eq_true, decide_eq_true_eq] at hyc
              obtain ⟨⟨⟨⟨⟨⟨yc1, yc2⟩, yc3⟩, yc4⟩, yc5⟩, yc6⟩, yc7⟩ := hyc
              simp only [fitsRoom, Bool.and_eq_true, decide_eq_true_eq] at hroom
              obtain ⟨hn, has, hrest⟩ := argsOf_spec hao
              have hnc : nargs y ≤ Sc.length := by rw [hS.len]; exact hn
              have hSa : SR ρ as (Sc.take (nargs y)).reverse := by rw [has]; exact (hS.take _).rev
              have hSr : SR ρ rest (Sc.drop (nargs y)) := by rw [hrest]; exact hS.drop _
              have hsplit : Sc = (Sc.take (nargs y)).reverse.reverse ++ Sc.drop (nargs y) := by rw [List.reverse_reverse, List.take_append_drop]
              obtain ⟨ws, hws⟩ : ∃ ws, ws = (Sc.take (nargs y)).reverse := ⟨_, rfl⟩
              obtain ⟨rc, hrc⟩ : ∃ rc, rc = Sc.drop (nargs y) := ⟨_, rfl⟩
              have hwl : ws.length = nargs y := by rw [hws]; simp; omega
              rw [← hws] at hSa hsplit
              rw [← hrc] at hSr hsplit
              have wcode := hW (.code y.name y.bytes y.maxL y.ret) (in_wordsM hy hj (List.mem_cons_self ..))
              have winit := hW (.initialized y.name.cls) (in_wordsM hy hj (List.mem_cons_of_mem _ (List.mem_cons_self ..)))
              have wmore : ∀ w ∈ (if y.kind = 0 then [Jvm.Cond.static y.name] else if y.kind = 1 then [.instanceMethod y.name] else if y.kind = 2 then [.instanceMethod y.name, .privateMethod y.name] else [.declares y.name, .selects y.name.cls y.name y.name, .instanceMethod y.name]), w.before a0 Z = true := fun w q => hW w (in_wordsM hy hj (List.mem_cons_of_mem _ (List.mem_cons_of_mem _ q)))
              have hMH : y.name.cls ≠ "java/lang/invoke/MethodHandle" ∧ y.name.cls ≠ "java/lang/invoke/VarHandle" := ⟨yc5, yc6⟩
              have back := backOf (W := catSum rest) (len := 3) (R := R) (p := p) (e := e) (below := below) (s := s) (args := args) (met_of ih hy yc1 hcal hSa hent hH [] ({ frames := y.rf, cells := c1, slots := s1, locals := y.rw } : Room) (Nat.le_refl _) (Nat.le_refl _) (Nat.le_refl _) (Nat.le_refl _)) hZ wcode winit (by show y.rf + 1 ≤ _; omega) (by show _ + y.rw ≤ _; omega)
              have hWW : 2 * (mkF m pc A Sc).monitorRoom + (rc.map fun v => v.category).sum ≤ catSum rest := by show 2 * 0 + _ ≤ _; rw [hSr.cat]; omega
              have hpar : ∀ sig, parseMethodDescriptor y.name.desc = some sig → sig.parameters.length = y.npar := fun sig q => by
                unfold sigChk at yc2
                rw [q] at yc2
                simpa using yc2
              have fin : ∀ (v1' : Option Value) (T2 : State) (Lc : List Loc), Stand p l e R s m args below meth c T2 (locs ++ Lc) (cells + c1) (slots + s1) → QQ P Z n0 ρ v1 H1 v1' T2.heap Lc →
                  (∀ target, Steps p.tables e below (T2.setTop (mkF m (pc + 3) A (v1'.toList ++ rc))) target → Steps p.tables e below (T.setTop (mkF m pc A Sc)) target) →
                  Done P Z n0 p e below s ρ v H' (cells + (c0 + c1)) (slots + (s0 + s1)) (T.setTop (mkF m pc A Sc)) := by
                intro v1' T2 Lc X2 hq st2
                obtain ⟨hF2, t, hov, hH2⟩ := hq
                have := m3 p e R s m args below meth c T2 (locs ++ Lc) _ _ X2 cx0 (by omega) (by omega) (ρ ++ t) A (v1'.toList ++ rc) (hL.forget er).mono (by rw [forget_len]; exact hLl) (hov.list.app hSr.mono) hH2 (hF.app hF2)
                have q1 : cells + c1 + c0 = cells + (c0 + c1) := by omega
                have q2 : slots + s1 + s0 = slots + (s0 + s1) := by omega
                rw [q1, q2] at this
                exact this.step st2
              have hcR : cells + c1 ≤ R.cells := by omega
              have hsR : slots + s1 ≤ R.slots := by omega
              cases i with
              | invokestatic k =>
                obtain rfl : len = 3 := by simpa [lenOk] using hlenOk
                have hk0 : y.kind = 0 := by simpa [invKind] using hik
                have wl := hW (.methodLink d.name.cls k y.name) (in_wordsOf hdm hit (by show _ ∈ mLink P d k a b; unfold mLink; rw [if_neg hb1, hy]; exact List.mem_singleton.mpr rfl))
                have wst := wmore (.static y.name) (by rw [if_pos hk0]; exact List.mem_singleton.mpr rfl)
                have hna : nargs y = y.npar := by simp [nargs, hk0]
                obtain ⟨v1', _, ⟨T2, L2, k2', n2⟩, -, X2, ⟨Lc, hQ, l2, y2, z2⟩, st2⟩ := Jvm.LawKit.callS X hx (y := y.name) hown (mvT hZ wl) (mvT hZ wst) (mvT hZ winit) (mvT hZ wcode) hMH back (g := mkF m pc A Sc) rfl (by rw [hml]; exact hL.1.trans hLl) (argsL := ws) (rest := rc) (fun sig q => by rw [hpar sig q, hwl, hna]) hsplit hWW (dec hby) (fun _ _ => ⟨rfl, rfl, hcR, hsR⟩)
                dsimp only [Pt.U, Pt.locs, Pt.cells, Pt.slots] at X2 l2 y2 z2 st2 hQ
                subst l2 y2 z2
                exact fin v1' T2 Lc X2 hQ st2
              | invokespecial k =>
                obtain rfl : len = 3 := by simpa [lenOk] using hlenOk
                have hk1 : y.kind = 1 := by simpa [invKind] using hik
                have wl := hW (.methodLink d.name.cls k y.name) (in_wordsOf hdm hit (by show _ ∈ mLink P d k a b; unfold mLink; rw [if_neg hb1, hy]; exact List.mem_singleton.mpr rfl))
                have wst := wmore (.instanceMethod y.name) (by rw [if_neg (by omega), if_pos hk1]; exact List.mem_singleton.mpr rfl)
                have hna : nargs y = y.npar + 1 := by simp [nargs, hk1]
                simp [hk1] at yc7
                have wcode' : (Jvm.Cond.code y.name y.bytes y.maxL none).before a0 Z = true := by rw [← yc7.2]; exact wcode
                unfold recvOk at hrecv
                rw [if_neg (by omega)] at hrecv
                split at hrecv
                · rename_i o as'
                  obtain ⟨ad, ws', g1, rfl, ha'⟩ := hSa.ref
                  have hst : Sc = ws'.reverse ++ .ref ad :: rc := by rw [hsplit]; simp
                  obtain ⟨v1', _, ⟨T2, L2, k2', n2⟩, -, X2, ⟨Lc, hQ, l2, y2, z2⟩, st2⟩ := X.specialBack hx (y := y.name) yc7.1 hown (mvT hZ wl) (mvT hZ wst) (mvT hZ wcode') hMH back (g := mkF m pc A Sc) rfl (by rw [hml]; exact hL.1.trans hLl) (Steps.refl _) (a := ad) (argsL := ws') (rest := rc) (fun sig q => by rw [hpar sig q]; simp [hna] at hwl; omega) hst hWW (dec hby) (fun _ _ => ⟨rfl, rfl, hcR, hsR⟩)
                  dsimp only [Pt.U, Pt.locs, Pt.cells, Pt.slots] at X2 l2 y2 z2 st2 hQ
                  subst l2 y2 z2
                  exact fin v1' T2 Lc X2 hQ fun t z => st2.trans z
                · cases hrecv
              | invokevirtual k =>
                obtain rfl : len = 3 := by simpa [lenOk] using hlenOk
                have wl := hW (.methodLink d.name.cls k y.name) (in_wordsOf hdm hit (by show _ ∈ mLink P d k a b; unfold mLink; rw [if_neg hb1, hy]; exact List.mem_singleton.mpr rfl))
                have hk23 : y.kind = 2 ∨ y.kind = 3 := by simpa [invKind] using hik
                have hk0 : ¬ y.kind = 0 := by omega
                have hk1 : ¬ y.kind = 1 := by omega
                have hna : nargs y = y.npar + 1 := by simp [nargs, hk0]
                unfold recvOk at hrecv
                rw [if_neg hk0] at hrecv
                split at hrecv
                · rename_i o as'
                  obtain ⟨ad, ws', g1, rfl, ha'⟩ := hSa.ref
                  have hst : Sc = ws'.reverse ++ .ref ad :: rc := by rw [hsplit]; simp
                  split at hrecv
                  · rename_i c0 fs hc0
                    obtain rfl : c0 = y.cid := by simpa using hrecv
                    obtain ⟨ad', g2, cd, q1, q2, q3, q4⟩ := hH.at hc0
                    rw [g1] at g2; cases g2
                    have hcd := cid_of hP hym q1
                    have hcm : cd ∈ P.cls := List.mem_of_getElem? q1
                    rw [hcd] at q2
                    by_cases hk2 : y.kind = 2
                    · have w1 := wmore (.instanceMethod y.name) (by rw [if_neg hk0, if_neg hk1, if_pos hk2]; simp)
                      have w2 := wmore (.privateMethod y.name) (by rw [if_neg hk0, if_neg hk1, if_pos hk2]; simp)
                      have w3 := hW (.instantiable cd.1 cd.2.1) (in_wordsC hcm (List.mem_cons_self ..))
                      rw [hcd] at w3
                      obtain ⟨cI, kI, i1, i2, i3, i4, -⟩ := Cond.instantiable_spec (mvT hZ w3 (args := args) : (Jvm.Cond.instantiable y.name.cls cd.2.1).before args s = true)
                      have hsel := selects_self_of_private (args := args) i1 i2 (by simp at i4; exact i4.1) (Cond.privateMethod_at (mvP hZ w2 (args := #[]))) (mvT hZ w1) hMH
                      obtain ⟨cq, hq1, hq2⟩ := q2.cell
                      obtain ⟨v1', _, ⟨T2, L2, k2', n2⟩, -, X2, ⟨Lc, hQ, l2, y2, z2⟩, st2⟩ := X.privateBack hx (y := y.name) hown (mvT hZ wl) (mvT hZ w1) hsel (Cond.privateMethod_at (mvP hZ w2 (args := #[]))) (mvT hZ wcode) hMH back (g := mkF m pc A Sc) rfl (by rw [hml]; exact hL.1.trans hLl) (Steps.refl _) (a := ad) hq1 hq2 (argsL := ws') (rest := rc) (fun sig q => by rw [hpar sig q]; simp [hna] at hwl; omega) hst hWW (dec hby) (fun _ _ => ⟨rfl, rfl, hcR, hsR⟩)
                      dsimp only [Pt.U, Pt.locs, Pt.cells, Pt.slots] at X2 l2 y2 z2 st2 hQ
                      subst l2 y2 z2
                      exact fin v1' T2 Lc X2 hQ fun t z => st2.trans z
                    · have w1 := wmore (.declares y.name) (by rw [if_neg hk0, if_neg hk1, if_neg hk2]; simp)
                      have w2 := wmore (.selects y.name.cls y.name y.name) (by rw [if_neg hk0, if_neg hk1, if_neg hk2]; simp)
                      have w3 := wmore (.instanceMethod y.name) (by rw [if_neg hk0, if_neg hk1, if_neg hk2]; simp)
                      obtain ⟨cq, kq, qa, qb, qc⟩ := isOf hZ rfl q2
                      obtain ⟨v1', _, ⟨T2, L2, k2', n2⟩, -, X2, ⟨Lc, hQ, l2, y2, z2⟩, st2⟩ := X.virtualBack hx (y := y.name) (z := y.name) hown (mvT hZ wl) (mvT hZ w1) (notFace_of_selects (args := #[]) (mvT hZ w2)) (mvT hZ w2) (mvT hZ w3) hMH back qa qc (g := mkF m pc A Sc) rfl (by rw [hml]; exact hL.1.trans hLl) (Steps.refl _) (argsL := ws') (rest := rc) (fun sig q => by rw [hpar sig q]; simp [hna] at hwl; omega) hst hWW (dec hby) (fun _ _ => ⟨rfl, rfl, hcR, hsR⟩)
                      dsimp only [Pt.U, Pt.locs, Pt.cells, Pt.slots] at X2 l2 y2 z2 st2 hQ
                      subst l2 y2 z2
                      exact fin v1' T2 Lc X2 hQ fun t z => st2.trans z
                  · cases hrecv
                · cases hrecv
              | _ => simp [isInv] at hinv
            · cases h
          · cases h
      · split at h
        · split at h
          · rename_i S1 H1 k1' hxN
            obtain ⟨c0, s0, hcon, rfl, rfl⟩ := res_ext (α := Unit) h
            have m3 := ih mi (pc + len) _ S1 H1 v H' c0 s0 hcon d hmi
            intro p e R s m args below meth c T locs cells slots X cx k1 k2 ρ A Sc hL hLl hS hH hF
            have cx0 := cx
            obtain ⟨hx, hZ, hby, hml, hown, hnm, hret, hlk, hrf, hrw⟩ := cx
            obtain ⟨T2, ad, Sc2, X2, hS2, hH2, st2⟩ := stepN (A := A) X hx hZ hown hP hW hdm hit (dec hby) hlenOk hS hH hxN (by omega) (by omega)
            have := m3 p e R s m args below meth c T2 locs _ _ X2 cx0 (by omega) (by omega) (ρ ++ [ad]) A Sc2 (hL.forget er).mono (by rw [forget_len]; exact hLl) hS2 hH2 hF
            have q1 : cells + 1 + c0 = cells + (c0 + 1) := by omega
            have q2 : slots + k1' + s0 = slots + (s0 + k1') := by omega
            rw [q1, q2] at this
            exact this.step st2
          · cases h
        · split at h
          · rename_i L1 S1 H1 hxI
            have m3 := ih mi (pc + len) L1 S1 H1 v H' kc ks h d hmi
            intro p e R s m args below meth c T locs cells slots X cx k1 k2 ρ A Sc hL hLl hS hH hF
            have cx0 := cx
            obtain ⟨hx, hZ, hby, hml, hown, hnm, hret, hlk, hrf, hrw⟩ := cx
            obtain ⟨T2, locs2, A2, Sc2, X2, x3, hL2, hS2, hH2, hF2, st2⟩ := stepX X hx hZ hown hnm hP hW hdm hit (dec hby) hlenOk (hL.forget er) hS hH hF hxI
            have := m3 p e R s m args below meth c T2 locs2 cells slots X2 cx0 k1 k2 ρ A2 Sc2 hL2 (by rw [x3, forget_len]; exact hLl) hS2 hH2 hF2
            exact Done.step (t := []) (by rw [List.append_nil]; exact this) st2
          · cases h
end Sound
end Jvm.Own
namespace Jvm.Own
open Jvm Jvm.ClassFile Sem Op Lib Jvm.Free Jvm.Stand Jvm.LawKit Jvm.RoadKit Bundle
/-! Runs of the plain machine, rule by rule -/
def OEnds (P : PD) (mi pc : Nat) (L : List Slot) (S : List Value) (H : AHeap) (r : Res) : Prop := ∃ n0, ∀ n, n0 ≤ n → exe P n mi pc L S H = some r
def plainI : Instr → Bool
  | .goto _ => false
  | .if_icmp _ _ => false
  | .ifCond _ _ => false
  | .ifnonnull _ => false
  | .ireturn => false
  | .lreturn => false
  | .return_ => false
  | .invokestatic _ => false
  | .invokespecial _ => false
  | .invokevirtual _ => false
  | .new _ => false
  | .newarray _ => false
  | _ => true
section Rules
variable {P : PD} {mi pc len a q : Nat} {er : List Bool} {b : Int} {i : Instr} {d y : MD} {L L' : List Slot} {S S' as rest : List Value} {H H' H1 : AHeap} {r : Res} {kc ks : Nat} {v : Option Value}
theorem OEnds.up (h : ∀ n, exe P n mi q L' S' H' = some r → exe P (n + 1) mi pc L S H = some r) (E : OEnds P mi q L' S' H' r) : OEnds P mi pc L S H r := by
  obtain ⟨n0, E⟩ := E
  refine ⟨n0 + 1, fun n hn => ?_⟩
  obtain ⟨k, rfl⟩ : ∃ k, n = k + 1 := ⟨n - 1, by omega⟩
  exact h k (E k (by omega))
theorem OEnds.plain (hm : P.mth[mi]? = some d) (hf : fetch d.code pc = some (i, len, er, a, b)) (hp : plainI i = true) (hx : xI P (d.name.name == "<init>") d.cid i a b (forget er L) S H = some (L', S', H')) (E : OEnds P mi (pc + len) L' S' H' r) : OEnds P mi pc L S H r := by
  refine E.up fun n h => ?_
  unfold exe
  rw [hm]
  simp only
  rw [hf]
  simp only
  split
  all_goals first | (simp [plainI] at hp; done) | skip
  have h1 : ¬ isInv i = true := by
    cases i <;> first | (simp [plainI] at hp; done) | simp [isInv]
  have h2 : ¬ isNew i = true := by
    cases i <;> first | (simp [plainI] at hp; done) | simp [isNew]
  rw [if_neg h1, if_neg h2, hx]
  exact h
theorem OEnds.goto {o : Int} (hm : P.mth[mi]? = some d) (hf : fetch d.code pc = some (.goto o, len, er, a, b)) (ht : tgt pc o = some q) (E : OEnds P mi q (forget er L) S H r) : OEnds P mi pc L S H r := by
  refine E.up fun n h => ?_
  unfold exe
  rw [hm]
  simp only
  rw [hf]
  simp only
  rw [ht]
  exact h
theorem OEnds.icmpT {o : Int} {cd : ClassFile.Cond} {x z : Int32} (hm : P.mth[mi]? = some d) (hf : fetch d.code pc = some (.if_icmp cd o, len, er, a, b)) (ht : tgt pc o = some q) (hc : if_icmp.holds cd x z = true) (E : OEnds P mi q (forget er L) S H r) : OEnds P mi pc L (.int z :: .int x :: S) H r := by
  refine E.up fun n h => ?_
  unfold exe
  rw [hm]
  simp only
  rw [hf]
  simp only
  rw [if_pos hc, ht]
  exact h
theorem OEnds.icmpF {o : Int} {cd : ClassFile.Cond} {x z : Int32} (hm : P.mth[mi]? = some d) (hf : fetch d.code pc = some (.if_icmp cd o, len, er, a, b)) (hc : if_icmp.holds cd x z = false) (E : OEnds P mi (pc + 3) (forget er L) S H r) : OEnds P mi pc L (.int z :: .int x :: S) H r := by
  refine E.up fun n h => ?_
  unfold exe
  rw [hm]
  simp only
  rw [hf]
  simp only
  rw [if_neg (by rw [hc]; exact Bool.false_ne_true)]
  exact h
theorem OEnds.ifT {o : Int} {cd : ClassFile.Cond} {x : Int32} (hm : P.mth[mi]? = some d) (hf : fetch d.code pc = some (.ifCond cd o, len, er, a, b)) (ht : tgt pc o = some q) (hc : if_icmp.holds cd x 0 = true) (E : OEnds P mi q (forget er L) S H r) : OEnds P mi pc L (.int x :: S) H r := by
  refine E.up fun n h => ?_
  unfold exe
  rw [hm]
  simp only
  rw [hf]
  simp only
  rw [if_pos ((if0 cd x).trans hc), ht]
  exact h
theorem OEnds.ifF {o : Int} {cd : ClassFile.Cond} {x : Int32} (hm : P.mth[mi]? = some d) (hf : fetch d.code pc = some (.ifCond cd o, len, er, a, b)) (hc : if_icmp.holds cd x 0 = false) (E : OEnds P mi (pc + 3) (forget er L) S H r) : OEnds P mi pc L (.int x :: S) H r := by
  refine E.up fun n h => ?_
  unfold exe
  rw [hm]
  simp only
  rw [hf]
  simp only
  rw [if_neg (by rw [if0 cd x, hc]; exact Bool.false_ne_true)]
  exact h
theorem OEnds.nonnull {o : Int} {x : Nat} (hm : P.mth[mi]? = some d) (hf : fetch d.code pc = some (.ifnonnull o, len, er, a, b)) (ht : tgt pc o = some q) (E : OEnds P mi q (forget er L) S H r) : OEnds P mi pc L (.ref x :: S) H r := by
  refine E.up fun n h => ?_
  unfold exe
  rw [hm]
  simp only
  rw [hf]
  simp only
  rw [ht]
  exact h
theorem OEnds.iret {x : Int32} {u : Value} (hm : P.mth[mi]? = some d) (hf : fetch d.code pc = some (.ireturn, len, er, a, b)) (hv : retV d.ret x = some u) : OEnds P mi pc L [.int x] H (some u, H, 0, 0) := by
  refine ⟨1, fun n hn => ?_⟩
  obtain ⟨k, rfl⟩ : ∃ k, n = k + 1 := ⟨n - 1, by omega⟩
  unfold exe
  rw [hm]
  simp only
  rw [hf]
  simp only
  rw [hv]
theorem OEnds.lret {x : Int64} (hm : P.mth[mi]? = some d) (hf : fetch d.code pc = some (.lreturn, len, er, a, b)) (hv : d.ret = some .long) : OEnds P mi pc L [.long x] H (some (.long x), H, 0, 0) := by
  refine ⟨1, fun n hn => ?_⟩
  obtain ⟨k, rfl⟩ : ∃ k, n = k + 1 := ⟨n - 1, by omega⟩
  unfold exe
  rw [hm]
  simp only
  rw [hf]
  simp only
  rw [if_pos hv]
theorem OEnds.vret (hm : P.mth[mi]? = some d) (hf : fetch d.code pc = some (.return_, len, er, a, b)) (hv : d.ret = none) : OEnds P mi pc L [] H (none, H, 0, 0) := by
  refine ⟨1, fun n hn => ?_⟩
  obtain ⟨k, rfl⟩ : ∃ k, n = k + 1 := ⟨n - 1, by omega⟩
  unfold exe
  rw [hm]
  simp only
  rw [hf]
  simp only
  rw [if_pos hv]
theorem OEnds.oinit {k x : Nat} (hm : P.mth[mi]? = some d) (hf : fetch d.code pc = some (.invokespecial k, len, er, a, -1)) (hr : 1 ≤ d.rf ∧ catSum S + 12 ≤ d.rw) (E : OEnds P mi (pc + 3) (forget er L) S H r) : OEnds P mi pc L (.ref x :: S) H r := by
  refine E.up fun n h => ?_
  unfold exe
  rw [hm]
  simp only
  rw [hf]
  simp only [isInv, if_true]
  rw [if_pos hr]
  exact h
theorem OEnds.call (hm : P.mth[mi]? = some d) (hf : fetch d.code pc = some (i, len, er, a, b)) (hi : isInv i = true) (hb : ¬ b = -1) (hy : P.mth[a]? = some y) (hao : argsOf (nargs y) S = some (as, rest))
    (hc : (decide (0 < a) && invKind i y.kind && recvOk P H y as && fitsRoom d y rest && decide ((entA as).length ≤ y.maxL)) = true) (E1 : OEnds P a 0 (entL as y.maxL) [] H (v, H1, kc, ks)) (E2 : OEnds P mi (pc + 3) (forget er L) (v.toList ++ rest) H1 r) : OEnds P mi pc L S H (addR r kc ks) := by
  obtain ⟨n1, E1⟩ := E1
  obtain ⟨n2, E2⟩ := E2
  refine ⟨n1 + n2 + 1, fun n hn => ?_⟩
  obtain ⟨k, rfl⟩ : ∃ k, n = k + 1 := ⟨n - 1, by omega⟩
  have e1 := E1 k (by omega)
  have e2 := E2 k (by omega)
  unfold exe
  rw [hm]
  simp only
  rw [hf]
  simp only
  split
  all_goals first | (simp [isInv] at hi; done) | skip
  rw [if_pos hi, if_neg hb, hy]
  simp only
  rw [hao]
  simp only
  rw [if_pos hc, e1]
  simp only
  rw [e2]
  rfl
theorem OEnds.call0 (hm : P.mth[mi]? = some d) (hf : fetch d.code pc = some (i, len, er, a, b)) (hi : isInv i = true) (hb : ¬ b = -1) (hy : P.mth[a]? = some y) (hao : argsOf (nargs y) S = some (as, rest))
    (hc : (decide (0 < a) && invKind i y.kind && recvOk P H y as && fitsRoom d y rest && decide ((entA as).length ≤ y.maxL)) = true) (E1 : OEnds P a 0 (entL as y.maxL) [] H (v, H1, 0, 0)) (E2 : OEnds P mi (pc + 3) (forget er L) (v.toList ++ rest) H1 r) : OEnds P mi pc L S H r :=
  OEnds.call (r := r) hm hf hi hb hy hao hc E1 E2
theorem OEnds.made (hm : P.mth[mi]? = some d) (hf : fetch d.code pc = some (i, len, er, a, b)) (hi : isNew i = true) (hx : xN P i a S H = some (S', H', ks)) (E : OEnds P mi (pc + len) (forget er L) S' H' r) : OEnds P mi pc L S H (addR r 1 ks) := by
  obtain ⟨n0, E⟩ := E
  refine ⟨n0 + 1, fun n hn => ?_⟩
  obtain ⟨k, rfl⟩ : ∃ k, n = k + 1 := ⟨n - 1, by omega⟩
  have e1 := E k (by omega)
  unfold exe
  rw [hm]
  simp only
  rw [hf]
  simp only
  split
  all_goals first | (simp [isNew] at hi; done) | skip
  have h1 : ¬ isInv i = true := by
    cases i <;> first | (simp [isNew] at hi; done) | simp [isInv]
  rw [if_neg h1, if_pos hi, hx]
  simp only
  rw [e1]
  rfl
end Rules
/-- k plain instructions and jumps in one go -/
def adv (P : PD) (d : MD) : Nat → Nat → List Slot → List Value → AHeap → Option (Nat × List Slot × List Value × AHeap)
  | 0, pc, L, S, H => some (pc, L, S, H)
  | k + 1, pc, L, S, H => match fetch d.code pc with
    | some (i, len, er, a, b) => match i with
      | .goto o => match tgt pc o with
        | some q => adv P d k q (forget er L) S H
        | none => none
      | i => if plainI i = true then match xI P (d.name.name == "<init>") d.cid i a b (forget er L) S H with
          | some (L', S', H') => adv P d k (pc + len) L' S' H'
          | none => none
        else none
    | none => none
theorem OEnds.adv {P : PD} {mi : Nat} {d : MD} (hm : P.mth[mi]? = some d) {r : Res} : ∀ (k : Nat) {pc pc' : Nat} {L L' : List Slot} {S S' : List Value} {H H' : AHeap}, adv P d k pc L S H = some (pc', L', S', H') → OEnds P mi pc' L' S' H' r → OEnds P mi pc L S H r
  | 0, _, _, _, _, _, _, _, _, h, E => by
    unfold Own.adv at h
    cases h
    exact E
  | k + 1, pc, pc', L, L', S, S', H, H', h, E => by
    unfold Own.adv at h
    split at h
    · rename_i it i len er a b hf
      split at h
      · rename_i o
        split at h
        · rename_i q hq
          exact OEnds.goto hm hf hq (OEnds.adv hm k h E)
        · cases h
      · split at h
        · rename_i hp
          split at h
          · rename_i L1 S1 H1 hx
            exact OEnds.plain hm hf hp hx (OEnds.adv hm k h E)
          · cases h
        · cases h
    · cases h
theorem x_iaload {P : PD} {ini : Bool} {cid a o : Nat} {b : Int} {L : List Slot} {S : List Value} {H : AHeap} {A : List Int32} {j x : Int32} (h : H[o]? = some (.inr (.inl (false, A)))) (hx : rdA A j = some x) : xI P ini cid .iaload a b L (.int j :: .ref o :: S) H = some (L, .int x :: S, H) := by simp [xI, h, hx]
theorem x_baload {P : PD} {ini : Bool} {cid a o : Nat} {b : Int} {L : List Slot} {S : List Value} {H : AHeap} {A : List Int32} {j x : Int32} (h : H[o]? = some (.inr (.inl (true, A)))) (hx : rdA A j = some x) : xI P ini cid .baload a b L (.int j :: .ref o :: S) H = some (L, .int x :: S, H) := by simp [xI, h, hx]
theorem x_laload {P : PD} {ini : Bool} {cid a o : Nat} {b : Int} {L : List Slot} {S : List Value} {H : AHeap} {A : List Int64} {j : Int32} {x : Int64} (h : H[o]? = some (.inr (.inr A))) (hx : rdA A j = some x) : xI P ini cid .laload a b L (.int j :: .ref o :: S) H = some (L, .long x :: S, H) := by simp [xI, h, hx]
theorem x_iastore {P : PD} {ini : Bool} {cid a o : Nat} {b : Int} {L : List Slot} {S : List Value} {H : AHeap} {A A' : List Int32} {j x : Int32} (h : H[o]? = some (.inr (.inl (false, A)))) (hn : P.nr ≤ o) (hx : wrA A j x = some A') : xI P ini cid .iastore a b L (.int x :: .int j :: .ref o :: S) H = some (L, S, H.set o (.inr (.inl (false, A')))) := by simp [xI, h, hx, hn]
theorem x_bastore {P : PD} {ini : Bool} {cid a o : Nat} {b : Int} {L : List Slot} {S : List Value} {H : AHeap} {A A' : List Int32} {j x : Int32} (h : H[o]? = some (.inr (.inl (true, A)))) (hn : P.nr ≤ o) (hx : wrA A j (x &&& 1) = some A') : xI P ini cid .bastore a b L (.int x :: .int j :: .ref o :: S) H = some (L, S, H.set o (.inr (.inl (true, A')))) := by simp [xI, h, hx, hn]
theorem x_lastore {P : PD} {ini : Bool} {cid a o : Nat} {b : Int} {L : List Slot} {S : List Value} {H : AHeap} {A A' : List Int64} {j : Int32} {x : Int64} (h : H[o]? = some (.inr (.inr A))) (hn : P.nr ≤ o) (hx : wrA A j x = some A') : xI P ini cid .lastore a b L (.long x :: .int j :: .ref o :: S) H = some (L, S, H.set o (.inr (.inr A'))) := by simp [xI, h, hx, hn]
theorem x_irem {P : PD} {ini : Bool} {cid a : Nat} {b : Int} {L : List Slot} {S : List Value} {H : AHeap} {x y : Int32} (h : ¬ y = 0) : xI P ini cid .irem a b L (.int y :: .int x :: S) H = some (L, .int (x % y) :: S, H) := by simp [xI, h]
theorem x_idiv {P : PD} {ini : Bool} {cid a : Nat} {b : Int} {L : List Slot} {S : List Value} {H : AHeap} {x y : Int32} (h : ¬ y = 0) : xI P ini cid .idiv a b L (.int y :: .int x :: S) H = some (L, .int (x / y) :: S, H) := by simp [xI, h]
theorem x_lrem {P : PD} {ini : Bool} {cid a : Nat} {b : Int} {L : List Slot} {S : List Value} {H : AHeap} {x y : Int64} (h : ¬ y = 0) : xI P ini cid .lrem a b L (.long y :: .long x :: S) H = some (L, .long (x % y) :: S, H) := by simp [xI, h]
theorem x_ldiv {P : PD} {ini : Bool} {cid a : Nat} {b : Int} {L : List Slot} {S : List Value} {H : AHeap} {x y : Int64} (h : ¬ y = 0) : xI P ini cid .ldiv a b L (.long y :: .long x :: S) H = some (L, .long (x / y) :: S, H) := by simp [xI, h]
theorem c_lt {x y : Int64} : XT.cmpL x y < 0 ↔ x < y := by
  unfold XT.cmpL; split <;> (try split) <;> simp_all [Int64.lt_iff_toInt_lt, ← Int64.toInt_inj] <;> omega
theorem c_gt {x y : Int64} : 0 < XT.cmpL x y ↔ y < x := by
  unfold XT.cmpL; split <;> (try split) <;> simp_all [Int64.lt_iff_toInt_lt, ← Int64.toInt_inj] <;> omega
theorem c_eq {x y : Int64} : XT.cmpL x y = 0 ↔ x = y := by
  unfold XT.cmpL; split <;> (try split) <;> simp_all [Int64.lt_iff_toInt_lt, ← Int64.toInt_inj] <;> omega
end Jvm.Own
namespace Jvm.Own
open Jvm Jvm.ClassFile Sem Op Lib Jvm.Free Jvm.Stand Jvm.LawKit Jvm.RoadKit Bundle
theorem bnd {α β : Type} {o : Option α} {f : α → Option β} {b : β} (h : o.bind f = some b) : ∃ a, o = some a ∧ f a = some b := Option.bind_eq_some_iff.mp h
theorem x_putZ {P : PD} {ini : Bool} {k cid a o : Nat} {b : Int} {L : List Slot} {S : List Value} {H : AHeap} {fs : List Value} {nm ds : String} {x : Int32} (h : H[o]? = some (.inl (cid, fs))) (hn : P.nr ≤ o) (hf : ((P.cls[cid]?).bind fun cd => cd.2.2[a]?) = some (nm, ds, .boolean, false)) (hx : x = 0 ∨ x = 1) :
    xI P ini cid (.putfield k) a b L (.int x :: .ref o :: S) H = some (L, S, H.set o (.inl (cid, fs.set a (.int x)))) := by
  rcases hx with rfl | rfl <;> simp [xI, h, hn, hf, putOk]
section Rules
variable {P : PD} {mi pc len a q : Nat} {er : List Bool} {b : Int} {i : Instr} {d y : MD} {L L' : List Slot} {S S' as rest : List Value} {H H' H1 : AHeap} {r : Res} {kc ks : Nat} {v : Option Value}
theorem OEnds.made1 {w : Option Value} {Hf : AHeap} (hm : P.mth[mi]? = some d) (hf : fetch d.code pc = some (i, len, er, a, b)) (hi : isNew i = true) (hx : xN P i a S H = some (S', H', ks)) {c0 s0 c1 s1 : Nat} (hr : (c1, s1) = (c0 + 1, s0 + ks)) (E : OEnds P mi (pc + len) (forget er L) S' H' (w, Hf, c0, s0)) : OEnds P mi pc L S H (w, Hf, c1, s1) := by
  cases hr
  exact OEnds.made (r := (w, Hf, c0, s0)) hm hf hi hx E
/-! The same, of a run whose end is told by a property -/
def OEndsQ (P : PD) (mi pc : Nat) (L : List Slot) (S : List Value) (H : AHeap) (Q : Res → Prop) : Prop := ∃ r, OEnds P mi pc L S H r ∧ Q r
variable {Q : Res → Prop}
theorem OEndsQ.plain (hm : P.mth[mi]? = some d) (hf : fetch d.code pc = some (i, len, er, a, b)) (hp : plainI i = true) (hx : xI P (d.name.name == "<init>") d.cid i a b (forget er L) S H = some (L', S', H')) (E : OEndsQ P mi (pc + len) L' S' H' Q) : OEndsQ P mi pc L S H Q := by
  obtain ⟨r, E, hq⟩ := E; exact ⟨r, OEnds.plain hm hf hp hx E, hq⟩
theorem OEndsQ.icmpT {o : Int} {cd : ClassFile.Cond} {x z : Int32} (hm : P.mth[mi]? = some d) (hf : fetch d.code pc = some (.if_icmp cd o, len, er, a, b)) (ht : tgt pc o = some q) (hc : if_icmp.holds cd x z = true) (E : OEndsQ P mi q (forget er L) S H Q) : OEndsQ P mi pc L (.int z :: .int x :: S) H Q := by
  obtain ⟨r, E, hq⟩ := E; exact ⟨r, OEnds.icmpT hm hf ht hc E, hq⟩
theorem OEndsQ.icmpF {o : Int} {cd : ClassFile.Cond} {x z : Int32} (hm : P.mth[mi]? = some d) (hf : fetch d.code pc = some (.if_icmp cd o, len, er, a, b)) (hc : if_icmp.holds cd x z = false) (E : OEndsQ P mi (pc + 3) (forget er L) S H Q) : OEndsQ P mi pc L (.int z :: .int x :: S) H Q := by
  obtain ⟨r, E, hq⟩ := E; exact ⟨r, OEnds.icmpF hm hf hc E, hq⟩
theorem OEndsQ.ifT {o : Int} {cd : ClassFile.Cond} {x : Int32} (hm : P.mth[mi]? = some d) (hf : fetch d.code pc = some (.ifCond cd o, len, er, a, b)) (ht : tgt pc o = some q) (hc : if_icmp.holds cd x 0 = true) (E : OEndsQ P mi q (forget er L) S H Q) : OEndsQ P mi pc L (.int x :: S) H Q := by
  obtain ⟨r, E, hq⟩ := E; exact ⟨r, OEnds.ifT hm hf ht hc E, hq⟩
theorem OEndsQ.ifF {o : Int} {cd : ClassFile.Cond} {x : Int32} (hm : P.mth[mi]? = some d) (hf : fetch d.code pc = some (.ifCond cd o, len, er, a, b)) (hc : if_icmp.holds cd x 0 = false) (E : OEndsQ P mi (pc + 3) (forget er L) S H Q) : OEndsQ P mi pc L (.int x :: S) H Q := by
  obtain ⟨r, E, hq⟩ := E; exact ⟨r, OEnds.ifF hm hf hc E, hq⟩
theorem OEndsQ.nonnull {o : Int} {x : Nat} (hm : P.mth[mi]? = some d) (hf : fetch d.code pc = some (.ifnonnull o, len, er, a, b)) (ht : tgt pc o = some q) (E : OEndsQ P mi q (forget er L) S H Q) : OEndsQ P mi pc L (.ref x :: S) H Q := by
  obtain ⟨r, E, hq⟩ := E; exact ⟨r, OEnds.nonnull hm hf ht E, hq⟩
theorem OEndsQ.call0 (hm : P.mth[mi]? = some d) (hf : fetch d.code pc = some (i, len, er, a, b)) (hi : isInv i = true) (hb : ¬ b = -1) (hy : P.mth[a]? = some y) (hao : argsOf (nargs y) S = some (as, rest))
    (hc : (decide (0 < a) && invKind i y.kind && recvOk P H y as && fitsRoom d y rest && decide ((entA as).length ≤ y.maxL)) = true) (E1 : OEnds P a 0 (entL as y.maxL) [] H (v, H1, 0, 0)) (E2 : OEndsQ P mi (pc + 3) (forget er L) (v.toList ++ rest) H1 Q) : OEndsQ P mi pc L S H Q := by
  obtain ⟨r, E, hq⟩ := E2; exact ⟨r, OEnds.call0 hm hf hi hb hy hao hc E1 E, hq⟩
theorem OEndsQ.adv (hm : P.mth[mi]? = some d) (k : Nat) {pc' : Nat} (h : adv P d k pc L S H = some (pc', L', S', H')) (E : OEndsQ P mi pc' L' S' H' Q) : OEndsQ P mi pc L S H Q := by
  obtain ⟨r, E, hq⟩ := E; exact ⟨r, OEnds.adv hm k h E, hq⟩
/-- what a law's run ends with: its answer, and at the most so many cells and slots made -/
def LawQ (x : Int32) (kc ks : Nat) (r : Res) : Prop := r.1 = some (.int x) ∧ r.2.2.1 ≤ kc ∧ r.2.2.2 ≤ ks
theorem OEndsQ.iret {x u : Int32} (hm : P.mth[mi]? = some d) (hf : fetch d.code pc = some (.ireturn, len, er, a, b)) (hv : retV d.ret x = some (.int u)) : OEndsQ P mi pc L [.int x] H (LawQ u kc ks) :=
  ⟨_, OEnds.iret hm hf hv, rfl, Nat.zero_le _, Nat.zero_le _⟩
theorem OEndsQ.weak {x : Int32} {c0 s0 : Nat} (h1 : c0 ≤ kc) (h2 : s0 ≤ ks) (E : OEndsQ P mi pc L S H (LawQ x c0 s0)) : OEndsQ P mi pc L S H (LawQ x kc ks) := by
  obtain ⟨r, E, q1, q2, q3⟩ := E; exact ⟨r, E, q1, Nat.le_trans q2 h1, Nat.le_trans q3 h2⟩
theorem OEndsQ.made {x : Int32} {c0 s0 c1 s1 : Nat} (hm : P.mth[mi]? = some d) (hf : fetch d.code pc = some (i, len, er, a, b)) (hi : isNew i = true) (hx : xN P i a S H = some (S', H', ks)) (h1 : c0 + 1 ≤ c1) (h2 : s0 + ks ≤ s1) (E : OEndsQ P mi (pc + len) (forget er L) S' H' (LawQ x c0 s0)) : OEndsQ P mi pc L S H (LawQ x c1 s1) := by
  obtain ⟨⟨v, Hf, k, n⟩, E, q1, q2, q3⟩ := E
  dsimp only at q1 q2 q3
  exact ⟨_, OEnds.made hm hf hi hx E, q1, by show k + 1 ≤ c1; omega, by show n + ks ≤ s1; omega⟩
theorem OEndsQ.callN {x : Int32} {c0 s0 c1 s1 : Nat} (hm : P.mth[mi]? = some d) (hf : fetch d.code pc = some (i, len, er, a, b)) (hi : isInv i = true) (hb : ¬ b = -1) (hy : P.mth[a]? = some y) (hao : argsOf (nargs y) S = some (as, rest))
    (hc : (decide (0 < a) && invKind i y.kind && recvOk P H y as && fitsRoom d y rest && decide ((entA as).length ≤ y.maxL)) = true) (E1 : OEnds P a 0 (entL as y.maxL) [] H (v, H1, kc, ks)) (h1 : c0 + kc ≤ c1) (h2 : s0 + ks ≤ s1) (E2 : OEndsQ P mi (pc + 3) (forget er L) (v.toList ++ rest) H1 (LawQ x c0 s0)) : OEndsQ P mi pc L S H (LawQ x c1 s1) := by
  obtain ⟨⟨v, Hf, k, n⟩, E, q1, q2, q3⟩ := E2
  dsimp only at q1 q2 q3
  exact ⟨_, OEnds.call hm hf hi hb hy hao hc E1 E, q1, by show k + kc ≤ c1; omega, by show n + ks ≤ s1; omega⟩
end Rules
/-! From the machine to the claim -/
theorem law_met {P : PD} {Z : State} {a0 : Array Value} {l : Launch} {y : MD} {as ws : List Value} {H : AHeap} {ρ : List Addr} {n0 kc ks : Nat} {h : Heap} (hP : chk P = true) (hW : ∀ w ∈ wordsOf P, w.before a0 Z = true) (hy : P.mth[0]? = some y)
    (E : OEndsQ P 0 0 (entL as y.maxL) [] H (LawQ 1 kc ks)) (hS : SR ρ as ws) (hlen : (entA as).length ≤ y.maxL) (hH : HR P Z n0 h ρ H) (w0 : List Jvm.Cond) (rm : Room) (r1 : y.rf ≤ rm.frames) (r2 : y.rw ≤ rm.locals) (r3 : kc ≤ rm.cells) (r4 : ks ≤ rm.slots) :
    MetFree l y.name (head1 (Jvm.Cond.code y.name y.bytes y.maxL y.ret :: w0) rm) (fun a U => a = ws.toArray ∧ Z.Warmed39 U.vm ∧ U.heap = h) (fun _ _ _ _ _ => True)
      (fun _ U o U' => ∃ L, o = .returned (some (.int 1)) ∧ Fr n0 L ∧ FrameEnd U o U' L kc ks) := by
  obtain ⟨⟨v, H1, c1, s1⟩, ⟨n, E⟩, q1, q2, q3⟩ := E
  dsimp only at q1 q2 q3
  subst q1
  have hpn : plainName y.name.cls = true := by
    have := mChk_of hP (List.mem_of_getElem? hy)
    simp only [mChk, Bool.and_eq_true] at this
    exact this.1.1.1.1.1.1
  have M := met_of (l := l) (n := n) (sound hP hW n) hy hpn (E n (Nat.le_refl _)) hS hlen hH w0 rm r1 r2 (Nat.le_trans q2 r3) (Nat.le_trans q3 r4)
  intro p e ha hc hk s m args below hf happ hp hK
  obtain ⟨n', o, h1, h2, h3, v', L, rfl, ⟨hF, t, ⟨u, rfl, hu⟩, -⟩, hq⟩ := M p e ha hc hk s m args below hf happ hp hK
  obtain rfl : u = .int 1 := hu
  exact ⟨n', _, h1, h2, h3, L, rfl, hF, hq.1, hq.2.1, hq.2.2.mono q2 q3⟩
end Jvm.Own
namespace Jvm.Own
open Jvm Jvm.ClassFile Sem Op Lib Jvm.Free Jvm.Stand Jvm.LawKit Jvm.RoadKit Bundle
/-- the law's script: an int array of at most 260 -/
theorem script_of {s : State} {ad : Addr} {cl : Cell} (hf : Fit s) (A : Arr s s.heap ad cl .int) (e0 : (Term.arg 0).eval #[.ref ad] s none [] s = some (.ref ad)) (hn : (Jvm.Cond.le (.length (.arg 0)) (.int 260)).value #[.ref ad] s none s [] = some true) :
    ∃ scr : List Int32, cl.slots.size = scr.length ∧ scr.length ≤ 260 ∧ ∀ (i : Nat) x, scr[i]? = some x → cl.slots[i]? = some (.int x) := by
  obtain ⟨u, v, g1, g2, -, -⟩ := cmp_v (Or.inr (Or.inr hn))
  obtain ⟨a', cl', z1, z2, z3⟩ := Term.length_spec g1
  have hat := A.fin (Vm.Alike.refl _)
  rw [e0] at z1
  cases z1
  rw [hat] at z2
  cases z2
  have hsz : cl.slots.size < 2 ^ 31 := by
    rcases Nat.lt_or_ge cl.slots.size (2 ^ 31) with q | q
    · exact q
    · exfalso
      simp [Term.eval, hat] at g1
      omega
  subst z3
  have hv : v = .int 260 := by simpa [Term.eval] using g2.symm
  subst hv
  have hle : cl.slots.size.toInt32 ≤ 260 := by
    simpa [Cond.value, g1, g2] using hn
  have hle' : cl.slots.size ≤ 260 := by
    rw [Int32.le_iff_toInt_le, len_toInt hsz] at hle
    have : (260 : Int32).toInt = 260 := rfl
    rw [this] at hle
    omega
  have key : ∀ i, i < cl.slots.size → ∃ x, cl.slots[i]? = some (.int x) := fun i hi => by
    have hj := idx_in hi hsz
    obtain ⟨v, e1, e2⟩ := elem_fit hf A hj
    have : i.toInt32.toNatClampNeg = i := by
      have h1 : i.toInt32.toInt = i := len_toInt (by omega)
      simp [Int32.toNatClampNeg, h1]
    rw [this] at e1
    obtain ⟨x, rfl⟩ := fit_I e2 (Or.inl rfl)
    exact ⟨x, e1⟩
  refine ⟨cl.slots.toList.map fun v => match v with | .int x => x | _ => 0, by simp, by simpa using hle', fun i x hx => ?_⟩
  rw [List.getElem?_map] at hx
  obtain ⟨v, h1, h2⟩ := Option.map_eq_some_iff.mp hx
  have h1' : cl.slots[i]? = some v := by simpa using h1
  obtain ⟨y, hy⟩ := key i (Array.getElem?_eq_some_iff.mp h1').1
  rw [h1'] at hy
  cases hy
  rw [h1']
  simp at h2
  rw [h2]
theorem hr_script {P : PD} {s : State} {ad : Addr} {cl : Cell} {scr : List Int32} (hnr : P.nr = 1) (A : Arr s s.heap ad cl .int) (h1 : cl.slots.size = scr.length) (h2 : scr.length ≤ 260) (h3 : ∀ (i : Nat) x, scr[i]? = some x → cl.slots[i]? = some (.int x)) : HR P s s.heap.size s.heap [ad] [.inr (.inl (false, scr))] := by
  refine ⟨Nat.le_refl _, rfl, fun i j a g1 g2 => ?_, fun k a g1 g2 => ?_, fun k a c g1 g2 => ?_⟩
  · match i, j, g1, g2 with
    | 0, 0, _, _ => rfl
    | i + 1, _, g1, _ => simp at g1
    | 0, j + 1, _, g2 => simp at g2
  · match k, g1, g2 with
    | 0, _, g2 => rw [hnr] at g2; omega
    | k + 1, g1, _ => simp at g1
  · match k, g1, g2 with
    | 0, g1, g2 =>
      simp at g1 g2
      subst g1 g2
      exact ⟨cl, A, h1, by omega, h3⟩
    | k + 1, g1, _ => simp at g1
end Jvm.Own
namespace Jvm.Own
open Jvm
/-! Ints in range, arrays -/
theorem ilt {a b : Int32} : a < b ↔ a.toInt < b.toInt := Int32.lt_iff_toInt_lt
theorem ile {a b : Int32} : a ≤ b ↔ a.toInt ≤ b.toInt := Int32.le_iff_toInt_le
theorem ieq {a b : Int32} : a = b ↔ a.toInt = b.toInt := Int32.toInt_inj.symm
theorem irng (a : Int32) : -2147483648 ≤ a.toInt ∧ a.toInt < 2147483648 := ⟨Int32.le_toInt a, Int32.toInt_lt a⟩
theorem iadd_i {a b : Int32} (h1 : -2147483648 ≤ a.toInt + b.toInt) (h2 : a.toInt + b.toInt < 2147483648) : (a + b).toInt = a.toInt + b.toInt := by
  rw [Int32.toInt_add]; exact Int.bmod_eq_of_le (by omega) (by omega)
theorem isub_i {a b : Int32} (h1 : -2147483648 ≤ a.toInt - b.toInt) (h2 : a.toInt - b.toInt < 2147483648) : (a - b).toInt = a.toInt - b.toInt := by
  rw [Int32.toInt_sub]; exact Int.bmod_eq_of_le (by omega) (by omega)
theorem imul_i {a b : Int32} (h1 : -2147483648 ≤ a.toInt * b.toInt) (h2 : a.toInt * b.toInt < 2147483648) : (a * b).toInt = a.toInt * b.toInt := by
  rw [Int32.toInt_mul]; exact Int.bmod_eq_of_le (by omega) (by omega)
theorem rdA_nn {α : Type} {L : List α} {j : Int32} (h0 : 0 ≤ j.toInt) : rdA L j = L[j.toInt.toNat]? := by
  unfold rdA
  rw [if_neg (by rw [ilt]; exact Int.not_lt.mpr h0)]
  rfl
theorem rdA_in {α : Type} {L : List α} {j : Int32} (h0 : 0 ≤ j.toInt) (h1 : j.toInt.toNat < L.length) : rdA L j = some L[j.toInt.toNat] := by
  rw [rdA_nn h0, List.getElem?_eq_getElem h1]
theorem wrA_in {α : Type} {L : List α} {j : Int32} {x : α} (h0 : 0 ≤ j.toInt) (h1 : j.toInt.toNat < L.length) : wrA L j x = some (L.set j.toInt.toNat x) := by
  unfold wrA
  rw [if_neg (by rw [ilt]; exact Int.not_lt.mpr h0)]
  exact if_pos h1
theorem rdA_rep {α : Type} {n : Nat} {x : α} {j : Int32} (h0 : 0 ≤ j.toInt) (h1 : j.toInt < n) : rdA (List.replicate n x) j = some x := by
  rw [rdA_nn h0, List.getElem?_replicate, if_pos (by omega)]
end Jvm.Own
namespace Jvm.Own
open Jvm
/-! Sums of ints with their wrap, for omega; runs that answer, and what they answer -/
theorem bmod32 (x : Int) : x.bmod (2 ^ 32) = (x + 2147483648) % 4294967296 - 2147483648 := by
  rw [Int.bmod_def]
  split <;> omega
theorem iadd_e (a b : Int32) : (a + b).toInt = (a.toInt + b.toInt + 2147483648) % 4294967296 - 2147483648 := by
  rw [Int32.toInt_add, bmod32]
theorem isub_e (a b : Int32) : (a - b).toInt = (a.toInt - b.toInt + 2147483648) % 4294967296 - 2147483648 := by
  rw [Int32.toInt_sub, bmod32]
theorem imul_e (a b : Int32) : (a * b).toInt = (a.toInt * b.toInt + 2147483648) % 4294967296 - 2147483648 := by
  rw [Int32.toInt_mul, bmod32]
theorem iscr {n : Nat} (h : n ≤ 260) : (n.toInt32).toInt = n := Int32.toInt_ofNat_of_lt (by omega)
def Tot {α : Type} (x : Option α) (P : α → Prop) : Prop := ∃ r, x = some r ∧ P r
theorem Tot.mk {α : Type} {P : α → Prop} {a : α} (h : P a) : Tot (some a) P := ⟨a, rfl, h⟩
theorem Tot.bind {α β : Type} {x : Option α} {f : α → Option β} {P : α → Prop} {Q : β → Prop} (h : Tot x P) (g : ∀ a, P a → Tot (f a) Q) : Tot (x.bind f) Q := by
  obtain ⟨r, e, p⟩ := h
  rw [e]
  exact g r p
theorem Tot.mono {α : Type} {x : Option α} {P Q : α → Prop} (h : Tot x P) (g : ∀ a, P a → Q a) : Tot x Q := by
  obtain ⟨r, e, p⟩ := h
  exact ⟨r, e, g r p⟩
theorem Tot.ite {α : Type} {c : Prop} [Decidable c] {a b : Option α} {Q : α → Prop} (h1 : c → Tot a Q) (h2 : ¬ c → Tot b Q) : Tot (if c then a else b) Q := by
  by_cases h : c
  · rw [if_pos h]; exact h1 h
  · rw [if_neg h]; exact h2 h
theorem Tot.rd {α β : Type} {L : List α} {j : Int32} {f : α → Option β} {Q : β → Prop} (h0 : 0 ≤ j.toInt) (h1 : j.toInt < L.length) (g : ∀ a, L[j.toInt.toNat]? = some a → Tot (f a) Q) : Tot ((rdA L j).bind f) Q := by
  have h2 : j.toInt.toNat < L.length := by omega
  rw [rdA_in h0 h2]
  exact g _ (List.getElem?_eq_getElem h2)
theorem Tot.wr {α β : Type} {L : List α} {j : Int32} {x : α} {f : List α → Option β} {Q : β → Prop} (h0 : 0 ≤ j.toInt) (h1 : j.toInt < L.length) (g : ∀ L' : List α, L' = L.set j.toInt.toNat x → L'.length = L.length → Tot (f L') Q) : Tot ((wrA L j x).bind f) Q := by
  rw [wrA_in h0 (by omega)]
  exact g _ rfl (by simp)
theorem Tot.eq {α : Type} {x : Option α} {a : α} (h : Tot x (fun r => r = a)) : x = some a := by
  obtain ⟨r, e, p⟩ := h
  rw [e, p]
theorem Tot.of {α : Type} {x : Option α} {a : α} {P : α → Prop} (e : x = some a) (p : P a) : Tot x P := ⟨a, e, p⟩
/-- a bit mask at 15, 31 .. -/
theorem iand_rng (x : Int32) (m : Int32) (h : 0 ≤ m.toInt) : 0 ≤ (x &&& m).toInt ∧ (x &&& m).toInt ≤ m.toInt := by
  have hm : m.toBitVec.msb = false := by
    rw [BitVec.msb_eq_toInt]; simpa using h
  have hx : (x &&& m).toBitVec.msb = false := by
    rw [Int32.toBitVec_and, BitVec.msb_and, hm, Bool.and_false]
  have e1 : m.toInt = (m.toBitVec.toNat : Int) := BitVec.toInt_eq_toNat_of_msb hm
  have e2 : (x &&& m).toInt = (((x &&& m).toBitVec).toNat : Int) := BitVec.toInt_eq_toNat_of_msb hx
  have e3 : ((x &&& m).toBitVec).toNat ≤ m.toBitVec.toNat := by
    rw [Int32.toBitVec_and, BitVec.toNat_and]; exact Nat.and_le_right
  omega
def gI (L : List Int32) (j : Int32) : Int32 := (rdA L j).getD 0
theorem rdg {L : List Int32} {j : Int32} (h0 : 0 ≤ j.toInt) (h1 : j.toInt < L.length) : rdA L j = some (gI L j) := by
  have h2 : j.toInt.toNat < L.length := by omega
  unfold gI
  rw [rdA_in h0 h2]
  (first | done | rfl | simp)
theorem gset {L : List Int32} {i j : Int32} {x : Int32} (hi : 0 ≤ i.toInt) (hl : i.toInt < L.length) (hj : 0 ≤ j.toInt) : gI (L.set i.toInt.toNat x) j = if i = j then x else gI L j := by
  unfold gI
  rw [rdA_nn hj, rdA_nn hj]
  by_cases h : i = j
  · subst h
    rw [if_pos rfl, List.getElem?_set_self (by omega)]
    (first | done | rfl | simp)
  · rw [if_neg h, List.getElem?_set_ne (by rw [ieq] at h; omega)]
theorem gext {A B : List Int32} (hl : A.length < 100000) (ha : A.length = B.length) (h : ∀ i : Int32, 0 ≤ i.toInt → i.toInt < A.length → gI A i = gI B i) : A = B := by
  apply List.ext_getElem ha
  intro k h1 h2
  have e : (Int32.ofNat k).toInt = k := Int32.toInt_ofNat_of_lt (by omega)
  have q := h (Int32.ofNat k) (by omega) (by omega)
  unfold gI at q
  rw [rdA_nn (by omega), rdA_nn (by omega), e] at q
  simpa [h1, h2] using q
theorem Tot.rdI {β : Type} {L : List Int32} {j : Int32} {f : Int32 → Option β} {Q : β → Prop} (h0 : 0 ≤ j.toInt) (h1 : j.toInt < L.length) (g : Tot (f (gI L j)) Q) : Tot ((rdA L j).bind f) Q := by
  rw [rdg h0 h1]
  exact g
theorem gI_rep {n : Nat} {x : Int32} {j : Int32} (h0 : 0 ≤ j.toInt) (h1 : j.toInt < n) : gI (List.replicate n x) j = x := by
  unfold gI
  rw [rdA_rep h0 h1]
  (first | done | rfl | simp)
/-! Longs -/
theorem lltI {a b : Int64} : a < b ↔ a.toInt < b.toInt := Int64.lt_iff_toInt_lt
theorem leqI {a b : Int64} : a = b ↔ a.toInt = b.toInt := Int64.toInt_inj.symm
theorem lrng (a : Int64) : -9223372036854775808 ≤ a.toInt ∧ a.toInt < 9223372036854775808 := ⟨Int64.le_toInt a, Int64.toInt_lt a⟩
theorem ladd_i {a b : Int64} (h1 : -9223372036854775808 ≤ a.toInt + b.toInt) (h2 : a.toInt + b.toInt < 9223372036854775808) : (a + b).toInt = a.toInt + b.toInt := by
  rw [Int64.toInt_add]; exact Int.bmod_eq_of_le (by omega) (by omega)
theorem lsub_i {a b : Int64} (h1 : -9223372036854775808 ≤ a.toInt - b.toInt) (h2 : a.toInt - b.toInt < 9223372036854775808) : (a - b).toInt = a.toInt - b.toInt := by
  rw [Int64.toInt_sub]; exact Int.bmod_eq_of_le (by omega) (by omega)
theorem lmul_i {a b : Int64} (h1 : -9223372036854775808 ≤ a.toInt * b.toInt) (h2 : a.toInt * b.toInt < 9223372036854775808) : (a * b).toInt = a.toInt * b.toInt := by
  rw [Int64.toInt_mul]; exact Int.bmod_eq_of_le (by omega) (by omega)
theorem lmod_i {a b : Int64} (h : 0 ≤ a.toInt) : (a % b).toInt = a.toInt % b.toInt := by
  rw [Int64.toInt_mod, Int.tmod_eq_emod_of_nonneg h]
theorem lback {a : Int64} (h1 : -2147483648 ≤ a.toInt) (h2 : a.toInt < 2147483648) : a.toInt32.toInt64 = a := by
  rw [leqI, Int32.toInt_toInt64, Int64.toInt_toInt32, bmod32]
  omega
theorem mulb {a b M : Int} (h0 : 0 ≤ a) (h1 : a ≤ M) (h2 : 0 ≤ b) (h3 : b ≤ M) : 0 ≤ a * b ∧ a * b ≤ M * M :=
  ⟨Int.mul_nonneg h0 h2, Int.mul_le_mul h1 h3 h2 (by omega)⟩
end Jvm.Own
namespace Jvm.Pilot.@@N@@
open Jvm Jvm.ClassFile Sem Op Lib Jvm.Free Jvm.Stand Jvm.LawKit Jvm.RoadKit Bundle Jvm.Own Jvm.Pilot.@@N@@.Jvm.D
def d_0 : MD := (x, code, maxLocals, ret, 0, 1, 999, 5, 73, [(0, .new 7, 3, [], 0, 0), (3, .dup, 1, [], 0, 0), (4, .iconst 4, 1, [], 0, 0), (5, .iconst 3, 1, [], 0, 0), (6, .invokespecial 9, 3, [], 1, 0), (9, .astore_n 1, 1, [], 0, 0), (10, .iconst 0, 1, [], 0, 0), (11, .istore_n 2, 1, [], 0, 0), (12, .iconst 0, 1, [], 0, 0), (13, .istore_n 3, 1, [], 0, 0), (14, .iconst 0, 1, [], 0, 0), (15, .istore 4, 2, [], 0, 0), (17, .iconst 0, 1, [], 0, 0), (18, .istore 5, 2, [], 0, 0), (20, .iconst 0, 1, [], 0, 0), (21, .istore 6, 2, [], 0, 0), (23, .iconst 0, 1, [], 0, 0), (24, .istore 7, 2, [], 0, 0), (26, .iconst 0, 1, [], 0, 0), (27, .istore 8, 2, [], 0, 0), (29, .iconst (-1), 1, [], 0, 0), (30, .istore 9, 2, [], 0, 0), (32, .iconst (-1), 1, [], 0, 0), (33, .istore 10, 2, [], 0, 0), (35, .iconst (-1), 1, [], 0, 0), (36, .istore 11, 2, [], 0, 0), (38, .iconst (-1), 1, [], 0, 0), (39, .istore 12, 2, [], 0, 0), (41, .iconst 0, 1, [], 0, 0), (42, .istore 13, 2, [], 0, 0), (44, .iload 13, 2, [false, false, false, false, false, false, false, false, false, false, false, false, false, false, true, true, true, true, true, true, true, true, true], 0, 0), (46, .iconst 1, 1, [], 0, 0), (47, .iadd, 1, [], 0, 0), (48, .aload_n 0, 1, [], 0, 0), (49, .arraylength, 1, [], 0, 0), (50, .if_icmp .ge 650, 3, [], 0, 0), (53, .aload_n 0, 1, [], 0, 0), (54, .iload 13, 2, [], 0, 0), (56, .iaload, 1, [], 0, 0), (57, .bipush 7, 2, [], 0, 0), (59, .iand, 1, [], 0, 0), (60, .istore 14, 2, [], 0, 0), (62, .aload_n 0, 1, [], 0, 0), (63, .iload 13, 2, [], 0, 0), (65, .iconst 1, 1, [], 0, 0), (66, .iadd, 1, [], 0, 0), (67, .iaload, 1, [], 0, 0), (68, .istore 15, 2, [], 0, 0), (70, .iload 14, 2, [], 0, 0), (72, .iconst 1, 1, [], 0, 0), (73, .if_icmp .gt 86, 3, [], 0, 0), (76, .bipush 96, 2, [], 0, 0), (78, .iload 15, 2, [], 0, 0), (80, .bipush 7, 2, [], 0, 0), (82, .iand, 1, [], 0, 0), (83, .iadd, 1, [], 0, 0), (84, .istore 18, 2, [], 0, 0), (86, .aload_n 1, 1, [], 0, 0), (87, .iload 18, 2, [], 0, 0), (89, .invokevirtual 12, 3, [], 10, 0), (92, .istore 16, 2, [], 0, 0), (94, .iload_n 2, 1, [], 0, 0), (95, .ifCond .eq 9, 3, [], 0, 0), (98, .iconst (-1), 1, [], 0, 0), (99, .istore 17, 2, [], 0, 0), (101, .goto 55, 3, [], 0, 0), (104, .iload 18, 2, [], 0, 0), (106, .bipush 97, 2, [], 0, 0), (108, .if_icmp .ge 10, 3, [], 0, 0), (111, .bipush (-2), 2, [], 0, 0), (113, .istore 17, 2, [], 0, 0), (115, .goto 41, 3, [], 0, 0), (118, .iload_n 3, 1, [], 0, 0), (119, .iconst 4, 1, [], 0, 0), (120, .if_icmp .eq 9, 3, [], 0, 0), (123, .iload 4, 2, [], 0, 0), (125, .iconst 3, 1, [], 0, 0), (126, .if_icmp .ne 10, 3, [], 0, 0), (129, .bipush (-3), 2, [], 0, 0), (131, .istore 17, 2, [], 0, 0), (133, .goto 23, 3, [], 0, 0), (136, .iinc 4 1, 3, [], 0, 0), (139, .iload 5, 2, [], 0, 0), (141, .bipush 16, 2, [], 0, 0), (143, .imul, 1, [], 0, 0), (144, .iload 18, 2, [], 0, 0), (146, .bipush 96, 2, [], 0, 0), (148, .isub, 1, [], 0, 0), (149, .iadd, 1, [], 0, 0), (150, .istore 5, 2, [], 0, 0), (152, .iload 4, 2, [], 0, 0), (154, .istore 17, 2, [], 0, 0), (156, .goto 455, 3, [], 0, 0), (159, .iload 14, 2, [], 0, 0), (161, .iconst 2, 1, [], 0, 0), (162, .if_icmp .ne 146, 3, [], 0, 0), (165, .bipush 31, 2, [], 0, 0), (167, .iload 15, 2, [], 0, 0), (169, .bipush 63, 2, [], 0, 0), (171, .iand, 1, [], 0, 0), (172, .iadd, 1, [], 0, 0), (173, .istore 18, 2, [], 0, 0), (175, .aload_n 1, 1, [], 0, 0), (176, .iload 18, 2, [], 0, 0), (178, .invokevirtual 16, 3, [], 12, 0), (181, .istore 16, 2, [], 0, 0), (183, .iload_n 2, 1, [], 0, 0), (184, .ifCond .eq 9, 3, [], 0, 0), (187, .iconst (-1), 1, [], 0, 0), (188, .istore 17, 2, [], 0, 0), (190, .goto 115, 3, [], 0, 0), (193, .iload 4, 2, [], 0, 0), (195, .ifCond .ne 10, 3, [], 0, 0), (198, .bipush (-4), 2, [], 0, 0), (200, .istore 17, 2, [], 0, 0), (202, .goto 103, 3, [], 0, 0), (205, .iload 18, 2, [], 0, 0), (207, .bipush 32, 2, [], 0, 0), (209, .if_icmp .ge 10, 3, [], 0, 0), (212, .bipush (-6), 2, [], 0, 0), (214, .istore 17, 2, [], 0, 0), (216, .goto 89, 3, [], 0, 0), (219, .iload 5, 2, [], 0, 0), (221, .iload 9, 2, [], 0, 0), (223, .if_icmp .eq 24, 3, [], 0, 0), (226, .iload 5, 2, [], 0, 0), (228, .iload 10, 2, [], 0, 0), (230, .if_icmp .eq 17, 3, [], 0, 0), (233, .iload 5, 2, [], 0, 0), (235, .iload 11, 2, [], 0, 0), (237, .if_icmp .eq 10, 3, [], 0, 0), (240, .iload 5, 2, [], 0, 0), (242, .iload 12, 2, [], 0, 0), (244, .if_icmp .ne 10, 3, [], 0, 0), (247, .bipush (-5), 2, [], 0, 0), (249, .istore 17, 2, [], 0, 0), (251, .goto 54, 3, [], 0, 0), (254, .iload_n 3, 1, [], 0, 0), (255, .istore 17, 2, [], 0, 0), (257, .iload_n 3, 1, [], 0, 0), (258, .ifCond .ne 10, 3, [], 0, 0), (261, .iload 5, 2, [], 0, 0), (263, .istore 9, 2, [], 0, 0), (265, .goto 31, 3, [], 0, 0), (268, .iload_n 3, 1, [], 0, 0), (269, .iconst 1, 1, [], 0, 0), (270, .if_icmp .ne 10, 3, [], 0, 0), (273, .iload 5, 2, [], 0, 0), (275, .istore 10, 2, [], 0, 0), (277, .goto 19, 3, [], 0, 0), (280, .iload_n 3, 1, [], 0, 0), (281, .iconst 2, 1, [], 0, 0), (282, .if_icmp .ne 10, 3, [], 0, 0), (285, .iload 5, 2, [], 0, 0), (287, .istore 11, 2, [], 0, 0), (289, .goto 7, 3, [], 0, 0), (292, .iload 5, 2, [], 0, 0), (294, .istore 12, 2, [], 0, 0), (296, .iinc 3 1, 3, [false, false, false, false, true, true, false, false, false, false, false, false, false, false, true, true, false, false, true, true, true, true, true], 0, 0), (299, .iconst 0, 1, [], 0, 0), (300, .istore 4, 2, [], 0, 0), (302, .iconst 0, 1, [], 0, 0), (303, .istore 5, 2, [], 0, 0), (305, .goto 306, 3, [], 0, 0), (308, .iload 14, 2, [], 0, 0), (310, .iconst 3, 1, [], 0, 0), (311, .if_icmp .ne 59, 3, [], 0, 0), (314, .aload_n 1, 1, [], 0, 0), (315, .invokevirtual 19, 3, [], 3, 0), (318, .istore 16, 2, [], 0, 0), (320, .iload_n 2, 1, [], 0, 0), (321, .ifCond .eq 9, 3, [], 0, 0), (324, .iconst (-1), 1, [], 0, 0), (325, .istore 17, 2, [], 0, 0), (327, .goto 284, 3, [], 0, 0), (330, .iload 4, 2, [], 0, 0), (332, .ifCond .eq 10, 3, [], 0, 0), (335, .bipush (-7), 2, [], 0, 0), (337, .istore 17, 2, [], 0, 0), (339, .goto 272, 3, [], 0, 0), (342, .iload_n 3, 1, [], 0, 0), (343, .ifCond .ne 10, 3, [], 0, 0), (346, .bipush (-4), 2, [], 0, 0), (348, .istore 17, 2, [], 0, 0), (350, .goto 261, 3, [], 0, 0), (353, .iconst 0, 1, [], 0, 0), (354, .istore 17, 2, [], 0, 0), (356, .iconst 1, 1, [], 0, 0), (357, .istore_n 2, 1, [], 0, 0), (358, .iconst 0, 1, [], 0, 0), (359, .istore 6, 2, [], 0, 0), (361, .iconst 0, 1, [], 0, 0), (362, .istore 7, 2, [], 0, 0), (364, .iconst 0, 1, [], 0, 0), (365, .istore 8, 2, [], 0, 0), (367, .goto 244, 3, [], 0, 0), (370, .iload 14, 2, [], 0, 0), (372, .bipush 7, 2, [], 0, 0), (374, .if_icmp .ne 35, 3, [], 0, 0), (377, .aload_n 1, 1, [], 0, 0), (378, .invokevirtual 23, 3, [], 20, 0), (381, .istore 16, 2, [], 0, 0), (383, .iload_n 2, 1, [], 0, 0), (384, .iconst 1, 1, [], 0, 0), (385, .if_icmp .eq 9, 3, [], 0, 0), (388, .iconst (-1), 1, [], 0, 0), (389, .istore 17, 2, [], 0, 0), (391, .goto 220, 3, [], 0, 0), (394, .iconst 0, 1, [], 0, 0), (395, .istore 17, 2, [], 0, 0), (397, .iconst 0, 1, [], 0, 0), (398, .istore 6, 2, [], 0, 0), (400, .iconst 0, 1, [], 0, 0), (401, .istore 7, 2, [], 0, 0), (403, .iconst 0, 1, [], 0, 0), (404, .istore 8, 2, [], 0, 0), (406, .goto 205, 3, [], 0, 0), (409, .bipush 97, 2, [], 0, 0), (411, .iload 15, 2, [], 0, 0), (413, .bipush 7, 2, [], 0, 0), (415, .iand, 1, [], 0, 0), (416, .iadd, 1, [], 0, 0), (417, .istore 18, 2, [], 0, 0), (419, .iload 15, 2, [], 0, 0), (421, .bipush 48, 2, [], 0, 0), (423, .iand, 1, [], 0, 0), (424, .bipush 48, 2, [], 0, 0), (426, .if_icmp .ne 7, 3, [], 0, 0), (429, .bipush 127, 2, [], 0, 0), (431, .istore 18, 2, [], 0, 0), (433, .aload_n 1, 1, [false, false, false, false, false, false, false, false, false, false, false, false, false, false, true, true, true, true, false, true, true, true, true], 0, 0), (434, .iload 18, 2, [], 0, 0), (436, .invokevirtual 26, 3, [], 21, 0), (439, .istore 16, 2, [], 0, 0), (441, .iload_n 2, 1, [], 0, 0), (442, .iconst 1, 1, [], 0, 0), (443, .if_icmp .eq 9, 3, [], 0, 0), (446, .iconst (-1), 1, [], 0, 0), (447, .istore 17, 2, [], 0, 0), (449, .goto 162, 3, [], 0, 0), (452, .iload 18, 2, [], 0, 0), (454, .bipush 127, 2, [], 0, 0), (456, .if_icmp .ne 10, 3, [], 0, 0), (459, .bipush (-2), 2, [], 0, 0), (461, .istore 17, 2, [], 0, 0), (463, .goto 148, 3, [], 0, 0), (466, .iload 6, 2, [], 0, 0), (468, .sipush 240, 3, [], 0, 0), (471, .if_icmp .ne 10, 3, [], 0, 0), (474, .bipush (-3), 2, [], 0, 0), (476, .istore 17, 2, [], 0, 0), (478, .goto 133, 3, [], 0, 0), (481, .iload 7, 2, [], 0, 0), (483, .bipush 16, 2, [], 0, 0), (485, .imul, 1, [], 0, 0), (486, .iload 18, 2, [], 0, 0), (488, .bipush 96, 2, [], 0, 0), (490, .isub, 1, [], 0, 0), (491, .iadd, 1, [], 0, 0), (492, .sipush 4095, 3, [], 0, 0), (495, .iand, 1, [], 0, 0), (496, .istore 7, 2, [], 0, 0), (498, .iinc 6 1, 3, [], 0, 0), (501, .iload_n 3, 1, [], 0, 0), (502, .iconst 0, 1, [], 0, 0), (503, .iload 9, 2, [], 0, 0), (505, .iload 7, 2, [], 0, 0), (507, .invokestatic 29, 3, [], 28, 0), (510, .istore 19, 2, [], 0, 0), (512, .iload_n 3, 1, [], 0, 0), (513, .iconst 1, 1, [], 0, 0), (514, .iload 10, 2, [], 0, 0), (516, .iload 7, 2, [], 0, 0), (518, .invokestatic 29, 3, [], 28, 0), (521, .istore 20, 2, [], 0, 0), (523, .iload_n 3, 1, [], 0, 0), (524, .iconst 2, 1, [], 0, 0), (525, .iload 11, 2, [], 0, 0), (527, .iload 7, 2, [], 0, 0), (529, .invokestatic 29, 3, [], 28, 0), (532, .istore 21, 2, [], 0, 0), (534, .iload_n 3, 1, [], 0, 0), (535, .iconst 3, 1, [], 0, 0), (536, .iload 12, 2, [], 0, 0), (538, .iload 7, 2, [], 0, 0), (540, .invokestatic 29, 3, [], 28, 0), (543, .istore 22, 2, [], 0, 0), (545, .iload 19, 2, [], 0, 0), (547, .iload 20, 2, [], 0, 0), (549, .iadd, 1, [], 0, 0), (550, .iload 21, 2, [], 0, 0), (552, .iadd, 1, [], 0, 0), (553, .iload 22, 2, [], 0, 0), (555, .iadd, 1, [], 0, 0), (556, .istore 17, 2, [], 0, 0), (558, .iload 8, 2, [], 0, 0), (560, .iload 17, 2, [], 0, 0), (562, .iadd, 1, [], 0, 0), (563, .istore 8, 2, [], 0, 0), (565, .aload_n 1, 1, [], 0, 0), (566, .iload 6, 2, [], 0, 0), (568, .iconst 1, 1, [], 0, 0), (569, .isub, 1, [], 0, 0), (570, .invokevirtual 35, 3, [], 29, 0), (573, .iload 19, 2, [], 0, 0), (575, .iconst 2, 1, [], 0, 0), (576, .iload 20, 2, [], 0, 0), (578, .imul, 1, [], 0, 0), (579, .iadd, 1, [], 0, 0), (580, .iconst 4, 1, [], 0, 0), (581, .iload 21, 2, [], 0, 0), (583, .imul, 1, [], 0, 0), (584, .iadd, 1, [], 0, 0), (585, .bipush 8, 2, [], 0, 0), (587, .iload 22, 2, [], 0, 0), (589, .imul, 1, [], 0, 0), (590, .iadd, 1, [], 0, 0), (591, .if_icmp .eq 5, 3, [], 0, 0), (594, .iconst 0, 1, [], 0, 0), (595, .ireturn, 1, [], 0, 0), (596, .aload_n 1, 1, [], 0, 0), (597, .iload 6, 2, [], 0, 0), (599, .iconst 1, 1, [], 0, 0), (600, .isub, 1, [], 0, 0), (601, .invokevirtual 38, 3, [], 30, 0), (604, .iload 18, 2, [], 0, 0), (606, .if_icmp .eq 5, 3, [], 0, 0), (609, .iconst 0, 1, [], 0, 0), (610, .ireturn, 1, [], 0, 0), (611, .iload 16, 2, [false, false, false, false, false, false, false, false, false, false, false, false, false, false, true, true, false, false, true, true, true, true, true], 0, 0), (613, .iload 17, 2, [], 0, 0), (615, .if_icmp .eq 5, 3, [], 0, 0), (618, .iconst 0, 1, [], 0, 0), (619, .ireturn, 1, [], 0, 0), (620, .aload_n 1, 1, [], 0, 0), (621, .invokevirtual 41, 3, [], 4, 0), (624, .iload_n 2, 1, [], 0, 0), (625, .if_icmp .eq 5, 3, [], 0, 0), (628, .iconst 0, 1, [], 0, 0), (629, .ireturn, 1, [], 0, 0), (630, .aload_n 1, 1, [], 0, 0), (631, .invokevirtual 44, 3, [], 5, 0), (634, .iload_n 3, 1, [], 0, 0), (635, .if_icmp .eq 5, 3, [], 0, 0), (638, .iconst 0, 1, [], 0, 0), (639, .ireturn, 1, [], 0, 0), (640, .aload_n 1, 1, [], 0, 0), (641, .iload_n 3, 1, [], 0, 0), (642, .invokevirtual 47, 3, [], 6, 0), (645, .iload 4, 2, [], 0, 0), (647, .if_icmp .eq 5, 3, [], 0, 0), (650, .iconst 0, 1, [], 0, 0), (651, .ireturn, 1, [], 0, 0), (652, .aload_n 1, 1, [], 0, 0), (653, .invokevirtual 50, 3, [], 7, 0), (656, .iload 6, 2, [], 0, 0), (658, .if_icmp .eq 5, 3, [], 0, 0), (661, .iconst 0, 1, [], 0, 0), (662, .ireturn, 1, [], 0, 0), (663, .aload_n 1, 1, [], 0, 0), (664, .invokevirtual 53, 3, [], 8, 0), (667, .iload 8, 2, [], 0, 0), (669, .if_icmp .eq 5, 3, [], 0, 0), (672, .iconst 0, 1, [], 0, 0), (673, .ireturn, 1, [], 0, 0), (674, .aload_n 1, 1, [], 0, 0), (675, .invokevirtual 56, 3, [], 9, 0), (678, .istore 18, 2, [], 0, 0), (680, .iload 18, 2, [], 0, 0), (682, .ifCond .lt 10, 3, [], 0, 0), (685, .iload 18, 2, [], 0, 0), (687, .iload 6, 2, [], 0, 0), (689, .if_icmp .le 5, 3, [], 0, 0), (692, .iconst 0, 1, [], 0, 0), (693, .ireturn, 1, [], 0, 0), (694, .iinc 13 2, 3, [], 0, 0), (697, .goto (-653), 3, [], 0, 0), (700, .iconst 1, 1, [], 0, 0), (701, .ireturn, 1, [], 0, 0)])
def d_1 : MD := (⟨"MultiPatternScan", "<init>", "(II)V"⟩, prog_1_method_1_code, 6, none, 1, 2, 0, 1, 12, [(0, .aload_n 0, 1, [], 0, 0), (1, .invokespecial 1, 3, [], 0, -1), (4, .aload_n 0, 1, [], 0, 0), (5, .sipush 128, 3, [], 0, 0), (8, .newarray .int, 2, [], 0, 0), (10, .putfield 7, 3, [], 0, 0), (13, .aload_n 0, 1, [], 0, 0), (14, .bipush 16, 2, [], 0, 0), (16, .newarray .int, 2, [], 0, 0), (18, .putfield 13, 3, [], 1, 0), (21, .aload_n 0, 1, [], 0, 0), (22, .bipush 16, 2, [], 0, 0), (24, .newarray .int, 2, [], 0, 0), (26, .putfield 16, 3, [], 2, 0), (29, .aload_n 0, 1, [], 0, 0), (30, .bipush 8, 2, [], 0, 0), (32, .newarray .int, 2, [], 0, 0), (34, .putfield 19, 3, [], 3, 0), (37, .aload_n 0, 1, [], 0, 0), (38, .sipush 3354, 3, [], 0, 0), (41, .newarray .int, 2, [], 0, 0), (43, .putfield 22, 3, [], 4, 0), (46, .aload_n 0, 1, [], 0, 0), (47, .sipush 3354, 3, [], 0, 0), (50, .newarray .int, 2, [], 0, 0), (52, .putfield 25, 3, [], 5, 0), (55, .aload_n 0, 1, [], 0, 0), (56, .sipush 129, 3, [], 0, 0), (59, .newarray .int, 2, [], 0, 0), (61, .putfield 28, 3, [], 6, 0), (64, .aload_n 0, 1, [], 0, 0), (65, .sipush 129, 3, [], 0, 0), (68, .newarray .int, 2, [], 0, 0), (70, .putfield 31, 3, [], 7, 0), (73, .aload_n 0, 1, [], 0, 0), (74, .sipush 129, 3, [], 0, 0), (77, .newarray .int, 2, [], 0, 0), (79, .putfield 34, 3, [], 8, 0), (82, .aload_n 0, 1, [], 0, 0), (83, .sipush 129, 3, [], 0, 0), (86, .newarray .int, 2, [], 0, 0), (88, .putfield 37, 3, [], 9, 0), (91, .aload_n 0, 1, [], 0, 0), (92, .sipush 129, 3, [], 0, 0), (95, .newarray .int, 2, [], 0, 0), (97, .putfield 40, 3, [], 10, 0), (100, .aload_n 0, 1, [], 0, 0), (101, .sipush 240, 3, [], 0, 0), (104, .newarray .int, 2, [], 0, 0), (106, .putfield 43, 3, [], 11, 0), (109, .aload_n 0, 1, [], 0, 0), (110, .sipush 240, 3, [], 0, 0), (113, .newarray .int, 2, [], 0, 0), (115, .putfield 46, 3, [], 12, 0), (118, .aload_n 0, 1, [], 0, 0), (119, .sipush 240, 3, [], 0, 0), (122, .newarray .int, 2, [], 0, 0), (124, .putfield 49, 3, [], 13, 0), (127, .aload_n 0, 1, [], 0, 0), (128, .bipush 8, 2, [], 0, 0), (130, .newarray .int, 2, [], 0, 0), (132, .putfield 52, 3, [], 14, 0), (135, .iload_n 1, 1, [], 0, 0), (136, .istore_n 3, 1, [], 0, 0), (137, .iload_n 3, 1, [], 0, 0), (138, .iconst 1, 1, [], 0, 0), (139, .if_icmp .ge 5, 3, [], 0, 0), (142, .iconst 1, 1, [], 0, 0), (143, .istore_n 3, 1, [], 0, 0), (144, .iload_n 3, 1, [false, true, false, false, true, true], 0, 0), (145, .bipush 16, 2, [], 0, 0), (147, .if_icmp .le 6, 3, [], 0, 0), (150, .bipush 16, 2, [], 0, 0), (152, .istore_n 3, 1, [], 0, 0), (153, .iload_n 2, 1, [false, true, false, false, true, true], 0, 0), (154, .istore 4, 2, [], 0, 0), (156, .iload 4, 2, [], 0, 0), (158, .iconst 1, 1, [], 0, 0), (159, .if_icmp .ge 6, 3, [], 0, 0), (162, .iconst 1, 1, [], 0, 0), (163, .istore 4, 2, [], 0, 0), (165, .iload 4, 2, [false, true, true, false, false, true], 0, 0), (167, .bipush 8, 2, [], 0, 0), (169, .if_icmp .le 7, 3, [], 0, 0), (172, .bipush 8, 2, [], 0, 0), (174, .istore 4, 2, [], 0, 0), (176, .aload_n 0, 1, [false, true, true, false, false, true], 0, 0), (177, .iload_n 3, 1, [], 0, 0), (178, .putfield 55, 3, [], 15, 0), (181, .aload_n 0, 1, [], 0, 0), (182, .iload 4, 2, [], 0, 0), (184, .putfield 59, 3, [], 16, 0), (187, .aload_n 0, 1, [], 0, 0), (188, .iconst 0, 1, [], 0, 0), (189, .putfield 62, 3, [], 17, 0), (192, .aload_n 0, 1, [], 0, 0), (193, .iconst 0, 1, [], 0, 0), (194, .putfield 65, 3, [], 18, 0), (197, .aload_n 0, 1, [], 0, 0), (198, .iconst 0, 1, [], 0, 0), (199, .putfield 68, 3, [], 19, 0), (202, .aload_n 0, 1, [], 0, 0), (203, .iconst 1, 1, [], 0, 0), (204, .putfield 71, 3, [], 20, 0), (207, .aload_n 0, 1, [], 0, 0), (208, .iconst 1, 1, [], 0, 0), (209, .putfield 74, 3, [], 21, 0), (212, .iconst 0, 1, [], 0, 0), (213, .istore 5, 2, [], 0, 0), (215, .iload 5, 2, [false, true, true, true, true], 0, 0), (217, .sipush 129, 3, [], 0, 0), (220, .if_icmp .ge 17, 3, [], 0, 0), (223, .aload_n 0, 1, [], 0, 0), (224, .getfield 34, 3, [], 8, 0), (227, .iload 5, 2, [], 0, 0), (229, .iconst (-1), 1, [], 0, 0), (230, .iastore, 1, [], 0, 0), (231, .iinc 5 1, 3, [], 0, 0), (234, .goto (-19), 3, [], 0, 0), (237, .aload_n 0, 1, [false, true, true, true, true, true], 0, 0), (238, .invokevirtual 77, 3, [], 2, 0), (241, .return_, 1, [], 0, 0)])
def d_2 : MD := (⟨"MultiPatternScan", "clearText", "()V"⟩, prog_1_method_27_code, 1, none, 2, 0, 0, 0, 0, [(0, .aload_n 0, 1, [], 0, 0), (1, .iconst 0, 1, [], 0, 0), (2, .putfield 101, 3, [], 22, 0), (5, .aload_n 0, 1, [], 0, 0), (6, .iconst 0, 1, [], 0, 0), (7, .putfield 104, 3, [], 23, 0), (10, .aload_n 0, 1, [], 0, 0), (11, .iconst 0, 1, [], 0, 0), (12, .putfield 115, 3, [], 24, 0), (15, .aload_n 0, 1, [], 0, 0), (16, .iconst 0, 1, [], 0, 0), (17, .putfield 127, 3, [], 25, 0), (20, .aload_n 0, 1, [], 0, 0), (21, .iconst 0, 1, [], 0, 0), (22, .putfield 142, 3, [], 26, 0), (25, .aload_n 0, 1, [], 0, 0), (26, .iconst 0, 1, [], 0, 0), (27, .putfield 130, 3, [], 27, 0), (30, .return_, 1, [], 0, 0)])
def d_3 : MD := (⟨"MultiPatternScan", "build", "()I"⟩, prog_1_method_4_code, 1, some .int, 3, 0, 0, 2, 35, [(0, .aload_n 0, 1, [], 0, 0), (1, .getfield 62, 3, [], 17, 0), (4, .ifCond .eq 5, 3, [], 0, 0), (7, .iconst (-1), 1, [], 0, 0), (8, .ireturn, 1, [], 0, 0), (9, .aload_n 0, 1, [], 0, 0), (10, .getfield 68, 3, [], 19, 0), (13, .ifCond .eq 6, 3, [], 0, 0), (16, .bipush (-7), 2, [], 0, 0), (18, .ireturn, 1, [], 0, 0), (19, .aload_n 0, 1, [], 0, 0), (20, .getfield 65, 3, [], 18, 0), (23, .ifCond .ne 6, 3, [], 0, 0), (26, .bipush (-4), 2, [], 0, 0), (28, .ireturn, 1, [], 0, 0), (29, .aload_n 0, 1, [], 0, 0), (30, .invokevirtual 95, 3, [], 16, 0), (33, .aload_n 0, 1, [], 0, 0), (34, .invokevirtual 98, 3, [], 18, 0), (37, .aload_n 0, 1, [], 0, 0), (38, .iconst 1, 1, [], 0, 0), (39, .putfield 62, 3, [], 17, 0), (42, .aload_n 0, 1, [], 0, 0), (43, .invokevirtual 77, 3, [], 2, 0), (46, .iconst 0, 1, [], 0, 0), (47, .ireturn, 1, [], 0, 0)])
def d_4 : MD := (⟨"MultiPatternScan", "phase", "()I"⟩, prog_1_method_7_code, 1, some .int, 3, 0, 0, 0, 0, [(0, .aload_n 0, 1, [], 0, 0), (1, .getfield 62, 3, [], 17, 0), (4, .ireturn, 1, [], 0, 0)])
def d_5 : MD := (⟨"MultiPatternScan", "keywordCount", "()I"⟩, prog_1_method_8_code, 1, some .int, 3, 0, 0, 0, 0, [(0, .aload_n 0, 1, [], 0, 0), (1, .getfield 65, 3, [], 18, 0), (4, .ireturn, 1, [], 0, 0)])
def d_6 : MD := (⟨"MultiPatternScan", "keywordLength", "(I)I"⟩, prog_1_method_9_code, 2, some .int, 3, 1, 0, 0, 0, [(0, .iload_n 1, 1, [], 0, 0), (1, .ifCond .lt 18, 3, [], 0, 0), (4, .iload_n 1, 1, [], 0, 0), (5, .aload_n 0, 1, [], 0, 0), (6, .getfield 65, 3, [], 18, 0), (9, .if_icmp .ge 10, 3, [], 0, 0), (12, .aload_n 0, 1, [], 0, 0), (13, .getfield 13, 3, [], 1, 0), (16, .iload_n 1, 1, [], 0, 0), (17, .iaload, 1, [], 0, 0), (18, .ireturn, 1, [], 0, 0), (19, .iload_n 1, 1, [], 0, 0), (20, .aload_n 0, 1, [], 0, 0), (21, .getfield 65, 3, [], 18, 0), (24, .if_icmp .ne 8, 3, [], 0, 0), (27, .aload_n 0, 1, [], 0, 0), (28, .getfield 68, 3, [], 19, 0), (31, .ireturn, 1, [], 0, 0), (32, .iconst (-1), 1, [], 0, 0), (33, .ireturn, 1, [], 0, 0)])
def d_7 : MD := (⟨"MultiPatternScan", "textLength", "()I"⟩, prog_1_method_11_code, 1, some .int, 3, 0, 0, 0, 0, [(0, .aload_n 0, 1, [], 0, 0), (1, .getfield 101, 3, [], 22, 0), (4, .ireturn, 1, [], 0, 0)])
def d_8 : MD := (⟨"MultiPatternScan", "totalOccurrences", "()I"⟩, prog_1_method_14_code, 1, some .int, 3, 0, 0, 0, 0, [(0, .aload_n 0, 1, [], 0, 0), (1, .getfield 115, 3, [], 24, 0), (4, .ireturn, 1, [], 0, 0)])
def d_9 : MD := (⟨"MultiPatternScan", "outLength", "()I"⟩, prog_1_method_16_code, 1, some .int, 3, 0, 0, 0, 0, [(0, .aload_n 0, 1, [], 0, 0), (1, .getfield 127, 3, [], 25, 0), (4, .aload_n 0, 1, [], 0, 0), (5, .getfield 130, 3, [], 27, 0), (8, .iadd, 1, [], 0, 0), (9, .ireturn, 1, [], 0, 0)])
def d_10 : MD := (⟨"MultiPatternScan", "addChar", "(I)I"⟩, prog_1_method_2_code, 2, some .int, 3, 1, 0, 1, 13, [(0, .aload_n 0, 1, [], 0, 0), (1, .getfield 62, 3, [], 17, 0), (4, .ifCond .eq 5, 3, [], 0, 0), (7, .iconst (-1), 1, [], 0, 0), (8, .ireturn, 1, [], 0, 0), (9, .aload_n 0, 1, [], 0, 0), (10, .iload_n 1, 1, [], 0, 0), (11, .invokevirtual 80, 3, [], 11, 0), (14, .ifCond .ne 6, 3, [], 0, 0), (17, .bipush (-2), 2, [], 0, 0), (19, .ireturn, 1, [], 0, 0), (20, .aload_n 0, 1, [], 0, 0), (21, .getfield 65, 3, [], 18, 0), (24, .aload_n 0, 1, [], 0, 0), (25, .getfield 55, 3, [], 15, 0), (28, .if_icmp .lt 6, 3, [], 0, 0), (31, .bipush (-3), 2, [], 0, 0), (33, .ireturn, 1, [], 0, 0), (34, .aload_n 0, 1, [], 0, 0), (35, .getfield 68, 3, [], 19, 0), (38, .aload_n 0, 1, [], 0, 0), (39, .getfield 59, 3, [], 16, 0), (42, .if_icmp .ge 12, 3, [], 0, 0), (45, .aload_n 0, 1, [], 0, 0), (46, .getfield 68, 3, [], 19, 0), (49, .bipush 8, 2, [], 0, 0), (51, .if_icmp .lt 6, 3, [], 0, 0), (54, .bipush (-3), 2, [], 0, 0), (56, .ireturn, 1, [], 0, 0), (57, .aload_n 0, 1, [], 0, 0), (58, .getfield 19, 3, [], 3, 0), (61, .aload_n 0, 1, [], 0, 0), (62, .getfield 68, 3, [], 19, 0), (65, .iload_n 1, 1, [], 0, 0), (66, .iastore, 1, [], 0, 0), (67, .aload_n 0, 1, [], 0, 0), (68, .dup, 1, [], 0, 0), (69, .getfield 68, 3, [], 19, 0), (72, .iconst 1, 1, [], 0, 0), (73, .iadd, 1, [], 0, 0), (74, .putfield 68, 3, [], 19, 0), (77, .aload_n 0, 1, [], 0, 0), (78, .getfield 68, 3, [], 19, 0), (81, .ireturn, 1, [], 0, 0)])
def d_11 : MD := (⟨"MultiPatternScan", "isLetter", "(I)Z"⟩, prog_1_method_32_code, 2, some .boolean, 2, 1, 0, 0, 0, [(0, .iload_n 1, 1, [], 0, 0), (1, .bipush 97, 2, [], 0, 0), (3, .if_icmp .lt 13, 3, [], 0, 0), (6, .iload_n 1, 1, [], 0, 0), (7, .bipush 122, 2, [], 0, 0), (9, .if_icmp .gt 7, 3, [], 0, 0), (12, .iconst 1, 1, [], 0, 0), (13, .goto 4, 3, [], 0, 0), (16, .iconst 0, 1, [], 0, 0), (17, .ireturn, 1, [], 0, 0)])
def d_12 : MD := (⟨"MultiPatternScan", "endKeyword", "(I)I"⟩, prog_1_method_3_code, 2, some .int, 3, 1, 0, 2, 28, [(0, .aload_n 0, 1, [], 0, 0), (1, .getfield 62, 3, [], 17, 0), (4, .ifCond .eq 5, 3, [], 0, 0), (7, .iconst (-1), 1, [], 0, 0), (8, .ireturn, 1, [], 0, 0), (9, .aload_n 0, 1, [], 0, 0), (10, .getfield 68, 3, [], 19, 0), (13, .ifCond .ne 6, 3, [], 0, 0), (16, .bipush (-4), 2, [], 0, 0), (18, .ireturn, 1, [], 0, 0), (19, .aload_n 0, 1, [], 0, 0), (20, .iload_n 1, 1, [], 0, 0), (21, .invokevirtual 84, 3, [], 13, 0), (24, .ifCond .ne 6, 3, [], 0, 0), (27, .bipush (-6), 2, [], 0, 0), (29, .ireturn, 1, [], 0, 0), (30, .aload_n 0, 1, [], 0, 0), (31, .invokevirtual 87, 3, [], 14, 0), (34, .ifCond .eq 6, 3, [], 0, 0), (37, .bipush (-5), 2, [], 0, 0), (39, .ireturn, 1, [], 0, 0), (40, .aload_n 0, 1, [], 0, 0), (41, .getfield 65, 3, [], 18, 0), (44, .bipush 16, 2, [], 0, 0), (46, .if_icmp .lt 6, 3, [], 0, 0), (49, .bipush (-3), 2, [], 0, 0), (51, .ireturn, 1, [], 0, 0), (52, .aload_n 0, 1, [], 0, 0), (53, .iload_n 1, 1, [], 0, 0), (54, .invokevirtual 91, 3, [], 15, 0), (57, .aload_n 0, 1, [], 0, 0), (58, .getfield 65, 3, [], 18, 0), (61, .iconst 1, 1, [], 0, 0), (62, .isub, 1, [], 0, 0), (63, .ireturn, 1, [], 0, 0)])
def d_13 : MD := (⟨"MultiPatternScan", "isPrintable", "(I)Z"⟩, prog_1_method_33_code, 2, some .boolean, 2, 1, 0, 0, 0, [(0, .iload_n 1, 1, [], 0, 0), (1, .bipush 32, 2, [], 0, 0), (3, .if_icmp .lt 13, 3, [], 0, 0), (6, .iload_n 1, 1, [], 0, 0), (7, .bipush 126, 2, [], 0, 0), (9, .if_icmp .gt 7, 3, [], 0, 0), (12, .iconst 1, 1, [], 0, 0), (13, .goto 4, 3, [], 0, 0), (16, .iconst 0, 1, [], 0, 0), (17, .ireturn, 1, [], 0, 0)])
def d_14 : MD := (⟨"MultiPatternScan", "pendingIsDuplicate", "()Z"⟩, prog_1_method_19_code, 2, some .boolean, 2, 0, 0, 1, 15, [(0, .iconst 0, 1, [], 0, 0), (1, .istore_n 1, 1, [], 0, 0), (2, .iload_n 1, 1, [], 0, 0), (3, .aload_n 0, 1, [], 0, 0), (4, .getfield 65, 3, [], 18, 0), (7, .if_icmp .ge 25, 3, [], 0, 0), (10, .iload_n 1, 1, [], 0, 0), (11, .bipush 16, 2, [], 0, 0), (13, .if_icmp .ge 19, 3, [], 0, 0), (16, .aload_n 0, 1, [], 0, 0), (17, .iload_n 1, 1, [], 0, 0), (18, .invokevirtual 133, 3, [], 22, 0), (21, .ifCond .eq 5, 3, [], 0, 0), (24, .iconst 1, 1, [], 0, 0), (25, .ireturn, 1, [], 0, 0), (26, .iinc 1 1, 3, [], 0, 0), (29, .goto (-27), 3, [], 0, 0), (32, .iconst 0, 1, [], 0, 0), (33, .ireturn, 1, [], 0, 0)])
def d_15 : MD := (⟨"MultiPatternScan", "storePending", "(I)V"⟩, prog_1_method_21_code, 4, none, 2, 1, 0, 0, 0, [(0, .aload_n 0, 1, [], 0, 0), (1, .getfield 65, 3, [], 18, 0), (4, .bipush 8, 2, [], 0, 0), (6, .imul, 1, [], 0, 0), (7, .istore_n 2, 1, [], 0, 0), (8, .iconst 0, 1, [], 0, 0), (9, .istore_n 3, 1, [], 0, 0), (10, .iload_n 3, 1, [], 0, 0), (11, .aload_n 0, 1, [], 0, 0), (12, .getfield 68, 3, [], 19, 0), (15, .if_icmp .ge 29, 3, [], 0, 0), (18, .iload_n 3, 1, [], 0, 0), (19, .bipush 8, 2, [], 0, 0), (21, .if_icmp .ge 23, 3, [], 0, 0), (24, .aload_n 0, 1, [], 0, 0), (25, .getfield 7, 3, [], 0, 0), (28, .iload_n 2, 1, [], 0, 0), (29, .iload_n 3, 1, [], 0, 0), (30, .iadd, 1, [], 0, 0), (31, .aload_n 0, 1, [], 0, 0), (32, .getfield 19, 3, [], 3, 0), (35, .iload_n 3, 1, [], 0, 0), (36, .iaload, 1, [], 0, 0), (37, .iastore, 1, [], 0, 0), (38, .iinc 3 1, 3, [], 0, 0), (41, .goto (-31), 3, [], 0, 0), (44, .aload_n 0, 1, [false, false, true, true], 0, 0), (45, .getfield 13, 3, [], 1, 0), (48, .aload_n 0, 1, [], 0, 0), (49, .getfield 65, 3, [], 18, 0), (52, .aload_n 0, 1, [], 0, 0), (53, .getfield 68, 3, [], 19, 0), (56, .iastore, 1, [], 0, 0), (57, .aload_n 0, 1, [], 0, 0), (58, .getfield 16, 3, [], 2, 0), (61, .aload_n 0, 1, [], 0, 0), (62, .getfield 65, 3, [], 18, 0), (65, .iload_n 1, 1, [], 0, 0), (66, .iastore, 1, [], 0, 0), (67, .aload_n 0, 1, [], 0, 0), (68, .dup, 1, [], 0, 0), (69, .getfield 65, 3, [], 18, 0), (72, .iconst 1, 1, [], 0, 0), (73, .iadd, 1, [], 0, 0), (74, .putfield 65, 3, [], 18, 0), (77, .aload_n 0, 1, [], 0, 0), (78, .iconst 0, 1, [], 0, 0), (79, .putfield 68, 3, [], 19, 0), (82, .return_, 1, [], 0, 0)])
def d_16 : MD := (⟨"MultiPatternScan", "buildTrie", "()V"⟩, prog_1_method_22_code, 2, none, 2, 0, 0, 1, 18, [(0, .aload_n 0, 1, [], 0, 0), (1, .iconst 1, 1, [], 0, 0), (2, .putfield 71, 3, [], 20, 0), (5, .aload_n 0, 1, [], 0, 0), (6, .iconst 1, 1, [], 0, 0), (7, .putfield 74, 3, [], 21, 0), (10, .iconst 0, 1, [], 0, 0), (11, .istore_n 1, 1, [], 0, 0), (12, .iload_n 1, 1, [], 0, 0), (13, .aload_n 0, 1, [], 0, 0), (14, .getfield 65, 3, [], 18, 0), (17, .if_icmp .ge 43, 3, [], 0, 0), (20, .iload_n 1, 1, [], 0, 0), (21, .bipush 16, 2, [], 0, 0), (23, .if_icmp .ge 37, 3, [], 0, 0), (26, .aload_n 0, 1, [], 0, 0), (27, .iload_n 1, 1, [], 0, 0), (28, .invokevirtual 136, 3, [], 17, 0), (31, .aload_n 0, 1, [], 0, 0), (32, .getfield 13, 3, [], 1, 0), (35, .iload_n 1, 1, [], 0, 0), (36, .iaload, 1, [], 0, 0), (37, .aload_n 0, 1, [], 0, 0), (38, .getfield 74, 3, [], 21, 0), (41, .if_icmp .le 13, 3, [], 0, 0), (44, .aload_n 0, 1, [], 0, 0), (45, .aload_n 0, 1, [], 0, 0), (46, .getfield 13, 3, [], 1, 0), (49, .iload_n 1, 1, [], 0, 0), (50, .iaload, 1, [], 0, 0), (51, .putfield 74, 3, [], 21, 0), (54, .iinc 1 1, 3, [], 0, 0), (57, .goto (-45), 3, [], 0, 0), (60, .return_, 1, [], 0, 0)])
def d_17 : MD := (⟨"MultiPatternScan", "insertKeyword", "(I)V"⟩, prog_1_method_23_code, 7, none, 2, 1, 0, 0, 0, [(0, .iconst 0, 1, [], 0, 0), (1, .istore_n 2, 1, [], 0, 0), (2, .iload_n 1, 1, [], 0, 0), (3, .bipush 8, 2, [], 0, 0), (5, .imul, 1, [], 0, 0), (6, .istore_n 3, 1, [], 0, 0), (7, .iconst 0, 1, [], 0, 0), (8, .istore 4, 2, [], 0, 0), (10, .iload 4, 2, [false, false, false, false, false, true, true], 0, 0), (12, .aload_n 0, 1, [], 0, 0), (13, .getfield 13, 3, [], 1, 0), (16, .iload_n 1, 1, [], 0, 0), (17, .iaload, 1, [], 0, 0), (18, .if_icmp .ge 119, 3, [], 0, 0), (21, .iload 4, 2, [], 0, 0), (23, .bipush 8, 2, [], 0, 0), (25, .if_icmp .ge 112, 3, [], 0, 0), (28, .aload_n 0, 1, [], 0, 0), (29, .getfield 7, 3, [], 0, 0), (32, .iload_n 3, 1, [], 0, 0), (33, .iload 4, 2, [], 0, 0), (35, .iadd, 1, [], 0, 0), (36, .iaload, 1, [], 0, 0), (37, .bipush 97, 2, [], 0, 0), (39, .isub, 1, [], 0, 0), (40, .istore 5, 2, [], 0, 0), (42, .iload 5, 2, [], 0, 0), (44, .ifCond .lt 10, 3, [], 0, 0), (47, .iload 5, 2, [], 0, 0), (49, .bipush 26, 2, [], 0, 0), (51, .if_icmp .lt 4, 3, [], 0, 0), (54, .return_, 1, [], 0, 0), (55, .iload_n 2, 1, [], 0, 0), (56, .bipush 26, 2, [], 0, 0), (58, .imul, 1, [], 0, 0), (59, .iload 5, 2, [], 0, 0), (61, .iadd, 1, [], 0, 0), (62, .istore 6, 2, [], 0, 0), (64, .aload_n 0, 1, [], 0, 0), (65, .getfield 22, 3, [], 4, 0), (68, .iload 6, 2, [], 0, 0), (70, .iaload, 1, [], 0, 0), (71, .ifCond .ne 52, 3, [], 0, 0), (74, .aload_n 0, 1, [], 0, 0), (75, .getfield 71, 3, [], 20, 0), (78, .sipush 129, 3, [], 0, 0), (81, .if_icmp .lt 4, 3, [], 0, 0), (84, .return_, 1, [], 0, 0), (85, .aload_n 0, 1, [], 0, 0), (86, .getfield 22, 3, [], 4, 0), (89, .iload 6, 2, [], 0, 0), (91, .aload_n 0, 1, [], 0, 0), (92, .getfield 71, 3, [], 20, 0), (95, .iastore, 1, [], 0, 0), (96, .aload_n 0, 1, [], 0, 0), (97, .getfield 31, 3, [], 7, 0), (100, .aload_n 0, 1, [], 0, 0), (101, .getfield 71, 3, [], 20, 0), (104, .aload_n 0, 1, [], 0, 0), (105, .getfield 31, 3, [], 7, 0), (108, .iload_n 2, 1, [], 0, 0), (109, .iaload, 1, [], 0, 0), (110, .iconst 1, 1, [], 0, 0), (111, .iadd, 1, [], 0, 0), (112, .iastore, 1, [], 0, 0), (113, .aload_n 0, 1, [], 0, 0), (114, .dup, 1, [], 0, 0), (115, .getfield 71, 3, [], 20, 0), (118, .iconst 1, 1, [], 0, 0), (119, .iadd, 1, [], 0, 0), (120, .putfield 71, 3, [], 20, 0), (123, .aload_n 0, 1, [false, false, true, false, false, true], 0, 0), (124, .getfield 22, 3, [], 4, 0), (127, .iload 6, 2, [], 0, 0), (129, .iaload, 1, [], 0, 0), (130, .istore_n 2, 1, [], 0, 0), (131, .iinc 4 1, 3, [], 0, 0), (134, .goto (-124), 3, [], 0, 0), (137, .aload_n 0, 1, [false, false, false, true, true, true, true], 0, 0), (138, .getfield 34, 3, [], 8, 0), (141, .iload_n 2, 1, [], 0, 0), (142, .iload_n 1, 1, [], 0, 0), (143, .iastore, 1, [], 0, 0), (144, .aload_n 0, 1, [], 0, 0), (145, .getfield 37, 3, [], 9, 0), (148, .iload_n 2, 1, [], 0, 0), (149, .aload_n 0, 1, [], 0, 0), (150, .getfield 37, 3, [], 9, 0), (153, .iload_n 2, 1, [], 0, 0), (154, .iaload, 1, [], 0, 0), (155, .iconst 1, 1, [], 0, 0), (156, .iload_n 1, 1, [], 0, 0), (157, .ishl, 1, [], 0, 0), (158, .ior, 1, [], 0, 0), (159, .iastore, 1, [], 0, 0), (160, .return_, 1, [], 0, 0)])
def d_18 : MD := (⟨"MultiPatternScan", "computeLinks", "()V"⟩, prog_1_method_24_code, 5, none, 2, 0, 0, 1, 19, [(0, .iconst 0, 1, [], 0, 0), (1, .istore_n 1, 1, [], 0, 0), (2, .iconst 0, 1, [], 0, 0), (3, .istore_n 2, 1, [], 0, 0), (4, .aload_n 0, 1, [], 0, 0), (5, .getfield 28, 3, [], 6, 0), (8, .iconst 0, 1, [], 0, 0), (9, .iconst 0, 1, [], 0, 0), (10, .iastore, 1, [], 0, 0), (11, .iconst 0, 1, [], 0, 0), (12, .istore_n 3, 1, [], 0, 0), (13, .iload_n 3, 1, [false, false, false, false, true], 0, 0), (14, .bipush 26, 2, [], 0, 0), (16, .if_icmp .ge 56, 3, [], 0, 0), (19, .aload_n 0, 1, [], 0, 0), (20, .getfield 22, 3, [], 4, 0), (23, .iload_n 3, 1, [], 0, 0), (24, .iaload, 1, [], 0, 0), (25, .istore 4, 2, [], 0, 0), (27, .aload_n 0, 1, [], 0, 0), (28, .getfield 25, 3, [], 5, 0), (31, .iload_n 3, 1, [], 0, 0), (32, .iload 4, 2, [], 0, 0), (34, .iastore, 1, [], 0, 0), (35, .iload 4, 2, [], 0, 0), (37, .ifCond .eq 29, 3, [], 0, 0), (40, .iload_n 2, 1, [], 0, 0), (41, .sipush 129, 3, [], 0, 0), (44, .if_icmp .ge 22, 3, [], 0, 0), (47, .aload_n 0, 1, [], 0, 0), (48, .getfield 28, 3, [], 6, 0), (51, .iload 4, 2, [], 0, 0), (53, .iconst 0, 1, [], 0, 0), (54, .iastore, 1, [], 0, 0), (55, .aload_n 0, 1, [], 0, 0), (56, .getfield 40, 3, [], 10, 0), (59, .iload_n 2, 1, [], 0, 0), (60, .iload 4, 2, [], 0, 0), (62, .iastore, 1, [], 0, 0), (63, .iinc 2 1, 3, [], 0, 0), (66, .iinc 3 1, 3, [], 0, 0), (69, .goto (-56), 3, [], 0, 0), (72, .iconst 0, 1, [], 0, 0), (73, .istore_n 3, 1, [], 0, 0), (74, .iload_n 3, 1, [false, false, false, false, true], 0, 0), (75, .sipush 129, 3, [], 0, 0), (78, .if_icmp .ge 34, 3, [], 0, 0), (81, .iload_n 1, 1, [], 0, 0), (82, .iload_n 2, 1, [], 0, 0), (83, .if_icmp .lt 4, 3, [], 0, 0), (86, .return_, 1, [], 0, 0), (87, .aload_n 0, 1, [], 0, 0), (88, .getfield 40, 3, [], 10, 0), (91, .iload_n 1, 1, [], 0, 0), (92, .iaload, 1, [], 0, 0), (93, .istore 4, 2, [], 0, 0), (95, .iinc 1 1, 3, [], 0, 0), (98, .aload_n 0, 1, [], 0, 0), (99, .iload 4, 2, [], 0, 0), (101, .iload_n 2, 1, [], 0, 0), (102, .invokevirtual 139, 3, [], 19, 0), (105, .istore_n 2, 1, [], 0, 0), (106, .iinc 3 1, 3, [], 0, 0), (109, .goto (-35), 3, [], 0, 0), (112, .return_, 1, [], 0, 0)])
def d_19 : MD := (⟨"MultiPatternScan", "expandNode", "(II)I"⟩, prog_1_method_25_code, 8, some .int, 2, 2, 0, 0, 0, [(0, .iload_n 1, 1, [], 0, 0), (1, .ifCond .le 10, 3, [], 0, 0), (4, .iload_n 1, 1, [], 0, 0), (5, .sipush 129, 3, [], 0, 0), (8, .if_icmp .lt 5, 3, [], 0, 0), (11, .iload_n 2, 1, [], 0, 0), (12, .ireturn, 1, [], 0, 0), (13, .aload_n 0, 1, [], 0, 0), (14, .getfield 28, 3, [], 6, 0), (17, .iload_n 1, 1, [], 0, 0), (18, .iaload, 1, [], 0, 0), (19, .istore_n 3, 1, [], 0, 0), (20, .iload_n 3, 1, [], 0, 0), (21, .ifCond .lt 10, 3, [], 0, 0), (24, .iload_n 3, 1, [], 0, 0), (25, .sipush 129, 3, [], 0, 0), (28, .if_icmp .lt 5, 3, [], 0, 0), (31, .iconst 0, 1, [], 0, 0), (32, .istore_n 3, 1, [], 0, 0), (33, .aload_n 0, 1, [false, false, false, false, true, true, true, true], 0, 0), (34, .getfield 37, 3, [], 9, 0), (37, .iload_n 1, 1, [], 0, 0), (38, .aload_n 0, 1, [], 0, 0), (39, .getfield 37, 3, [], 9, 0), (42, .iload_n 1, 1, [], 0, 0), (43, .iaload, 1, [], 0, 0), (44, .aload_n 0, 1, [], 0, 0), (45, .getfield 37, 3, [], 9, 0), (48, .iload_n 3, 1, [], 0, 0), (49, .iaload, 1, [], 0, 0), (50, .ior, 1, [], 0, 0), (51, .iastore, 1, [], 0, 0), (52, .iload_n 2, 1, [], 0, 0), (53, .istore 4, 2, [], 0, 0), (55, .iconst 0, 1, [], 0, 0), (56, .istore 5, 2, [], 0, 0), (58, .iload 5, 2, [false, false, true, false, false, false, true, true], 0, 0), (60, .bipush 26, 2, [], 0, 0), (62, .if_icmp .ge 102, 3, [], 0, 0), (65, .aload_n 0, 1, [], 0, 0), (66, .getfield 22, 3, [], 4, 0), (69, .iload_n 1, 1, [], 0, 0), (70, .bipush 26, 2, [], 0, 0), (72, .imul, 1, [], 0, 0), (73, .iload 5, 2, [], 0, 0), (75, .iadd, 1, [], 0, 0), (76, .iaload, 1, [], 0, 0), (77, .istore 6, 2, [], 0, 0), (79, .aload_n 0, 1, [], 0, 0), (80, .getfield 25, 3, [], 5, 0), (83, .iload_n 3, 1, [], 0, 0), (84, .bipush 26, 2, [], 0, 0), (86, .imul, 1, [], 0, 0), (87, .iload 5, 2, [], 0, 0), (89, .iadd, 1, [], 0, 0), (90, .iaload, 1, [], 0, 0), (91, .istore 7, 2, [], 0, 0), (93, .iload 6, 2, [], 0, 0), (95, .ifCond .eq 49, 3, [], 0, 0), (98, .aload_n 0, 1, [], 0, 0), (99, .getfield 28, 3, [], 6, 0), (102, .iload 6, 2, [], 0, 0), (104, .iload 7, 2, [], 0, 0), (106, .iastore, 1, [], 0, 0), (107, .aload_n 0, 1, [], 0, 0), (108, .getfield 25, 3, [], 5, 0), (111, .iload_n 1, 1, [], 0, 0), (112, .bipush 26, 2, [], 0, 0), (114, .imul, 1, [], 0, 0), (115, .iload 5, 2, [], 0, 0), (117, .iadd, 1, [], 0, 0), (118, .iload 6, 2, [], 0, 0), (120, .iastore, 1, [], 0, 0), (121, .iload 4, 2, [], 0, 0), (123, .sipush 129, 3, [], 0, 0), (126, .if_icmp .ge 32, 3, [], 0, 0), (129, .aload_n 0, 1, [], 0, 0), (130, .getfield 40, 3, [], 10, 0), (133, .iload 4, 2, [], 0, 0), (135, .iload 6, 2, [], 0, 0), (137, .iastore, 1, [], 0, 0), (138, .iinc 4 1, 3, [], 0, 0), (141, .goto 17, 3, [], 0, 0), (144, .aload_n 0, 1, [], 0, 0), (145, .getfield 25, 3, [], 5, 0), (148, .iload_n 1, 1, [], 0, 0), (149, .bipush 26, 2, [], 0, 0), (151, .imul, 1, [], 0, 0), (152, .iload 5, 2, [], 0, 0), (154, .iadd, 1, [], 0, 0), (155, .iload 7, 2, [], 0, 0), (157, .iastore, 1, [], 0, 0), (158, .iinc 5 1, 3, [], 0, 0), (161, .goto (-103), 3, [], 0, 0), (164, .iload 4, 2, [], 0, 0), (166, .ireturn, 1, [], 0, 0)])
def d_20 : MD := (⟨"MultiPatternScan", "resetText", "()I"⟩, prog_1_method_6_code, 1, some .int, 3, 0, 0, 1, 12, [(0, .aload_n 0, 1, [], 0, 0), (1, .getfield 62, 3, [], 17, 0), (4, .iconst 1, 1, [], 0, 0), (5, .if_icmp .eq 5, 3, [], 0, 0), (8, .iconst (-1), 1, [], 0, 0), (9, .ireturn, 1, [], 0, 0), (10, .aload_n 0, 1, [], 0, 0), (11, .invokevirtual 77, 3, [], 2, 0), (14, .iconst 0, 1, [], 0, 0), (15, .ireturn, 1, [], 0, 0)])
def d_21 : MD := (⟨"MultiPatternScan", "feed", "(I)I"⟩, prog_1_method_5_code, 4, some .int, 3, 1, 0, 4, 58, [(0, .aload_n 0, 1, [], 0, 0), (1, .getfield 62, 3, [], 17, 0), (4, .iconst 1, 1, [], 0, 0), (5, .if_icmp .eq 5, 3, [], 0, 0), (8, .iconst (-1), 1, [], 0, 0), (9, .ireturn, 1, [], 0, 0), (10, .aload_n 0, 1, [], 0, 0), (11, .iload_n 1, 1, [], 0, 0), (12, .invokevirtual 84, 3, [], 13, 0), (15, .ifCond .ne 6, 3, [], 0, 0), (18, .bipush (-2), 2, [], 0, 0), (20, .ireturn, 1, [], 0, 0), (21, .aload_n 0, 1, [], 0, 0), (22, .getfield 101, 3, [], 22, 0), (25, .sipush 240, 3, [], 0, 0), (28, .if_icmp .lt 6, 3, [], 0, 0), (31, .bipush (-3), 2, [], 0, 0), (33, .ireturn, 1, [], 0, 0), (34, .aload_n 0, 1, [], 0, 0), (35, .aload_n 0, 1, [], 0, 0), (36, .aload_n 0, 1, [], 0, 0), (37, .getfield 104, 3, [], 23, 0), (40, .iload_n 1, 1, [], 0, 0), (41, .invokevirtual 107, 3, [], 23, 0), (44, .putfield 104, 3, [], 23, 0), (47, .aload_n 0, 1, [], 0, 0), (48, .getfield 37, 3, [], 9, 0), (51, .aload_n 0, 1, [], 0, 0), (52, .getfield 104, 3, [], 23, 0), (55, .iaload, 1, [], 0, 0), (56, .istore_n 2, 1, [], 0, 0), (57, .aload_n 0, 1, [], 0, 0), (58, .getfield 43, 3, [], 11, 0), (61, .aload_n 0, 1, [], 0, 0), (62, .getfield 101, 3, [], 22, 0), (65, .iload_n 1, 1, [], 0, 0), (66, .iastore, 1, [], 0, 0), (67, .aload_n 0, 1, [], 0, 0), (68, .getfield 46, 3, [], 12, 0), (71, .aload_n 0, 1, [], 0, 0), (72, .getfield 101, 3, [], 22, 0), (75, .iload_n 2, 1, [], 0, 0), (76, .iastore, 1, [], 0, 0), (77, .aload_n 0, 1, [], 0, 0), (78, .dup, 1, [], 0, 0), (79, .getfield 101, 3, [], 22, 0), (82, .iconst 1, 1, [], 0, 0), (83, .iadd, 1, [], 0, 0), (84, .putfield 101, 3, [], 22, 0), (87, .aload_n 0, 1, [], 0, 0), (88, .iload_n 2, 1, [], 0, 0), (89, .invokevirtual 111, 3, [], 24, 0), (92, .istore_n 3, 1, [], 0, 0), (93, .aload_n 0, 1, [], 0, 0), (94, .dup, 1, [], 0, 0), (95, .getfield 115, 3, [], 24, 0), (98, .iload_n 3, 1, [], 0, 0), (99, .iadd, 1, [], 0, 0), (100, .putfield 115, 3, [], 24, 0), (103, .aload_n 0, 1, [], 0, 0), (104, .invokevirtual 118, 3, [], 25, 0), (107, .aload_n 0, 1, [], 0, 0), (108, .invokevirtual 121, 3, [], 26, 0), (111, .iload_n 3, 1, [], 0, 0), (112, .ireturn, 1, [], 0, 0)])
def d_22 : MD := (⟨"MultiPatternScan", "pendingEquals", "(I)Z"⟩, prog_1_method_20_code, 4, some .boolean, 2, 1, 0, 0, 0, [(0, .aload_n 0, 1, [], 0, 0), (1, .getfield 13, 3, [], 1, 0), (4, .iload_n 1, 1, [], 0, 0), (5, .iaload, 1, [], 0, 0), (6, .aload_n 0, 1, [], 0, 0), (7, .getfield 68, 3, [], 19, 0), (10, .if_icmp .eq 5, 3, [], 0, 0), (13, .iconst 0, 1, [], 0, 0), (14, .ireturn, 1, [], 0, 0), (15, .iload_n 1, 1, [], 0, 0), (16, .bipush 8, 2, [], 0, 0), (18, .imul, 1, [], 0, 0), (19, .istore_n 2, 1, [], 0, 0), (20, .iconst 0, 1, [], 0, 0), (21, .istore_n 3, 1, [], 0, 0), (22, .iload_n 3, 1, [false, true], 0, 0), (23, .aload_n 0, 1, [], 0, 0), (24, .getfield 68, 3, [], 19, 0), (27, .if_icmp .ge 34, 3, [], 0, 0), (30, .iload_n 3, 1, [], 0, 0), (31, .bipush 8, 2, [], 0, 0), (33, .if_icmp .ge 28, 3, [], 0, 0), (36, .aload_n 0, 1, [], 0, 0), (37, .getfield 7, 3, [], 0, 0), (40, .iload_n 2, 1, [], 0, 0), (41, .iload_n 3, 1, [], 0, 0), (42, .iadd, 1, [], 0, 0), (43, .iaload, 1, [], 0, 0), (44, .aload_n 0, 1, [], 0, 0), (45, .getfield 19, 3, [], 3, 0), (48, .iload_n 3, 1, [], 0, 0), (49, .iaload, 1, [], 0, 0), (50, .if_icmp .eq 5, 3, [], 0, 0), (53, .iconst 0, 1, [], 0, 0), (54, .ireturn, 1, [], 0, 0), (55, .iinc 3 1, 3, [], 0, 0), (58, .goto (-36), 3, [], 0, 0), (61, .iconst 1, 1, [], 0, 0), (62, .ireturn, 1, [], 0, 0)])
def d_23 : MD := (⟨"MultiPatternScan", "nextState", "(II)I"⟩, prog_1_method_26_code, 3, some .int, 2, 2, 0, 1, 13, [(0, .aload_n 0, 1, [], 0, 0), (1, .iload_n 2, 1, [], 0, 0), (2, .invokevirtual 80, 3, [], 11, 0), (5, .ifCond .ne 5, 3, [], 0, 0), (8, .iconst 0, 1, [], 0, 0), (9, .ireturn, 1, [], 0, 0), (10, .iload_n 1, 1, [], 0, 0), (11, .ifCond .lt 10, 3, [], 0, 0), (14, .iload_n 1, 1, [], 0, 0), (15, .sipush 129, 3, [], 0, 0), (18, .if_icmp .lt 5, 3, [], 0, 0), (21, .iconst 0, 1, [], 0, 0), (22, .ireturn, 1, [], 0, 0), (23, .aload_n 0, 1, [], 0, 0), (24, .getfield 25, 3, [], 5, 0), (27, .iload_n 1, 1, [], 0, 0), (28, .bipush 26, 2, [], 0, 0), (30, .imul, 1, [], 0, 0), (31, .iload_n 2, 1, [], 0, 0), (32, .bipush 97, 2, [], 0, 0), (34, .isub, 1, [], 0, 0), (35, .iadd, 1, [], 0, 0), (36, .iaload, 1, [], 0, 0), (37, .ireturn, 1, [], 0, 0)])
def d_24 : MD := (⟨"MultiPatternScan", "popCount", "(I)I"⟩, prog_1_method_34_code, 4, some .int, 2, 1, 0, 0, 0, [(0, .iconst 0, 1, [], 0, 0), (1, .istore_n 2, 1, [], 0, 0), (2, .iconst 0, 1, [], 0, 0), (3, .istore_n 3, 1, [], 0, 0), (4, .iload_n 3, 1, [true], 0, 0), (5, .bipush 16, 2, [], 0, 0), (7, .if_icmp .ge 20, 3, [], 0, 0), (10, .iload_n 1, 1, [], 0, 0), (11, .iload_n 3, 1, [], 0, 0), (12, .ishr, 1, [], 0, 0), (13, .iconst 1, 1, [], 0, 0), (14, .iand, 1, [], 0, 0), (15, .ifCond .eq 6, 3, [], 0, 0), (18, .iinc 2 1, 3, [], 0, 0), (21, .iinc 3 1, 3, [], 0, 0), (24, .goto (-20), 3, [], 0, 0), (27, .iload_n 2, 1, [], 0, 0), (28, .ireturn, 1, [], 0, 0)])
def d_25 : MD := (⟨"MultiPatternScan", "commitReady", "()V"⟩, prog_1_method_29_code, 2, none, 2, 0, 0, 3, 45, [(0, .iconst 0, 1, [], 0, 0), (1, .istore_n 1, 1, [], 0, 0), (2, .iload_n 1, 1, [], 0, 0), (3, .sipush 240, 3, [], 0, 0), (6, .if_icmp .ge 59, 3, [], 0, 0), (9, .aload_n 0, 1, [], 0, 0), (10, .getfield 142, 3, [], 26, 0), (13, .ifCond .lt 30, 3, [], 0, 0), (16, .aload_n 0, 1, [], 0, 0), (17, .getfield 142, 3, [], 26, 0), (20, .aload_n 0, 1, [], 0, 0), (21, .getfield 101, 3, [], 22, 0), (24, .if_icmp .ge 19, 3, [], 0, 0), (27, .aload_n 0, 1, [], 0, 0), (28, .getfield 142, 3, [], 26, 0), (31, .aload_n 0, 1, [], 0, 0), (32, .getfield 74, 3, [], 21, 0), (35, .iadd, 1, [], 0, 0), (36, .aload_n 0, 1, [], 0, 0), (37, .getfield 101, 3, [], 22, 0), (40, .if_icmp .le 4, 3, [], 0, 0), (43, .return_, 1, [], 0, 0), (44, .aload_n 0, 1, [], 0, 0), (45, .getfield 127, 3, [], 25, 0), (48, .sipush 240, 3, [], 0, 0), (51, .if_icmp .lt 4, 3, [], 0, 0), (54, .return_, 1, [], 0, 0), (55, .aload_n 0, 1, [], 0, 0), (56, .invokevirtual 145, 3, [], 31, 0), (59, .iinc 1 1, 3, [], 0, 0), (62, .goto (-60), 3, [], 0, 0), (65, .return_, 1, [], 0, 0)])
def d_26 : MD := (⟨"MultiPatternScan", "rebuildTail", "()V"⟩, prog_1_method_31_code, 4, none, 2, 0, 0, 2, 32, [(0, .aload_n 0, 1, [], 0, 0), (1, .iconst 0, 1, [], 0, 0), (2, .putfield 130, 3, [], 27, 0), (5, .aload_n 0, 1, [], 0, 0), (6, .getfield 142, 3, [], 26, 0), (9, .istore_n 1, 1, [], 0, 0), (10, .iconst 0, 1, [], 0, 0), (11, .istore_n 2, 1, [], 0, 0), (12, .iload_n 2, 1, [false, false, false, true], 0, 0), (13, .bipush 8, 2, [], 0, 0), (15, .if_icmp .ge 96, 3, [], 0, 0), (18, .iload_n 1, 1, [], 0, 0), (19, .ifCond .lt 20, 3, [], 0, 0), (22, .iload_n 1, 1, [], 0, 0), (23, .aload_n 0, 1, [], 0, 0), (24, .getfield 101, 3, [], 22, 0), (27, .if_icmp .ge 12, 3, [], 0, 0), (30, .aload_n 0, 1, [], 0, 0), (31, .getfield 130, 3, [], 27, 0), (34, .bipush 8, 2, [], 0, 0), (36, .if_icmp .lt 4, 3, [], 0, 0), (39, .return_, 1, [], 0, 0), (40, .aload_n 0, 1, [], 0, 0), (41, .iload_n 1, 1, [], 0, 0), (42, .invokevirtual 148, 3, [], 27, 0), (45, .istore_n 3, 1, [], 0, 0), (46, .iload_n 3, 1, [], 0, 0), (47, .ifCond .lt 30, 3, [], 0, 0), (50, .aload_n 0, 1, [], 0, 0), (51, .getfield 52, 3, [], 14, 0), (54, .aload_n 0, 1, [], 0, 0), (55, .getfield 130, 3, [], 27, 0), (58, .aload_n 0, 1, [], 0, 0), (59, .getfield 16, 3, [], 2, 0), (62, .iload_n 3, 1, [], 0, 0), (63, .iaload, 1, [], 0, 0), (64, .iastore, 1, [], 0, 0), (65, .iload_n 1, 1, [], 0, 0), (66, .aload_n 0, 1, [], 0, 0), (67, .getfield 13, 3, [], 1, 0), (70, .iload_n 3, 1, [], 0, 0), (71, .iaload, 1, [], 0, 0), (72, .iadd, 1, [], 0, 0), (73, .istore_n 1, 1, [], 0, 0), (74, .goto 21, 3, [], 0, 0), (77, .aload_n 0, 1, [], 0, 0), (78, .getfield 52, 3, [], 14, 0), (81, .aload_n 0, 1, [], 0, 0), (82, .getfield 130, 3, [], 27, 0), (85, .aload_n 0, 1, [], 0, 0), (86, .getfield 43, 3, [], 11, 0), (89, .iload_n 1, 1, [], 0, 0), (90, .iaload, 1, [], 0, 0), (91, .iastore, 1, [], 0, 0), (92, .iinc 1 1, 3, [], 0, 0), (95, .aload_n 0, 1, [false, false, false, true], 0, 0), (96, .dup, 1, [], 0, 0), (97, .getfield 130, 3, [], 27, 0), (100, .iconst 1, 1, [], 0, 0), (101, .iadd, 1, [], 0, 0), (102, .putfield 130, 3, [], 27, 0), (105, .iinc 2 1, 3, [], 0, 0), (108, .goto (-96), 3, [], 0, 0), (111, .return_, 1, [], 0, 0)])
def d_27 : MD := (⟨"MultiPatternScan", "longestAt", "(I)I"⟩, prog_1_method_28_code, 8, some .int, 2, 1, 0, 1, 13, [(0, .iconst (-1), 1, [], 0, 0), (1, .istore_n 2, 1, [], 0, 0), (2, .iconst 0, 1, [], 0, 0), (3, .istore_n 3, 1, [], 0, 0), (4, .iconst 0, 1, [], 0, 0), (5, .istore 4, 2, [], 0, 0), (7, .iload 4, 2, [false, false, false, false, false, true, true, true], 0, 0), (9, .bipush 8, 2, [], 0, 0), (11, .if_icmp .ge 94, 3, [], 0, 0), (14, .iload_n 1, 1, [], 0, 0), (15, .iload 4, 2, [], 0, 0), (17, .iadd, 1, [], 0, 0), (18, .istore 5, 2, [], 0, 0), (20, .iload 5, 2, [], 0, 0), (22, .ifCond .lt 12, 3, [], 0, 0), (25, .iload 5, 2, [], 0, 0), (27, .aload_n 0, 1, [], 0, 0), (28, .getfield 101, 3, [], 22, 0), (31, .if_icmp .lt 5, 3, [], 0, 0), (34, .iload_n 2, 1, [], 0, 0), (35, .ireturn, 1, [], 0, 0), (36, .aload_n 0, 1, [], 0, 0), (37, .getfield 43, 3, [], 11, 0), (40, .iload 5, 2, [], 0, 0), (42, .iaload, 1, [], 0, 0), (43, .istore 6, 2, [], 0, 0), (45, .aload_n 0, 1, [], 0, 0), (46, .iload 6, 2, [], 0, 0), (48, .invokevirtual 80, 3, [], 11, 0), (51, .ifCond .ne 5, 3, [], 0, 0), (54, .iload_n 2, 1, [], 0, 0), (55, .ireturn, 1, [], 0, 0), (56, .aload_n 0, 1, [], 0, 0), (57, .getfield 22, 3, [], 4, 0), (60, .iload_n 3, 1, [], 0, 0), (61, .bipush 26, 2, [], 0, 0), (63, .imul, 1, [], 0, 0), (64, .iload 6, 2, [], 0, 0), (66, .bipush 97, 2, [], 0, 0), (68, .isub, 1, [], 0, 0), (69, .iadd, 1, [], 0, 0), (70, .iaload, 1, [], 0, 0), (71, .istore 7, 2, [], 0, 0), (73, .iload 7, 2, [], 0, 0), (75, .ifCond .ne 5, 3, [], 0, 0), (78, .iload_n 2, 1, [], 0, 0), (79, .ireturn, 1, [], 0, 0), (80, .iload 7, 2, [], 0, 0), (82, .istore_n 3, 1, [], 0, 0), (83, .aload_n 0, 1, [], 0, 0), (84, .getfield 34, 3, [], 8, 0), (87, .iload_n 3, 1, [], 0, 0), (88, .iaload, 1, [], 0, 0), (89, .ifCond .lt 10, 3, [], 0, 0), (92, .aload_n 0, 1, [], 0, 0), (93, .getfield 34, 3, [], 8, 0), (96, .iload_n 3, 1, [], 0, 0), (97, .iaload, 1, [], 0, 0), (98, .istore_n 2, 1, [], 0, 0), (99, .iinc 4 1, 3, [], 0, 0), (102, .goto (-95), 3, [], 0, 0), (105, .iload_n 2, 1, [], 0, 0), (106, .ireturn, 1, [], 0, 0)])
def d_28 : MD := (⟨"MultiPatternScanL6", "hit", "(IIII)I"⟩, method_2_code, 5, some .int, 0, 4, 999, 0, 0, [(0, .iload_n 1, 1, [], 0, 0), (1, .iload_n 0, 1, [], 0, 0), (2, .if_icmp .lt 5, 3, [], 0, 0), (5, .iconst 0, 1, [], 0, 0), (6, .ireturn, 1, [], 0, 0), (7, .iload_n 2, 1, [], 0, 0), (8, .bipush 16, 2, [], 0, 0), (10, .if_icmp .ge 8, 3, [], 0, 0), (13, .bipush 15, 2, [], 0, 0), (15, .goto 19, 3, [], 0, 0), (18, .iload_n 2, 1, [], 0, 0), (19, .sipush 256, 3, [], 0, 0), (22, .if_icmp .ge 9, 3, [], 0, 0), (25, .sipush 255, 3, [], 0, 0), (28, .goto 6, 3, [], 0, 0), (31, .sipush 4095, 3, [], 0, 0), (34, .istore 4, 2, [true, true, false, false, true], 0, 0), (36, .iload_n 3, 1, [], 0, 0), (37, .iload 4, 2, [], 0, 0), (39, .iand, 1, [], 0, 0), (40, .iload_n 2, 1, [], 0, 0), (41, .if_icmp .ne 7, 3, [], 0, 0), (44, .iconst 1, 1, [], 0, 0), (45, .goto 4, 3, [], 0, 0), (48, .iconst 0, 1, [], 0, 0), (49, .ireturn, 1, [], 0, 0)])
def d_29 : MD := (⟨"MultiPatternScan", "occurrenceMask", "(I)I"⟩, prog_1_method_13_code, 2, some .int, 3, 1, 0, 0, 0, [(0, .iload_n 1, 1, [], 0, 0), (1, .ifCond .lt 11, 3, [], 0, 0), (4, .iload_n 1, 1, [], 0, 0), (5, .aload_n 0, 1, [], 0, 0), (6, .getfield 101, 3, [], 22, 0), (9, .if_icmp .lt 5, 3, [], 0, 0), (12, .iconst (-1), 1, [], 0, 0), (13, .ireturn, 1, [], 0, 0), (14, .aload_n 0, 1, [], 0, 0), (15, .getfield 46, 3, [], 12, 0), (18, .iload_n 1, 1, [], 0, 0), (19, .iaload, 1, [], 0, 0), (20, .ireturn, 1, [], 0, 0)])
def d_30 : MD := (⟨"MultiPatternScan", "textChar", "(I)I"⟩, prog_1_method_12_code, 2, some .int, 3, 1, 0, 0, 0, [(0, .iload_n 1, 1, [], 0, 0), (1, .ifCond .lt 11, 3, [], 0, 0), (4, .iload_n 1, 1, [], 0, 0), (5, .aload_n 0, 1, [], 0, 0), (6, .getfield 101, 3, [], 22, 0), (9, .if_icmp .lt 5, 3, [], 0, 0), (12, .iconst (-1), 1, [], 0, 0), (13, .ireturn, 1, [], 0, 0), (14, .aload_n 0, 1, [], 0, 0), (15, .getfield 43, 3, [], 11, 0), (18, .iload_n 1, 1, [], 0, 0), (19, .iaload, 1, [], 0, 0), (20, .ireturn, 1, [], 0, 0)])
def d_31 : MD := (⟨"MultiPatternScan", "commitOne", "()V"⟩, prog_1_method_30_code, 2, none, 2, 0, 0, 2, 32, [(0, .aload_n 0, 1, [], 0, 0), (1, .aload_n 0, 1, [], 0, 0), (2, .getfield 142, 3, [], 26, 0), (5, .invokevirtual 148, 3, [], 27, 0), (8, .istore_n 1, 1, [], 0, 0), (9, .iload_n 1, 1, [], 0, 0), (10, .ifCond .lt 36, 3, [], 0, 0), (13, .aload_n 0, 1, [], 0, 0), (14, .getfield 49, 3, [], 13, 0), (17, .aload_n 0, 1, [], 0, 0), (18, .getfield 127, 3, [], 25, 0), (21, .aload_n 0, 1, [], 0, 0), (22, .getfield 16, 3, [], 2, 0), (25, .iload_n 1, 1, [], 0, 0), (26, .iaload, 1, [], 0, 0), (27, .iastore, 1, [], 0, 0), (28, .aload_n 0, 1, [], 0, 0), (29, .dup, 1, [], 0, 0), (30, .getfield 142, 3, [], 26, 0), (33, .aload_n 0, 1, [], 0, 0), (34, .getfield 13, 3, [], 1, 0), (37, .iload_n 1, 1, [], 0, 0), (38, .iaload, 1, [], 0, 0), (39, .iadd, 1, [], 0, 0), (40, .putfield 142, 3, [], 26, 0), (43, .goto 31, 3, [], 0, 0), (46, .aload_n 0, 1, [], 0, 0), (47, .getfield 49, 3, [], 13, 0), (50, .aload_n 0, 1, [], 0, 0), (51, .getfield 127, 3, [], 25, 0), (54, .aload_n 0, 1, [], 0, 0), (55, .getfield 43, 3, [], 11, 0), (58, .aload_n 0, 1, [], 0, 0), (59, .getfield 142, 3, [], 26, 0), (62, .iaload, 1, [], 0, 0), (63, .iastore, 1, [], 0, 0), (64, .aload_n 0, 1, [], 0, 0), (65, .dup, 1, [], 0, 0), (66, .getfield 142, 3, [], 26, 0), (69, .iconst 1, 1, [], 0, 0), (70, .iadd, 1, [], 0, 0), (71, .putfield 142, 3, [], 26, 0), (74, .aload_n 0, 1, [false, true], 0, 0), (75, .dup, 1, [], 0, 0), (76, .getfield 127, 3, [], 25, 0), (79, .iconst 1, 1, [], 0, 0), (80, .iadd, 1, [], 0, 0), (81, .putfield 127, 3, [], 25, 0), (84, .return_, 1, [], 0, 0)])
def own_P : PD := ([("MultiPatternScan", 28, [("kwChars", "[I", (.array .int), false), ("kwLen", "[I", (.array .int), false), ("kwRepl", "[I", (.array .int), false), ("pend", "[I", (.array .int), false), ("child", "[I", (.array .int), false), ("delta", "[I", (.array .int), false), ("fail", "[I", (.array .int), false), ("depth", "[I", (.array .int), false), ("term", "[I", (.array .int), false), ("outMask", "[I", (.array .int), false), ("queue", "[I", (.array .int), false), ("text", "[I", (.array .int), false), ("masks", "[I", (.array .int), false), ("out", "[I", (.array .int), false), ("tail", "[I", (.array .int), false), ("maxKw", "I", .int, false), ("maxLen", "I", .int, false), ("phaseNow", "I", .int, false), ("count", "I", .int, false), ("pendLen", "I", .int, false), ("nodeCount", "I", .int, false), ("longestKw", "I", .int, false), ("n", "I", .int, false), ("state", "I", .int, false), ("total", "I", .int, false), ("outLen", "I", .int, false), ("commitPos", "I", .int, false), ("tailLen", "I", .int, false)])], [d_0, d_1, d_2, d_3, d_4, d_5, d_6, d_7, d_8, d_9, d_10, d_11, d_12, d_13, d_14, d_15, d_16, d_17, d_18, d_19, d_20, d_21, d_22, d_23, d_24, d_25, d_26, d_27, d_28, d_29, d_30, d_31], 1)
theorem hm_0 : own_P.mth[0]? = some d_0 := rfl
theorem hm_1 : own_P.mth[1]? = some d_1 := rfl
theorem hm_2 : own_P.mth[2]? = some d_2 := rfl
theorem hm_3 : own_P.mth[3]? = some d_3 := rfl
theorem hm_4 : own_P.mth[4]? = some d_4 := rfl
theorem hm_5 : own_P.mth[5]? = some d_5 := rfl
theorem hm_6 : own_P.mth[6]? = some d_6 := rfl
theorem hm_7 : own_P.mth[7]? = some d_7 := rfl
theorem hm_8 : own_P.mth[8]? = some d_8 := rfl
theorem hm_9 : own_P.mth[9]? = some d_9 := rfl
theorem hm_10 : own_P.mth[10]? = some d_10 := rfl
theorem hm_11 : own_P.mth[11]? = some d_11 := rfl
theorem hm_12 : own_P.mth[12]? = some d_12 := rfl
theorem hm_13 : own_P.mth[13]? = some d_13 := rfl
theorem hm_14 : own_P.mth[14]? = some d_14 := rfl
theorem hm_15 : own_P.mth[15]? = some d_15 := rfl
theorem hm_16 : own_P.mth[16]? = some d_16 := rfl
theorem hm_17 : own_P.mth[17]? = some d_17 := rfl
theorem hm_18 : own_P.mth[18]? = some d_18 := rfl
theorem hm_19 : own_P.mth[19]? = some d_19 := rfl
theorem hm_20 : own_P.mth[20]? = some d_20 := rfl
theorem hm_21 : own_P.mth[21]? = some d_21 := rfl
theorem hm_22 : own_P.mth[22]? = some d_22 := rfl
theorem hm_23 : own_P.mth[23]? = some d_23 := rfl
theorem hm_24 : own_P.mth[24]? = some d_24 := rfl
theorem hm_25 : own_P.mth[25]? = some d_25 := rfl
theorem hm_26 : own_P.mth[26]? = some d_26 := rfl
theorem hm_27 : own_P.mth[27]? = some d_27 := rfl
theorem hm_28 : own_P.mth[28]? = some d_28 := rfl
theorem hm_29 : own_P.mth[29]? = some d_29 := rfl
theorem hm_30 : own_P.mth[30]? = some d_30 := rfl
theorem hm_31 : own_P.mth[31]? = some d_31 := rfl
set_option maxRecDepth 100000 in
theorem own_chk : chk own_P = true := by decide +kernel
def own_ix : List Nat := [1, 2, 11, 13, 15, 17, 19, 21, 23, 25, 27, 29, 31, 33, 35, 37, 39, 41, 43, 45, 47, 49, 51, 53, 59, 61, 63, 65, 67, 69, 5, 2, 4, 57, 2, 55, 56, 74, 2, 71, 73, 72, 79, 2, 76, 78, 77, 84, 2, 81, 83, 82, 89, 2, 86, 88, 87, 94, 2, 91, 93, 92, 99, 2, 96, 98, 97, 104, 2, 101, 103, 102, 109, 2, 106, 108, 107, 113, 2, 111, 112, 118, 2, 115, 117, 116, 122, 2, 120, 121, 126, 2, 124, 125, 130, 2, 128, 129, 134, 2, 132, 133, 138, 2, 136, 137, 142, 2, 140, 141, 146, 2, 144, 145, 151, 2, 148, 150, 149, 156, 2, 153, 155, 154, 160, 2, 158, 159, 164, 2, 162, 163, 168, 2, 166, 167, 172, 2, 170, 171, 176, 2, 174, 175, 180, 2, 178, 179, 184, 183, 182, 189, 2, 186, 188, 187, 194, 2, 191, 193, 192, 198, 2, 196, 197, 0, 3, 105, 114, 70, 147, 152, 181, 181, 181, 181, 185, 190, 75, 80, 85, 90, 95, 100, 6, 7, 8, 9, 10, 9, 12, 9, 14, 9, 16, 9, 18, 9, 20, 9, 22, 9, 24, 9, 26, 9, 28, 9, 30, 9, 32, 9, 34, 9, 36, 9, 38, 40, 42, 44, 46, 48, 50, 52, 26, 54, 58, 60, 62, 64, 66, 68, 44, 48, 46, 131, 139, 44, 54, 44, 46, 46, 12, 46, 48, 58, 62, 64, 68, 44, 110, 46, 40, 48, 42, 48, 16, 48, 48, 48, 48, 44, 48, 119, 123, 46, 127, 46, 46, 157, 46, 48, 10, 16, 12, 46, 48, 14, 46, 46, 46, 48, 50, 52, 46, 135, 12, 52, 12, 52, 12, 10, 18, 50, 18, 50, 24, 50, 24, 50, 50, 18, 26, 28, 28, 22, 18, 20, 22, 30, 30, 143, 22, 28, 28, 28, 18, 20, 22, 20, 30, 20, 44, 54, 44, 119, 58, 60, 161, 60, 28, 60, 32, 58, 34, 58, 58, 58, 165, 62, 62, 169, 173, 12, 48, 48, 10, 16, 110, 20, 66, 66, 58, 66, 52, 58, 64, 195, 68, 66, 58, 68, 177, 38, 68, 14, 12, 38, 68, 32, 68, 68, 58, 32, 110, 18, 26, 26, 58, 34, 58, 32, 66, 177, 36, 64, 14, 66, 12, 66, 36, 64, 32, 66, 66, 66, 64, 64]
set_option maxRecDepth 100000 in
theorem own_words : (wordsOf own_P).map some = own_ix.map fun k => tables_1[k]? := rfl
theorem own_in : ∀ d ∈ wordsOf own_P, d ∈ tables_1 := fun d hd => by
  have h1 : some d ∈ (wordsOf own_P).map some := List.mem_map.mpr ⟨d, hd, rfl⟩
  rw [own_words] at h1
  obtain ⟨k, -, hk⟩ := List.mem_map.mp h1
  exact List.mem_of_getElem? hk
abbrev bk0 (s_kwChars : List Int32) (s_kwLen : List Int32) (s_kwRepl : List Int32) (s_pend : List Int32) (s_child : List Int32) (s_delta : List Int32) (s_fail : List Int32) (s_depth : List Int32) (s_term : List Int32) (s_outMask : List Int32) (s_queue : List Int32) (s_text : List Int32) (s_masks : List Int32) (s_out : List Int32) (s_tail : List Int32) (s_maxKw : Int32) (s_maxLen : Int32) (s_phaseNow : Int32) (s_count : Int32) (s_pendLen : Int32) (s_nodeCount : Int32) (s_longestKw : Int32) (s_n : Int32) (s_state : Int32) (s_total : Int32) (s_outLen : Int32) (s_commitPos : Int32) (s_tailLen : Int32) (po : List ACell) : List ACell := .inl (0, [.ref 2, .ref 3, .ref 4, .ref 5, .ref 6, .ref 7, .ref 8, .ref 9, .ref 10, .ref 11, .ref 12, .ref 13, .ref 14, .ref 15, .ref 16, .int s_maxKw, .int s_maxLen, .int s_phaseNow, .int s_count, .int s_pendLen, .int s_nodeCount, .int s_longestKw, .int s_n, .int s_state, .int s_total, .int s_outLen, .int s_commitPos, .int s_tailLen]) :: .inr (.inl (false, s_kwChars)) :: .inr (.inl (false, s_kwLen)) :: .inr (.inl (false, s_kwRepl)) :: .inr (.inl (false, s_pend)) :: .inr (.inl (false, s_child)) :: .inr (.inl (false, s_delta)) :: .inr (.inl (false, s_fail)) :: .inr (.inl (false, s_depth)) :: .inr (.inl (false, s_term)) :: .inr (.inl (false, s_outMask)) :: .inr (.inl (false, s_queue)) :: .inr (.inl (false, s_text)) :: .inr (.inl (false, s_masks)) :: .inr (.inl (false, s_out)) :: .inr (.inl (false, s_tail)) :: po
def f_clearText (zc zy zx zl zi zm : Int32) : Option (Int32 × Int32 × Int32 × Int32 × Int32 × Int32) :=
  some ((0 : Int32), (0 : Int32), (0 : Int32), (0 : Int32), (0 : Int32), (0 : Int32))
def f_init_237 (zg za zj zn zb zs zt zr zf zh zo zk zz zv zw : List Int32) (zaa zab zq zd ze zp zu zc zy zx zl zi zm : Int32) : Option (List Int32 × List Int32 × List Int32 × List Int32 × List Int32 × List Int32 × List Int32 × List Int32 × List Int32 × List Int32 × List Int32 × List Int32 × List Int32 × List Int32 × List Int32 × Int32 × Int32 × Int32 × Int32 × Int32 × Int32 × Int32 × Int32 × Int32 × Int32 × Int32 × Int32 × Int32) :=
  (f_clearText zc zy zx zl zi zm).bind fun (s2, s3, s4, s5, s6, s7) =>
  some (zg, za, zj, zn, zb, zs, zt, zr, zf, zh, zo, zk, zz, zv, zw, zaa, zab, zq, zd, ze, zp, zu, s2, s3, s4, s5, s6, s7)
def f_init_215 (k237 : List Int32 → List Int32 → List Int32 → List Int32 → List Int32 → List Int32 → List Int32 → List Int32 → List Int32 → List Int32 → List Int32 → List Int32 → List Int32 → List Int32 → List Int32 → Int32 → Int32 → Int32 → Int32 → Int32 → Int32 → Int32 → Int32 → Int32 → Int32 → Int32 → Int32 → Int32 → Option (List Int32 × List Int32 × List Int32 × List Int32 × List Int32 × List Int32 × List Int32 × List Int32 × List Int32 × List Int32 × List Int32 × List Int32 × List Int32 × List Int32 × List Int32 × Int32 × Int32 × Int32 × Int32 × Int32 × Int32 × Int32 × Int32 × Int32 × Int32 × Int32 × Int32 × Int32)) : Nat → List Int32 → List Int32 → List Int32 → List Int32 → List Int32 → List Int32 → List Int32 → List Int32 → List Int32 → List Int32 → List Int32 → List Int32 → List Int32 → List Int32 → List Int32 → Int32 → Int32 → Int32 → Int32 → Int32 → Int32 → Int32 → Int32 → Int32 → Int32 → Int32 → Int32 → Int32 → Int32 → Option (List Int32 × List Int32 × List Int32 × List Int32 × List Int32 × List Int32 × List Int32 × List Int32 × List Int32 × List Int32 × List Int32 × List Int32 × List Int32 × List Int32 × List Int32 × Int32 × Int32 × Int32 × Int32 × Int32 × Int32 × Int32 × Int32 × Int32 × Int32 × Int32 × Int32 × Int32)
  | 0, _, _, _, _, _, _, _, _, _, _, _, _, _, _, _, _, _, _, _, _, _, _, _, _, _, _, _, _, _ => none
  | n + 1, zg, za, zj, zn, zb, zs, zt, zr, zf, zh, zo, zk, zz, zv, zw, zaa, zab, zq, zd, ze, zp, zu, zc, zy, zx, zl, zi, zm, v5 =>
    if v5 < (129 : Int32) then
      (wrA zf v5 (-1 : Int32)).bind fun A1 =>
      f_init_215 k237 n zg za zj zn zb zs zt zr A1 zh zo zk zz zv zw zaa zab zq zd ze zp zu zc zy zx zl zi zm (v5 + (1 : Int32))
    else
      k237 zg za zj zn zb zs zt zr zf zh zo zk zz zv zw zaa zab zq zd ze zp zu zc zy zx zl zi zm
def f_init_176 (zg za zj zn zb zs zt zr zf zh zo zk zz zv zw : List Int32) (zaa zab zq zd ze zp zu zc zy zx zl zi zm v3 v4 : Int32) : Option (List Int32 × List Int32 × List Int32 × List Int32 × List Int32 × List Int32 × List Int32 × List Int32 × List Int32 × List Int32 × List Int32 × List Int32 × List Int32 × List Int32 × List Int32 × Int32 × Int32 × Int32 × Int32 × Int32 × Int32 × Int32 × Int32 × Int32 × Int32 × Int32 × Int32 × Int32) :=
  f_init_215 f_init_237 100000 zg za zj zn zb zs zt zr zf zh zo zk zz zv zw v3 v4 (0 : Int32) (0 : Int32) (0 : Int32) (1 : Int32) (1 : Int32) zc zy zx zl zi zm (0 : Int32)
def f_init_165 (zg za zj zn zb zs zt zr zf zh zo zk zz zv zw : List Int32) (zaa zab zq zd ze zp zu zc zy zx zl zi zm v3 v4 : Int32) : Option (List Int32 × List Int32 × List Int32 × List Int32 × List Int32 × List Int32 × List Int32 × List Int32 × List Int32 × List Int32 × List Int32 × List Int32 × List Int32 × List Int32 × List Int32 × Int32 × Int32 × Int32 × Int32 × Int32 × Int32 × Int32 × Int32 × Int32 × Int32 × Int32 × Int32 × Int32) :=
  f_init_176 zg za zj zn zb zs zt zr zf zh zo zk zz zv zw zaa zab zq zd ze zp zu zc zy zx zl zi zm v3 (if (8 : Int32) < v4 then (8 : Int32) else v4)
def f_init_153 (zg za zj zn zb zs zt zr zf zh zo zk zz zv zw : List Int32) (zaa zab zq zd ze zp zu zc zy zx zl zi zm v2 v3 : Int32) : Option (List Int32 × List Int32 × List Int32 × List Int32 × List Int32 × List Int32 × List Int32 × List Int32 × List Int32 × List Int32 × List Int32 × List Int32 × List Int32 × List Int32 × List Int32 × Int32 × Int32 × Int32 × Int32 × Int32 × Int32 × Int32 × Int32 × Int32 × Int32 × Int32 × Int32 × Int32) :=
  f_init_165 zg za zj zn zb zs zt zr zf zh zo zk zz zv zw zaa zab zq zd ze zp zu zc zy zx zl zi zm v3 (if v2 < (1 : Int32) then (1 : Int32) else v2)
def f_init_144 (zg za zj zn zb zs zt zr zf zh zo zk zz zv zw : List Int32) (zaa zab zq zd ze zp zu zc zy zx zl zi zm v2 v3 : Int32) : Option (List Int32 × List Int32 × List Int32 × List Int32 × List Int32 × List Int32 × List Int32 × List Int32 × List Int32 × List Int32 × List Int32 × List Int32 × List Int32 × List Int32 × List Int32 × Int32 × Int32 × Int32 × Int32 × Int32 × Int32 × Int32 × Int32 × Int32 × Int32 × Int32 × Int32 × Int32) :=
  f_init_153 zg za zj zn zb zs zt zr zf zh zo zk zz zv zw zaa zab zq zd ze zp zu zc zy zx zl zi zm v2 (if (16 : Int32) < v3 then (16 : Int32) else v3)
def f_init (v1 v2 : Int32) : Option (List Int32 × List Int32 × List Int32 × List Int32 × List Int32 × List Int32 × List Int32 × List Int32 × List Int32 × List Int32 × List Int32 × List Int32 × List Int32 × List Int32 × List Int32 × Int32 × Int32 × Int32 × Int32 × Int32 × Int32 × Int32 × Int32 × Int32 × Int32 × Int32 × Int32 × Int32) :=
  f_init_144 (List.replicate 128 0) (List.replicate 16 0) (List.replicate 16 0) (List.replicate 8 0) (List.replicate 3354 0) (List.replicate 3354 0) (List.replicate 129 0) (List.replicate 129 0) (List.replicate 129 0) (List.replicate 129 0) (List.replicate 129 0) (List.replicate 240 0) (List.replicate 240 0) (List.replicate 240 0) (List.replicate 8 0) (0 : Int32) (0 : Int32) (0 : Int32) (0 : Int32) (0 : Int32) (0 : Int32) (0 : Int32) (0 : Int32) (0 : Int32) (0 : Int32) (0 : Int32) (0 : Int32) (0 : Int32) v2 (if v1 < (1 : Int32) then (1 : Int32) else v1)
def f_isLetter (v1 : Int32) : Option (Int32) :=
  some (if v1 < (97 : Int32) then (0 : Int32) else (if (122 : Int32) < v1 then (0 : Int32) else (1 : Int32)))
def f_addChar (zaa zab zq zd : Int32) (zn : List Int32) (ze v1 : Int32) : Option (Int32 × List Int32 × Int32) :=
  if zq = (0 : Int32) then
    (f_isLetter v1).bind fun r8 =>
    if r8 = (0 : Int32) then
      some ((-2 : Int32), zn, ze)
    else
      if zd < zaa then
        if ze < zab then
          if ze < (8 : Int32) then
            (wrA zn ze v1).bind fun A9 =>
            some ((ze + (1 : Int32)), A9, (ze + (1 : Int32)))
          else
            some ((-3 : Int32), zn, ze)
        else
          some ((-3 : Int32), zn, ze)
      else
        some ((-3 : Int32), zn, ze)
  else
    some ((-1 : Int32), zn, ze)
def f_isPrintable (v1 : Int32) : Option (Int32) :=
  some (if v1 < (32 : Int32) then (0 : Int32) else (if (126 : Int32) < v1 then (0 : Int32) else (1 : Int32)))
def f_pendingEquals_22 (zg za zn : List Int32) (ze : Int32) : Nat → Int32 → Int32 → Option (Int32)
  | 0, _, _ => none
  | n + 1, v2, v3 =>
    if v3 < ze then
      if v3 < (8 : Int32) then
        (rdA zg (v2 + v3)).bind fun x11 =>
        (rdA zn v3).bind fun x12 =>
        if x11 = x12 then
          f_pendingEquals_22 zg za zn ze n v2 (v3 + (1 : Int32))
        else
          some (0 : Int32)
      else
        some (1 : Int32)
    else
      some (1 : Int32)
def f_pendingEquals (zg za zn : List Int32) (ze v1 : Int32) : Option (Int32) :=
  (rdA za v1).bind fun x10 =>
  if x10 = ze then
    f_pendingEquals_22 zg za zn ze 100000 (v1 * (8 : Int32)) (0 : Int32)
  else
    some (0 : Int32)
def f_pendingIsDuplicate_2 (zg za zn : List Int32) (zd ze : Int32) : Nat → Int32 → Option (Int32)
  | 0, _ => none
  | n + 1, v1 =>
    if v1 < zd then
      if v1 < (16 : Int32) then
        (f_pendingEquals zg za zn ze v1).bind fun r13 =>
        if r13 = (0 : Int32) then
          f_pendingIsDuplicate_2 zg za zn zd ze n (v1 + (1 : Int32))
        else
          some (1 : Int32)
      else
        some (0 : Int32)
    else
      some (0 : Int32)
def f_pendingIsDuplicate (zg za zn : List Int32) (zd ze : Int32) : Option (Int32) :=
  f_pendingIsDuplicate_2 zg za zn zd ze 100000 (0 : Int32)
def f_storePending_44 (zn zg za zj : List Int32) (zd ze v1 : Int32) : Option (List Int32 × List Int32 × List Int32 × Int32 × Int32) :=
  (wrA za zd ze).bind fun A16 =>
  (wrA zj zd v1).bind fun A17 =>
  some (zg, A16, A17, (zd + (1 : Int32)), (0 : Int32))
def f_storePending_10 (k44 : List Int32 → List Int32 → List Int32 → Int32 → Int32 → Int32 → Option (List Int32 × List Int32 × List Int32 × Int32 × Int32)) (zn : List Int32) : Nat → List Int32 → List Int32 → List Int32 → Int32 → Int32 → Int32 → Int32 → Int32 → Option (List Int32 × List Int32 × List Int32 × Int32 × Int32)
  | 0, _, _, _, _, _, _, _, _ => none
  | n + 1, zg, za, zj, zd, ze, v1, v2, v3 =>
    if v3 < ze then
      if v3 < (8 : Int32) then
        (rdA zn v3).bind fun x14 =>
        (wrA zg (v2 + v3) x14).bind fun A15 =>
        f_storePending_10 k44 zn n A15 za zj zd ze v1 v2 (v3 + (1 : Int32))
      else
        k44 zg za zj zd ze v1
    else
      k44 zg za zj zd ze v1
def f_storePending (zn zg za zj : List Int32) (zd ze v1 : Int32) : Option (List Int32 × List Int32 × List Int32 × Int32 × Int32) :=
  f_storePending_10 (f_storePending_44 zn) zn 100000 zg za zj zd ze v1 (zd * (8 : Int32)) (0 : Int32)
def f_endKeyword (zn : List Int32) (zq : Int32) (zg za zj : List Int32) (zd ze v1 : Int32) : Option (Int32 × List Int32 × List Int32 × List Int32 × Int32 × Int32) :=
  if zq = (0 : Int32) then
    if ze = (0 : Int32) then
      some ((-4 : Int32), zg, za, zj, zd, ze)
    else
      (f_isPrintable v1).bind fun r18 =>
      if r18 = (0 : Int32) then
        some ((-6 : Int32), zg, za, zj, zd, ze)
      else
        (f_pendingIsDuplicate zg za zn zd ze).bind fun r19 =>
        if r19 = (0 : Int32) then
          if zd < (16 : Int32) then
            (f_storePending zn zg za zj zd ze v1).bind fun (s20, s21, s22, s23, s24) =>
            some ((s23 - (1 : Int32)), s20, s21, s22, s23, s24)
          else
            some ((-3 : Int32), zg, za, zj, zd, ze)
        else
          some ((-5 : Int32), zg, za, zj, zd, ze)
  else
    some ((-1 : Int32), zg, za, zj, zd, ze)
def f_insertKeyword_137 (zg za zb zr zf zh : List Int32) (zp v1 v2 : Int32) : Option (List Int32 × List Int32 × List Int32 × List Int32 × Int32) :=
  (wrA zf v2 v1).bind fun A32 =>
  (rdA zh v2).bind fun x33 =>
  (wrA zh v2 (x33 ||| ((1 : Int32) <<< (v1 &&& 31)))).bind fun A34 =>
  some (zb, zr, A32, A34, zp)
def f_insertKeyword_123 (kb : List Int32 → List Int32 → List Int32 → List Int32 → Int32 → Int32 → Int32 → Int32 → Int32 → Option (List Int32 × List Int32 × List Int32 × List Int32 × Int32)) (k137 : List Int32 → List Int32 → List Int32 → List Int32 → Int32 → Int32 → Int32 → Option (List Int32 × List Int32 × List Int32 × List Int32 × Int32)) (zg za zb zr zf zh : List Int32) (zp v1 v3 v4 v6 : Int32) : Option (List Int32 × List Int32 × List Int32 × List Int32 × Int32) :=
  (rdA zb v6).bind fun x31 =>
  kb zb zr zf zh zp v1 x31 v3 (v4 + (1 : Int32))
def f_insertKeyword_10 (k137 : List Int32 → List Int32 → List Int32 → List Int32 → Int32 → Int32 → Int32 → Option (List Int32 × List Int32 × List Int32 × List Int32 × Int32)) (zg za : List Int32) : Nat → List Int32 → List Int32 → List Int32 → List Int32 → Int32 → Int32 → Int32 → Int32 → Int32 → Option (List Int32 × List Int32 × List Int32 × List Int32 × Int32)
  | 0, _, _, _, _, _, _, _, _, _ => none
  | n + 1, zb, zr, zf, zh, zp, v1, v2, v3, v4 =>
    (rdA za v1).bind fun x25 =>
    if v4 < x25 then
      if v4 < (8 : Int32) then
        (rdA zg (v3 + v4)).bind fun x26 =>
        if (x26 - (97 : Int32)) < (0 : Int32) then
          some (zb, zr, zf, zh, zp)
        else
          if (x26 - (97 : Int32)) < (26 : Int32) then
            (rdA zb ((v2 * (26 : Int32)) + (x26 - (97 : Int32)))).bind fun x27 =>
            if x27 = (0 : Int32) then
              if zp < (129 : Int32) then
                (wrA zb ((v2 * (26 : Int32)) + (x26 - (97 : Int32))) zp).bind fun A28 =>
                (rdA zr v2).bind fun x29 =>
                (wrA zr zp (x29 + (1 : Int32))).bind fun A30 =>
                f_insertKeyword_123 (f_insertKeyword_10 k137 zg za n) k137 zg za A28 A30 zf zh (zp + (1 : Int32)) v1 v3 v4 ((v2 * (26 : Int32)) + (x26 - (97 : Int32)))
              else
                some (zb, zr, zf, zh, zp)
            else
              f_insertKeyword_123 (f_insertKeyword_10 k137 zg za n) k137 zg za zb zr zf zh zp v1 v3 v4 ((v2 * (26 : Int32)) + (x26 - (97 : Int32)))
          else
            some (zb, zr, zf, zh, zp)
      else
        k137 zb zr zf zh zp v1 v2
    else
      k137 zb zr zf zh zp v1 v2
def f_insertKeyword (zg za zb zr zf zh : List Int32) (zp v1 : Int32) : Option (List Int32 × List Int32 × List Int32 × List Int32 × Int32) :=
  f_insertKeyword_10 (f_insertKeyword_137 zg za) zg za 100000 zb zr zf zh zp v1 (0 : Int32) (v1 * (8 : Int32)) (0 : Int32)
def f_buildTrie_12 (zg za : List Int32) (zd : Int32) : Nat → List Int32 → List Int32 → List Int32 → List Int32 → Int32 → Int32 → Int32 → Option (List Int32 × List Int32 × List Int32 × List Int32 × Int32 × Int32)
  | 0, _, _, _, _, _, _, _ => none
  | n + 1, zb, zr, zf, zh, zp, zu, v1 =>
    if v1 < zd then
      if v1 < (16 : Int32) then
        (f_insertKeyword zg za zb zr zf zh zp v1).bind fun (s35, s36, s37, s38, s39) =>
        (rdA za v1).bind fun x40 =>
        if zu < x40 then
          (rdA za v1).bind fun x41 =>
          f_buildTrie_12 zg za zd n s35 s36 s37 s38 s39 x41 (v1 + (1 : Int32))
        else
          f_buildTrie_12 zg za zd n s35 s36 s37 s38 s39 zu (v1 + (1 : Int32))
      else
        some (zb, zr, zf, zh, zp, zu)
    else
      some (zb, zr, zf, zh, zp, zu)
def f_buildTrie (zg za : List Int32) (zd : Int32) (zb zr zf zh : List Int32) (zp zu : Int32) : Option (List Int32 × List Int32 × List Int32 × List Int32 × Int32 × Int32) :=
  f_buildTrie_12 zg za zd 100000 zb zr zf zh (1 : Int32) (1 : Int32) (0 : Int32)
def f_expandNode_58 (zb : List Int32) : Nat → List Int32 → List Int32 → List Int32 → List Int32 → Int32 → Int32 → Int32 → Int32 → Option (Int32 × List Int32 × List Int32 × List Int32 × List Int32)
  | 0, _, _, _, _, _, _, _, _ => none
  | n + 1, zs, zt, zh, zo, v1, v3, v4, v5 =>
    if v5 < (26 : Int32) then
      (rdA zb ((v1 * (26 : Int32)) + v5)).bind fun x46 =>
      (rdA zs ((v3 * (26 : Int32)) + v5)).bind fun x47 =>
      if x46 = (0 : Int32) then
        (wrA zs ((v1 * (26 : Int32)) + v5) x47).bind fun A48 =>
        f_expandNode_58 zb n A48 zt zh zo v1 v3 v4 (v5 + (1 : Int32))
      else
        (wrA zt x46 x47).bind fun A49 =>
        (wrA zs ((v1 * (26 : Int32)) + v5) x46).bind fun A50 =>
        if v4 < (129 : Int32) then
          (wrA zo v4 x46).bind fun A51 =>
          f_expandNode_58 zb n A50 A49 zh A51 v1 v3 (v4 + (1 : Int32)) (v5 + (1 : Int32))
        else
          f_expandNode_58 zb n A50 A49 zh zo v1 v3 v4 (v5 + (1 : Int32))
    else
      some (v4, zs, zt, zh, zo)
def f_expandNode_33 (zb zs zt zh zo : List Int32) (v1 v2 v3 : Int32) : Option (Int32 × List Int32 × List Int32 × List Int32 × List Int32) :=
  (rdA zh v1).bind fun x43 =>
  (rdA zh v3).bind fun x44 =>
  (wrA zh v1 (x43 ||| x44)).bind fun A45 =>
  f_expandNode_58 zb 100000 zs zt A45 zo v1 v3 v2 (0 : Int32)
def f_expandNode (zb zs zt zh zo : List Int32) (v1 v2 : Int32) : Option (Int32 × List Int32 × List Int32 × List Int32 × List Int32) :=
  if (0 : Int32) < v1 then
    if v1 < (129 : Int32) then
      (rdA zt v1).bind fun x42 =>
      f_expandNode_33 zb zs zt zh zo v1 v2 (if x42 < (0 : Int32) then (0 : Int32) else (if x42 < (129 : Int32) then x42 else (0 : Int32)))
    else
      some (v2, zs, zt, zh, zo)
  else
    some (v2, zs, zt, zh, zo)
def f_computeLinks_74 (zb : List Int32) : Nat → List Int32 → List Int32 → List Int32 → List Int32 → Int32 → Int32 → Int32 → Option (List Int32 × List Int32 × List Int32 × List Int32)
  | 0, _, _, _, _, _, _, _ => none
  | n + 1, zs, zt, zh, zo, v1, v2, v3 =>
    if v3 < (129 : Int32) then
      if v1 < v2 then
        (rdA zo v1).bind fun x57 =>
        (f_expandNode zb zs zt zh zo x57 v2).bind fun (r58, s59, s60, s61, s62) =>
        f_computeLinks_74 zb n s59 s60 s61 s62 (v1 + (1 : Int32)) r58 (v3 + (1 : Int32))
      else
        some (zs, zt, zh, zo)
    else
      some (zs, zt, zh, zo)
def f_computeLinks_13 (k74 : List Int32 → List Int32 → List Int32 → List Int32 → Int32 → Int32 → Int32 → Option (List Int32 × List Int32 × List Int32 × List Int32)) (zb : List Int32) : Nat → List Int32 → List Int32 → List Int32 → List Int32 → Int32 → Int32 → Int32 → Option (List Int32 × List Int32 × List Int32 × List Int32)
  | 0, _, _, _, _, _, _, _ => none
  | n + 1, zs, zt, zh, zo, v1, v2, v3 =>
    if v3 < (26 : Int32) then
      (rdA zb v3).bind fun x53 =>
      (wrA zs v3 x53).bind fun A54 =>
      if x53 = (0 : Int32) then
        f_computeLinks_13 k74 zb n A54 zt zh zo v1 v2 (v3 + (1 : Int32))
      else
        if v2 < (129 : Int32) then
          (wrA zt x53 (0 : Int32)).bind fun A55 =>
          (wrA zo v2 x53).bind fun A56 =>
          f_computeLinks_13 k74 zb n A54 A55 zh A56 v1 (v2 + (1 : Int32)) (v3 + (1 : Int32))
        else
          f_computeLinks_13 k74 zb n A54 zt zh zo v1 v2 (v3 + (1 : Int32))
    else
      k74 zs zt zh zo v1 v2 (0 : Int32)
def f_computeLinks (zb zs zt zh zo : List Int32) : Option (List Int32 × List Int32 × List Int32 × List Int32) :=
  (wrA zt (0 : Int32) (0 : Int32)).bind fun A52 =>
  f_computeLinks_13 (f_computeLinks_74 zb 100000) zb 100000 zs A52 zh zo (0 : Int32) (0 : Int32) (0 : Int32)
def f_build (zg za : List Int32) (zd ze : Int32) (zb zs zt zr zf zh zo : List Int32) (zq zp zu zc zy zx zl zi zm : Int32) : Option (Int32 × List Int32 × List Int32 × List Int32 × List Int32 × List Int32 × List Int32 × List Int32 × Int32 × Int32 × Int32 × Int32 × Int32 × Int32 × Int32 × Int32 × Int32) :=
  if zq = (0 : Int32) then
    if ze = (0 : Int32) then
      if zd = (0 : Int32) then
        some ((-4 : Int32), zb, zs, zt, zr, zf, zh, zo, zq, zp, zu, zc, zy, zx, zl, zi, zm)
      else
        (f_buildTrie zg za zd zb zr zf zh zp zu).bind fun (s63, s64, s65, s66, s67, s68) =>
        (f_computeLinks s63 zs zt s66 zo).bind fun (s69, s70, s71, s72) =>
        (f_clearText zc zy zx zl zi zm).bind fun (s73, s74, s75, s76, s77, s78) =>
        some ((0 : Int32), s63, s69, s70, s64, s65, s71, s72, (1 : Int32), s67, s68, s73, s74, s75, s76, s77, s78)
    else
      some ((-7 : Int32), zb, zs, zt, zr, zf, zh, zo, zq, zp, zu, zc, zy, zx, zl, zi, zm)
  else
    some ((-1 : Int32), zb, zs, zt, zr, zf, zh, zo, zq, zp, zu, zc, zy, zx, zl, zi, zm)
def f_resetText (zq zc zy zx zl zi zm : Int32) : Option (Int32 × Int32 × Int32 × Int32 × Int32 × Int32 × Int32) :=
  if zq = (1 : Int32) then
    (f_clearText zc zy zx zl zi zm).bind fun (s79, s80, s81, s82, s83, s84) =>
    some ((0 : Int32), s79, s80, s81, s82, s83, s84)
  else
    some ((-1 : Int32), zc, zy, zx, zl, zi, zm)
def f_nextState (zs : List Int32) (v1 v2 : Int32) : Option (Int32) :=
  (f_isLetter v2).bind fun r85 =>
  if r85 = (0 : Int32) then
    some (0 : Int32)
  else
    if v1 < (0 : Int32) then
      some (0 : Int32)
    else
      if v1 < (129 : Int32) then
        (rdA zs ((v1 * (26 : Int32)) + (v2 - (97 : Int32)))).bind fun x86 =>
        some x86
      else
        some (0 : Int32)
def f_popCount_4 : Nat → Int32 → Int32 → Int32 → Option (Int32)
  | 0, _, _, _ => none
  | n + 1, v1, v2, v3 =>
    if v3 < (16 : Int32) then
      f_popCount_4 n v1 (if ((v1 >>> (v3 &&& 31)) &&& (1 : Int32)) = (0 : Int32) then v2 else (v2 + (1 : Int32))) (v3 + (1 : Int32))
    else
      some v2
def f_popCount (v1 : Int32) : Option (Int32) :=
  f_popCount_4 100000 v1 (0 : Int32) (0 : Int32)
def f_longestAt_7 (zb zf zk : List Int32) (zc : Int32) : Nat → Int32 → Int32 → Int32 → Int32 → Option (Int32)
  | 0, _, _, _, _ => none
  | n + 1, v1, v2, v3, v4 =>
    if v4 < (8 : Int32) then
      if (v1 + v4) < (0 : Int32) then
        some v2
      else
        if (v1 + v4) < zc then
          (rdA zk (v1 + v4)).bind fun x87 =>
          (f_isLetter x87).bind fun r88 =>
          if r88 = (0 : Int32) then
            some v2
          else
            (rdA zb ((v3 * (26 : Int32)) + (x87 - (97 : Int32)))).bind fun x89 =>
            if x89 = (0 : Int32) then
              some v2
            else
              (rdA zf x89).bind fun x90 =>
              if x90 < (0 : Int32) then
                f_longestAt_7 zb zf zk zc n v1 v2 x89 (v4 + (1 : Int32))
              else
                (rdA zf x89).bind fun x91 =>
                f_longestAt_7 zb zf zk zc n v1 x91 x89 (v4 + (1 : Int32))
        else
          some v2
    else
      some v2
def f_longestAt (zb zf zk : List Int32) (zc v1 : Int32) : Option (Int32) :=
  f_longestAt_7 zb zf zk zc 100000 v1 (-1 : Int32) (0 : Int32) (0 : Int32)
def f_commitOne_74 (za zj zb zf zk : List Int32) (zc : Int32) (zv : List Int32) (zl zi : Int32) : Option (List Int32 × Int32 × Int32) :=
  some (zv, (zl + (1 : Int32)), zi)
def f_commitOne (za zj zb zf zk : List Int32) (zc : Int32) (zv : List Int32) (zl zi : Int32) : Option (List Int32 × Int32 × Int32) :=
  (f_longestAt zb zf zk zc zi).bind fun r92 =>
  if r92 < (0 : Int32) then
    (rdA zk zi).bind fun x93 =>
    (wrA zv zl x93).bind fun A94 =>
    f_commitOne_74 za zj zb zf zk zc A94 zl (zi + (1 : Int32))
  else
    (rdA zj r92).bind fun x95 =>
    (wrA zv zl x95).bind fun A96 =>
    (rdA za r92).bind fun x97 =>
    f_commitOne_74 za zj zb zf zk zc A96 zl (zi + x97)
def f_commitReady_2 (za zj zb zf zk : List Int32) (zu zc : Int32) : Nat → List Int32 → Int32 → Int32 → Int32 → Option (List Int32 × Int32 × Int32)
  | 0, _, _, _, _ => none
  | n + 1, zv, zl, zi, v1 =>
    if v1 < (240 : Int32) then
      if zi < (0 : Int32) then
        some (zv, zl, zi)
      else
        if zi < zc then
          if zc < (zi + zu) then
            some (zv, zl, zi)
          else
            if zl < (240 : Int32) then
              (f_commitOne za zj zb zf zk zc zv zl zi).bind fun (s98, s99, s100) =>
              f_commitReady_2 za zj zb zf zk zu zc n s98 s99 s100 (v1 + (1 : Int32))
            else
              some (zv, zl, zi)
        else
          some (zv, zl, zi)
    else
      some (zv, zl, zi)
def f_commitReady (za zj zb zf zk : List Int32) (zu zc : Int32) (zv : List Int32) (zl zi : Int32) : Option (List Int32 × Int32 × Int32) :=
  f_commitReady_2 za zj zb zf zk zu zc 100000 zv zl zi (0 : Int32)
def f_rebuildTail_95 (kb : List Int32 → Int32 → Int32 → Int32 → Option (List Int32 × Int32)) (za zj zb zf zk : List Int32) (zc zi : Int32) (zw : List Int32) (zm v1 v2 : Int32) : Option (List Int32 × Int32) :=
  kb zw (zm + (1 : Int32)) v1 (v2 + (1 : Int32))
def f_rebuildTail_12 (za zj zb zf zk : List Int32) (zc zi : Int32) : Nat → List Int32 → Int32 → Int32 → Int32 → Option (List Int32 × Int32)
  | 0, _, _, _, _ => none
  | n + 1, zw, zm, v1, v2 =>
    if v2 < (8 : Int32) then
      if v1 < (0 : Int32) then
        some (zw, zm)
      else
        if v1 < zc then
          if zm < (8 : Int32) then
            (f_longestAt zb zf zk zc v1).bind fun r101 =>
            if r101 < (0 : Int32) then
              (rdA zk v1).bind fun x102 =>
              (wrA zw zm x102).bind fun A103 =>
              f_rebuildTail_95 (f_rebuildTail_12 za zj zb zf zk zc zi n) za zj zb zf zk zc zi A103 zm (v1 + (1 : Int32)) v2
            else
              (rdA zj r101).bind fun x104 =>
              (wrA zw zm x104).bind fun A105 =>
              (rdA za r101).bind fun x106 =>
              f_rebuildTail_95 (f_rebuildTail_12 za zj zb zf zk zc zi n) za zj zb zf zk zc zi A105 zm (v1 + x106) v2
          else
            some (zw, zm)
        else
          some (zw, zm)
    else
      some (zw, zm)
def f_rebuildTail (za zj zb zf zk : List Int32) (zc zi : Int32) (zw : List Int32) (zm : Int32) : Option (List Int32 × Int32) :=
  f_rebuildTail_12 za zj zb zf zk zc zi 100000 zw (0 : Int32) zi (0 : Int32)
def f_feed (za zj zb zs zf zh : List Int32) (zq zu : Int32) (zk zz zv zw : List Int32) (zc zy zx zl zi zm v1 : Int32) : Option (Int32 × List Int32 × List Int32 × List Int32 × List Int32 × Int32 × Int32 × Int32 × Int32 × Int32 × Int32) :=
  if zq = (1 : Int32) then
    (f_isPrintable v1).bind fun r107 =>
    if r107 = (0 : Int32) then
      some ((-2 : Int32), zk, zz, zv, zw, zc, zy, zx, zl, zi, zm)
    else
      if zc < (240 : Int32) then
        (f_nextState zs zy v1).bind fun r108 =>
        (rdA zh r108).bind fun x109 =>
        (wrA zk zc v1).bind fun A110 =>
        (wrA zz zc x109).bind fun A111 =>
        (f_popCount x109).bind fun r112 =>
        (f_commitReady za zj zb zf A110 zu (zc + (1 : Int32)) zv zl zi).bind fun (s113, s114, s115) =>
        (f_rebuildTail za zj zb zf A110 (zc + (1 : Int32)) s115 zw zm).bind fun (s116, s117) =>
        some (r112, A110, A111, s113, s116, (zc + (1 : Int32)), r108, (zx + r112), s114, s115, s117)
      else
        some ((-3 : Int32), zk, zz, zv, zw, zc, zy, zx, zl, zi, zm)
  else
    some ((-1 : Int32), zk, zz, zv, zw, zc, zy, zx, zl, zi, zm)
def f_L_hit_34 (v2 v3 t0 : Int32) : Option (Int32) :=
  some (if (v3 &&& t0) = v2 then (1 : Int32) else (0 : Int32))
def f_L_hit (v0 v1 v2 v3 : Int32) : Option (Int32) :=
  if v1 < v0 then
    f_L_hit_34 v2 v3 (if v2 < (16 : Int32) then (15 : Int32) else (if v2 < (256 : Int32) then (255 : Int32) else (4095 : Int32)))
  else
    some (0 : Int32)
def f_occurrenceMask (zz : List Int32) (zc v1 : Int32) : Option (Int32) :=
  if v1 < (0 : Int32) then
    some (-1 : Int32)
  else
    if v1 < zc then
      (rdA zz v1).bind fun x118 =>
      some x118
    else
      some (-1 : Int32)
def f_textChar (zk : List Int32) (zc v1 : Int32) : Option (Int32) :=
  if v1 < (0 : Int32) then
    some (-1 : Int32)
  else
    if v1 < zc then
      (rdA zk v1).bind fun x119 =>
      some x119
    else
      some (-1 : Int32)
def f_phase (zq : Int32) : Option (Int32) :=
  some zq
def f_keywordCount (zd : Int32) : Option (Int32) :=
  some zd
def f_keywordLength_19 (za : List Int32) (zd ze v1 : Int32) : Option (Int32) :=
  some (if v1 = zd then ze else (-1 : Int32))
def f_keywordLength (za : List Int32) (zd ze v1 : Int32) : Option (Int32) :=
  if v1 < (0 : Int32) then
    f_keywordLength_19 za zd ze v1
  else
    if v1 < zd then
      (rdA za v1).bind fun x120 =>
      some x120
    else
      f_keywordLength_19 za zd ze v1
def f_textLength (zc : Int32) : Option (Int32) :=
  some zc
def f_totalOccurrences (zx : Int32) : Option (Int32) :=
  some zx
def f_outLength (zl zm : Int32) : Option (Int32) :=
  some (zl + zm)
def f_L_law_611 (kb : List Int32 → List Int32 → List Int32 → List Int32 → List Int32 → List Int32 → List Int32 → List Int32 → List Int32 → List Int32 → List Int32 → List Int32 → List Int32 → List Int32 → List Int32 → Int32 → Int32 → Int32 → Int32 → Int32 → Int32 → Int32 → Int32 → Int32 → Int32 → Int32 → Int32 → Int32 → Int32 → Int32 → Int32 → Int32 → Int32 → Int32 → Int32 → Int32 → Int32 → Int32 → Int32 → Int32 → Option (Int32)) (scr zav zau zaw zao zaf zag zak zal zah zai zam zap zaq zar zas : List Int32) (zac zad zae zat zbd zan zaj zax zbb zay zaz zbc zba v2 v3 v4 v5 v6 v7 v8 v9 v10 v11 v12 v13 v16 v17 : Int32) : Option (Int32) :=
  if v16 = v17 then
    (f_phase zae).bind fun r184 =>
    if r184 = v2 then
      (f_keywordCount zat).bind fun r185 =>
      if r185 = v3 then
        (f_keywordLength zau zat zbd v3).bind fun r186 =>
        if r186 = v4 then
          (f_textLength zax).bind fun r187 =>
          if r187 = v6 then
            (f_totalOccurrences zay).bind fun r188 =>
            if r188 = v8 then
              (f_outLength zaz zba).bind fun r189 =>
              if r189 < (0 : Int32) then
                some (0 : Int32)
              else
                if v6 < r189 then
                  some (0 : Int32)
                else
                  kb zav zau zaw zao zaf zag zak zal zah zai zam zap zaq zar zas zac zad zae zat zbd zan zaj zax zbb zay zaz zbc zba v2 v3 v4 v5 v6 v7 v8 v9 v10 v11 v12 (v13 + (2 : Int32))
            else
              some (0 : Int32)
          else
            some (0 : Int32)
        else
          some (0 : Int32)
      else
        some (0 : Int32)
    else
      some (0 : Int32)
  else
    some (0 : Int32)
def f_L_law_433 (kb : List Int32 → List Int32 → List Int32 → List Int32 → List Int32 → List Int32 → List Int32 → List Int32 → List Int32 → List Int32 → List Int32 → List Int32 → List Int32 → List Int32 → List Int32 → Int32 → Int32 → Int32 → Int32 → Int32 → Int32 → Int32 → Int32 → Int32 → Int32 → Int32 → Int32 → Int32 → Int32 → Int32 → Int32 → Int32 → Int32 → Int32 → Int32 → Int32 → Int32 → Int32 → Int32 → Int32 → Option (Int32)) (scr zav zau zaw zao zaf zag zak zal zah zai zam zap zaq zar zas : List Int32) (zac zad zae zat zbd zan zaj zax zbb zay zaz zbc zba v2 v3 v4 v5 v6 v7 v8 v9 v10 v11 v12 v13 v18 : Int32) : Option (Int32) :=
  (f_feed zau zaw zaf zag zah zai zae zaj zap zaq zar zas zax zbb zay zaz zbc zba v18).bind fun (r190, s191, s192, s193, s194, s195, s196, s197, s198, s199, s200) =>
  if v2 = (1 : Int32) then
    if v18 = (127 : Int32) then
      f_L_law_611 kb scr zav zau zaw zao zaf zag zak zal zah zai zam s191 s192 s193 s194 zac zad zae zat zbd zan zaj s195 s196 s197 s198 s199 s200 v2 v3 v4 v5 v6 v7 v8 v9 v10 v11 v12 v13 r190 (-2 : Int32)
    else
      if v6 = (240 : Int32) then
        f_L_law_611 kb scr zav zau zaw zao zaf zag zak zal zah zai zam s191 s192 s193 s194 zac zad zae zat zbd zan zaj s195 s196 s197 s198 s199 s200 v2 v3 v4 v5 v6 v7 v8 v9 v10 v11 v12 v13 r190 (-3 : Int32)
      else
        (f_L_hit v3 (0 : Int32) v9 (((v7 * (16 : Int32)) + (v18 - (96 : Int32))) &&& (4095 : Int32))).bind fun r201 =>
        (f_L_hit v3 (1 : Int32) v10 (((v7 * (16 : Int32)) + (v18 - (96 : Int32))) &&& (4095 : Int32))).bind fun r202 =>
        (f_L_hit v3 (2 : Int32) v11 (((v7 * (16 : Int32)) + (v18 - (96 : Int32))) &&& (4095 : Int32))).bind fun r203 =>
        (f_L_hit v3 (3 : Int32) v12 (((v7 * (16 : Int32)) + (v18 - (96 : Int32))) &&& (4095 : Int32))).bind fun r204 =>
        (f_occurrenceMask s192 s195 ((v6 + (1 : Int32)) - (1 : Int32))).bind fun r205 =>
        if r205 = (((r201 + ((2 : Int32) * r202)) + ((4 : Int32) * r203)) + ((8 : Int32) * r204)) then
          (f_textChar s191 s195 ((v6 + (1 : Int32)) - (1 : Int32))).bind fun r206 =>
          if r206 = v18 then
            f_L_law_611 kb scr zav zau zaw zao zaf zag zak zal zah zai zam s191 s192 s193 s194 zac zad zae zat zbd zan zaj s195 s196 s197 s198 s199 s200 v2 v3 v4 v5 (v6 + (1 : Int32)) (((v7 * (16 : Int32)) + (v18 - (96 : Int32))) &&& (4095 : Int32)) (v8 + (((r201 + r202) + r203) + r204)) v9 v10 v11 v12 v13 r190 (((r201 + r202) + r203) + r204)
          else
            some (0 : Int32)
        else
          some (0 : Int32)
  else
    f_L_law_611 kb scr zav zau zaw zao zaf zag zak zal zah zai zam s191 s192 s193 s194 zac zad zae zat zbd zan zaj s195 s196 s197 s198 s199 s200 v2 v3 v4 v5 v6 v7 v8 v9 v10 v11 v12 v13 r190 (-1 : Int32)
def f_L_law_296 (kb : List Int32 → List Int32 → List Int32 → List Int32 → List Int32 → List Int32 → List Int32 → List Int32 → List Int32 → List Int32 → List Int32 → List Int32 → List Int32 → List Int32 → List Int32 → Int32 → Int32 → Int32 → Int32 → Int32 → Int32 → Int32 → Int32 → Int32 → Int32 → Int32 → Int32 → Int32 → Int32 → Int32 → Int32 → Int32 → Int32 → Int32 → Int32 → Int32 → Int32 → Int32 → Int32 → Int32 → Option (Int32)) (scr zav zau zaw zao zaf zag zak zal zah zai zam zap zaq zar zas : List Int32) (zac zad zae zat zbd zan zaj zax zbb zay zaz zbc zba v2 v3 v6 v7 v8 v9 v10 v11 v12 v13 v16 v17 : Int32) : Option (Int32) :=
  f_L_law_611 kb scr zav zau zaw zao zaf zag zak zal zah zai zam zap zaq zar zas zac zad zae zat zbd zan zaj zax zbb zay zaz zbc zba v2 (v3 + (1 : Int32)) (0 : Int32) (0 : Int32) v6 v7 v8 v9 v10 v11 v12 v13 v16 v17
def f_L_law_44 (scr : List Int32) : Nat → List Int32 → List Int32 → List Int32 → List Int32 → List Int32 → List Int32 → List Int32 → List Int32 → List Int32 → List Int32 → List Int32 → List Int32 → List Int32 → List Int32 → List Int32 → Int32 → Int32 → Int32 → Int32 → Int32 → Int32 → Int32 → Int32 → Int32 → Int32 → Int32 → Int32 → Int32 → Int32 → Int32 → Int32 → Int32 → Int32 → Int32 → Int32 → Int32 → Int32 → Int32 → Int32 → Int32 → Option (Int32)
  | 0, _, _, _, _, _, _, _, _, _, _, _, _, _, _, _, _, _, _, _, _, _, _, _, _, _, _, _, _, _, _, _, _, _, _, _, _, _, _, _, _ => none
  | n + 1, zav, zau, zaw, zao, zaf, zag, zak, zal, zah, zai, zam, zap, zaq, zar, zas, zac, zad, zae, zat, zbd, zan, zaj, zax, zbb, zay, zaz, zbc, zba, v2, v3, v4, v5, v6, v7, v8, v9, v10, v11, v12, v13 =>
    if (v13 + (1 : Int32)) < scr.length.toInt32 then
      (rdA scr v13).bind fun x149 =>
      (rdA scr (v13 + (1 : Int32))).bind fun x150 =>
      if (1 : Int32) < (x149 &&& (7 : Int32)) then
        if (x149 &&& (7 : Int32)) = (2 : Int32) then
          (f_endKeyword zao zae zav zau zaw zat zbd ((31 : Int32) + (x150 &&& (63 : Int32)))).bind fun (r175, s176, s177, s178, s179, s180) =>
          if v2 = (0 : Int32) then
            if v4 = (0 : Int32) then
              f_L_law_611 (f_L_law_44 scr n) scr s176 s177 s178 zao zaf zag zak zal zah zai zam zap zaq zar zas zac zad zae s179 s180 zan zaj zax zbb zay zaz zbc zba v2 v3 v4 v5 v6 v7 v8 v9 v10 v11 v12 v13 r175 (-4 : Int32)
            else
              if ((31 : Int32) + (x150 &&& (63 : Int32))) < (32 : Int32) then
                f_L_law_611 (f_L_law_44 scr n) scr s176 s177 s178 zao zaf zag zak zal zah zai zam zap zaq zar zas zac zad zae s179 s180 zan zaj zax zbb zay zaz zbc zba v2 v3 v4 v5 v6 v7 v8 v9 v10 v11 v12 v13 r175 (-6 : Int32)
              else
                if v5 = v9 then
                  f_L_law_611 (f_L_law_44 scr n) scr s176 s177 s178 zao zaf zag zak zal zah zai zam zap zaq zar zas zac zad zae s179 s180 zan zaj zax zbb zay zaz zbc zba v2 v3 v4 v5 v6 v7 v8 v9 v10 v11 v12 v13 r175 (-5 : Int32)
                else
                  if v5 = v10 then
                    f_L_law_611 (f_L_law_44 scr n) scr s176 s177 s178 zao zaf zag zak zal zah zai zam zap zaq zar zas zac zad zae s179 s180 zan zaj zax zbb zay zaz zbc zba v2 v3 v4 v5 v6 v7 v8 v9 v10 v11 v12 v13 r175 (-5 : Int32)
                  else
                    if v5 = v11 then
                      f_L_law_611 (f_L_law_44 scr n) scr s176 s177 s178 zao zaf zag zak zal zah zai zam zap zaq zar zas zac zad zae s179 s180 zan zaj zax zbb zay zaz zbc zba v2 v3 v4 v5 v6 v7 v8 v9 v10 v11 v12 v13 r175 (-5 : Int32)
                    else
                      if v5 = v12 then
                        f_L_law_611 (f_L_law_44 scr n) scr s176 s177 s178 zao zaf zag zak zal zah zai zam zap zaq zar zas zac zad zae s179 s180 zan zaj zax zbb zay zaz zbc zba v2 v3 v4 v5 v6 v7 v8 v9 v10 v11 v12 v13 r175 (-5 : Int32)
                      else
                        f_L_law_296 (f_L_law_44 scr n) scr s176 s177 s178 zao zaf zag zak zal zah zai zam zap zaq zar zas zac zad zae s179 s180 zan zaj zax zbb zay zaz zbc zba v2 v3 v6 v7 v8 (if v3 = (0 : Int32) then v5 else v9) (if v3 = (0 : Int32) then v10 else (if v3 = (1 : Int32) then v5 else v10)) (if v3 = (0 : Int32) then v11 else (if v3 = (1 : Int32) then v11 else (if v3 = (2 : Int32) then v5 else v11))) (if v3 = (0 : Int32) then v12 else (if v3 = (1 : Int32) then v12 else (if v3 = (2 : Int32) then v12 else v5))) v13 r175 v3
          else
            f_L_law_611 (f_L_law_44 scr n) scr s176 s177 s178 zao zaf zag zak zal zah zai zam zap zaq zar zas zac zad zae s179 s180 zan zaj zax zbb zay zaz zbc zba v2 v3 v4 v5 v6 v7 v8 v9 v10 v11 v12 v13 r175 (-1 : Int32)
        else
          if (x149 &&& (7 : Int32)) = (3 : Int32) then
            (f_build zav zau zat zbd zaf zag zak zal zah zai zam zae zan zaj zax zbb zay zaz zbc zba).bind fun (r158, s159, s160, s161, s162, s163, s164, s165, s166, s167, s168, s169, s170, s171, s172, s173, s174) =>
            f_L_law_611 (f_L_law_44 scr n) scr zav zau zaw zao s159 s160 s161 s162 s163 s164 s165 zap zaq zar zas zac zad s166 zat zbd s167 s168 s169 s170 s171 s172 s173 s174 (if v2 = (0 : Int32) then (if v4 = (0 : Int32) then (if v3 = (0 : Int32) then v2 else (1 : Int32)) else v2) else v2) v3 v4 v5 (if v2 = (0 : Int32) then (if v4 = (0 : Int32) then (if v3 = (0 : Int32) then v6 else (0 : Int32)) else v6) else v6) (if v2 = (0 : Int32) then (if v4 = (0 : Int32) then (if v3 = (0 : Int32) then v7 else (0 : Int32)) else v7) else v7) (if v2 = (0 : Int32) then (if v4 = (0 : Int32) then (if v3 = (0 : Int32) then v8 else (0 : Int32)) else v8) else v8) v9 v10 v11 v12 v13 r158 (if v2 = (0 : Int32) then (if v4 = (0 : Int32) then (if v3 = (0 : Int32) then (-4 : Int32) else (0 : Int32)) else (-7 : Int32)) else (-1 : Int32))
          else
            if (x149 &&& (7 : Int32)) = (7 : Int32) then
              (f_resetText zae zax zbb zay zaz zbc zba).bind fun (r151, s152, s153, s154, s155, s156, s157) =>
              f_L_law_611 (f_L_law_44 scr n) scr zav zau zaw zao zaf zag zak zal zah zai zam zap zaq zar zas zac zad zae zat zbd zan zaj s152 s153 s154 s155 s156 s157 v2 v3 v4 v5 (if v2 = (1 : Int32) then (0 : Int32) else v6) (if v2 = (1 : Int32) then (0 : Int32) else v7) (if v2 = (1 : Int32) then (0 : Int32) else v8) v9 v10 v11 v12 v13 r151 (if v2 = (1 : Int32) then (0 : Int32) else (-1 : Int32))
            else
              f_L_law_433 (f_L_law_44 scr n) scr zav zau zaw zao zaf zag zak zal zah zai zam zap zaq zar zas zac zad zae zat zbd zan zaj zax zbb zay zaz zbc zba v2 v3 v4 v5 v6 v7 v8 v9 v10 v11 v12 v13 (if (x150 &&& (48 : Int32)) = (48 : Int32) then (127 : Int32) else ((97 : Int32) + (x150 &&& (7 : Int32))))
      else
        (f_addChar zac zad zae zat zao zbd ((96 : Int32) + (x150 &&& (7 : Int32)))).bind fun (r181, s182, s183) =>
        f_L_law_611 (f_L_law_44 scr n) scr zav zau zaw s182 zaf zag zak zal zah zai zam zap zaq zar zas zac zad zae zat s183 zan zaj zax zbb zay zaz zbc zba v2 v3 (if v2 = (0 : Int32) then (if ((96 : Int32) + (x150 &&& (7 : Int32))) < (97 : Int32) then v4 else (if v3 = (4 : Int32) then v4 else (if v4 = (3 : Int32) then v4 else (v4 + (1 : Int32))))) else v4) (if v2 = (0 : Int32) then (if ((96 : Int32) + (x150 &&& (7 : Int32))) < (97 : Int32) then v5 else (if v3 = (4 : Int32) then v5 else (if v4 = (3 : Int32) then v5 else ((v5 * (16 : Int32)) + (((96 : Int32) + (x150 &&& (7 : Int32))) - (96 : Int32)))))) else v5) v6 v7 v8 v9 v10 v11 v12 v13 r181 (if v2 = (0 : Int32) then (if ((96 : Int32) + (x150 &&& (7 : Int32))) < (97 : Int32) then (-2 : Int32) else (if v3 = (4 : Int32) then (-3 : Int32) else (if v4 = (3 : Int32) then (-3 : Int32) else (v4 + (1 : Int32))))) else (-1 : Int32))
    else
      some (1 : Int32)
def f_L_law (scr : List Int32) : Option (Int32) :=
  (f_init (4 : Int32) (3 : Int32)).bind fun (s121, s122, s123, s124, s125, s126, s127, s128, s129, s130, s131, s132, s133, s134, s135, s136, s137, s138, s139, s140, s141, s142, s143, s144, s145, s146, s147, s148) =>
  f_L_law_44 scr 100000 s121 s122 s123 s124 s125 s126 s127 s128 s129 s130 s131 s132 s133 s134 s135 s136 s137 s138 s139 s140 s141 s142 s143 s144 s145 s146 s147 s148 (0 : Int32) (0 : Int32) (0 : Int32) (0 : Int32) (0 : Int32) (0 : Int32) (0 : Int32) (-1 : Int32) (-1 : Int32) (-1 : Int32) (-1 : Int32) (0 : Int32)
set_option maxHeartbeats 4000000
set_option maxRecDepth 10000
abbrev qi (x : Int32) : Slot := .val (.int x)
abbrev ql (x : Int64) : Slot := .val (.long x)
abbrev qr (x : Nat) : Slot := .val (.ref x)
abbrev qu : Slot := .unset
abbrev qw : Slot := .second
abbrev qa (l : List Int32) : ACell := .inr (.inl (false, l))
theorem ok_clearText {zg za zj zn zb zs zt zr zf zh zo zk zz zv zw : List Int32} {zaa zab zq zd ze zp zu : Int32} {c0 : ACell} {po : List ACell} {zc zy zx zl zi zm w_o_n w_o_state w_o_total w_o_outLen w_o_commitPos w_o_tailLen : Int32} (h : f_clearText zc zy zx zl zi zm = some (w_o_n, w_o_state, w_o_total, w_o_outLen, w_o_commitPos, w_o_tailLen)) : OEnds own_P 2 0 [qr 1] [] (c0 :: bk0 zg za zj zn zb zs zt zr zf zh zo zk zz zv zw zaa zab zq zd ze zp zu zc zy zx zl zi zm po) (none, (c0 :: bk0 zg za zj zn zb zs zt zr zf zh zo zk zz zv zw zaa zab zq zd ze zp zu w_o_n w_o_state w_o_total w_o_outLen w_o_commitPos w_o_tailLen po), 0, 0) := by
  unfold f_clearText at h
  refine OEnds.adv hm_2 18 (pc' := 30) (L' := [qr 1]) (S' := []) (H' := (c0 :: bk0 zg za zj zn zb zs zt zr zf zh zo zk zz zv zw zaa zab zq zd ze zp zu 0 0 0 0 0 0 po)) rfl ?_
  cases h
  exact OEnds.vret hm_2 rfl rfl
theorem ok_init_237 {c0 : ACell} : ∀ {zg za zj zn zb zs zt zr zf zh zo zk zz zv zw : List Int32} {zaa zab zq zd ze zp zu zc zy zx zl zi zm : Int32} {d1 d2 d3 d4 d5 : Slot} {w_o_kwChars w_o_kwLen w_o_kwRepl w_o_pend w_o_child w_o_delta w_o_fail w_o_depth w_o_term w_o_outMask w_o_queue w_o_text w_o_masks w_o_out w_o_tail : List Int32} {w_o_maxKw w_o_maxLen w_o_phaseNow w_o_count w_o_pendLen w_o_nodeCount w_o_longestKw w_o_n w_o_state w_o_total w_o_outLen w_o_commitPos : Int32} {w_o_tailLen : Int32}, f_init_237 zg za zj zn zb zs zt zr zf zh zo zk zz zv zw zaa zab zq zd ze zp zu zc zy zx zl zi zm = some (w_o_kwChars, w_o_kwLen, w_o_kwRepl, w_o_pend, w_o_child, w_o_delta, w_o_fail, w_o_depth, w_o_term, w_o_outMask, w_o_queue, w_o_text, w_o_masks, w_o_out, w_o_tail, w_o_maxKw, w_o_maxLen, w_o_phaseNow, w_o_count, w_o_pendLen, w_o_nodeCount, w_o_longestKw, w_o_n, w_o_state, w_o_total, w_o_outLen, w_o_commitPos, w_o_tailLen) → OEnds own_P 1 237 [qr 1, d1, d2, d3, d4, d5] [] (c0 :: bk0 zg za zj zn zb zs zt zr zf zh zo zk zz zv zw zaa zab zq zd ze zp zu zc zy zx zl zi zm []) (none, (c0 :: bk0 w_o_kwChars w_o_kwLen w_o_kwRepl w_o_pend w_o_child w_o_delta w_o_fail w_o_depth w_o_term w_o_outMask w_o_queue w_o_text w_o_masks w_o_out w_o_tail w_o_maxKw w_o_maxLen w_o_phaseNow w_o_count w_o_pendLen w_o_nodeCount w_o_longestKw w_o_n w_o_state w_o_total w_o_outLen w_o_commitPos w_o_tailLen []), 0, 0) := by
  intro zg za zj zn zb zs zt zr zf zh zo zk zz zv zw zaa zab zq zd ze zp zu zc zy zx zl zi zm d1 d2 d3 d4 d5 w_o_kwChars w_o_kwLen w_o_kwRepl w_o_pend w_o_child w_o_delta w_o_fail w_o_depth w_o_term w_o_outMask w_o_queue w_o_text w_o_masks w_o_out w_o_tail w_o_maxKw w_o_maxLen w_o_phaseNow w_o_count w_o_pendLen w_o_nodeCount w_o_longestKw w_o_n w_o_state w_o_total w_o_outLen w_o_commitPos w_o_tailLen h
  unfold f_init_237 at h
  refine OEnds.adv hm_1 1 (pc' := 238) (L' := [qr 1, qu, qu, qu, qu, qu]) (S' := [.ref 1]) (H' := (c0 :: bk0 zg za zj zn zb zs zt zr zf zh zo zk zz zv zw zaa zab zq zd ze zp zu zc zy zx zl zi zm [])) rfl ?_
  obtain ⟨⟨s2, s3, s4, s5, s6, s7⟩, hq1, h⟩ := bnd h
  refine OEnds.call0 hm_1 rfl rfl (by decide) rfl (as := [.ref 1]) (rest := []) rfl rfl (ok_clearText hq1) ?_
  show OEnds own_P 1 241 [qr 1, qu, qu, qu, qu, qu] [] (c0 :: bk0 zg za zj zn zb zs zt zr zf zh zo zk zz zv zw zaa zab zq zd ze zp zu s2 s3 s4 s5 s6 s7 []) _
  cases h
  exact OEnds.vret hm_1 rfl rfl
theorem ok_init_215 {c0 : ACell} {k237 : List Int32 → List Int32 → List Int32 → List Int32 → List Int32 → List Int32 → List Int32 → List Int32 → List Int32 → List Int32 → List Int32 → List Int32 → List Int32 → List Int32 → List Int32 → Int32 → Int32 → Int32 → Int32 → Int32 → Int32 → Int32 → Int32 → Int32 → Int32 → Int32 → Int32 → Int32 → Option (List Int32 × List Int32 × List Int32 × List Int32 × List Int32 × List Int32 × List Int32 × List Int32 × List Int32 × List Int32 × List Int32 × List Int32 × List Int32 × List Int32 × List Int32 × Int32 × Int32 × Int32 × Int32 × Int32 × Int32 × Int32 × Int32 × Int32 × Int32 × Int32 × Int32 × Int32)} (hk237 : ∀ {zg za zj zn zb zs zt zr zf zh zo zk zz zv zw : List Int32} {zaa zab zq zd ze zp zu zc zy zx zl zi zm : Int32} {d1 d2 d3 d4 d5 : Slot} {w_o_kwChars w_o_kwLen w_o_kwRepl w_o_pend w_o_child w_o_delta w_o_fail w_o_depth w_o_term w_o_outMask w_o_queue w_o_text w_o_masks w_o_out w_o_tail : List Int32} {w_o_maxKw w_o_maxLen w_o_phaseNow w_o_count w_o_pendLen w_o_nodeCount w_o_longestKw w_o_n w_o_state w_o_total w_o_outLen w_o_commitPos : Int32} {w_o_tailLen : Int32}, k237 zg za zj zn zb zs zt zr zf zh zo zk zz zv zw zaa zab zq zd ze zp zu zc zy zx zl zi zm = some (w_o_kwChars, w_o_kwLen, w_o_kwRepl, w_o_pend, w_o_child, w_o_delta, w_o_fail, w_o_depth, w_o_term, w_o_outMask, w_o_queue, w_o_text, w_o_masks, w_o_out, w_o_tail, w_o_maxKw, w_o_maxLen, w_o_phaseNow, w_o_count, w_o_pendLen, w_o_nodeCount, w_o_longestKw, w_o_n, w_o_state, w_o_total, w_o_outLen, w_o_commitPos, w_o_tailLen) → OEnds own_P 1 237 [qr 1, d1, d2, d3, d4, d5] [] (c0 :: bk0 zg za zj zn zb zs zt zr zf zh zo zk zz zv zw zaa zab zq zd ze zp zu zc zy zx zl zi zm []) (none, (c0 :: bk0 w_o_kwChars w_o_kwLen w_o_kwRepl w_o_pend w_o_child w_o_delta w_o_fail w_o_depth w_o_term w_o_outMask w_o_queue w_o_text w_o_masks w_o_out w_o_tail w_o_maxKw w_o_maxLen w_o_phaseNow w_o_count w_o_pendLen w_o_nodeCount w_o_longestKw w_o_n w_o_state w_o_total w_o_outLen w_o_commitPos w_o_tailLen []), 0, 0)) : ∀ (n : Nat), ∀ {zg za zj zn zb zs zt zr zf zh zo zk zz zv zw : List Int32} {zaa zab zq zd ze zp zu zc zy zx zl zi zm v5 : Int32} {d1 d2 d3 d4 : Slot} {w_o_kwChars w_o_kwLen w_o_kwRepl w_o_pend w_o_child w_o_delta w_o_fail w_o_depth w_o_term w_o_outMask w_o_queue w_o_text w_o_masks w_o_out w_o_tail : List Int32} {w_o_maxKw w_o_maxLen w_o_phaseNow w_o_count w_o_pendLen w_o_nodeCount w_o_longestKw w_o_n w_o_state w_o_total w_o_outLen w_o_commitPos : Int32} {w_o_tailLen : Int32}, f_init_215 k237 n zg za zj zn zb zs zt zr zf zh zo zk zz zv zw zaa zab zq zd ze zp zu zc zy zx zl zi zm v5 = some (w_o_kwChars, w_o_kwLen, w_o_kwRepl, w_o_pend, w_o_child, w_o_delta, w_o_fail, w_o_depth, w_o_term, w_o_outMask, w_o_queue, w_o_text, w_o_masks, w_o_out, w_o_tail, w_o_maxKw, w_o_maxLen, w_o_phaseNow, w_o_count, w_o_pendLen, w_o_nodeCount, w_o_longestKw, w_o_n, w_o_state, w_o_total, w_o_outLen, w_o_commitPos, w_o_tailLen) → OEnds own_P 1 215 [qr 1, d1, d2, d3, d4, qi v5] [] (c0 :: bk0 zg za zj zn zb zs zt zr zf zh zo zk zz zv zw zaa zab zq zd ze zp zu zc zy zx zl zi zm []) (none, (c0 :: bk0 w_o_kwChars w_o_kwLen w_o_kwRepl w_o_pend w_o_child w_o_delta w_o_fail w_o_depth w_o_term w_o_outMask w_o_queue w_o_text w_o_masks w_o_out w_o_tail w_o_maxKw w_o_maxLen w_o_phaseNow w_o_count w_o_pendLen w_o_nodeCount w_o_longestKw w_o_n w_o_state w_o_total w_o_outLen w_o_commitPos w_o_tailLen []), 0, 0) := by
  intro n
  induction n with
  | zero => intro zg za zj zn zb zs zt zr zf zh zo zk zz zv zw zaa zab zq zd ze zp zu zc zy zx zl zi zm v5 d1 d2 d3 d4 w_o_kwChars w_o_kwLen w_o_kwRepl w_o_pend w_o_child w_o_delta w_o_fail w_o_depth w_o_term w_o_outMask w_o_queue w_o_text w_o_masks w_o_out w_o_tail w_o_maxKw w_o_maxLen w_o_phaseNow w_o_count w_o_pendLen w_o_nodeCount w_o_longestKw w_o_n w_o_state w_o_total w_o_outLen w_o_commitPos w_o_tailLen h; cases h
  | succ n ih =>
    intro zg za zj zn zb zs zt zr zf zh zo zk zz zv zw zaa zab zq zd ze zp zu zc zy zx zl zi zm v5 d1 d2 d3 d4 w_o_kwChars w_o_kwLen w_o_kwRepl w_o_pend w_o_child w_o_delta w_o_fail w_o_depth w_o_term w_o_outMask w_o_queue w_o_text w_o_masks w_o_out w_o_tail w_o_maxKw w_o_maxLen w_o_phaseNow w_o_count w_o_pendLen w_o_nodeCount w_o_longestKw w_o_n w_o_state w_o_total w_o_outLen w_o_commitPos w_o_tailLen h
    unfold f_init_215 at h
    refine OEnds.adv hm_1 2 (pc' := 220) (L' := [qr 1, qu, qu, qu, qu, qi v5]) (S' := [.int 129, .int v5]) (H' := (c0 :: bk0 zg za zj zn zb zs zt zr zf zh zo zk zz zv zw zaa zab zq zd ze zp zu zc zy zx zl zi zm [])) rfl ?_
    by_cases hc2 : v5 < (129 : Int32)
    · simp only [if_pos hc2] at h
      refine OEnds.icmpF hm_1 rfl ((tlt hc2).2.1) ?_
      refine OEnds.adv hm_1 4 (pc' := 230) (L' := [qr 1, qu, qu, qu, qu, qi v5]) (S' := [.int (-1), .int v5, .ref 10]) (H' := (c0 :: bk0 zg za zj zn zb zs zt zr zf zh zo zk zz zv zw zaa zab zq zd ze zp zu zc zy zx zl zi zm [])) rfl ?_
      obtain ⟨A1, hA1, h⟩ := bnd h
      refine OEnds.plain hm_1 rfl rfl (x_iastore rfl (Nat.le_of_ble_eq_true rfl) hA1) ?_
      refine OEnds.adv hm_1 2 (pc' := 215) (L' := [qr 1, qu, qu, qu, qu, qi (v5 + (1 : Int32))]) (S' := []) (H' := (c0 :: bk0 zg za zj zn zb zs zt zr A1 zh zo zk zz zv zw zaa zab zq zd ze zp zu zc zy zx zl zi zm [])) rfl ?_
      exact ih h
    · simp only [if_neg hc2] at h
      refine OEnds.icmpT hm_1 rfl (q := 237) rfl ((flt hc2).2.1) ?_
      show OEnds own_P 1 237 [qr 1, qu, qu, qu, qu, qi v5] [] (c0 :: bk0 zg za zj zn zb zs zt zr zf zh zo zk zz zv zw zaa zab zq zd ze zp zu zc zy zx zl zi zm []) _
      exact hk237 h
theorem ok_init_176 {c0 : ACell} : ∀ {zg za zj zn zb zs zt zr zf zh zo zk zz zv zw : List Int32} {zaa zab zq zd ze zp zu zc zy zx zl zi zm v3 v4 : Int32} {d1 d2 d5 : Slot} {w_o_kwChars w_o_kwLen w_o_kwRepl w_o_pend w_o_child w_o_delta w_o_fail w_o_depth w_o_term w_o_outMask w_o_queue w_o_text w_o_masks w_o_out w_o_tail : List Int32} {w_o_maxKw w_o_maxLen w_o_phaseNow w_o_count w_o_pendLen w_o_nodeCount w_o_longestKw w_o_n w_o_state w_o_total w_o_outLen w_o_commitPos : Int32} {w_o_tailLen : Int32}, f_init_176 zg za zj zn zb zs zt zr zf zh zo zk zz zv zw zaa zab zq zd ze zp zu zc zy zx zl zi zm v3 v4 = some (w_o_kwChars, w_o_kwLen, w_o_kwRepl, w_o_pend, w_o_child, w_o_delta, w_o_fail, w_o_depth, w_o_term, w_o_outMask, w_o_queue, w_o_text, w_o_masks, w_o_out, w_o_tail, w_o_maxKw, w_o_maxLen, w_o_phaseNow, w_o_count, w_o_pendLen, w_o_nodeCount, w_o_longestKw, w_o_n, w_o_state, w_o_total, w_o_outLen, w_o_commitPos, w_o_tailLen) → OEnds own_P 1 176 [qr 1, d1, d2, qi v3, qi v4, d5] [] (c0 :: bk0 zg za zj zn zb zs zt zr zf zh zo zk zz zv zw zaa zab zq zd ze zp zu zc zy zx zl zi zm []) (none, (c0 :: bk0 w_o_kwChars w_o_kwLen w_o_kwRepl w_o_pend w_o_child w_o_delta w_o_fail w_o_depth w_o_term w_o_outMask w_o_queue w_o_text w_o_masks w_o_out w_o_tail w_o_maxKw w_o_maxLen w_o_phaseNow w_o_count w_o_pendLen w_o_nodeCount w_o_longestKw w_o_n w_o_state w_o_total w_o_outLen w_o_commitPos w_o_tailLen []), 0, 0) := by
  intro zg za zj zn zb zs zt zr zf zh zo zk zz zv zw zaa zab zq zd ze zp zu zc zy zx zl zi zm v3 v4 d1 d2 d5 w_o_kwChars w_o_kwLen w_o_kwRepl w_o_pend w_o_child w_o_delta w_o_fail w_o_depth w_o_term w_o_outMask w_o_queue w_o_text w_o_masks w_o_out w_o_tail w_o_maxKw w_o_maxLen w_o_phaseNow w_o_count w_o_pendLen w_o_nodeCount w_o_longestKw w_o_n w_o_state w_o_total w_o_outLen w_o_commitPos w_o_tailLen h
  unfold f_init_176 at h
  refine OEnds.adv hm_1 23 (pc' := 215) (L' := [qr 1, qu, qu, qi v3, qi v4, qi 0]) (S' := []) (H' := (c0 :: bk0 zg za zj zn zb zs zt zr zf zh zo zk zz zv zw v3 v4 0 0 0 1 1 zc zy zx zl zi zm [])) rfl ?_
  exact ok_init_215 (k237 := f_init_237) ok_init_237 100000 h
theorem ok_init_165 {c0 : ACell} : ∀ {zg za zj zn zb zs zt zr zf zh zo zk zz zv zw : List Int32} {zaa zab zq zd ze zp zu zc zy zx zl zi zm v3 v4 : Int32} {d1 d2 d5 : Slot} {w_o_kwChars w_o_kwLen w_o_kwRepl w_o_pend w_o_child w_o_delta w_o_fail w_o_depth w_o_term w_o_outMask w_o_queue w_o_text w_o_masks w_o_out w_o_tail : List Int32} {w_o_maxKw w_o_maxLen w_o_phaseNow w_o_count w_o_pendLen w_o_nodeCount w_o_longestKw w_o_n w_o_state w_o_total w_o_outLen w_o_commitPos : Int32} {w_o_tailLen : Int32}, f_init_165 zg za zj zn zb zs zt zr zf zh zo zk zz zv zw zaa zab zq zd ze zp zu zc zy zx zl zi zm v3 v4 = some (w_o_kwChars, w_o_kwLen, w_o_kwRepl, w_o_pend, w_o_child, w_o_delta, w_o_fail, w_o_depth, w_o_term, w_o_outMask, w_o_queue, w_o_text, w_o_masks, w_o_out, w_o_tail, w_o_maxKw, w_o_maxLen, w_o_phaseNow, w_o_count, w_o_pendLen, w_o_nodeCount, w_o_longestKw, w_o_n, w_o_state, w_o_total, w_o_outLen, w_o_commitPos, w_o_tailLen) → OEnds own_P 1 165 [qr 1, d1, d2, qi v3, qi v4, d5] [] (c0 :: bk0 zg za zj zn zb zs zt zr zf zh zo zk zz zv zw zaa zab zq zd ze zp zu zc zy zx zl zi zm []) (none, (c0 :: bk0 w_o_kwChars w_o_kwLen w_o_kwRepl w_o_pend w_o_child w_o_delta w_o_fail w_o_depth w_o_term w_o_outMask w_o_queue w_o_text w_o_masks w_o_out w_o_tail w_o_maxKw w_o_maxLen w_o_phaseNow w_o_count w_o_pendLen w_o_nodeCount w_o_longestKw w_o_n w_o_state w_o_total w_o_outLen w_o_commitPos w_o_tailLen []), 0, 0) := by
  intro zg za zj zn zb zs zt zr zf zh zo zk zz zv zw zaa zab zq zd ze zp zu zc zy zx zl zi zm v3 v4 d1 d2 d5 w_o_kwChars w_o_kwLen w_o_kwRepl w_o_pend w_o_child w_o_delta w_o_fail w_o_depth w_o_term w_o_outMask w_o_queue w_o_text w_o_masks w_o_out w_o_tail w_o_maxKw w_o_maxLen w_o_phaseNow w_o_count w_o_pendLen w_o_nodeCount w_o_longestKw w_o_n w_o_state w_o_total w_o_outLen w_o_commitPos w_o_tailLen h
  unfold f_init_165 at h
  refine OEnds.adv hm_1 2 (pc' := 169) (L' := [qr 1, qu, qu, qi v3, qi v4, qu]) (S' := [.int 8, .int v4]) (H' := (c0 :: bk0 zg za zj zn zb zs zt zr zf zh zo zk zz zv zw zaa zab zq zd ze zp zu zc zy zx zl zi zm [])) rfl ?_
  by_cases hc3 : (8 : Int32) < v4
  · simp only [if_pos hc3] at h
    refine OEnds.icmpF hm_1 rfl ((tlt hc3).2.2.2) ?_
    refine OEnds.adv hm_1 2 (pc' := 176) (L' := [qr 1, qu, qu, qi v3, qi 8, qu]) (S' := []) (H' := (c0 :: bk0 zg za zj zn zb zs zt zr zf zh zo zk zz zv zw zaa zab zq zd ze zp zu zc zy zx zl zi zm [])) rfl ?_
    exact ok_init_176 h
  · simp only [if_neg hc3] at h
    refine OEnds.icmpT hm_1 rfl (q := 176) rfl ((flt hc3).2.2.2) ?_
    show OEnds own_P 1 176 [qr 1, qu, qu, qi v3, qi v4, qu] [] (c0 :: bk0 zg za zj zn zb zs zt zr zf zh zo zk zz zv zw zaa zab zq zd ze zp zu zc zy zx zl zi zm []) _
    exact ok_init_176 h
theorem ok_init_153 {c0 : ACell} : ∀ {zg za zj zn zb zs zt zr zf zh zo zk zz zv zw : List Int32} {zaa zab zq zd ze zp zu zc zy zx zl zi zm v2 v3 : Int32} {d1 d4 d5 : Slot} {w_o_kwChars w_o_kwLen w_o_kwRepl w_o_pend w_o_child w_o_delta w_o_fail w_o_depth w_o_term w_o_outMask w_o_queue w_o_text w_o_masks w_o_out w_o_tail : List Int32} {w_o_maxKw w_o_maxLen w_o_phaseNow w_o_count w_o_pendLen w_o_nodeCount w_o_longestKw w_o_n w_o_state w_o_total w_o_outLen w_o_commitPos : Int32} {w_o_tailLen : Int32}, f_init_153 zg za zj zn zb zs zt zr zf zh zo zk zz zv zw zaa zab zq zd ze zp zu zc zy zx zl zi zm v2 v3 = some (w_o_kwChars, w_o_kwLen, w_o_kwRepl, w_o_pend, w_o_child, w_o_delta, w_o_fail, w_o_depth, w_o_term, w_o_outMask, w_o_queue, w_o_text, w_o_masks, w_o_out, w_o_tail, w_o_maxKw, w_o_maxLen, w_o_phaseNow, w_o_count, w_o_pendLen, w_o_nodeCount, w_o_longestKw, w_o_n, w_o_state, w_o_total, w_o_outLen, w_o_commitPos, w_o_tailLen) → OEnds own_P 1 153 [qr 1, d1, qi v2, qi v3, d4, d5] [] (c0 :: bk0 zg za zj zn zb zs zt zr zf zh zo zk zz zv zw zaa zab zq zd ze zp zu zc zy zx zl zi zm []) (none, (c0 :: bk0 w_o_kwChars w_o_kwLen w_o_kwRepl w_o_pend w_o_child w_o_delta w_o_fail w_o_depth w_o_term w_o_outMask w_o_queue w_o_text w_o_masks w_o_out w_o_tail w_o_maxKw w_o_maxLen w_o_phaseNow w_o_count w_o_pendLen w_o_nodeCount w_o_longestKw w_o_n w_o_state w_o_total w_o_outLen w_o_commitPos w_o_tailLen []), 0, 0) := by
  intro zg za zj zn zb zs zt zr zf zh zo zk zz zv zw zaa zab zq zd ze zp zu zc zy zx zl zi zm v2 v3 d1 d4 d5 w_o_kwChars w_o_kwLen w_o_kwRepl w_o_pend w_o_child w_o_delta w_o_fail w_o_depth w_o_term w_o_outMask w_o_queue w_o_text w_o_masks w_o_out w_o_tail w_o_maxKw w_o_maxLen w_o_phaseNow w_o_count w_o_pendLen w_o_nodeCount w_o_longestKw w_o_n w_o_state w_o_total w_o_outLen w_o_commitPos w_o_tailLen h
  unfold f_init_153 at h
  refine OEnds.adv hm_1 4 (pc' := 159) (L' := [qr 1, qu, qi v2, qi v3, qi v2, qu]) (S' := [.int 1, .int v2]) (H' := (c0 :: bk0 zg za zj zn zb zs zt zr zf zh zo zk zz zv zw zaa zab zq zd ze zp zu zc zy zx zl zi zm [])) rfl ?_
  by_cases hc4 : v2 < (1 : Int32)
  · simp only [if_pos hc4] at h
    refine OEnds.icmpF hm_1 rfl ((tlt hc4).2.1) ?_
    refine OEnds.adv hm_1 2 (pc' := 165) (L' := [qr 1, qu, qi v2, qi v3, qi 1, qu]) (S' := []) (H' := (c0 :: bk0 zg za zj zn zb zs zt zr zf zh zo zk zz zv zw zaa zab zq zd ze zp zu zc zy zx zl zi zm [])) rfl ?_
    exact ok_init_165 h
  · simp only [if_neg hc4] at h
    refine OEnds.icmpT hm_1 rfl (q := 165) rfl ((flt hc4).2.1) ?_
    show OEnds own_P 1 165 [qr 1, qu, qi v2, qi v3, qi v2, qu] [] (c0 :: bk0 zg za zj zn zb zs zt zr zf zh zo zk zz zv zw zaa zab zq zd ze zp zu zc zy zx zl zi zm []) _
    exact ok_init_165 h
theorem ok_init_144 {c0 : ACell} : ∀ {zg za zj zn zb zs zt zr zf zh zo zk zz zv zw : List Int32} {zaa zab zq zd ze zp zu zc zy zx zl zi zm v2 v3 : Int32} {d1 d4 d5 : Slot} {w_o_kwChars w_o_kwLen w_o_kwRepl w_o_pend w_o_child w_o_delta w_o_fail w_o_depth w_o_term w_o_outMask w_o_queue w_o_text w_o_masks w_o_out w_o_tail : List Int32} {w_o_maxKw w_o_maxLen w_o_phaseNow w_o_count w_o_pendLen w_o_nodeCount w_o_longestKw w_o_n w_o_state w_o_total w_o_outLen w_o_commitPos : Int32} {w_o_tailLen : Int32}, f_init_144 zg za zj zn zb zs zt zr zf zh zo zk zz zv zw zaa zab zq zd ze zp zu zc zy zx zl zi zm v2 v3 = some (w_o_kwChars, w_o_kwLen, w_o_kwRepl, w_o_pend, w_o_child, w_o_delta, w_o_fail, w_o_depth, w_o_term, w_o_outMask, w_o_queue, w_o_text, w_o_masks, w_o_out, w_o_tail, w_o_maxKw, w_o_maxLen, w_o_phaseNow, w_o_count, w_o_pendLen, w_o_nodeCount, w_o_longestKw, w_o_n, w_o_state, w_o_total, w_o_outLen, w_o_commitPos, w_o_tailLen) → OEnds own_P 1 144 [qr 1, d1, qi v2, qi v3, d4, d5] [] (c0 :: bk0 zg za zj zn zb zs zt zr zf zh zo zk zz zv zw zaa zab zq zd ze zp zu zc zy zx zl zi zm []) (none, (c0 :: bk0 w_o_kwChars w_o_kwLen w_o_kwRepl w_o_pend w_o_child w_o_delta w_o_fail w_o_depth w_o_term w_o_outMask w_o_queue w_o_text w_o_masks w_o_out w_o_tail w_o_maxKw w_o_maxLen w_o_phaseNow w_o_count w_o_pendLen w_o_nodeCount w_o_longestKw w_o_n w_o_state w_o_total w_o_outLen w_o_commitPos w_o_tailLen []), 0, 0) := by
  intro zg za zj zn zb zs zt zr zf zh zo zk zz zv zw zaa zab zq zd ze zp zu zc zy zx zl zi zm v2 v3 d1 d4 d5 w_o_kwChars w_o_kwLen w_o_kwRepl w_o_pend w_o_child w_o_delta w_o_fail w_o_depth w_o_term w_o_outMask w_o_queue w_o_text w_o_masks w_o_out w_o_tail w_o_maxKw w_o_maxLen w_o_phaseNow w_o_count w_o_pendLen w_o_nodeCount w_o_longestKw w_o_n w_o_state w_o_total w_o_outLen w_o_commitPos w_o_tailLen h
  unfold f_init_144 at h
  refine OEnds.adv hm_1 2 (pc' := 147) (L' := [qr 1, qu, qi v2, qi v3, qu, qu]) (S' := [.int 16, .int v3]) (H' := (c0 :: bk0 zg za zj zn zb zs zt zr zf zh zo zk zz zv zw zaa zab zq zd ze zp zu zc zy zx zl zi zm [])) rfl ?_
  by_cases hc5 : (16 : Int32) < v3
  · simp only [if_pos hc5] at h
    refine OEnds.icmpF hm_1 rfl ((tlt hc5).2.2.2) ?_
    refine OEnds.adv hm_1 2 (pc' := 153) (L' := [qr 1, qu, qi v2, qi 16, qu, qu]) (S' := []) (H' := (c0 :: bk0 zg za zj zn zb zs zt zr zf zh zo zk zz zv zw zaa zab zq zd ze zp zu zc zy zx zl zi zm [])) rfl ?_
    exact ok_init_153 h
  · simp only [if_neg hc5] at h
    refine OEnds.icmpT hm_1 rfl (q := 153) rfl ((flt hc5).2.2.2) ?_
    show OEnds own_P 1 153 [qr 1, qu, qi v2, qi v3, qu, qu] [] (c0 :: bk0 zg za zj zn zb zs zt zr zf zh zo zk zz zv zw zaa zab zq zd ze zp zu zc zy zx zl zi zm []) _
    exact ok_init_153 h
theorem ok_init {c0 : ACell} {v1 v2 : Int32} {w_o_kwChars w_o_kwLen w_o_kwRepl w_o_pend w_o_child w_o_delta w_o_fail w_o_depth w_o_term w_o_outMask w_o_queue w_o_text w_o_masks w_o_out w_o_tail : List Int32} {w_o_maxKw w_o_maxLen w_o_phaseNow w_o_count w_o_pendLen w_o_nodeCount w_o_longestKw w_o_n w_o_state w_o_total w_o_outLen w_o_commitPos w_o_tailLen : Int32} (h : f_init v1 v2 = some (w_o_kwChars, w_o_kwLen, w_o_kwRepl, w_o_pend, w_o_child, w_o_delta, w_o_fail, w_o_depth, w_o_term, w_o_outMask, w_o_queue, w_o_text, w_o_masks, w_o_out, w_o_tail, w_o_maxKw, w_o_maxLen, w_o_phaseNow, w_o_count, w_o_pendLen, w_o_nodeCount, w_o_longestKw, w_o_n, w_o_state, w_o_total, w_o_outLen, w_o_commitPos, w_o_tailLen)) : OEnds own_P 1 0 [qr 1, qi v1, qi v2, qu, qu, qu] [] (c0 :: (.inl (0, [.null, .null, .null, .null, .null, .null, .null, .null, .null, .null, .null, .null, .null, .null, .null, .int 0, .int 0, .int 0, .int 0, .int 0, .int 0, .int 0, .int 0, .int 0, .int 0, .int 0, .int 0, .int 0]) : ACell) :: []) (none, (c0 :: bk0 w_o_kwChars w_o_kwLen w_o_kwRepl w_o_pend w_o_child w_o_delta w_o_fail w_o_depth w_o_term w_o_outMask w_o_queue w_o_text w_o_masks w_o_out w_o_tail w_o_maxKw w_o_maxLen w_o_phaseNow w_o_count w_o_pendLen w_o_nodeCount w_o_longestKw w_o_n w_o_state w_o_total w_o_outLen w_o_commitPos w_o_tailLen []), 15, 8249) := by
  unfold f_init at h
  refine OEnds.adv hm_1 1 (pc' := 1) (L' := [qr 1, qi v1, qi v2, qu, qu, qu]) (S' := [.ref 1]) (H' := (c0 :: (.inl (0, [.null, .null, .null, .null, .null, .null, .null, .null, .null, .null, .null, .null, .null, .null, .null, .int 0, .int 0, .int 0, .int 0, .int 0, .int 0, .int 0, .int 0, .int 0, .int 0, .int 0, .int 0, .int 0]) : ACell) :: [])) rfl ?_
  refine OEnds.oinit hm_1 rfl ⟨Nat.le_of_ble_eq_true rfl, Nat.le_of_ble_eq_true rfl⟩ ?_
  refine OEnds.adv hm_1 2 (pc' := 8) (L' := [qr 1, qi v1, qi v2, qu, qu, qu]) (S' := [.int 128, .ref 1]) (H' := (c0 :: (.inl (0, [.null, .null, .null, .null, .null, .null, .null, .null, .null, .null, .null, .null, .null, .null, .null, .int 0, .int 0, .int 0, .int 0, .int 0, .int 0, .int 0, .int 0, .int 0, .int 0, .int 0, .int 0, .int 0]) : ACell) :: [])) rfl ?_
  refine OEnds.made1 hm_1 rfl rfl (ks := 128) rfl rfl ?_
  refine OEnds.adv hm_1 3 (pc' := 16) (L' := [qr 1, qi v1, qi v2, qu, qu, qu]) (S' := [.int 16, .ref 1]) (H' := (c0 :: (.inl (0, [.ref 2, .null, .null, .null, .null, .null, .null, .null, .null, .null, .null, .null, .null, .null, .null, .int 0, .int 0, .int 0, .int 0, .int 0, .int 0, .int 0, .int 0, .int 0, .int 0, .int 0, .int 0, .int 0]) : ACell) :: .inr (.inl (false, (List.replicate 128 0))) :: [])) rfl ?_
  refine OEnds.made1 hm_1 rfl rfl (ks := 16) rfl rfl ?_
  refine OEnds.adv hm_1 3 (pc' := 24) (L' := [qr 1, qi v1, qi v2, qu, qu, qu]) (S' := [.int 16, .ref 1]) (H' := (c0 :: (.inl (0, [.ref 2, .ref 3, .null, .null, .null, .null, .null, .null, .null, .null, .null, .null, .null, .null, .null, .int 0, .int 0, .int 0, .int 0, .int 0, .int 0, .int 0, .int 0, .int 0, .int 0, .int 0, .int 0, .int 0]) : ACell) :: .inr (.inl (false, (List.replicate 128 0))) :: .inr (.inl (false, (List.replicate 16 0))) :: [])) rfl ?_
  refine OEnds.made1 hm_1 rfl rfl (ks := 16) rfl rfl ?_
  refine OEnds.adv hm_1 3 (pc' := 32) (L' := [qr 1, qi v1, qi v2, qu, qu, qu]) (S' := [.int 8, .ref 1]) (H' := (c0 :: (.inl (0, [.ref 2, .ref 3, .ref 4, .null, .null, .null, .null, .null, .null, .null, .null, .null, .null, .null, .null, .int 0, .int 0, .int 0, .int 0, .int 0, .int 0, .int 0, .int 0, .int 0, .int 0, .int 0, .int 0, .int 0]) : ACell) :: .inr (.inl (false, (List.replicate 128 0))) :: .inr (.inl (false, (List.replicate 16 0))) :: .inr (.inl (false, (List.replicate 16 0))) :: [])) rfl ?_
  refine OEnds.made1 hm_1 rfl rfl (ks := 8) rfl rfl ?_
  refine OEnds.adv hm_1 3 (pc' := 41) (L' := [qr 1, qi v1, qi v2, qu, qu, qu]) (S' := [.int 3354, .ref 1]) (H' := (c0 :: (.inl (0, [.ref 2, .ref 3, .ref 4, .ref 5, .null, .null, .null, .null, .null, .null, .null, .null, .null, .null, .null, .int 0, .int 0, .int 0, .int 0, .int 0, .int 0, .int 0, .int 0, .int 0, .int 0, .int 0, .int 0, .int 0]) : ACell) :: .inr (.inl (false, (List.replicate 128 0))) :: .inr (.inl (false, (List.replicate 16 0))) :: .inr (.inl (false, (List.replicate 16 0))) :: .inr (.inl (false, (List.replicate 8 0))) :: [])) rfl ?_
  refine OEnds.made1 hm_1 rfl rfl (ks := 3354) rfl rfl ?_
  refine OEnds.adv hm_1 3 (pc' := 50) (L' := [qr 1, qi v1, qi v2, qu, qu, qu]) (S' := [.int 3354, .ref 1]) (H' := (c0 :: (.inl (0, [.ref 2, .ref 3, .ref 4, .ref 5, .ref 6, .null, .null, .null, .null, .null, .null, .null, .null, .null, .null, .int 0, .int 0, .int 0, .int 0, .int 0, .int 0, .int 0, .int 0, .int 0, .int 0, .int 0, .int 0, .int 0]) : ACell) :: .inr (.inl (false, (List.replicate 128 0))) :: .inr (.inl (false, (List.replicate 16 0))) :: .inr (.inl (false, (List.replicate 16 0))) :: .inr (.inl (false, (List.replicate 8 0))) :: .inr (.inl (false, (List.replicate 3354 0))) :: [])) rfl ?_
  refine OEnds.made1 hm_1 rfl rfl (ks := 3354) rfl rfl ?_
  refine OEnds.adv hm_1 3 (pc' := 59) (L' := [qr 1, qi v1, qi v2, qu, qu, qu]) (S' := [.int 129, .ref 1]) (H' := (c0 :: (.inl (0, [.ref 2, .ref 3, .ref 4, .ref 5, .ref 6, .ref 7, .null, .null, .null, .null, .null, .null, .null, .null, .null, .int 0, .int 0, .int 0, .int 0, .int 0, .int 0, .int 0, .int 0, .int 0, .int 0, .int 0, .int 0, .int 0]) : ACell) :: .inr (.inl (false, (List.replicate 128 0))) :: .inr (.inl (false, (List.replicate 16 0))) :: .inr (.inl (false, (List.replicate 16 0))) :: .inr (.inl (false, (List.replicate 8 0))) :: .inr (.inl (false, (List.replicate 3354 0))) :: .inr (.inl (false, (List.replicate 3354 0))) :: [])) rfl ?_
  refine OEnds.made1 hm_1 rfl rfl (ks := 129) rfl rfl ?_
  refine OEnds.adv hm_1 3 (pc' := 68) (L' := [qr 1, qi v1, qi v2, qu, qu, qu]) (S' := [.int 129, .ref 1]) (H' := (c0 :: (.inl (0, [.ref 2, .ref 3, .ref 4, .ref 5, .ref 6, .ref 7, .ref 8, .null, .null, .null, .null, .null, .null, .null, .null, .int 0, .int 0, .int 0, .int 0, .int 0, .int 0, .int 0, .int 0, .int 0, .int 0, .int 0, .int 0, .int 0]) : ACell) :: .inr (.inl (false, (List.replicate 128 0))) :: .inr (.inl (false, (List.replicate 16 0))) :: .inr (.inl (false, (List.replicate 16 0))) :: .inr (.inl (false, (List.replicate 8 0))) :: .inr (.inl (false, (List.replicate 3354 0))) :: .inr (.inl (false, (List.replicate 3354 0))) :: .inr (.inl (false, (List.replicate 129 0))) :: [])) rfl ?_
  refine OEnds.made1 hm_1 rfl rfl (ks := 129) rfl rfl ?_
  refine OEnds.adv hm_1 3 (pc' := 77) (L' := [qr 1, qi v1, qi v2, qu, qu, qu]) (S' := [.int 129, .ref 1]) (H' := (c0 :: (.inl (0, [.ref 2, .ref 3, .ref 4, .ref 5, .ref 6, .ref 7, .ref 8, .ref 9, .null, .null, .null, .null, .null, .null, .null, .int 0, .int 0, .int 0, .int 0, .int 0, .int 0, .int 0, .int 0, .int 0, .int 0, .int 0, .int 0, .int 0]) : ACell) :: .inr (.inl (false, (List.replicate 128 0))) :: .inr (.inl (false, (List.replicate 16 0))) :: .inr (.inl (false, (List.replicate 16 0))) :: .inr (.inl (false, (List.replicate 8 0))) :: .inr (.inl (false, (List.replicate 3354 0))) :: .inr (.inl (false, (List.replicate 3354 0))) :: .inr (.inl (false, (List.replicate 129 0))) :: .inr (.inl (false, (List.replicate 129 0))) :: [])) rfl ?_
  refine OEnds.made1 hm_1 rfl rfl (ks := 129) rfl rfl ?_
  refine OEnds.adv hm_1 3 (pc' := 86) (L' := [qr 1, qi v1, qi v2, qu, qu, qu]) (S' := [.int 129, .ref 1]) (H' := (c0 :: (.inl (0, [.ref 2, .ref 3, .ref 4, .ref 5, .ref 6, .ref 7, .ref 8, .ref 9, .ref 10, .null, .null, .null, .null, .null, .null, .int 0, .int 0, .int 0, .int 0, .int 0, .int 0, .int 0, .int 0, .int 0, .int 0, .int 0, .int 0, .int 0]) : ACell) :: .inr (.inl (false, (List.replicate 128 0))) :: .inr (.inl (false, (List.replicate 16 0))) :: .inr (.inl (false, (List.replicate 16 0))) :: .inr (.inl (false, (List.replicate 8 0))) :: .inr (.inl (false, (List.replicate 3354 0))) :: .inr (.inl (false, (List.replicate 3354 0))) :: .inr (.inl (false, (List.replicate 129 0))) :: .inr (.inl (false, (List.replicate 129 0))) :: .inr (.inl (false, (List.replicate 129 0))) :: [])) rfl ?_
  refine OEnds.made1 hm_1 rfl rfl (ks := 129) rfl rfl ?_
  refine OEnds.adv hm_1 3 (pc' := 95) (L' := [qr 1, qi v1, qi v2, qu, qu, qu]) (S' := [.int 129, .ref 1]) (H' := (c0 :: (.inl (0, [.ref 2, .ref 3, .ref 4, .ref 5, .ref 6, .ref 7, .ref 8, .ref 9, .ref 10, .ref 11, .null, .null, .null, .null, .null, .int 0, .int 0, .int 0, .int 0, .int 0, .int 0, .int 0, .int 0, .int 0, .int 0, .int 0, .int 0, .int 0]) : ACell) :: .inr (.inl (false, (List.replicate 128 0))) :: .inr (.inl (false, (List.replicate 16 0))) :: .inr (.inl (false, (List.replicate 16 0))) :: .inr (.inl (false, (List.replicate 8 0))) :: .inr (.inl (false, (List.replicate 3354 0))) :: .inr (.inl (false, (List.replicate 3354 0))) :: .inr (.inl (false, (List.replicate 129 0))) :: .inr (.inl (false, (List.replicate 129 0))) :: .inr (.inl (false, (List.replicate 129 0))) :: .inr (.inl (false, (List.replicate 129 0))) :: [])) rfl ?_
  refine OEnds.made1 hm_1 rfl rfl (ks := 129) rfl rfl ?_
  refine OEnds.adv hm_1 3 (pc' := 104) (L' := [qr 1, qi v1, qi v2, qu, qu, qu]) (S' := [.int 240, .ref 1]) (H' := (c0 :: (.inl (0, [.ref 2, .ref 3, .ref 4, .ref 5, .ref 6, .ref 7, .ref 8, .ref 9, .ref 10, .ref 11, .ref 12, .null, .null, .null, .null, .int 0, .int 0, .int 0, .int 0, .int 0, .int 0, .int 0, .int 0, .int 0, .int 0, .int 0, .int 0, .int 0]) : ACell) :: .inr (.inl (false, (List.replicate 128 0))) :: .inr (.inl (false, (List.replicate 16 0))) :: .inr (.inl (false, (List.replicate 16 0))) :: .inr (.inl (false, (List.replicate 8 0))) :: .inr (.inl (false, (List.replicate 3354 0))) :: .inr (.inl (false, (List.replicate 3354 0))) :: .inr (.inl (false, (List.replicate 129 0))) :: .inr (.inl (false, (List.replicate 129 0))) :: .inr (.inl (false, (List.replicate 129 0))) :: .inr (.inl (false, (List.replicate 129 0))) :: .inr (.inl (false, (List.replicate 129 0))) :: [])) rfl ?_
  refine OEnds.made1 hm_1 rfl rfl (ks := 240) rfl rfl ?_
  refine OEnds.adv hm_1 3 (pc' := 113) (L' := [qr 1, qi v1, qi v2, qu, qu, qu]) (S' := [.int 240, .ref 1]) (H' := (c0 :: (.inl (0, [.ref 2, .ref 3, .ref 4, .ref 5, .ref 6, .ref 7, .ref 8, .ref 9, .ref 10, .ref 11, .ref 12, .ref 13, .null, .null, .null, .int 0, .int 0, .int 0, .int 0, .int 0, .int 0, .int 0, .int 0, .int 0, .int 0, .int 0, .int 0, .int 0]) : ACell) :: .inr (.inl (false, (List.replicate 128 0))) :: .inr (.inl (false, (List.replicate 16 0))) :: .inr (.inl (false, (List.replicate 16 0))) :: .inr (.inl (false, (List.replicate 8 0))) :: .inr (.inl (false, (List.replicate 3354 0))) :: .inr (.inl (false, (List.replicate 3354 0))) :: .inr (.inl (false, (List.replicate 129 0))) :: .inr (.inl (false, (List.replicate 129 0))) :: .inr (.inl (false, (List.replicate 129 0))) :: .inr (.inl (false, (List.replicate 129 0))) :: .inr (.inl (false, (List.replicate 129 0))) :: .inr (.inl (false, (List.replicate 240 0))) :: [])) rfl ?_
  refine OEnds.made1 hm_1 rfl rfl (ks := 240) rfl rfl ?_
  refine OEnds.adv hm_1 3 (pc' := 122) (L' := [qr 1, qi v1, qi v2, qu, qu, qu]) (S' := [.int 240, .ref 1]) (H' := (c0 :: (.inl (0, [.ref 2, .ref 3, .ref 4, .ref 5, .ref 6, .ref 7, .ref 8, .ref 9, .ref 10, .ref 11, .ref 12, .ref 13, .ref 14, .null, .null, .int 0, .int 0, .int 0, .int 0, .int 0, .int 0, .int 0, .int 0, .int 0, .int 0, .int 0, .int 0, .int 0]) : ACell) :: .inr (.inl (false, (List.replicate 128 0))) :: .inr (.inl (false, (List.replicate 16 0))) :: .inr (.inl (false, (List.replicate 16 0))) :: .inr (.inl (false, (List.replicate 8 0))) :: .inr (.inl (false, (List.replicate 3354 0))) :: .inr (.inl (false, (List.replicate 3354 0))) :: .inr (.inl (false, (List.replicate 129 0))) :: .inr (.inl (false, (List.replicate 129 0))) :: .inr (.inl (false, (List.replicate 129 0))) :: .inr (.inl (false, (List.replicate 129 0))) :: .inr (.inl (false, (List.replicate 129 0))) :: .inr (.inl (false, (List.replicate 240 0))) :: .inr (.inl (false, (List.replicate 240 0))) :: [])) rfl ?_
  refine OEnds.made1 hm_1 rfl rfl (ks := 240) rfl rfl ?_
  refine OEnds.adv hm_1 3 (pc' := 130) (L' := [qr 1, qi v1, qi v2, qu, qu, qu]) (S' := [.int 8, .ref 1]) (H' := (c0 :: (.inl (0, [.ref 2, .ref 3, .ref 4, .ref 5, .ref 6, .ref 7, .ref 8, .ref 9, .ref 10, .ref 11, .ref 12, .ref 13, .ref 14, .ref 15, .null, .int 0, .int 0, .int 0, .int 0, .int 0, .int 0, .int 0, .int 0, .int 0, .int 0, .int 0, .int 0, .int 0]) : ACell) :: .inr (.inl (false, (List.replicate 128 0))) :: .inr (.inl (false, (List.replicate 16 0))) :: .inr (.inl (false, (List.replicate 16 0))) :: .inr (.inl (false, (List.replicate 8 0))) :: .inr (.inl (false, (List.replicate 3354 0))) :: .inr (.inl (false, (List.replicate 3354 0))) :: .inr (.inl (false, (List.replicate 129 0))) :: .inr (.inl (false, (List.replicate 129 0))) :: .inr (.inl (false, (List.replicate 129 0))) :: .inr (.inl (false, (List.replicate 129 0))) :: .inr (.inl (false, (List.replicate 129 0))) :: .inr (.inl (false, (List.replicate 240 0))) :: .inr (.inl (false, (List.replicate 240 0))) :: .inr (.inl (false, (List.replicate 240 0))) :: [])) rfl ?_
  refine OEnds.made1 hm_1 rfl rfl (ks := 8) rfl rfl ?_
  refine OEnds.adv hm_1 5 (pc' := 139) (L' := [qr 1, qi v1, qi v2, qi v1, qu, qu]) (S' := [.int 1, .int v1]) (H' := (c0 :: bk0 (List.replicate 128 0) (List.replicate 16 0) (List.replicate 16 0) (List.replicate 8 0) (List.replicate 3354 0) (List.replicate 3354 0) (List.replicate 129 0) (List.replicate 129 0) (List.replicate 129 0) (List.replicate 129 0) (List.replicate 129 0) (List.replicate 240 0) (List.replicate 240 0) (List.replicate 240 0) (List.replicate 8 0) 0 0 0 0 0 0 0 0 0 0 0 0 0 [])) rfl ?_
  by_cases hc6 : v1 < (1 : Int32)
  · simp only [if_pos hc6] at h
    refine OEnds.icmpF hm_1 rfl ((tlt hc6).2.1) ?_
    refine OEnds.adv hm_1 2 (pc' := 144) (L' := [qr 1, qi v1, qi v2, qi 1, qu, qu]) (S' := []) (H' := (c0 :: bk0 (List.replicate 128 0) (List.replicate 16 0) (List.replicate 16 0) (List.replicate 8 0) (List.replicate 3354 0) (List.replicate 3354 0) (List.replicate 129 0) (List.replicate 129 0) (List.replicate 129 0) (List.replicate 129 0) (List.replicate 129 0) (List.replicate 240 0) (List.replicate 240 0) (List.replicate 240 0) (List.replicate 8 0) 0 0 0 0 0 0 0 0 0 0 0 0 0 [])) rfl ?_
    exact ok_init_144 h
  · simp only [if_neg hc6] at h
    refine OEnds.icmpT hm_1 rfl (q := 144) rfl ((flt hc6).2.1) ?_
    show OEnds own_P 1 144 [qr 1, qi v1, qi v2, qi v1, qu, qu] [] (c0 :: bk0 (List.replicate 128 0) (List.replicate 16 0) (List.replicate 16 0) (List.replicate 8 0) (List.replicate 3354 0) (List.replicate 3354 0) (List.replicate 129 0) (List.replicate 129 0) (List.replicate 129 0) (List.replicate 129 0) (List.replicate 129 0) (List.replicate 240 0) (List.replicate 240 0) (List.replicate 240 0) (List.replicate 8 0) 0 0 0 0 0 0 0 0 0 0 0 0 0 []) _
    exact ok_init_144 h
theorem ok_isPrintable {zg za zj zn zb zs zt zr zf zh zo zk zz zv zw : List Int32} {zaa zab zq zd ze zp zu zc zy zx zl zi zm : Int32} {c0 : ACell} {po : List ACell} {v1 res : Int32} (h : f_isPrintable v1 = some res) : OEnds own_P 13 0 [qr 1, qi v1] [] (c0 :: bk0 zg za zj zn zb zs zt zr zf zh zo zk zz zv zw zaa zab zq zd ze zp zu zc zy zx zl zi zm po) (some (.int res), (c0 :: bk0 zg za zj zn zb zs zt zr zf zh zo zk zz zv zw zaa zab zq zd ze zp zu zc zy zx zl zi zm po), 0, 0) := by
  unfold f_isPrintable at h
  refine OEnds.adv hm_13 2 (pc' := 3) (L' := [qr 1, qi v1]) (S' := [.int 32, .int v1]) (H' := (c0 :: bk0 zg za zj zn zb zs zt zr zf zh zo zk zz zv zw zaa zab zq zd ze zp zu zc zy zx zl zi zm po)) rfl ?_
  by_cases hc7 : v1 < (32 : Int32)
  · simp only [if_pos hc7] at h
    refine OEnds.icmpT hm_13 rfl (q := 16) rfl ((tlt hc7).1) ?_
    refine OEnds.adv hm_13 1 (pc' := 17) (L' := [qr 1, qi v1]) (S' := [.int 0]) (H' := (c0 :: bk0 zg za zj zn zb zs zt zr zf zh zo zk zz zv zw zaa zab zq zd ze zp zu zc zy zx zl zi zm po)) rfl ?_
    cases h
    exact OEnds.iret hm_13 rfl rfl
  · simp only [if_neg hc7] at h
    refine OEnds.icmpF hm_13 rfl ((flt hc7).1) ?_
    refine OEnds.adv hm_13 2 (pc' := 9) (L' := [qr 1, qi v1]) (S' := [.int 126, .int v1]) (H' := (c0 :: bk0 zg za zj zn zb zs zt zr zf zh zo zk zz zv zw zaa zab zq zd ze zp zu zc zy zx zl zi zm po)) rfl ?_
    by_cases hc8 : (126 : Int32) < v1
    · simp only [if_pos hc8] at h
      refine OEnds.icmpT hm_13 rfl (q := 16) rfl ((tlt hc8).2.2.1) ?_
      refine OEnds.adv hm_13 1 (pc' := 17) (L' := [qr 1, qi v1]) (S' := [.int 0]) (H' := (c0 :: bk0 zg za zj zn zb zs zt zr zf zh zo zk zz zv zw zaa zab zq zd ze zp zu zc zy zx zl zi zm po)) rfl ?_
      cases h
      exact OEnds.iret hm_13 rfl rfl
    · simp only [if_neg hc8] at h
      refine OEnds.icmpF hm_13 rfl ((flt hc8).2.2.1) ?_
      refine OEnds.adv hm_13 2 (pc' := 17) (L' := [qr 1, qi v1]) (S' := [.int 1]) (H' := (c0 :: bk0 zg za zj zn zb zs zt zr zf zh zo zk zz zv zw zaa zab zq zd ze zp zu zc zy zx zl zi zm po)) rfl ?_
      cases h
      exact OEnds.iret hm_13 rfl rfl
theorem ok_pendingEquals_22 {zg za zj zn zb zs zt zr zf zh zo zk zz zv zw : List Int32} {zaa zab zq zd ze zp zu zc zy zx zl zi zm : Int32} {c0 : ACell} {po : List ACell} : ∀ (n : Nat), ∀ {v2 v3 : Int32} {d1 : Slot} {res : Int32}, f_pendingEquals_22 zg za zn ze n v2 v3 = some res → OEnds own_P 22 22 [qr 1, d1, qi v2, qi v3] [] (c0 :: bk0 zg za zj zn zb zs zt zr zf zh zo zk zz zv zw zaa zab zq zd ze zp zu zc zy zx zl zi zm po) (some (.int res), (c0 :: bk0 zg za zj zn zb zs zt zr zf zh zo zk zz zv zw zaa zab zq zd ze zp zu zc zy zx zl zi zm po), 0, 0) := by
  intro n
  induction n with
  | zero => intro v2 v3 d1 res h; cases h
  | succ n ih =>
    intro v2 v3 d1 res h
    unfold f_pendingEquals_22 at h
    refine OEnds.adv hm_22 3 (pc' := 27) (L' := [qr 1, qu, qi v2, qi v3]) (S' := [.int ze, .int v3]) (H' := (c0 :: bk0 zg za zj zn zb zs zt zr zf zh zo zk zz zv zw zaa zab zq zd ze zp zu zc zy zx zl zi zm po)) rfl ?_
    by_cases hc9 : v3 < ze
    · simp only [if_pos hc9] at h
      refine OEnds.icmpF hm_22 rfl ((tlt hc9).2.1) ?_
      refine OEnds.adv hm_22 2 (pc' := 33) (L' := [qr 1, qu, qi v2, qi v3]) (S' := [.int 8, .int v3]) (H' := (c0 :: bk0 zg za zj zn zb zs zt zr zf zh zo zk zz zv zw zaa zab zq zd ze zp zu zc zy zx zl zi zm po)) rfl ?_
      by_cases hc10 : v3 < (8 : Int32)
      · simp only [if_pos hc10] at h
        refine OEnds.icmpF hm_22 rfl ((tlt hc10).2.1) ?_
        refine OEnds.adv hm_22 5 (pc' := 43) (L' := [qr 1, qu, qi v2, qi v3]) (S' := [.int (v2 + v3), .ref 2]) (H' := (c0 :: bk0 zg za zj zn zb zs zt zr zf zh zo zk zz zv zw zaa zab zq zd ze zp zu zc zy zx zl zi zm po)) rfl ?_
        obtain ⟨x11, hx11, h⟩ := bnd h
        refine OEnds.plain hm_22 rfl rfl (x_iaload rfl hx11) ?_
        refine OEnds.adv hm_22 3 (pc' := 49) (L' := [qr 1, qu, qi v2, qi v3]) (S' := [.int v3, .ref 5, .int x11]) (H' := (c0 :: bk0 zg za zj zn zb zs zt zr zf zh zo zk zz zv zw zaa zab zq zd ze zp zu zc zy zx zl zi zm po)) rfl ?_
        obtain ⟨x12, hx12, h⟩ := bnd h
        refine OEnds.plain hm_22 rfl rfl (x_iaload rfl hx12) ?_
        show OEnds own_P 22 50 [qr 1, qu, qi v2, qi v3] [.int x12, .int x11] (c0 :: bk0 zg za zj zn zb zs zt zr zf zh zo zk zz zv zw zaa zab zq zd ze zp zu zc zy zx zl zi zm po) _
        by_cases hc11 : x11 = x12
        · simp only [if_pos hc11] at h
          refine OEnds.icmpT hm_22 rfl (q := 55) rfl ((teq hc11).1) ?_
          refine OEnds.adv hm_22 2 (pc' := 22) (L' := [qr 1, qu, qi v2, qi (v3 + (1 : Int32))]) (S' := []) (H' := (c0 :: bk0 zg za zj zn zb zs zt zr zf zh zo zk zz zv zw zaa zab zq zd ze zp zu zc zy zx zl zi zm po)) rfl ?_
          exact ih h
        · simp only [if_neg hc11] at h
          refine OEnds.icmpF hm_22 rfl ((feq hc11).1) ?_
          refine OEnds.adv hm_22 1 (pc' := 54) (L' := [qr 1, qu, qi v2, qi v3]) (S' := [.int 0]) (H' := (c0 :: bk0 zg za zj zn zb zs zt zr zf zh zo zk zz zv zw zaa zab zq zd ze zp zu zc zy zx zl zi zm po)) rfl ?_
          cases h
          exact OEnds.iret hm_22 rfl rfl
      · simp only [if_neg hc10] at h
        refine OEnds.icmpT hm_22 rfl (q := 61) rfl ((flt hc10).2.1) ?_
        refine OEnds.adv hm_22 1 (pc' := 62) (L' := [qr 1, qu, qi v2, qi v3]) (S' := [.int 1]) (H' := (c0 :: bk0 zg za zj zn zb zs zt zr zf zh zo zk zz zv zw zaa zab zq zd ze zp zu zc zy zx zl zi zm po)) rfl ?_
        cases h
        exact OEnds.iret hm_22 rfl rfl
    · simp only [if_neg hc9] at h
      refine OEnds.icmpT hm_22 rfl (q := 61) rfl ((flt hc9).2.1) ?_
      refine OEnds.adv hm_22 1 (pc' := 62) (L' := [qr 1, qu, qi v2, qi v3]) (S' := [.int 1]) (H' := (c0 :: bk0 zg za zj zn zb zs zt zr zf zh zo zk zz zv zw zaa zab zq zd ze zp zu zc zy zx zl zi zm po)) rfl ?_
      cases h
      exact OEnds.iret hm_22 rfl rfl
theorem ok_pendingEquals {zg za zj zn zb zs zt zr zf zh zo zk zz zv zw : List Int32} {zaa zab zq zd ze zp zu zc zy zx zl zi zm : Int32} {c0 : ACell} {po : List ACell} {v1 res : Int32} (h : f_pendingEquals zg za zn ze v1 = some res) : OEnds own_P 22 0 [qr 1, qi v1, qu, qu] [] (c0 :: bk0 zg za zj zn zb zs zt zr zf zh zo zk zz zv zw zaa zab zq zd ze zp zu zc zy zx zl zi zm po) (some (.int res), (c0 :: bk0 zg za zj zn zb zs zt zr zf zh zo zk zz zv zw zaa zab zq zd ze zp zu zc zy zx zl zi zm po), 0, 0) := by
  unfold f_pendingEquals at h
  refine OEnds.adv hm_22 3 (pc' := 5) (L' := [qr 1, qi v1, qu, qu]) (S' := [.int v1, .ref 3]) (H' := (c0 :: bk0 zg za zj zn zb zs zt zr zf zh zo zk zz zv zw zaa zab zq zd ze zp zu zc zy zx zl zi zm po)) rfl ?_
  obtain ⟨x10, hx10, h⟩ := bnd h
  refine OEnds.plain hm_22 rfl rfl (x_iaload rfl hx10) ?_
  refine OEnds.adv hm_22 2 (pc' := 10) (L' := [qr 1, qi v1, qu, qu]) (S' := [.int ze, .int x10]) (H' := (c0 :: bk0 zg za zj zn zb zs zt zr zf zh zo zk zz zv zw zaa zab zq zd ze zp zu zc zy zx zl zi zm po)) rfl ?_
  by_cases hc12 : x10 = ze
  · simp only [if_pos hc12] at h
    refine OEnds.icmpT hm_22 rfl (q := 15) rfl ((teq hc12).1) ?_
    refine OEnds.adv hm_22 6 (pc' := 22) (L' := [qr 1, qi v1, qi (v1 * (8 : Int32)), qi 0]) (S' := []) (H' := (c0 :: bk0 zg za zj zn zb zs zt zr zf zh zo zk zz zv zw zaa zab zq zd ze zp zu zc zy zx zl zi zm po)) rfl ?_
    exact ok_pendingEquals_22 100000 h
  · simp only [if_neg hc12] at h
    refine OEnds.icmpF hm_22 rfl ((feq hc12).1) ?_
    refine OEnds.adv hm_22 1 (pc' := 14) (L' := [qr 1, qi v1, qu, qu]) (S' := [.int 0]) (H' := (c0 :: bk0 zg za zj zn zb zs zt zr zf zh zo zk zz zv zw zaa zab zq zd ze zp zu zc zy zx zl zi zm po)) rfl ?_
    cases h
    exact OEnds.iret hm_22 rfl rfl
theorem ok_pendingIsDuplicate_2 {zg za zj zn zb zs zt zr zf zh zo zk zz zv zw : List Int32} {zaa zab zq zd ze zp zu zc zy zx zl zi zm : Int32} {c0 : ACell} {po : List ACell} : ∀ (n : Nat), ∀ {v1 : Int32} {res : Int32}, f_pendingIsDuplicate_2 zg za zn zd ze n v1 = some res → OEnds own_P 14 2 [qr 1, qi v1] [] (c0 :: bk0 zg za zj zn zb zs zt zr zf zh zo zk zz zv zw zaa zab zq zd ze zp zu zc zy zx zl zi zm po) (some (.int res), (c0 :: bk0 zg za zj zn zb zs zt zr zf zh zo zk zz zv zw zaa zab zq zd ze zp zu zc zy zx zl zi zm po), 0, 0) := by
  intro n
  induction n with
  | zero => intro v1 res h; cases h
  | succ n ih =>
    intro v1 res h
    unfold f_pendingIsDuplicate_2 at h
    refine OEnds.adv hm_14 3 (pc' := 7) (L' := [qr 1, qi v1]) (S' := [.int zd, .int v1]) (H' := (c0 :: bk0 zg za zj zn zb zs zt zr zf zh zo zk zz zv zw zaa zab zq zd ze zp zu zc zy zx zl zi zm po)) rfl ?_
    by_cases hc13 : v1 < zd
    · simp only [if_pos hc13] at h
      refine OEnds.icmpF hm_14 rfl ((tlt hc13).2.1) ?_
      refine OEnds.adv hm_14 2 (pc' := 13) (L' := [qr 1, qi v1]) (S' := [.int 16, .int v1]) (H' := (c0 :: bk0 zg za zj zn zb zs zt zr zf zh zo zk zz zv zw zaa zab zq zd ze zp zu zc zy zx zl zi zm po)) rfl ?_
      by_cases hc14 : v1 < (16 : Int32)
      · simp only [if_pos hc14] at h
        refine OEnds.icmpF hm_14 rfl ((tlt hc14).2.1) ?_
        refine OEnds.adv hm_14 2 (pc' := 18) (L' := [qr 1, qi v1]) (S' := [.int v1, .ref 1]) (H' := (c0 :: bk0 zg za zj zn zb zs zt zr zf zh zo zk zz zv zw zaa zab zq zd ze zp zu zc zy zx zl zi zm po)) rfl ?_
        obtain ⟨r13, hq15, h⟩ := bnd h
        refine OEnds.call0 hm_14 rfl rfl (by decide) rfl (as := [.ref 1, .int v1]) (rest := []) rfl rfl (ok_pendingEquals hq15) ?_
        show OEnds own_P 14 21 [qr 1, qi v1] [.int r13] (c0 :: bk0 zg za zj zn zb zs zt zr zf zh zo zk zz zv zw zaa zab zq zd ze zp zu zc zy zx zl zi zm po) _
        by_cases hc16 : r13 = (0 : Int32)
        · simp only [if_pos hc16] at h
          refine OEnds.ifT hm_14 rfl (q := 26) rfl ((teq hc16).1) ?_
          refine OEnds.adv hm_14 2 (pc' := 2) (L' := [qr 1, qi (v1 + (1 : Int32))]) (S' := []) (H' := (c0 :: bk0 zg za zj zn zb zs zt zr zf zh zo zk zz zv zw zaa zab zq zd ze zp zu zc zy zx zl zi zm po)) rfl ?_
          exact ih h
        · simp only [if_neg hc16] at h
          refine OEnds.ifF hm_14 rfl ((feq hc16).1) ?_
          refine OEnds.adv hm_14 1 (pc' := 25) (L' := [qr 1, qi v1]) (S' := [.int 1]) (H' := (c0 :: bk0 zg za zj zn zb zs zt zr zf zh zo zk zz zv zw zaa zab zq zd ze zp zu zc zy zx zl zi zm po)) rfl ?_
          cases h
          exact OEnds.iret hm_14 rfl rfl
      · simp only [if_neg hc14] at h
        refine OEnds.icmpT hm_14 rfl (q := 32) rfl ((flt hc14).2.1) ?_
        refine OEnds.adv hm_14 1 (pc' := 33) (L' := [qr 1, qi v1]) (S' := [.int 0]) (H' := (c0 :: bk0 zg za zj zn zb zs zt zr zf zh zo zk zz zv zw zaa zab zq zd ze zp zu zc zy zx zl zi zm po)) rfl ?_
        cases h
        exact OEnds.iret hm_14 rfl rfl
    · simp only [if_neg hc13] at h
      refine OEnds.icmpT hm_14 rfl (q := 32) rfl ((flt hc13).2.1) ?_
      refine OEnds.adv hm_14 1 (pc' := 33) (L' := [qr 1, qi v1]) (S' := [.int 0]) (H' := (c0 :: bk0 zg za zj zn zb zs zt zr zf zh zo zk zz zv zw zaa zab zq zd ze zp zu zc zy zx zl zi zm po)) rfl ?_
      cases h
      exact OEnds.iret hm_14 rfl rfl
theorem ok_pendingIsDuplicate {zg za zj zn zb zs zt zr zf zh zo zk zz zv zw : List Int32} {zaa zab zq zd ze zp zu zc zy zx zl zi zm : Int32} {c0 : ACell} {po : List ACell} {res : Int32} (h : f_pendingIsDuplicate zg za zn zd ze = some res) : OEnds own_P 14 0 [qr 1, qu] [] (c0 :: bk0 zg za zj zn zb zs zt zr zf zh zo zk zz zv zw zaa zab zq zd ze zp zu zc zy zx zl zi zm po) (some (.int res), (c0 :: bk0 zg za zj zn zb zs zt zr zf zh zo zk zz zv zw zaa zab zq zd ze zp zu zc zy zx zl zi zm po), 0, 0) := by
  unfold f_pendingIsDuplicate at h
  refine OEnds.adv hm_14 2 (pc' := 2) (L' := [qr 1, qi 0]) (S' := []) (H' := (c0 :: bk0 zg za zj zn zb zs zt zr zf zh zo zk zz zv zw zaa zab zq zd ze zp zu zc zy zx zl zi zm po)) rfl ?_
  exact ok_pendingIsDuplicate_2 100000 h
theorem ok_storePending_44 {zn zb zs zt zr zf zh zo zk zz zv zw : List Int32} {zaa zab zq zp zu zc zy zx zl zi zm : Int32} {c0 : ACell} {po : List ACell} : ∀ {zg za zj : List Int32} {zd ze v1 : Int32} {d2 d3 : Slot} {w_o_kwChars w_o_kwLen w_o_kwRepl : List Int32} {w_o_count : Int32} {w_o_pendLen : Int32}, f_storePending_44 zn zg za zj zd ze v1 = some (w_o_kwChars, w_o_kwLen, w_o_kwRepl, w_o_count, w_o_pendLen) → OEnds own_P 15 44 [qr 1, qi v1, d2, d3] [] (c0 :: bk0 zg za zj zn zb zs zt zr zf zh zo zk zz zv zw zaa zab zq zd ze zp zu zc zy zx zl zi zm po) (none, (c0 :: bk0 w_o_kwChars w_o_kwLen w_o_kwRepl zn zb zs zt zr zf zh zo zk zz zv zw zaa zab zq w_o_count w_o_pendLen zp zu zc zy zx zl zi zm po), 0, 0) := by
  intro zg za zj zd ze v1 d2 d3 w_o_kwChars w_o_kwLen w_o_kwRepl w_o_count w_o_pendLen h
  unfold f_storePending_44 at h
  refine OEnds.adv hm_15 6 (pc' := 56) (L' := [qr 1, qi v1, qu, qu]) (S' := [.int ze, .int zd, .ref 3]) (H' := (c0 :: bk0 zg za zj zn zb zs zt zr zf zh zo zk zz zv zw zaa zab zq zd ze zp zu zc zy zx zl zi zm po)) rfl ?_
  obtain ⟨A16, hA16, h⟩ := bnd h
  refine OEnds.plain hm_15 rfl rfl (x_iastore rfl (Nat.le_of_ble_eq_true rfl) hA16) ?_
  refine OEnds.adv hm_15 5 (pc' := 66) (L' := [qr 1, qi v1, qu, qu]) (S' := [.int v1, .int zd, .ref 4]) (H' := (c0 :: bk0 zg A16 zj zn zb zs zt zr zf zh zo zk zz zv zw zaa zab zq zd ze zp zu zc zy zx zl zi zm po)) rfl ?_
  obtain ⟨A17, hA17, h⟩ := bnd h
  refine OEnds.plain hm_15 rfl rfl (x_iastore rfl (Nat.le_of_ble_eq_true rfl) hA17) ?_
  refine OEnds.adv hm_15 9 (pc' := 82) (L' := [qr 1, qi v1, qu, qu]) (S' := []) (H' := (c0 :: bk0 zg A16 A17 zn zb zs zt zr zf zh zo zk zz zv zw zaa zab zq (zd + (1 : Int32)) 0 zp zu zc zy zx zl zi zm po)) rfl ?_
  cases h
  exact OEnds.vret hm_15 rfl rfl
theorem ok_storePending_10 {zn zb zs zt zr zf zh zo zk zz zv zw : List Int32} {zaa zab zq zp zu zc zy zx zl zi zm : Int32} {c0 : ACell} {po : List ACell} {k44 : List Int32 → List Int32 → List Int32 → Int32 → Int32 → Int32 → Option (List Int32 × List Int32 × List Int32 × Int32 × Int32)} (hk44 : ∀ {zg za zj : List Int32} {zd ze v1 : Int32} {d2 d3 : Slot} {w_o_kwChars w_o_kwLen w_o_kwRepl : List Int32} {w_o_count : Int32} {w_o_pendLen : Int32}, k44 zg za zj zd ze v1 = some (w_o_kwChars, w_o_kwLen, w_o_kwRepl, w_o_count, w_o_pendLen) → OEnds own_P 15 44 [qr 1, qi v1, d2, d3] [] (c0 :: bk0 zg za zj zn zb zs zt zr zf zh zo zk zz zv zw zaa zab zq zd ze zp zu zc zy zx zl zi zm po) (none, (c0 :: bk0 w_o_kwChars w_o_kwLen w_o_kwRepl zn zb zs zt zr zf zh zo zk zz zv zw zaa zab zq w_o_count w_o_pendLen zp zu zc zy zx zl zi zm po), 0, 0)) : ∀ (n : Nat), ∀ {zg za zj : List Int32} {zd ze v1 v2 v3 : Int32} {w_o_kwChars w_o_kwLen w_o_kwRepl : List Int32} {w_o_count : Int32} {w_o_pendLen : Int32}, f_storePending_10 k44 zn n zg za zj zd ze v1 v2 v3 = some (w_o_kwChars, w_o_kwLen, w_o_kwRepl, w_o_count, w_o_pendLen) → OEnds own_P 15 10 [qr 1, qi v1, qi v2, qi v3] [] (c0 :: bk0 zg za zj zn zb zs zt zr zf zh zo zk zz zv zw zaa zab zq zd ze zp zu zc zy zx zl zi zm po) (none, (c0 :: bk0 w_o_kwChars w_o_kwLen w_o_kwRepl zn zb zs zt zr zf zh zo zk zz zv zw zaa zab zq w_o_count w_o_pendLen zp zu zc zy zx zl zi zm po), 0, 0) := by
  intro n
  induction n with
  | zero => intro zg za zj zd ze v1 v2 v3 w_o_kwChars w_o_kwLen w_o_kwRepl w_o_count w_o_pendLen h; cases h
  | succ n ih =>
    intro zg za zj zd ze v1 v2 v3 w_o_kwChars w_o_kwLen w_o_kwRepl w_o_count w_o_pendLen h
    unfold f_storePending_10 at h
    refine OEnds.adv hm_15 3 (pc' := 15) (L' := [qr 1, qi v1, qi v2, qi v3]) (S' := [.int ze, .int v3]) (H' := (c0 :: bk0 zg za zj zn zb zs zt zr zf zh zo zk zz zv zw zaa zab zq zd ze zp zu zc zy zx zl zi zm po)) rfl ?_
    by_cases hc17 : v3 < ze
    · simp only [if_pos hc17] at h
      refine OEnds.icmpF hm_15 rfl ((tlt hc17).2.1) ?_
      refine OEnds.adv hm_15 2 (pc' := 21) (L' := [qr 1, qi v1, qi v2, qi v3]) (S' := [.int 8, .int v3]) (H' := (c0 :: bk0 zg za zj zn zb zs zt zr zf zh zo zk zz zv zw zaa zab zq zd ze zp zu zc zy zx zl zi zm po)) rfl ?_
      by_cases hc18 : v3 < (8 : Int32)
      · simp only [if_pos hc18] at h
        refine OEnds.icmpF hm_15 rfl ((tlt hc18).2.1) ?_
        refine OEnds.adv hm_15 8 (pc' := 36) (L' := [qr 1, qi v1, qi v2, qi v3]) (S' := [.int v3, .ref 5, .int (v2 + v3), .ref 2]) (H' := (c0 :: bk0 zg za zj zn zb zs zt zr zf zh zo zk zz zv zw zaa zab zq zd ze zp zu zc zy zx zl zi zm po)) rfl ?_
        obtain ⟨x14, hx14, h⟩ := bnd h
        refine OEnds.plain hm_15 rfl rfl (x_iaload rfl hx14) ?_
        show OEnds own_P 15 37 [qr 1, qi v1, qi v2, qi v3] [.int x14, .int (v2 + v3), .ref 2] (c0 :: bk0 zg za zj zn zb zs zt zr zf zh zo zk zz zv zw zaa zab zq zd ze zp zu zc zy zx zl zi zm po) _
        obtain ⟨A15, hA15, h⟩ := bnd h
        refine OEnds.plain hm_15 rfl rfl (x_iastore rfl (Nat.le_of_ble_eq_true rfl) hA15) ?_
        refine OEnds.adv hm_15 2 (pc' := 10) (L' := [qr 1, qi v1, qi v2, qi (v3 + (1 : Int32))]) (S' := []) (H' := (c0 :: bk0 A15 za zj zn zb zs zt zr zf zh zo zk zz zv zw zaa zab zq zd ze zp zu zc zy zx zl zi zm po)) rfl ?_
        exact ih h
      · simp only [if_neg hc18] at h
        refine OEnds.icmpT hm_15 rfl (q := 44) rfl ((flt hc18).2.1) ?_
        show OEnds own_P 15 44 [qr 1, qi v1, qi v2, qi v3] [] (c0 :: bk0 zg za zj zn zb zs zt zr zf zh zo zk zz zv zw zaa zab zq zd ze zp zu zc zy zx zl zi zm po) _
        exact hk44 h
    · simp only [if_neg hc17] at h
      refine OEnds.icmpT hm_15 rfl (q := 44) rfl ((flt hc17).2.1) ?_
      show OEnds own_P 15 44 [qr 1, qi v1, qi v2, qi v3] [] (c0 :: bk0 zg za zj zn zb zs zt zr zf zh zo zk zz zv zw zaa zab zq zd ze zp zu zc zy zx zl zi zm po) _
      exact hk44 h
theorem ok_storePending {zn zb zs zt zr zf zh zo zk zz zv zw : List Int32} {zaa zab zq zp zu zc zy zx zl zi zm : Int32} {c0 : ACell} {po : List ACell} {zg za zj : List Int32} {zd ze v1 : Int32} {w_o_kwChars w_o_kwLen w_o_kwRepl : List Int32} {w_o_count w_o_pendLen : Int32} (h : f_storePending zn zg za zj zd ze v1 = some (w_o_kwChars, w_o_kwLen, w_o_kwRepl, w_o_count, w_o_pendLen)) : OEnds own_P 15 0 [qr 1, qi v1, qu, qu] [] (c0 :: bk0 zg za zj zn zb zs zt zr zf zh zo zk zz zv zw zaa zab zq zd ze zp zu zc zy zx zl zi zm po) (none, (c0 :: bk0 w_o_kwChars w_o_kwLen w_o_kwRepl zn zb zs zt zr zf zh zo zk zz zv zw zaa zab zq w_o_count w_o_pendLen zp zu zc zy zx zl zi zm po), 0, 0) := by
  unfold f_storePending at h
  refine OEnds.adv hm_15 7 (pc' := 10) (L' := [qr 1, qi v1, qi (zd * (8 : Int32)), qi 0]) (S' := []) (H' := (c0 :: bk0 zg za zj zn zb zs zt zr zf zh zo zk zz zv zw zaa zab zq zd ze zp zu zc zy zx zl zi zm po)) rfl ?_
  exact ok_storePending_10 (k44 := f_storePending_44 zn) ok_storePending_44 100000 h
theorem ok_endKeyword {zn zb zs zt zr zf zh zo zk zz zv zw : List Int32} {zaa zab zq zp zu zc zy zx zl zi zm : Int32} {c0 : ACell} {po : List ACell} {zg za zj : List Int32} {zd ze v1 res : Int32} {w_o_kwChars w_o_kwLen w_o_kwRepl : List Int32} {w_o_count w_o_pendLen : Int32} (h : f_endKeyword zn zq zg za zj zd ze v1 = some (res, w_o_kwChars, w_o_kwLen, w_o_kwRepl, w_o_count, w_o_pendLen)) : OEnds own_P 12 0 [qr 1, qi v1] [] (c0 :: bk0 zg za zj zn zb zs zt zr zf zh zo zk zz zv zw zaa zab zq zd ze zp zu zc zy zx zl zi zm po) (some (.int res), (c0 :: bk0 w_o_kwChars w_o_kwLen w_o_kwRepl zn zb zs zt zr zf zh zo zk zz zv zw zaa zab zq w_o_count w_o_pendLen zp zu zc zy zx zl zi zm po), 0, 0) := by
  unfold f_endKeyword at h
  refine OEnds.adv hm_12 2 (pc' := 4) (L' := [qr 1, qi v1]) (S' := [.int zq]) (H' := (c0 :: bk0 zg za zj zn zb zs zt zr zf zh zo zk zz zv zw zaa zab zq zd ze zp zu zc zy zx zl zi zm po)) rfl ?_
  by_cases hc19 : zq = (0 : Int32)
  · simp only [if_pos hc19] at h
    refine OEnds.ifT hm_12 rfl (q := 9) rfl ((teq hc19).1) ?_
    refine OEnds.adv hm_12 2 (pc' := 13) (L' := [qr 1, qi v1]) (S' := [.int ze]) (H' := (c0 :: bk0 zg za zj zn zb zs zt zr zf zh zo zk zz zv zw zaa zab zq zd ze zp zu zc zy zx zl zi zm po)) rfl ?_
    by_cases hc20 : ze = (0 : Int32)
    · simp only [if_pos hc20] at h
      refine OEnds.ifF hm_12 rfl ((teq hc20).2) ?_
      refine OEnds.adv hm_12 1 (pc' := 18) (L' := [qr 1, qi v1]) (S' := [.int (-4)]) (H' := (c0 :: bk0 zg za zj zn zb zs zt zr zf zh zo zk zz zv zw zaa zab zq zd ze zp zu zc zy zx zl zi zm po)) rfl ?_
      cases h
      exact OEnds.iret hm_12 rfl rfl
    · simp only [if_neg hc20] at h
      refine OEnds.ifT hm_12 rfl (q := 19) rfl ((feq hc20).2) ?_
      refine OEnds.adv hm_12 2 (pc' := 21) (L' := [qr 1, qi v1]) (S' := [.int v1, .ref 1]) (H' := (c0 :: bk0 zg za zj zn zb zs zt zr zf zh zo zk zz zv zw zaa zab zq zd ze zp zu zc zy zx zl zi zm po)) rfl ?_
      obtain ⟨r18, hq21, h⟩ := bnd h
      refine OEnds.call0 hm_12 rfl rfl (by decide) rfl (as := [.ref 1, .int v1]) (rest := []) rfl rfl (ok_isPrintable hq21) ?_
      show OEnds own_P 12 24 [qr 1, qi v1] [.int r18] (c0 :: bk0 zg za zj zn zb zs zt zr zf zh zo zk zz zv zw zaa zab zq zd ze zp zu zc zy zx zl zi zm po) _
      by_cases hc22 : r18 = (0 : Int32)
      · simp only [if_pos hc22] at h
        refine OEnds.ifF hm_12 rfl ((teq hc22).2) ?_
        refine OEnds.adv hm_12 1 (pc' := 29) (L' := [qr 1, qi v1]) (S' := [.int (-6)]) (H' := (c0 :: bk0 zg za zj zn zb zs zt zr zf zh zo zk zz zv zw zaa zab zq zd ze zp zu zc zy zx zl zi zm po)) rfl ?_
        cases h
        exact OEnds.iret hm_12 rfl rfl
      · simp only [if_neg hc22] at h
        refine OEnds.ifT hm_12 rfl (q := 30) rfl ((feq hc22).2) ?_
        refine OEnds.adv hm_12 1 (pc' := 31) (L' := [qr 1, qi v1]) (S' := [.ref 1]) (H' := (c0 :: bk0 zg za zj zn zb zs zt zr zf zh zo zk zz zv zw zaa zab zq zd ze zp zu zc zy zx zl zi zm po)) rfl ?_
        obtain ⟨r19, hq23, h⟩ := bnd h
        refine OEnds.call0 hm_12 rfl rfl (by decide) rfl (as := [.ref 1]) (rest := []) rfl rfl (ok_pendingIsDuplicate hq23) ?_
        show OEnds own_P 12 34 [qr 1, qi v1] [.int r19] (c0 :: bk0 zg za zj zn zb zs zt zr zf zh zo zk zz zv zw zaa zab zq zd ze zp zu zc zy zx zl zi zm po) _
        by_cases hc24 : r19 = (0 : Int32)
        · simp only [if_pos hc24] at h
          refine OEnds.ifT hm_12 rfl (q := 40) rfl ((teq hc24).1) ?_
          refine OEnds.adv hm_12 3 (pc' := 46) (L' := [qr 1, qi v1]) (S' := [.int 16, .int zd]) (H' := (c0 :: bk0 zg za zj zn zb zs zt zr zf zh zo zk zz zv zw zaa zab zq zd ze zp zu zc zy zx zl zi zm po)) rfl ?_
          by_cases hc25 : zd < (16 : Int32)
          · simp only [if_pos hc25] at h
            refine OEnds.icmpT hm_12 rfl (q := 52) rfl ((tlt hc25).1) ?_
            refine OEnds.adv hm_12 2 (pc' := 54) (L' := [qr 1, qi v1]) (S' := [.int v1, .ref 1]) (H' := (c0 :: bk0 zg za zj zn zb zs zt zr zf zh zo zk zz zv zw zaa zab zq zd ze zp zu zc zy zx zl zi zm po)) rfl ?_
            obtain ⟨⟨s20, s21, s22, s23, s24⟩, hq26, h⟩ := bnd h
            refine OEnds.call0 hm_12 rfl rfl (by decide) rfl (as := [.ref 1, .int v1]) (rest := []) rfl rfl (ok_storePending hq26) ?_
            refine OEnds.adv hm_12 4 (pc' := 63) (L' := [qr 1, qi v1]) (S' := [.int (s23 - (1 : Int32))]) (H' := (c0 :: bk0 s20 s21 s22 zn zb zs zt zr zf zh zo zk zz zv zw zaa zab zq s23 s24 zp zu zc zy zx zl zi zm po)) rfl ?_
            cases h
            exact OEnds.iret hm_12 rfl rfl
          · simp only [if_neg hc25] at h
            refine OEnds.icmpF hm_12 rfl ((flt hc25).1) ?_
            refine OEnds.adv hm_12 1 (pc' := 51) (L' := [qr 1, qi v1]) (S' := [.int (-3)]) (H' := (c0 :: bk0 zg za zj zn zb zs zt zr zf zh zo zk zz zv zw zaa zab zq zd ze zp zu zc zy zx zl zi zm po)) rfl ?_
            cases h
            exact OEnds.iret hm_12 rfl rfl
        · simp only [if_neg hc24] at h
          refine OEnds.ifF hm_12 rfl ((feq hc24).1) ?_
          refine OEnds.adv hm_12 1 (pc' := 39) (L' := [qr 1, qi v1]) (S' := [.int (-5)]) (H' := (c0 :: bk0 zg za zj zn zb zs zt zr zf zh zo zk zz zv zw zaa zab zq zd ze zp zu zc zy zx zl zi zm po)) rfl ?_
          cases h
          exact OEnds.iret hm_12 rfl rfl
  · simp only [if_neg hc19] at h
    refine OEnds.ifF hm_12 rfl ((feq hc19).1) ?_
    refine OEnds.adv hm_12 1 (pc' := 8) (L' := [qr 1, qi v1]) (S' := [.int (-1)]) (H' := (c0 :: bk0 zg za zj zn zb zs zt zr zf zh zo zk zz zv zw zaa zab zq zd ze zp zu zc zy zx zl zi zm po)) rfl ?_
    cases h
    exact OEnds.iret hm_12 rfl rfl
theorem ok_insertKeyword_137 {zg za zj zn zs zt zo zk zz zv zw : List Int32} {zaa zab zq zd ze zu zc zy zx zl zi zm : Int32} {c0 : ACell} {po : List ACell} : ∀ {zb zr zf zh : List Int32} {zp v1 v2 : Int32} {d3 d4 d5 d6 : Slot} {w_o_child w_o_depth w_o_term w_o_outMask : List Int32} {w_o_nodeCount : Int32}, f_insertKeyword_137 zg za zb zr zf zh zp v1 v2 = some (w_o_child, w_o_depth, w_o_term, w_o_outMask, w_o_nodeCount) → OEnds own_P 17 137 [qr 1, qi v1, qi v2, d3, d4, d5, d6] [] (c0 :: bk0 zg za zj zn zb zs zt zr zf zh zo zk zz zv zw zaa zab zq zd ze zp zu zc zy zx zl zi zm po) (none, (c0 :: bk0 zg za zj zn w_o_child zs zt w_o_depth w_o_term w_o_outMask zo zk zz zv zw zaa zab zq zd ze w_o_nodeCount zu zc zy zx zl zi zm po), 0, 0) := by
  intro zb zr zf zh zp v1 v2 d3 d4 d5 d6 w_o_child w_o_depth w_o_term w_o_outMask w_o_nodeCount h
  unfold f_insertKeyword_137 at h
  refine OEnds.adv hm_17 4 (pc' := 143) (L' := [qr 1, qi v1, qi v2, qu, qu, qu, qu]) (S' := [.int v1, .int v2, .ref 10]) (H' := (c0 :: bk0 zg za zj zn zb zs zt zr zf zh zo zk zz zv zw zaa zab zq zd ze zp zu zc zy zx zl zi zm po)) rfl ?_
  obtain ⟨A32, hA32, h⟩ := bnd h
  refine OEnds.plain hm_17 rfl rfl (x_iastore rfl (Nat.le_of_ble_eq_true rfl) hA32) ?_
  refine OEnds.adv hm_17 6 (pc' := 154) (L' := [qr 1, qi v1, qi v2, qu, qu, qu, qu]) (S' := [.int v2, .ref 11, .int v2, .ref 11]) (H' := (c0 :: bk0 zg za zj zn zb zs zt zr A32 zh zo zk zz zv zw zaa zab zq zd ze zp zu zc zy zx zl zi zm po)) rfl ?_
  obtain ⟨x33, hx33, h⟩ := bnd h
  refine OEnds.plain hm_17 rfl rfl (x_iaload rfl hx33) ?_
  refine OEnds.adv hm_17 4 (pc' := 159) (L' := [qr 1, qi v1, qi v2, qu, qu, qu, qu]) (S' := [.int (x33 ||| ((1 : Int32) <<< (v1 &&& 31))), .int v2, .ref 11]) (H' := (c0 :: bk0 zg za zj zn zb zs zt zr A32 zh zo zk zz zv zw zaa zab zq zd ze zp zu zc zy zx zl zi zm po)) rfl ?_
  obtain ⟨A34, hA34, h⟩ := bnd h
  refine OEnds.plain hm_17 rfl rfl (x_iastore rfl (Nat.le_of_ble_eq_true rfl) hA34) ?_
  show OEnds own_P 17 160 [qr 1, qi v1, qi v2, qu, qu, qu, qu] [] (c0 :: bk0 zg za zj zn zb zs zt zr A32 A34 zo zk zz zv zw zaa zab zq zd ze zp zu zc zy zx zl zi zm po) _
  cases h
  exact OEnds.vret hm_17 rfl rfl
theorem ok_insertKeyword_123 {zg za zj zn zs zt zo zk zz zv zw : List Int32} {zaa zab zq zd ze zu zc zy zx zl zi zm : Int32} {c0 : ACell} {po : List ACell} {kb : List Int32 → List Int32 → List Int32 → List Int32 → Int32 → Int32 → Int32 → Int32 → Int32 → Option (List Int32 × List Int32 × List Int32 × List Int32 × Int32)} {k137 : List Int32 → List Int32 → List Int32 → List Int32 → Int32 → Int32 → Int32 → Option (List Int32 × List Int32 × List Int32 × List Int32 × Int32)} (hkb : ∀ {zb zr zf zh : List Int32} {zp v1 v2 v3 v4 : Int32} {d5 d6 : Slot} {w_o_child w_o_depth w_o_term w_o_outMask : List Int32} {w_o_nodeCount : Int32}, kb zb zr zf zh zp v1 v2 v3 v4 = some (w_o_child, w_o_depth, w_o_term, w_o_outMask, w_o_nodeCount) → OEnds own_P 17 10 [qr 1, qi v1, qi v2, qi v3, qi v4, d5, d6] [] (c0 :: bk0 zg za zj zn zb zs zt zr zf zh zo zk zz zv zw zaa zab zq zd ze zp zu zc zy zx zl zi zm po) (none, (c0 :: bk0 zg za zj zn w_o_child zs zt w_o_depth w_o_term w_o_outMask zo zk zz zv zw zaa zab zq zd ze w_o_nodeCount zu zc zy zx zl zi zm po), 0, 0)) (hk137 : ∀ {zb zr zf zh : List Int32} {zp v1 v2 : Int32} {d3 d4 d5 d6 : Slot} {w_o_child w_o_depth w_o_term w_o_outMask : List Int32} {w_o_nodeCount : Int32}, k137 zb zr zf zh zp v1 v2 = some (w_o_child, w_o_depth, w_o_term, w_o_outMask, w_o_nodeCount) → OEnds own_P 17 137 [qr 1, qi v1, qi v2, d3, d4, d5, d6] [] (c0 :: bk0 zg za zj zn zb zs zt zr zf zh zo zk zz zv zw zaa zab zq zd ze zp zu zc zy zx zl zi zm po) (none, (c0 :: bk0 zg za zj zn w_o_child zs zt w_o_depth w_o_term w_o_outMask zo zk zz zv zw zaa zab zq zd ze w_o_nodeCount zu zc zy zx zl zi zm po), 0, 0)) : ∀ {zb zr zf zh : List Int32} {zp v1 v3 v4 v6 : Int32} {d2 d5 : Slot} {w_o_child w_o_depth w_o_term w_o_outMask : List Int32} {w_o_nodeCount : Int32}, f_insertKeyword_123 kb k137 zg za zb zr zf zh zp v1 v3 v4 v6 = some (w_o_child, w_o_depth, w_o_term, w_o_outMask, w_o_nodeCount) → OEnds own_P 17 123 [qr 1, qi v1, d2, qi v3, qi v4, d5, qi v6] [] (c0 :: bk0 zg za zj zn zb zs zt zr zf zh zo zk zz zv zw zaa zab zq zd ze zp zu zc zy zx zl zi zm po) (none, (c0 :: bk0 zg za zj zn w_o_child zs zt w_o_depth w_o_term w_o_outMask zo zk zz zv zw zaa zab zq zd ze w_o_nodeCount zu zc zy zx zl zi zm po), 0, 0) := by
  intro zb zr zf zh zp v1 v3 v4 v6 d2 d5 w_o_child w_o_depth w_o_term w_o_outMask w_o_nodeCount h
  unfold f_insertKeyword_123 at h
  refine OEnds.adv hm_17 3 (pc' := 129) (L' := [qr 1, qi v1, qu, qi v3, qi v4, qu, qi v6]) (S' := [.int v6, .ref 6]) (H' := (c0 :: bk0 zg za zj zn zb zs zt zr zf zh zo zk zz zv zw zaa zab zq zd ze zp zu zc zy zx zl zi zm po)) rfl ?_
  obtain ⟨x31, hx31, h⟩ := bnd h
  refine OEnds.plain hm_17 rfl rfl (x_iaload rfl hx31) ?_
  refine OEnds.adv hm_17 3 (pc' := 10) (L' := [qr 1, qi v1, qi x31, qi v3, qi (v4 + (1 : Int32)), qu, qi v6]) (S' := []) (H' := (c0 :: bk0 zg za zj zn zb zs zt zr zf zh zo zk zz zv zw zaa zab zq zd ze zp zu zc zy zx zl zi zm po)) rfl ?_
  exact hkb h
theorem ok_insertKeyword_10 {zg za zj zn zs zt zo zk zz zv zw : List Int32} {zaa zab zq zd ze zu zc zy zx zl zi zm : Int32} {c0 : ACell} {po : List ACell} {k137 : List Int32 → List Int32 → List Int32 → List Int32 → Int32 → Int32 → Int32 → Option (List Int32 × List Int32 × List Int32 × List Int32 × Int32)} (hk137 : ∀ {zb zr zf zh : List Int32} {zp v1 v2 : Int32} {d3 d4 d5 d6 : Slot} {w_o_child w_o_depth w_o_term w_o_outMask : List Int32} {w_o_nodeCount : Int32}, k137 zb zr zf zh zp v1 v2 = some (w_o_child, w_o_depth, w_o_term, w_o_outMask, w_o_nodeCount) → OEnds own_P 17 137 [qr 1, qi v1, qi v2, d3, d4, d5, d6] [] (c0 :: bk0 zg za zj zn zb zs zt zr zf zh zo zk zz zv zw zaa zab zq zd ze zp zu zc zy zx zl zi zm po) (none, (c0 :: bk0 zg za zj zn w_o_child zs zt w_o_depth w_o_term w_o_outMask zo zk zz zv zw zaa zab zq zd ze w_o_nodeCount zu zc zy zx zl zi zm po), 0, 0)) : ∀ (n : Nat), ∀ {zb zr zf zh : List Int32} {zp v1 v2 v3 v4 : Int32} {d5 d6 : Slot} {w_o_child w_o_depth w_o_term w_o_outMask : List Int32} {w_o_nodeCount : Int32}, f_insertKeyword_10 k137 zg za n zb zr zf zh zp v1 v2 v3 v4 = some (w_o_child, w_o_depth, w_o_term, w_o_outMask, w_o_nodeCount) → OEnds own_P 17 10 [qr 1, qi v1, qi v2, qi v3, qi v4, d5, d6] [] (c0 :: bk0 zg za zj zn zb zs zt zr zf zh zo zk zz zv zw zaa zab zq zd ze zp zu zc zy zx zl zi zm po) (none, (c0 :: bk0 zg za zj zn w_o_child zs zt w_o_depth w_o_term w_o_outMask zo zk zz zv zw zaa zab zq zd ze w_o_nodeCount zu zc zy zx zl zi zm po), 0, 0) := by
  intro n
  induction n with
  | zero => intro zb zr zf zh zp v1 v2 v3 v4 d5 d6 w_o_child w_o_depth w_o_term w_o_outMask w_o_nodeCount h; cases h
  | succ n ih =>
    intro zb zr zf zh zp v1 v2 v3 v4 d5 d6 w_o_child w_o_depth w_o_term w_o_outMask w_o_nodeCount h
    unfold f_insertKeyword_10 at h
    refine OEnds.adv hm_17 4 (pc' := 17) (L' := [qr 1, qi v1, qi v2, qi v3, qi v4, qu, qu]) (S' := [.int v1, .ref 3, .int v4]) (H' := (c0 :: bk0 zg za zj zn zb zs zt zr zf zh zo zk zz zv zw zaa zab zq zd ze zp zu zc zy zx zl zi zm po)) rfl ?_
    obtain ⟨x25, hx25, h⟩ := bnd h
    refine OEnds.plain hm_17 rfl rfl (x_iaload rfl hx25) ?_
    show OEnds own_P 17 18 [qr 1, qi v1, qi v2, qi v3, qi v4, qu, qu] [.int x25, .int v4] (c0 :: bk0 zg za zj zn zb zs zt zr zf zh zo zk zz zv zw zaa zab zq zd ze zp zu zc zy zx zl zi zm po) _
    by_cases hc27 : v4 < x25
    · simp only [if_pos hc27] at h
      refine OEnds.icmpF hm_17 rfl ((tlt hc27).2.1) ?_
      refine OEnds.adv hm_17 2 (pc' := 25) (L' := [qr 1, qi v1, qi v2, qi v3, qi v4, qu, qu]) (S' := [.int 8, .int v4]) (H' := (c0 :: bk0 zg za zj zn zb zs zt zr zf zh zo zk zz zv zw zaa zab zq zd ze zp zu zc zy zx zl zi zm po)) rfl ?_
      by_cases hc28 : v4 < (8 : Int32)
      · simp only [if_pos hc28] at h
        refine OEnds.icmpF hm_17 rfl ((tlt hc28).2.1) ?_
        refine OEnds.adv hm_17 5 (pc' := 36) (L' := [qr 1, qi v1, qi v2, qi v3, qi v4, qu, qu]) (S' := [.int (v3 + v4), .ref 2]) (H' := (c0 :: bk0 zg za zj zn zb zs zt zr zf zh zo zk zz zv zw zaa zab zq zd ze zp zu zc zy zx zl zi zm po)) rfl ?_
        obtain ⟨x26, hx26, h⟩ := bnd h
        refine OEnds.plain hm_17 rfl rfl (x_iaload rfl hx26) ?_
        refine OEnds.adv hm_17 4 (pc' := 44) (L' := [qr 1, qi v1, qi v2, qi v3, qi v4, qi (x26 - (97 : Int32)), qu]) (S' := [.int (x26 - (97 : Int32))]) (H' := (c0 :: bk0 zg za zj zn zb zs zt zr zf zh zo zk zz zv zw zaa zab zq zd ze zp zu zc zy zx zl zi zm po)) rfl ?_
        by_cases hc29 : (x26 - (97 : Int32)) < (0 : Int32)
        · simp only [if_pos hc29] at h
          refine OEnds.ifT hm_17 rfl (q := 54) rfl ((tlt hc29).1) ?_
          show OEnds own_P 17 54 [qr 1, qi v1, qi v2, qi v3, qi v4, qi (x26 - (97 : Int32)), qu] [] (c0 :: bk0 zg za zj zn zb zs zt zr zf zh zo zk zz zv zw zaa zab zq zd ze zp zu zc zy zx zl zi zm po) _
          cases h
          exact OEnds.vret hm_17 rfl rfl
        · simp only [if_neg hc29] at h
          refine OEnds.ifF hm_17 rfl ((flt hc29).1) ?_
          refine OEnds.adv hm_17 2 (pc' := 51) (L' := [qr 1, qi v1, qi v2, qi v3, qi v4, qi (x26 - (97 : Int32)), qu]) (S' := [.int 26, .int (x26 - (97 : Int32))]) (H' := (c0 :: bk0 zg za zj zn zb zs zt zr zf zh zo zk zz zv zw zaa zab zq zd ze zp zu zc zy zx zl zi zm po)) rfl ?_
          by_cases hc30 : (x26 - (97 : Int32)) < (26 : Int32)
          · simp only [if_pos hc30] at h
            refine OEnds.icmpT hm_17 rfl (q := 55) rfl ((tlt hc30).1) ?_
            refine OEnds.adv hm_17 9 (pc' := 70) (L' := [qr 1, qi v1, qi v2, qi v3, qi v4, qi (x26 - (97 : Int32)), qi ((v2 * (26 : Int32)) + (x26 - (97 : Int32)))]) (S' := [.int ((v2 * (26 : Int32)) + (x26 - (97 : Int32))), .ref 6]) (H' := (c0 :: bk0 zg za zj zn zb zs zt zr zf zh zo zk zz zv zw zaa zab zq zd ze zp zu zc zy zx zl zi zm po)) rfl ?_
            obtain ⟨x27, hx27, h⟩ := bnd h
            refine OEnds.plain hm_17 rfl rfl (x_iaload rfl hx27) ?_
            show OEnds own_P 17 71 [qr 1, qi v1, qi v2, qi v3, qi v4, qi (x26 - (97 : Int32)), qi ((v2 * (26 : Int32)) + (x26 - (97 : Int32)))] [.int x27] (c0 :: bk0 zg za zj zn zb zs zt zr zf zh zo zk zz zv zw zaa zab zq zd ze zp zu zc zy zx zl zi zm po) _
            by_cases hc31 : x27 = (0 : Int32)
            · simp only [if_pos hc31] at h
              refine OEnds.ifF hm_17 rfl ((teq hc31).2) ?_
              refine OEnds.adv hm_17 3 (pc' := 81) (L' := [qr 1, qi v1, qi v2, qi v3, qi v4, qi (x26 - (97 : Int32)), qi ((v2 * (26 : Int32)) + (x26 - (97 : Int32)))]) (S' := [.int 129, .int zp]) (H' := (c0 :: bk0 zg za zj zn zb zs zt zr zf zh zo zk zz zv zw zaa zab zq zd ze zp zu zc zy zx zl zi zm po)) rfl ?_
              by_cases hc32 : zp < (129 : Int32)
              · simp only [if_pos hc32] at h
                refine OEnds.icmpT hm_17 rfl (q := 85) rfl ((tlt hc32).1) ?_
                refine OEnds.adv hm_17 5 (pc' := 95) (L' := [qr 1, qi v1, qi v2, qi v3, qi v4, qi (x26 - (97 : Int32)), qi ((v2 * (26 : Int32)) + (x26 - (97 : Int32)))]) (S' := [.int zp, .int ((v2 * (26 : Int32)) + (x26 - (97 : Int32))), .ref 6]) (H' := (c0 :: bk0 zg za zj zn zb zs zt zr zf zh zo zk zz zv zw zaa zab zq zd ze zp zu zc zy zx zl zi zm po)) rfl ?_
                obtain ⟨A28, hA28, h⟩ := bnd h
                refine OEnds.plain hm_17 rfl rfl (x_iastore rfl (Nat.le_of_ble_eq_true rfl) hA28) ?_
                refine OEnds.adv hm_17 7 (pc' := 109) (L' := [qr 1, qi v1, qi v2, qi v3, qi v4, qi (x26 - (97 : Int32)), qi ((v2 * (26 : Int32)) + (x26 - (97 : Int32)))]) (S' := [.int v2, .ref 9, .int zp, .ref 9]) (H' := (c0 :: bk0 zg za zj zn A28 zs zt zr zf zh zo zk zz zv zw zaa zab zq zd ze zp zu zc zy zx zl zi zm po)) rfl ?_
                obtain ⟨x29, hx29, h⟩ := bnd h
                refine OEnds.plain hm_17 rfl rfl (x_iaload rfl hx29) ?_
                refine OEnds.adv hm_17 2 (pc' := 112) (L' := [qr 1, qi v1, qi v2, qi v3, qi v4, qi (x26 - (97 : Int32)), qi ((v2 * (26 : Int32)) + (x26 - (97 : Int32)))]) (S' := [.int (x29 + (1 : Int32)), .int zp, .ref 9]) (H' := (c0 :: bk0 zg za zj zn A28 zs zt zr zf zh zo zk zz zv zw zaa zab zq zd ze zp zu zc zy zx zl zi zm po)) rfl ?_
                obtain ⟨A30, hA30, h⟩ := bnd h
                refine OEnds.plain hm_17 rfl rfl (x_iastore rfl (Nat.le_of_ble_eq_true rfl) hA30) ?_
                refine OEnds.adv hm_17 6 (pc' := 123) (L' := [qr 1, qi v1, qi v2, qi v3, qi v4, qi (x26 - (97 : Int32)), qi ((v2 * (26 : Int32)) + (x26 - (97 : Int32)))]) (S' := []) (H' := (c0 :: bk0 zg za zj zn A28 zs zt A30 zf zh zo zk zz zv zw zaa zab zq zd ze (zp + (1 : Int32)) zu zc zy zx zl zi zm po)) rfl ?_
                exact ok_insertKeyword_123 ih hk137 h
              · simp only [if_neg hc32] at h
                refine OEnds.icmpF hm_17 rfl ((flt hc32).1) ?_
                show OEnds own_P 17 84 [qr 1, qi v1, qi v2, qi v3, qi v4, qi (x26 - (97 : Int32)), qi ((v2 * (26 : Int32)) + (x26 - (97 : Int32)))] [] (c0 :: bk0 zg za zj zn zb zs zt zr zf zh zo zk zz zv zw zaa zab zq zd ze zp zu zc zy zx zl zi zm po) _
                cases h
                exact OEnds.vret hm_17 rfl rfl
            · simp only [if_neg hc31] at h
              refine OEnds.ifT hm_17 rfl (q := 123) rfl ((feq hc31).2) ?_
              show OEnds own_P 17 123 [qr 1, qi v1, qi v2, qi v3, qi v4, qi (x26 - (97 : Int32)), qi ((v2 * (26 : Int32)) + (x26 - (97 : Int32)))] [] (c0 :: bk0 zg za zj zn zb zs zt zr zf zh zo zk zz zv zw zaa zab zq zd ze zp zu zc zy zx zl zi zm po) _
              exact ok_insertKeyword_123 ih hk137 h
          · simp only [if_neg hc30] at h
            refine OEnds.icmpF hm_17 rfl ((flt hc30).1) ?_
            show OEnds own_P 17 54 [qr 1, qi v1, qi v2, qi v3, qi v4, qi (x26 - (97 : Int32)), qu] [] (c0 :: bk0 zg za zj zn zb zs zt zr zf zh zo zk zz zv zw zaa zab zq zd ze zp zu zc zy zx zl zi zm po) _
            cases h
            exact OEnds.vret hm_17 rfl rfl
      · simp only [if_neg hc28] at h
        refine OEnds.icmpT hm_17 rfl (q := 137) rfl ((flt hc28).2.1) ?_
        show OEnds own_P 17 137 [qr 1, qi v1, qi v2, qi v3, qi v4, qu, qu] [] (c0 :: bk0 zg za zj zn zb zs zt zr zf zh zo zk zz zv zw zaa zab zq zd ze zp zu zc zy zx zl zi zm po) _
        exact hk137 h
    · simp only [if_neg hc27] at h
      refine OEnds.icmpT hm_17 rfl (q := 137) rfl ((flt hc27).2.1) ?_
      show OEnds own_P 17 137 [qr 1, qi v1, qi v2, qi v3, qi v4, qu, qu] [] (c0 :: bk0 zg za zj zn zb zs zt zr zf zh zo zk zz zv zw zaa zab zq zd ze zp zu zc zy zx zl zi zm po) _
      exact hk137 h
theorem ok_insertKeyword {zg za zj zn zs zt zo zk zz zv zw : List Int32} {zaa zab zq zd ze zu zc zy zx zl zi zm : Int32} {c0 : ACell} {po : List ACell} {zb zr zf zh : List Int32} {zp v1 : Int32} {w_o_child w_o_depth w_o_term w_o_outMask : List Int32} {w_o_nodeCount : Int32} (h : f_insertKeyword zg za zb zr zf zh zp v1 = some (w_o_child, w_o_depth, w_o_term, w_o_outMask, w_o_nodeCount)) : OEnds own_P 17 0 [qr 1, qi v1, qu, qu, qu, qu, qu] [] (c0 :: bk0 zg za zj zn zb zs zt zr zf zh zo zk zz zv zw zaa zab zq zd ze zp zu zc zy zx zl zi zm po) (none, (c0 :: bk0 zg za zj zn w_o_child zs zt w_o_depth w_o_term w_o_outMask zo zk zz zv zw zaa zab zq zd ze w_o_nodeCount zu zc zy zx zl zi zm po), 0, 0) := by
  unfold f_insertKeyword at h
  refine OEnds.adv hm_17 8 (pc' := 10) (L' := [qr 1, qi v1, qi 0, qi (v1 * (8 : Int32)), qi 0, qu, qu]) (S' := []) (H' := (c0 :: bk0 zg za zj zn zb zs zt zr zf zh zo zk zz zv zw zaa zab zq zd ze zp zu zc zy zx zl zi zm po)) rfl ?_
  exact ok_insertKeyword_10 (k137 := f_insertKeyword_137 zg za) ok_insertKeyword_137 100000 h
theorem ok_buildTrie_12 {zg za zj zn zs zt zo zk zz zv zw : List Int32} {zaa zab zq zd ze zc zy zx zl zi zm : Int32} {c0 : ACell} {po : List ACell} : ∀ (n : Nat), ∀ {zb zr zf zh : List Int32} {zp zu v1 : Int32} {w_o_child w_o_depth w_o_term w_o_outMask : List Int32} {w_o_nodeCount : Int32} {w_o_longestKw : Int32}, f_buildTrie_12 zg za zd n zb zr zf zh zp zu v1 = some (w_o_child, w_o_depth, w_o_term, w_o_outMask, w_o_nodeCount, w_o_longestKw) → OEnds own_P 16 12 [qr 1, qi v1] [] (c0 :: bk0 zg za zj zn zb zs zt zr zf zh zo zk zz zv zw zaa zab zq zd ze zp zu zc zy zx zl zi zm po) (none, (c0 :: bk0 zg za zj zn w_o_child zs zt w_o_depth w_o_term w_o_outMask zo zk zz zv zw zaa zab zq zd ze w_o_nodeCount w_o_longestKw zc zy zx zl zi zm po), 0, 0) := by
  intro n
  induction n with
  | zero => intro zb zr zf zh zp zu v1 w_o_child w_o_depth w_o_term w_o_outMask w_o_nodeCount w_o_longestKw h; cases h
  | succ n ih =>
    intro zb zr zf zh zp zu v1 w_o_child w_o_depth w_o_term w_o_outMask w_o_nodeCount w_o_longestKw h
    unfold f_buildTrie_12 at h
    refine OEnds.adv hm_16 3 (pc' := 17) (L' := [qr 1, qi v1]) (S' := [.int zd, .int v1]) (H' := (c0 :: bk0 zg za zj zn zb zs zt zr zf zh zo zk zz zv zw zaa zab zq zd ze zp zu zc zy zx zl zi zm po)) rfl ?_
    by_cases hc33 : v1 < zd
    · simp only [if_pos hc33] at h
      refine OEnds.icmpF hm_16 rfl ((tlt hc33).2.1) ?_
      refine OEnds.adv hm_16 2 (pc' := 23) (L' := [qr 1, qi v1]) (S' := [.int 16, .int v1]) (H' := (c0 :: bk0 zg za zj zn zb zs zt zr zf zh zo zk zz zv zw zaa zab zq zd ze zp zu zc zy zx zl zi zm po)) rfl ?_
      by_cases hc34 : v1 < (16 : Int32)
      · simp only [if_pos hc34] at h
        refine OEnds.icmpF hm_16 rfl ((tlt hc34).2.1) ?_
        refine OEnds.adv hm_16 2 (pc' := 28) (L' := [qr 1, qi v1]) (S' := [.int v1, .ref 1]) (H' := (c0 :: bk0 zg za zj zn zb zs zt zr zf zh zo zk zz zv zw zaa zab zq zd ze zp zu zc zy zx zl zi zm po)) rfl ?_
        obtain ⟨⟨s35, s36, s37, s38, s39⟩, hq35, h⟩ := bnd h
        refine OEnds.call0 hm_16 rfl rfl (by decide) rfl (as := [.ref 1, .int v1]) (rest := []) rfl rfl (ok_insertKeyword hq35) ?_
        refine OEnds.adv hm_16 3 (pc' := 36) (L' := [qr 1, qi v1]) (S' := [.int v1, .ref 3]) (H' := (c0 :: bk0 zg za zj zn s35 zs zt s36 s37 s38 zo zk zz zv zw zaa zab zq zd ze s39 zu zc zy zx zl zi zm po)) rfl ?_
        obtain ⟨x40, hx40, h⟩ := bnd h
        refine OEnds.plain hm_16 rfl rfl (x_iaload rfl hx40) ?_
        refine OEnds.adv hm_16 2 (pc' := 41) (L' := [qr 1, qi v1]) (S' := [.int zu, .int x40]) (H' := (c0 :: bk0 zg za zj zn s35 zs zt s36 s37 s38 zo zk zz zv zw zaa zab zq zd ze s39 zu zc zy zx zl zi zm po)) rfl ?_
        by_cases hc36 : zu < x40
        · simp only [if_pos hc36] at h
          refine OEnds.icmpF hm_16 rfl ((tlt hc36).2.2.2) ?_
          refine OEnds.adv hm_16 4 (pc' := 50) (L' := [qr 1, qi v1]) (S' := [.int v1, .ref 3, .ref 1]) (H' := (c0 :: bk0 zg za zj zn s35 zs zt s36 s37 s38 zo zk zz zv zw zaa zab zq zd ze s39 zu zc zy zx zl zi zm po)) rfl ?_
          obtain ⟨x41, hx41, h⟩ := bnd h
          refine OEnds.plain hm_16 rfl rfl (x_iaload rfl hx41) ?_
          refine OEnds.adv hm_16 3 (pc' := 12) (L' := [qr 1, qi (v1 + (1 : Int32))]) (S' := []) (H' := (c0 :: bk0 zg za zj zn s35 zs zt s36 s37 s38 zo zk zz zv zw zaa zab zq zd ze s39 x41 zc zy zx zl zi zm po)) rfl ?_
          exact ih h
        · simp only [if_neg hc36] at h
          refine OEnds.icmpT hm_16 rfl (q := 54) rfl ((flt hc36).2.2.2) ?_
          refine OEnds.adv hm_16 2 (pc' := 12) (L' := [qr 1, qi (v1 + (1 : Int32))]) (S' := []) (H' := (c0 :: bk0 zg za zj zn s35 zs zt s36 s37 s38 zo zk zz zv zw zaa zab zq zd ze s39 zu zc zy zx zl zi zm po)) rfl ?_
          exact ih h
      · simp only [if_neg hc34] at h
        refine OEnds.icmpT hm_16 rfl (q := 60) rfl ((flt hc34).2.1) ?_
        show OEnds own_P 16 60 [qr 1, qi v1] [] (c0 :: bk0 zg za zj zn zb zs zt zr zf zh zo zk zz zv zw zaa zab zq zd ze zp zu zc zy zx zl zi zm po) _
        cases h
        exact OEnds.vret hm_16 rfl rfl
    · simp only [if_neg hc33] at h
      refine OEnds.icmpT hm_16 rfl (q := 60) rfl ((flt hc33).2.1) ?_
      show OEnds own_P 16 60 [qr 1, qi v1] [] (c0 :: bk0 zg za zj zn zb zs zt zr zf zh zo zk zz zv zw zaa zab zq zd ze zp zu zc zy zx zl zi zm po) _
      cases h
      exact OEnds.vret hm_16 rfl rfl
theorem ok_buildTrie {zg za zj zn zs zt zo zk zz zv zw : List Int32} {zaa zab zq zd ze zc zy zx zl zi zm : Int32} {c0 : ACell} {po : List ACell} {zb zr zf zh : List Int32} {zp zu : Int32} {w_o_child w_o_depth w_o_term w_o_outMask : List Int32} {w_o_nodeCount w_o_longestKw : Int32} (h : f_buildTrie zg za zd zb zr zf zh zp zu = some (w_o_child, w_o_depth, w_o_term, w_o_outMask, w_o_nodeCount, w_o_longestKw)) : OEnds own_P 16 0 [qr 1, qu] [] (c0 :: bk0 zg za zj zn zb zs zt zr zf zh zo zk zz zv zw zaa zab zq zd ze zp zu zc zy zx zl zi zm po) (none, (c0 :: bk0 zg za zj zn w_o_child zs zt w_o_depth w_o_term w_o_outMask zo zk zz zv zw zaa zab zq zd ze w_o_nodeCount w_o_longestKw zc zy zx zl zi zm po), 0, 0) := by
  unfold f_buildTrie at h
  refine OEnds.adv hm_16 8 (pc' := 12) (L' := [qr 1, qi 0]) (S' := []) (H' := (c0 :: bk0 zg za zj zn zb zs zt zr zf zh zo zk zz zv zw zaa zab zq zd ze 1 1 zc zy zx zl zi zm po)) rfl ?_
  exact ok_buildTrie_12 100000 h
theorem ok_expandNode_58 {zg za zj zn zb zr zf zk zz zv zw : List Int32} {zaa zab zq zd ze zp zu zc zy zx zl zi zm : Int32} {c0 : ACell} {po : List ACell} : ∀ (n : Nat), ∀ {zs zt zh zo : List Int32} {v1 v3 v4 v5 : Int32} {d2 d6 d7 : Slot} {res : Int32} {w_o_delta w_o_fail w_o_outMask : List Int32} {w_o_queue : List Int32}, f_expandNode_58 zb n zs zt zh zo v1 v3 v4 v5 = some (res, w_o_delta, w_o_fail, w_o_outMask, w_o_queue) → OEnds own_P 19 58 [qr 1, qi v1, d2, qi v3, qi v4, qi v5, d6, d7] [] (c0 :: bk0 zg za zj zn zb zs zt zr zf zh zo zk zz zv zw zaa zab zq zd ze zp zu zc zy zx zl zi zm po) (some (.int res), (c0 :: bk0 zg za zj zn zb w_o_delta w_o_fail zr zf w_o_outMask w_o_queue zk zz zv zw zaa zab zq zd ze zp zu zc zy zx zl zi zm po), 0, 0) := by
  intro n
  induction n with
  | zero => intro zs zt zh zo v1 v3 v4 v5 d2 d6 d7 res w_o_delta w_o_fail w_o_outMask w_o_queue h; cases h
  | succ n ih =>
    intro zs zt zh zo v1 v3 v4 v5 d2 d6 d7 res w_o_delta w_o_fail w_o_outMask w_o_queue h
    unfold f_expandNode_58 at h
    refine OEnds.adv hm_19 2 (pc' := 62) (L' := [qr 1, qi v1, qu, qi v3, qi v4, qi v5, qu, qu]) (S' := [.int 26, .int v5]) (H' := (c0 :: bk0 zg za zj zn zb zs zt zr zf zh zo zk zz zv zw zaa zab zq zd ze zp zu zc zy zx zl zi zm po)) rfl ?_
    by_cases hc37 : v5 < (26 : Int32)
    · simp only [if_pos hc37] at h
      refine OEnds.icmpF hm_19 rfl ((tlt hc37).2.1) ?_
      refine OEnds.adv hm_19 7 (pc' := 76) (L' := [qr 1, qi v1, qu, qi v3, qi v4, qi v5, qu, qu]) (S' := [.int ((v1 * (26 : Int32)) + v5), .ref 6]) (H' := (c0 :: bk0 zg za zj zn zb zs zt zr zf zh zo zk zz zv zw zaa zab zq zd ze zp zu zc zy zx zl zi zm po)) rfl ?_
      obtain ⟨x46, hx46, h⟩ := bnd h
      refine OEnds.plain hm_19 rfl rfl (x_iaload rfl hx46) ?_
      refine OEnds.adv hm_19 8 (pc' := 90) (L' := [qr 1, qi v1, qu, qi v3, qi v4, qi v5, qi x46, qu]) (S' := [.int ((v3 * (26 : Int32)) + v5), .ref 7]) (H' := (c0 :: bk0 zg za zj zn zb zs zt zr zf zh zo zk zz zv zw zaa zab zq zd ze zp zu zc zy zx zl zi zm po)) rfl ?_
      obtain ⟨x47, hx47, h⟩ := bnd h
      refine OEnds.plain hm_19 rfl rfl (x_iaload rfl hx47) ?_
      refine OEnds.adv hm_19 2 (pc' := 95) (L' := [qr 1, qi v1, qu, qi v3, qi v4, qi v5, qi x46, qi x47]) (S' := [.int x46]) (H' := (c0 :: bk0 zg za zj zn zb zs zt zr zf zh zo zk zz zv zw zaa zab zq zd ze zp zu zc zy zx zl zi zm po)) rfl ?_
      by_cases hc38 : x46 = (0 : Int32)
      · simp only [if_pos hc38] at h
        refine OEnds.ifT hm_19 rfl (q := 144) rfl ((teq hc38).1) ?_
        refine OEnds.adv hm_19 8 (pc' := 157) (L' := [qr 1, qi v1, qu, qi v3, qi v4, qi v5, qi x46, qi x47]) (S' := [.int x47, .int ((v1 * (26 : Int32)) + v5), .ref 7]) (H' := (c0 :: bk0 zg za zj zn zb zs zt zr zf zh zo zk zz zv zw zaa zab zq zd ze zp zu zc zy zx zl zi zm po)) rfl ?_
        obtain ⟨A48, hA48, h⟩ := bnd h
        refine OEnds.plain hm_19 rfl rfl (x_iastore rfl (Nat.le_of_ble_eq_true rfl) hA48) ?_
        refine OEnds.adv hm_19 2 (pc' := 58) (L' := [qr 1, qi v1, qu, qi v3, qi v4, qi (v5 + (1 : Int32)), qi x46, qi x47]) (S' := []) (H' := (c0 :: bk0 zg za zj zn zb A48 zt zr zf zh zo zk zz zv zw zaa zab zq zd ze zp zu zc zy zx zl zi zm po)) rfl ?_
        exact ih h
      · simp only [if_neg hc38] at h
        refine OEnds.ifF hm_19 rfl ((feq hc38).1) ?_
        refine OEnds.adv hm_19 4 (pc' := 106) (L' := [qr 1, qi v1, qu, qi v3, qi v4, qi v5, qi x46, qi x47]) (S' := [.int x47, .int x46, .ref 8]) (H' := (c0 :: bk0 zg za zj zn zb zs zt zr zf zh zo zk zz zv zw zaa zab zq zd ze zp zu zc zy zx zl zi zm po)) rfl ?_
        obtain ⟨A49, hA49, h⟩ := bnd h
        refine OEnds.plain hm_19 rfl rfl (x_iastore rfl (Nat.le_of_ble_eq_true rfl) hA49) ?_
        refine OEnds.adv hm_19 8 (pc' := 120) (L' := [qr 1, qi v1, qu, qi v3, qi v4, qi v5, qi x46, qi x47]) (S' := [.int x46, .int ((v1 * (26 : Int32)) + v5), .ref 7]) (H' := (c0 :: bk0 zg za zj zn zb zs A49 zr zf zh zo zk zz zv zw zaa zab zq zd ze zp zu zc zy zx zl zi zm po)) rfl ?_
        obtain ⟨A50, hA50, h⟩ := bnd h
        refine OEnds.plain hm_19 rfl rfl (x_iastore rfl (Nat.le_of_ble_eq_true rfl) hA50) ?_
        refine OEnds.adv hm_19 2 (pc' := 126) (L' := [qr 1, qi v1, qu, qi v3, qi v4, qi v5, qi x46, qi x47]) (S' := [.int 129, .int v4]) (H' := (c0 :: bk0 zg za zj zn zb A50 A49 zr zf zh zo zk zz zv zw zaa zab zq zd ze zp zu zc zy zx zl zi zm po)) rfl ?_
        by_cases hc39 : v4 < (129 : Int32)
        · simp only [if_pos hc39] at h
          refine OEnds.icmpF hm_19 rfl ((tlt hc39).2.1) ?_
          refine OEnds.adv hm_19 4 (pc' := 137) (L' := [qr 1, qi v1, qu, qi v3, qi v4, qi v5, qi x46, qi x47]) (S' := [.int x46, .int v4, .ref 12]) (H' := (c0 :: bk0 zg za zj zn zb A50 A49 zr zf zh zo zk zz zv zw zaa zab zq zd ze zp zu zc zy zx zl zi zm po)) rfl ?_
          obtain ⟨A51, hA51, h⟩ := bnd h
          refine OEnds.plain hm_19 rfl rfl (x_iastore rfl (Nat.le_of_ble_eq_true rfl) hA51) ?_
          refine OEnds.adv hm_19 4 (pc' := 58) (L' := [qr 1, qi v1, qu, qi v3, qi (v4 + (1 : Int32)), qi (v5 + (1 : Int32)), qi x46, qi x47]) (S' := []) (H' := (c0 :: bk0 zg za zj zn zb A50 A49 zr zf zh A51 zk zz zv zw zaa zab zq zd ze zp zu zc zy zx zl zi zm po)) rfl ?_
          exact ih h
        · simp only [if_neg hc39] at h
          refine OEnds.icmpT hm_19 rfl (q := 158) rfl ((flt hc39).2.1) ?_
          refine OEnds.adv hm_19 2 (pc' := 58) (L' := [qr 1, qi v1, qu, qi v3, qi v4, qi (v5 + (1 : Int32)), qi x46, qi x47]) (S' := []) (H' := (c0 :: bk0 zg za zj zn zb A50 A49 zr zf zh zo zk zz zv zw zaa zab zq zd ze zp zu zc zy zx zl zi zm po)) rfl ?_
          exact ih h
    · simp only [if_neg hc37] at h
      refine OEnds.icmpT hm_19 rfl (q := 164) rfl ((flt hc37).2.1) ?_
      refine OEnds.adv hm_19 1 (pc' := 166) (L' := [qr 1, qi v1, qu, qi v3, qi v4, qi v5, qu, qu]) (S' := [.int v4]) (H' := (c0 :: bk0 zg za zj zn zb zs zt zr zf zh zo zk zz zv zw zaa zab zq zd ze zp zu zc zy zx zl zi zm po)) rfl ?_
      cases h
      exact OEnds.iret hm_19 rfl rfl
theorem ok_expandNode_33 {zg za zj zn zb zr zf zk zz zv zw : List Int32} {zaa zab zq zd ze zp zu zc zy zx zl zi zm : Int32} {c0 : ACell} {po : List ACell} : ∀ {zs zt zh zo : List Int32} {v1 v2 v3 : Int32} {d4 d5 d6 d7 : Slot} {res : Int32} {w_o_delta w_o_fail w_o_outMask : List Int32} {w_o_queue : List Int32}, f_expandNode_33 zb zs zt zh zo v1 v2 v3 = some (res, w_o_delta, w_o_fail, w_o_outMask, w_o_queue) → OEnds own_P 19 33 [qr 1, qi v1, qi v2, qi v3, d4, d5, d6, d7] [] (c0 :: bk0 zg za zj zn zb zs zt zr zf zh zo zk zz zv zw zaa zab zq zd ze zp zu zc zy zx zl zi zm po) (some (.int res), (c0 :: bk0 zg za zj zn zb w_o_delta w_o_fail zr zf w_o_outMask w_o_queue zk zz zv zw zaa zab zq zd ze zp zu zc zy zx zl zi zm po), 0, 0) := by
  intro zs zt zh zo v1 v2 v3 d4 d5 d6 d7 res w_o_delta w_o_fail w_o_outMask w_o_queue h
  unfold f_expandNode_33 at h
  refine OEnds.adv hm_19 6 (pc' := 43) (L' := [qr 1, qi v1, qi v2, qi v3, qu, qu, qu, qu]) (S' := [.int v1, .ref 11, .int v1, .ref 11]) (H' := (c0 :: bk0 zg za zj zn zb zs zt zr zf zh zo zk zz zv zw zaa zab zq zd ze zp zu zc zy zx zl zi zm po)) rfl ?_
  obtain ⟨x43, hx43, h⟩ := bnd h
  refine OEnds.plain hm_19 rfl rfl (x_iaload rfl hx43) ?_
  refine OEnds.adv hm_19 3 (pc' := 49) (L' := [qr 1, qi v1, qi v2, qi v3, qu, qu, qu, qu]) (S' := [.int v3, .ref 11, .int x43, .int v1, .ref 11]) (H' := (c0 :: bk0 zg za zj zn zb zs zt zr zf zh zo zk zz zv zw zaa zab zq zd ze zp zu zc zy zx zl zi zm po)) rfl ?_
  obtain ⟨x44, hx44, h⟩ := bnd h
  refine OEnds.plain hm_19 rfl rfl (x_iaload rfl hx44) ?_
  refine OEnds.adv hm_19 1 (pc' := 51) (L' := [qr 1, qi v1, qi v2, qi v3, qu, qu, qu, qu]) (S' := [.int (x43 ||| x44), .int v1, .ref 11]) (H' := (c0 :: bk0 zg za zj zn zb zs zt zr zf zh zo zk zz zv zw zaa zab zq zd ze zp zu zc zy zx zl zi zm po)) rfl ?_
  obtain ⟨A45, hA45, h⟩ := bnd h
  refine OEnds.plain hm_19 rfl rfl (x_iastore rfl (Nat.le_of_ble_eq_true rfl) hA45) ?_
  refine OEnds.adv hm_19 4 (pc' := 58) (L' := [qr 1, qi v1, qi v2, qi v3, qi v2, qi 0, qu, qu]) (S' := []) (H' := (c0 :: bk0 zg za zj zn zb zs zt zr zf A45 zo zk zz zv zw zaa zab zq zd ze zp zu zc zy zx zl zi zm po)) rfl ?_
  exact ok_expandNode_58 100000 h
theorem ok_expandNode {zg za zj zn zb zr zf zk zz zv zw : List Int32} {zaa zab zq zd ze zp zu zc zy zx zl zi zm : Int32} {c0 : ACell} {po : List ACell} {zs zt zh zo : List Int32} {v1 v2 res : Int32} {w_o_delta w_o_fail w_o_outMask w_o_queue : List Int32} (h : f_expandNode zb zs zt zh zo v1 v2 = some (res, w_o_delta, w_o_fail, w_o_outMask, w_o_queue)) : OEnds own_P 19 0 [qr 1, qi v1, qi v2, qu, qu, qu, qu, qu] [] (c0 :: bk0 zg za zj zn zb zs zt zr zf zh zo zk zz zv zw zaa zab zq zd ze zp zu zc zy zx zl zi zm po) (some (.int res), (c0 :: bk0 zg za zj zn zb w_o_delta w_o_fail zr zf w_o_outMask w_o_queue zk zz zv zw zaa zab zq zd ze zp zu zc zy zx zl zi zm po), 0, 0) := by
  unfold f_expandNode at h
  refine OEnds.adv hm_19 1 (pc' := 1) (L' := [qr 1, qi v1, qi v2, qu, qu, qu, qu, qu]) (S' := [.int v1]) (H' := (c0 :: bk0 zg za zj zn zb zs zt zr zf zh zo zk zz zv zw zaa zab zq zd ze zp zu zc zy zx zl zi zm po)) rfl ?_
  by_cases hc40 : (0 : Int32) < v1
  · simp only [if_pos hc40] at h
    refine OEnds.ifF hm_19 rfl ((tlt hc40).2.2.2) ?_
    refine OEnds.adv hm_19 2 (pc' := 8) (L' := [qr 1, qi v1, qi v2, qu, qu, qu, qu, qu]) (S' := [.int 129, .int v1]) (H' := (c0 :: bk0 zg za zj zn zb zs zt zr zf zh zo zk zz zv zw zaa zab zq zd ze zp zu zc zy zx zl zi zm po)) rfl ?_
    by_cases hc41 : v1 < (129 : Int32)
    · simp only [if_pos hc41] at h
      refine OEnds.icmpT hm_19 rfl (q := 13) rfl ((tlt hc41).1) ?_
      refine OEnds.adv hm_19 3 (pc' := 18) (L' := [qr 1, qi v1, qi v2, qu, qu, qu, qu, qu]) (S' := [.int v1, .ref 8]) (H' := (c0 :: bk0 zg za zj zn zb zs zt zr zf zh zo zk zz zv zw zaa zab zq zd ze zp zu zc zy zx zl zi zm po)) rfl ?_
      obtain ⟨x42, hx42, h⟩ := bnd h
      refine OEnds.plain hm_19 rfl rfl (x_iaload rfl hx42) ?_
      refine OEnds.adv hm_19 2 (pc' := 21) (L' := [qr 1, qi v1, qi v2, qi x42, qu, qu, qu, qu]) (S' := [.int x42]) (H' := (c0 :: bk0 zg za zj zn zb zs zt zr zf zh zo zk zz zv zw zaa zab zq zd ze zp zu zc zy zx zl zi zm po)) rfl ?_
      by_cases hc42 : x42 < (0 : Int32)
      · simp only [if_pos hc42] at h
        refine OEnds.ifT hm_19 rfl (q := 31) rfl ((tlt hc42).1) ?_
        refine OEnds.adv hm_19 2 (pc' := 33) (L' := [qr 1, qi v1, qi v2, qi 0, qu, qu, qu, qu]) (S' := []) (H' := (c0 :: bk0 zg za zj zn zb zs zt zr zf zh zo zk zz zv zw zaa zab zq zd ze zp zu zc zy zx zl zi zm po)) rfl ?_
        exact ok_expandNode_33 h
      · simp only [if_neg hc42] at h
        refine OEnds.ifF hm_19 rfl ((flt hc42).1) ?_
        refine OEnds.adv hm_19 2 (pc' := 28) (L' := [qr 1, qi v1, qi v2, qi x42, qu, qu, qu, qu]) (S' := [.int 129, .int x42]) (H' := (c0 :: bk0 zg za zj zn zb zs zt zr zf zh zo zk zz zv zw zaa zab zq zd ze zp zu zc zy zx zl zi zm po)) rfl ?_
        by_cases hc43 : x42 < (129 : Int32)
        · simp only [if_pos hc43] at h
          refine OEnds.icmpT hm_19 rfl (q := 33) rfl ((tlt hc43).1) ?_
          show OEnds own_P 19 33 [qr 1, qi v1, qi v2, qi x42, qu, qu, qu, qu] [] (c0 :: bk0 zg za zj zn zb zs zt zr zf zh zo zk zz zv zw zaa zab zq zd ze zp zu zc zy zx zl zi zm po) _
          exact ok_expandNode_33 h
        · simp only [if_neg hc43] at h
          refine OEnds.icmpF hm_19 rfl ((flt hc43).1) ?_
          refine OEnds.adv hm_19 2 (pc' := 33) (L' := [qr 1, qi v1, qi v2, qi 0, qu, qu, qu, qu]) (S' := []) (H' := (c0 :: bk0 zg za zj zn zb zs zt zr zf zh zo zk zz zv zw zaa zab zq zd ze zp zu zc zy zx zl zi zm po)) rfl ?_
          exact ok_expandNode_33 h
    · simp only [if_neg hc41] at h
      refine OEnds.icmpF hm_19 rfl ((flt hc41).1) ?_
      refine OEnds.adv hm_19 1 (pc' := 12) (L' := [qr 1, qi v1, qi v2, qu, qu, qu, qu, qu]) (S' := [.int v2]) (H' := (c0 :: bk0 zg za zj zn zb zs zt zr zf zh zo zk zz zv zw zaa zab zq zd ze zp zu zc zy zx zl zi zm po)) rfl ?_
      cases h
      exact OEnds.iret hm_19 rfl rfl
  · simp only [if_neg hc40] at h
    refine OEnds.ifT hm_19 rfl (q := 11) rfl ((flt hc40).2.2.2) ?_
    refine OEnds.adv hm_19 1 (pc' := 12) (L' := [qr 1, qi v1, qi v2, qu, qu, qu, qu, qu]) (S' := [.int v2]) (H' := (c0 :: bk0 zg za zj zn zb zs zt zr zf zh zo zk zz zv zw zaa zab zq zd ze zp zu zc zy zx zl zi zm po)) rfl ?_
    cases h
    exact OEnds.iret hm_19 rfl rfl
theorem ok_computeLinks_74 {zg za zj zn zb zr zf zk zz zv zw : List Int32} {zaa zab zq zd ze zp zu zc zy zx zl zi zm : Int32} {c0 : ACell} {po : List ACell} : ∀ (n : Nat), ∀ {zs zt zh zo : List Int32} {v1 v2 v3 : Int32} {d4 : Slot} {w_o_delta w_o_fail w_o_outMask : List Int32} {w_o_queue : List Int32}, f_computeLinks_74 zb n zs zt zh zo v1 v2 v3 = some (w_o_delta, w_o_fail, w_o_outMask, w_o_queue) → OEnds own_P 18 74 [qr 1, qi v1, qi v2, qi v3, d4] [] (c0 :: bk0 zg za zj zn zb zs zt zr zf zh zo zk zz zv zw zaa zab zq zd ze zp zu zc zy zx zl zi zm po) (none, (c0 :: bk0 zg za zj zn zb w_o_delta w_o_fail zr zf w_o_outMask w_o_queue zk zz zv zw zaa zab zq zd ze zp zu zc zy zx zl zi zm po), 0, 0) := by
  intro n
  induction n with
  | zero => intro zs zt zh zo v1 v2 v3 d4 w_o_delta w_o_fail w_o_outMask w_o_queue h; cases h
  | succ n ih =>
    intro zs zt zh zo v1 v2 v3 d4 w_o_delta w_o_fail w_o_outMask w_o_queue h
    unfold f_computeLinks_74 at h
    refine OEnds.adv hm_18 2 (pc' := 78) (L' := [qr 1, qi v1, qi v2, qi v3, qu]) (S' := [.int 129, .int v3]) (H' := (c0 :: bk0 zg za zj zn zb zs zt zr zf zh zo zk zz zv zw zaa zab zq zd ze zp zu zc zy zx zl zi zm po)) rfl ?_
    by_cases hc44 : v3 < (129 : Int32)
    · simp only [if_pos hc44] at h
      refine OEnds.icmpF hm_18 rfl ((tlt hc44).2.1) ?_
      refine OEnds.adv hm_18 2 (pc' := 83) (L' := [qr 1, qi v1, qi v2, qi v3, qu]) (S' := [.int v2, .int v1]) (H' := (c0 :: bk0 zg za zj zn zb zs zt zr zf zh zo zk zz zv zw zaa zab zq zd ze zp zu zc zy zx zl zi zm po)) rfl ?_
      by_cases hc45 : v1 < v2
      · simp only [if_pos hc45] at h
        refine OEnds.icmpT hm_18 rfl (q := 87) rfl ((tlt hc45).1) ?_
        refine OEnds.adv hm_18 3 (pc' := 92) (L' := [qr 1, qi v1, qi v2, qi v3, qu]) (S' := [.int v1, .ref 12]) (H' := (c0 :: bk0 zg za zj zn zb zs zt zr zf zh zo zk zz zv zw zaa zab zq zd ze zp zu zc zy zx zl zi zm po)) rfl ?_
        obtain ⟨x57, hx57, h⟩ := bnd h
        refine OEnds.plain hm_18 rfl rfl (x_iaload rfl hx57) ?_
        refine OEnds.adv hm_18 5 (pc' := 102) (L' := [qr 1, qi (v1 + (1 : Int32)), qi v2, qi v3, qi x57]) (S' := [.int v2, .int x57, .ref 1]) (H' := (c0 :: bk0 zg za zj zn zb zs zt zr zf zh zo zk zz zv zw zaa zab zq zd ze zp zu zc zy zx zl zi zm po)) rfl ?_
        obtain ⟨⟨r58, s59, s60, s61, s62⟩, hq46, h⟩ := bnd h
        refine OEnds.call0 hm_18 rfl rfl (by decide) rfl (as := [.ref 1, .int x57, .int v2]) (rest := []) rfl rfl (ok_expandNode hq46) ?_
        refine OEnds.adv hm_18 3 (pc' := 74) (L' := [qr 1, qi (v1 + (1 : Int32)), qi r58, qi (v3 + (1 : Int32)), qi x57]) (S' := []) (H' := (c0 :: bk0 zg za zj zn zb s59 s60 zr zf s61 s62 zk zz zv zw zaa zab zq zd ze zp zu zc zy zx zl zi zm po)) rfl ?_
        exact ih h
      · simp only [if_neg hc45] at h
        refine OEnds.icmpF hm_18 rfl ((flt hc45).1) ?_
        show OEnds own_P 18 86 [qr 1, qi v1, qi v2, qi v3, qu] [] (c0 :: bk0 zg za zj zn zb zs zt zr zf zh zo zk zz zv zw zaa zab zq zd ze zp zu zc zy zx zl zi zm po) _
        cases h
        exact OEnds.vret hm_18 rfl rfl
    · simp only [if_neg hc44] at h
      refine OEnds.icmpT hm_18 rfl (q := 112) rfl ((flt hc44).2.1) ?_
      show OEnds own_P 18 112 [qr 1, qi v1, qi v2, qi v3, qu] [] (c0 :: bk0 zg za zj zn zb zs zt zr zf zh zo zk zz zv zw zaa zab zq zd ze zp zu zc zy zx zl zi zm po) _
      cases h
      exact OEnds.vret hm_18 rfl rfl
theorem ok_computeLinks_13 {zg za zj zn zb zr zf zk zz zv zw : List Int32} {zaa zab zq zd ze zp zu zc zy zx zl zi zm : Int32} {c0 : ACell} {po : List ACell} {k74 : List Int32 → List Int32 → List Int32 → List Int32 → Int32 → Int32 → Int32 → Option (List Int32 × List Int32 × List Int32 × List Int32)} (hk74 : ∀ {zs zt zh zo : List Int32} {v1 v2 v3 : Int32} {d4 : Slot} {w_o_delta w_o_fail w_o_outMask : List Int32} {w_o_queue : List Int32}, k74 zs zt zh zo v1 v2 v3 = some (w_o_delta, w_o_fail, w_o_outMask, w_o_queue) → OEnds own_P 18 74 [qr 1, qi v1, qi v2, qi v3, d4] [] (c0 :: bk0 zg za zj zn zb zs zt zr zf zh zo zk zz zv zw zaa zab zq zd ze zp zu zc zy zx zl zi zm po) (none, (c0 :: bk0 zg za zj zn zb w_o_delta w_o_fail zr zf w_o_outMask w_o_queue zk zz zv zw zaa zab zq zd ze zp zu zc zy zx zl zi zm po), 0, 0)) : ∀ (n : Nat), ∀ {zs zt zh zo : List Int32} {v1 v2 v3 : Int32} {d4 : Slot} {w_o_delta w_o_fail w_o_outMask : List Int32} {w_o_queue : List Int32}, f_computeLinks_13 k74 zb n zs zt zh zo v1 v2 v3 = some (w_o_delta, w_o_fail, w_o_outMask, w_o_queue) → OEnds own_P 18 13 [qr 1, qi v1, qi v2, qi v3, d4] [] (c0 :: bk0 zg za zj zn zb zs zt zr zf zh zo zk zz zv zw zaa zab zq zd ze zp zu zc zy zx zl zi zm po) (none, (c0 :: bk0 zg za zj zn zb w_o_delta w_o_fail zr zf w_o_outMask w_o_queue zk zz zv zw zaa zab zq zd ze zp zu zc zy zx zl zi zm po), 0, 0) := by
  intro n
  induction n with
  | zero => intro zs zt zh zo v1 v2 v3 d4 w_o_delta w_o_fail w_o_outMask w_o_queue h; cases h
  | succ n ih =>
    intro zs zt zh zo v1 v2 v3 d4 w_o_delta w_o_fail w_o_outMask w_o_queue h
    unfold f_computeLinks_13 at h
    refine OEnds.adv hm_18 2 (pc' := 16) (L' := [qr 1, qi v1, qi v2, qi v3, qu]) (S' := [.int 26, .int v3]) (H' := (c0 :: bk0 zg za zj zn zb zs zt zr zf zh zo zk zz zv zw zaa zab zq zd ze zp zu zc zy zx zl zi zm po)) rfl ?_
    by_cases hc47 : v3 < (26 : Int32)
    · simp only [if_pos hc47] at h
      refine OEnds.icmpF hm_18 rfl ((tlt hc47).2.1) ?_
      refine OEnds.adv hm_18 3 (pc' := 24) (L' := [qr 1, qi v1, qi v2, qi v3, qu]) (S' := [.int v3, .ref 6]) (H' := (c0 :: bk0 zg za zj zn zb zs zt zr zf zh zo zk zz zv zw zaa zab zq zd ze zp zu zc zy zx zl zi zm po)) rfl ?_
      obtain ⟨x53, hx53, h⟩ := bnd h
      refine OEnds.plain hm_18 rfl rfl (x_iaload rfl hx53) ?_
      refine OEnds.adv hm_18 5 (pc' := 34) (L' := [qr 1, qi v1, qi v2, qi v3, qi x53]) (S' := [.int x53, .int v3, .ref 7]) (H' := (c0 :: bk0 zg za zj zn zb zs zt zr zf zh zo zk zz zv zw zaa zab zq zd ze zp zu zc zy zx zl zi zm po)) rfl ?_
      obtain ⟨A54, hA54, h⟩ := bnd h
      refine OEnds.plain hm_18 rfl rfl (x_iastore rfl (Nat.le_of_ble_eq_true rfl) hA54) ?_
      refine OEnds.adv hm_18 1 (pc' := 37) (L' := [qr 1, qi v1, qi v2, qi v3, qi x53]) (S' := [.int x53]) (H' := (c0 :: bk0 zg za zj zn zb A54 zt zr zf zh zo zk zz zv zw zaa zab zq zd ze zp zu zc zy zx zl zi zm po)) rfl ?_
      by_cases hc48 : x53 = (0 : Int32)
      · simp only [if_pos hc48] at h
        refine OEnds.ifT hm_18 rfl (q := 66) rfl ((teq hc48).1) ?_
        refine OEnds.adv hm_18 2 (pc' := 13) (L' := [qr 1, qi v1, qi v2, qi (v3 + (1 : Int32)), qi x53]) (S' := []) (H' := (c0 :: bk0 zg za zj zn zb A54 zt zr zf zh zo zk zz zv zw zaa zab zq zd ze zp zu zc zy zx zl zi zm po)) rfl ?_
        exact ih h
      · simp only [if_neg hc48] at h
        refine OEnds.ifF hm_18 rfl ((feq hc48).1) ?_
        refine OEnds.adv hm_18 2 (pc' := 44) (L' := [qr 1, qi v1, qi v2, qi v3, qi x53]) (S' := [.int 129, .int v2]) (H' := (c0 :: bk0 zg za zj zn zb A54 zt zr zf zh zo zk zz zv zw zaa zab zq zd ze zp zu zc zy zx zl zi zm po)) rfl ?_
        by_cases hc49 : v2 < (129 : Int32)
        · simp only [if_pos hc49] at h
          refine OEnds.icmpF hm_18 rfl ((tlt hc49).2.1) ?_
          refine OEnds.adv hm_18 4 (pc' := 54) (L' := [qr 1, qi v1, qi v2, qi v3, qi x53]) (S' := [.int 0, .int x53, .ref 8]) (H' := (c0 :: bk0 zg za zj zn zb A54 zt zr zf zh zo zk zz zv zw zaa zab zq zd ze zp zu zc zy zx zl zi zm po)) rfl ?_
          obtain ⟨A55, hA55, h⟩ := bnd h
          refine OEnds.plain hm_18 rfl rfl (x_iastore rfl (Nat.le_of_ble_eq_true rfl) hA55) ?_
          refine OEnds.adv hm_18 4 (pc' := 62) (L' := [qr 1, qi v1, qi v2, qi v3, qi x53]) (S' := [.int x53, .int v2, .ref 12]) (H' := (c0 :: bk0 zg za zj zn zb A54 A55 zr zf zh zo zk zz zv zw zaa zab zq zd ze zp zu zc zy zx zl zi zm po)) rfl ?_
          obtain ⟨A56, hA56, h⟩ := bnd h
          refine OEnds.plain hm_18 rfl rfl (x_iastore rfl (Nat.le_of_ble_eq_true rfl) hA56) ?_
          refine OEnds.adv hm_18 3 (pc' := 13) (L' := [qr 1, qi v1, qi (v2 + (1 : Int32)), qi (v3 + (1 : Int32)), qi x53]) (S' := []) (H' := (c0 :: bk0 zg za zj zn zb A54 A55 zr zf zh A56 zk zz zv zw zaa zab zq zd ze zp zu zc zy zx zl zi zm po)) rfl ?_
          exact ih h
        · simp only [if_neg hc49] at h
          refine OEnds.icmpT hm_18 rfl (q := 66) rfl ((flt hc49).2.1) ?_
          refine OEnds.adv hm_18 2 (pc' := 13) (L' := [qr 1, qi v1, qi v2, qi (v3 + (1 : Int32)), qi x53]) (S' := []) (H' := (c0 :: bk0 zg za zj zn zb A54 zt zr zf zh zo zk zz zv zw zaa zab zq zd ze zp zu zc zy zx zl zi zm po)) rfl ?_
          exact ih h
    · simp only [if_neg hc47] at h
      refine OEnds.icmpT hm_18 rfl (q := 72) rfl ((flt hc47).2.1) ?_
      refine OEnds.adv hm_18 2 (pc' := 74) (L' := [qr 1, qi v1, qi v2, qi 0, qu]) (S' := []) (H' := (c0 :: bk0 zg za zj zn zb zs zt zr zf zh zo zk zz zv zw zaa zab zq zd ze zp zu zc zy zx zl zi zm po)) rfl ?_
      exact hk74 h
theorem ok_computeLinks {zg za zj zn zb zr zf zk zz zv zw : List Int32} {zaa zab zq zd ze zp zu zc zy zx zl zi zm : Int32} {c0 : ACell} {po : List ACell} {zs zt zh zo w_o_delta w_o_fail w_o_outMask w_o_queue : List Int32} (h : f_computeLinks zb zs zt zh zo = some (w_o_delta, w_o_fail, w_o_outMask, w_o_queue)) : OEnds own_P 18 0 [qr 1, qu, qu, qu, qu] [] (c0 :: bk0 zg za zj zn zb zs zt zr zf zh zo zk zz zv zw zaa zab zq zd ze zp zu zc zy zx zl zi zm po) (none, (c0 :: bk0 zg za zj zn zb w_o_delta w_o_fail zr zf w_o_outMask w_o_queue zk zz zv zw zaa zab zq zd ze zp zu zc zy zx zl zi zm po), 0, 0) := by
  unfold f_computeLinks at h
  refine OEnds.adv hm_18 8 (pc' := 10) (L' := [qr 1, qi 0, qi 0, qu, qu]) (S' := [.int 0, .int 0, .ref 8]) (H' := (c0 :: bk0 zg za zj zn zb zs zt zr zf zh zo zk zz zv zw zaa zab zq zd ze zp zu zc zy zx zl zi zm po)) rfl ?_
  obtain ⟨A52, hA52, h⟩ := bnd h
  refine OEnds.plain hm_18 rfl rfl (x_iastore rfl (Nat.le_of_ble_eq_true rfl) hA52) ?_
  refine OEnds.adv hm_18 2 (pc' := 13) (L' := [qr 1, qi 0, qi 0, qi 0, qu]) (S' := []) (H' := (c0 :: bk0 zg za zj zn zb zs A52 zr zf zh zo zk zz zv zw zaa zab zq zd ze zp zu zc zy zx zl zi zm po)) rfl ?_
  exact ok_computeLinks_13 (k74 := f_computeLinks_74 zb 100000) (ok_computeLinks_74 100000) 100000 h
theorem ok_build {zg za zj zn zk zz zv zw : List Int32} {zaa zab zd ze : Int32} {c0 : ACell} {po : List ACell} {zb zs zt zr zf zh zo : List Int32} {zq zp zu zc zy zx zl zi zm res : Int32} {w_o_child w_o_delta w_o_fail w_o_depth w_o_term w_o_outMask w_o_queue : List Int32} {w_o_phaseNow w_o_nodeCount w_o_longestKw w_o_n w_o_state w_o_total w_o_outLen w_o_commitPos w_o_tailLen : Int32} (h : f_build zg za zd ze zb zs zt zr zf zh zo zq zp zu zc zy zx zl zi zm = some (res, w_o_child, w_o_delta, w_o_fail, w_o_depth, w_o_term, w_o_outMask, w_o_queue, w_o_phaseNow, w_o_nodeCount, w_o_longestKw, w_o_n, w_o_state, w_o_total, w_o_outLen, w_o_commitPos, w_o_tailLen)) : OEnds own_P 3 0 [qr 1] [] (c0 :: bk0 zg za zj zn zb zs zt zr zf zh zo zk zz zv zw zaa zab zq zd ze zp zu zc zy zx zl zi zm po) (some (.int res), (c0 :: bk0 zg za zj zn w_o_child w_o_delta w_o_fail w_o_depth w_o_term w_o_outMask w_o_queue zk zz zv zw zaa zab w_o_phaseNow zd ze w_o_nodeCount w_o_longestKw w_o_n w_o_state w_o_total w_o_outLen w_o_commitPos w_o_tailLen po), 0, 0) := by
  unfold f_build at h
  refine OEnds.adv hm_3 2 (pc' := 4) (L' := [qr 1]) (S' := [.int zq]) (H' := (c0 :: bk0 zg za zj zn zb zs zt zr zf zh zo zk zz zv zw zaa zab zq zd ze zp zu zc zy zx zl zi zm po)) rfl ?_
  by_cases hc50 : zq = (0 : Int32)
  · simp only [if_pos hc50] at h
    refine OEnds.ifT hm_3 rfl (q := 9) rfl ((teq hc50).1) ?_
    refine OEnds.adv hm_3 2 (pc' := 13) (L' := [qr 1]) (S' := [.int ze]) (H' := (c0 :: bk0 zg za zj zn zb zs zt zr zf zh zo zk zz zv zw zaa zab zq zd ze zp zu zc zy zx zl zi zm po)) rfl ?_
    by_cases hc51 : ze = (0 : Int32)
    · simp only [if_pos hc51] at h
      refine OEnds.ifT hm_3 rfl (q := 19) rfl ((teq hc51).1) ?_
      refine OEnds.adv hm_3 2 (pc' := 23) (L' := [qr 1]) (S' := [.int zd]) (H' := (c0 :: bk0 zg za zj zn zb zs zt zr zf zh zo zk zz zv zw zaa zab zq zd ze zp zu zc zy zx zl zi zm po)) rfl ?_
      by_cases hc52 : zd = (0 : Int32)
      · simp only [if_pos hc52] at h
        refine OEnds.ifF hm_3 rfl ((teq hc52).2) ?_
        refine OEnds.adv hm_3 1 (pc' := 28) (L' := [qr 1]) (S' := [.int (-4)]) (H' := (c0 :: bk0 zg za zj zn zb zs zt zr zf zh zo zk zz zv zw zaa zab zq zd ze zp zu zc zy zx zl zi zm po)) rfl ?_
        cases h
        exact OEnds.iret hm_3 rfl rfl
      · simp only [if_neg hc52] at h
        refine OEnds.ifT hm_3 rfl (q := 29) rfl ((feq hc52).2) ?_
        refine OEnds.adv hm_3 1 (pc' := 30) (L' := [qr 1]) (S' := [.ref 1]) (H' := (c0 :: bk0 zg za zj zn zb zs zt zr zf zh zo zk zz zv zw zaa zab zq zd ze zp zu zc zy zx zl zi zm po)) rfl ?_
        obtain ⟨⟨s63, s64, s65, s66, s67, s68⟩, hq53, h⟩ := bnd h
        refine OEnds.call0 hm_3 rfl rfl (by decide) rfl (as := [.ref 1]) (rest := []) rfl rfl (ok_buildTrie hq53) ?_
        refine OEnds.adv hm_3 1 (pc' := 34) (L' := [qr 1]) (S' := [.ref 1]) (H' := (c0 :: bk0 zg za zj zn s63 zs zt s64 s65 s66 zo zk zz zv zw zaa zab zq zd ze s67 s68 zc zy zx zl zi zm po)) rfl ?_
        obtain ⟨⟨s69, s70, s71, s72⟩, hq54, h⟩ := bnd h
        refine OEnds.call0 hm_3 rfl rfl (by decide) rfl (as := [.ref 1]) (rest := []) rfl rfl (ok_computeLinks hq54) ?_
        refine OEnds.adv hm_3 4 (pc' := 43) (L' := [qr 1]) (S' := [.ref 1]) (H' := (c0 :: bk0 zg za zj zn s63 s69 s70 s64 s65 s71 s72 zk zz zv zw zaa zab 1 zd ze s67 s68 zc zy zx zl zi zm po)) rfl ?_
        obtain ⟨⟨s73, s74, s75, s76, s77, s78⟩, hq55, h⟩ := bnd h
        refine OEnds.call0 hm_3 rfl rfl (by decide) rfl (as := [.ref 1]) (rest := []) rfl rfl (ok_clearText hq55) ?_
        refine OEnds.adv hm_3 1 (pc' := 47) (L' := [qr 1]) (S' := [.int 0]) (H' := (c0 :: bk0 zg za zj zn s63 s69 s70 s64 s65 s71 s72 zk zz zv zw zaa zab 1 zd ze s67 s68 s73 s74 s75 s76 s77 s78 po)) rfl ?_
        cases h
        exact OEnds.iret hm_3 rfl rfl
    · simp only [if_neg hc51] at h
      refine OEnds.ifF hm_3 rfl ((feq hc51).1) ?_
      refine OEnds.adv hm_3 1 (pc' := 18) (L' := [qr 1]) (S' := [.int (-7)]) (H' := (c0 :: bk0 zg za zj zn zb zs zt zr zf zh zo zk zz zv zw zaa zab zq zd ze zp zu zc zy zx zl zi zm po)) rfl ?_
      cases h
      exact OEnds.iret hm_3 rfl rfl
  · simp only [if_neg hc50] at h
    refine OEnds.ifF hm_3 rfl ((feq hc50).1) ?_
    refine OEnds.adv hm_3 1 (pc' := 8) (L' := [qr 1]) (S' := [.int (-1)]) (H' := (c0 :: bk0 zg za zj zn zb zs zt zr zf zh zo zk zz zv zw zaa zab zq zd ze zp zu zc zy zx zl zi zm po)) rfl ?_
    cases h
    exact OEnds.iret hm_3 rfl rfl
theorem ok_resetText {zg za zj zn zb zs zt zr zf zh zo zk zz zv zw : List Int32} {zaa zab zq zd ze zp zu : Int32} {c0 : ACell} {po : List ACell} {zc zy zx zl zi zm res w_o_n w_o_state w_o_total w_o_outLen w_o_commitPos w_o_tailLen : Int32} (h : f_resetText zq zc zy zx zl zi zm = some (res, w_o_n, w_o_state, w_o_total, w_o_outLen, w_o_commitPos, w_o_tailLen)) : OEnds own_P 20 0 [qr 1] [] (c0 :: bk0 zg za zj zn zb zs zt zr zf zh zo zk zz zv zw zaa zab zq zd ze zp zu zc zy zx zl zi zm po) (some (.int res), (c0 :: bk0 zg za zj zn zb zs zt zr zf zh zo zk zz zv zw zaa zab zq zd ze zp zu w_o_n w_o_state w_o_total w_o_outLen w_o_commitPos w_o_tailLen po), 0, 0) := by
  unfold f_resetText at h
  refine OEnds.adv hm_20 3 (pc' := 5) (L' := [qr 1]) (S' := [.int 1, .int zq]) (H' := (c0 :: bk0 zg za zj zn zb zs zt zr zf zh zo zk zz zv zw zaa zab zq zd ze zp zu zc zy zx zl zi zm po)) rfl ?_
  by_cases hc56 : zq = (1 : Int32)
  · simp only [if_pos hc56] at h
    refine OEnds.icmpT hm_20 rfl (q := 10) rfl ((teq hc56).1) ?_
    refine OEnds.adv hm_20 1 (pc' := 11) (L' := [qr 1]) (S' := [.ref 1]) (H' := (c0 :: bk0 zg za zj zn zb zs zt zr zf zh zo zk zz zv zw zaa zab zq zd ze zp zu zc zy zx zl zi zm po)) rfl ?_
    obtain ⟨⟨s79, s80, s81, s82, s83, s84⟩, hq57, h⟩ := bnd h
    refine OEnds.call0 hm_20 rfl rfl (by decide) rfl (as := [.ref 1]) (rest := []) rfl rfl (ok_clearText hq57) ?_
    refine OEnds.adv hm_20 1 (pc' := 15) (L' := [qr 1]) (S' := [.int 0]) (H' := (c0 :: bk0 zg za zj zn zb zs zt zr zf zh zo zk zz zv zw zaa zab zq zd ze zp zu s79 s80 s81 s82 s83 s84 po)) rfl ?_
    cases h
    exact OEnds.iret hm_20 rfl rfl
  · simp only [if_neg hc56] at h
    refine OEnds.icmpF hm_20 rfl ((feq hc56).1) ?_
    refine OEnds.adv hm_20 1 (pc' := 9) (L' := [qr 1]) (S' := [.int (-1)]) (H' := (c0 :: bk0 zg za zj zn zb zs zt zr zf zh zo zk zz zv zw zaa zab zq zd ze zp zu zc zy zx zl zi zm po)) rfl ?_
    cases h
    exact OEnds.iret hm_20 rfl rfl
theorem ok_isLetter {zg za zj zn zb zs zt zr zf zh zo zk zz zv zw : List Int32} {zaa zab zq zd ze zp zu zc zy zx zl zi zm : Int32} {c0 : ACell} {po : List ACell} {v1 res : Int32} (h : f_isLetter v1 = some res) : OEnds own_P 11 0 [qr 1, qi v1] [] (c0 :: bk0 zg za zj zn zb zs zt zr zf zh zo zk zz zv zw zaa zab zq zd ze zp zu zc zy zx zl zi zm po) (some (.int res), (c0 :: bk0 zg za zj zn zb zs zt zr zf zh zo zk zz zv zw zaa zab zq zd ze zp zu zc zy zx zl zi zm po), 0, 0) := by
  unfold f_isLetter at h
  refine OEnds.adv hm_11 2 (pc' := 3) (L' := [qr 1, qi v1]) (S' := [.int 97, .int v1]) (H' := (c0 :: bk0 zg za zj zn zb zs zt zr zf zh zo zk zz zv zw zaa zab zq zd ze zp zu zc zy zx zl zi zm po)) rfl ?_
  by_cases hc58 : v1 < (97 : Int32)
  · simp only [if_pos hc58] at h
    refine OEnds.icmpT hm_11 rfl (q := 16) rfl ((tlt hc58).1) ?_
    refine OEnds.adv hm_11 1 (pc' := 17) (L' := [qr 1, qi v1]) (S' := [.int 0]) (H' := (c0 :: bk0 zg za zj zn zb zs zt zr zf zh zo zk zz zv zw zaa zab zq zd ze zp zu zc zy zx zl zi zm po)) rfl ?_
    cases h
    exact OEnds.iret hm_11 rfl rfl
  · simp only [if_neg hc58] at h
    refine OEnds.icmpF hm_11 rfl ((flt hc58).1) ?_
    refine OEnds.adv hm_11 2 (pc' := 9) (L' := [qr 1, qi v1]) (S' := [.int 122, .int v1]) (H' := (c0 :: bk0 zg za zj zn zb zs zt zr zf zh zo zk zz zv zw zaa zab zq zd ze zp zu zc zy zx zl zi zm po)) rfl ?_
    by_cases hc59 : (122 : Int32) < v1
    · simp only [if_pos hc59] at h
      refine OEnds.icmpT hm_11 rfl (q := 16) rfl ((tlt hc59).2.2.1) ?_
      refine OEnds.adv hm_11 1 (pc' := 17) (L' := [qr 1, qi v1]) (S' := [.int 0]) (H' := (c0 :: bk0 zg za zj zn zb zs zt zr zf zh zo zk zz zv zw zaa zab zq zd ze zp zu zc zy zx zl zi zm po)) rfl ?_
      cases h
      exact OEnds.iret hm_11 rfl rfl
    · simp only [if_neg hc59] at h
      refine OEnds.icmpF hm_11 rfl ((flt hc59).2.2.1) ?_
      refine OEnds.adv hm_11 2 (pc' := 17) (L' := [qr 1, qi v1]) (S' := [.int 1]) (H' := (c0 :: bk0 zg za zj zn zb zs zt zr zf zh zo zk zz zv zw zaa zab zq zd ze zp zu zc zy zx zl zi zm po)) rfl ?_
      cases h
      exact OEnds.iret hm_11 rfl rfl
theorem ok_addChar {zg za zj zb zs zt zr zf zh zo zk zz zv zw : List Int32} {zaa zab zq zd zp zu zc zy zx zl zi zm : Int32} {c0 : ACell} {po : List ACell} {zn : List Int32} {ze v1 res : Int32} {w_o_pend : List Int32} {w_o_pendLen : Int32} (h : f_addChar zaa zab zq zd zn ze v1 = some (res, w_o_pend, w_o_pendLen)) : OEnds own_P 10 0 [qr 1, qi v1] [] (c0 :: bk0 zg za zj zn zb zs zt zr zf zh zo zk zz zv zw zaa zab zq zd ze zp zu zc zy zx zl zi zm po) (some (.int res), (c0 :: bk0 zg za zj w_o_pend zb zs zt zr zf zh zo zk zz zv zw zaa zab zq zd w_o_pendLen zp zu zc zy zx zl zi zm po), 0, 0) := by
  unfold f_addChar at h
  refine OEnds.adv hm_10 2 (pc' := 4) (L' := [qr 1, qi v1]) (S' := [.int zq]) (H' := (c0 :: bk0 zg za zj zn zb zs zt zr zf zh zo zk zz zv zw zaa zab zq zd ze zp zu zc zy zx zl zi zm po)) rfl ?_
  by_cases hc60 : zq = (0 : Int32)
  · simp only [if_pos hc60] at h
    refine OEnds.ifT hm_10 rfl (q := 9) rfl ((teq hc60).1) ?_
    refine OEnds.adv hm_10 2 (pc' := 11) (L' := [qr 1, qi v1]) (S' := [.int v1, .ref 1]) (H' := (c0 :: bk0 zg za zj zn zb zs zt zr zf zh zo zk zz zv zw zaa zab zq zd ze zp zu zc zy zx zl zi zm po)) rfl ?_
    obtain ⟨r8, hq61, h⟩ := bnd h
    refine OEnds.call0 hm_10 rfl rfl (by decide) rfl (as := [.ref 1, .int v1]) (rest := []) rfl rfl (ok_isLetter hq61) ?_
    show OEnds own_P 10 14 [qr 1, qi v1] [.int r8] (c0 :: bk0 zg za zj zn zb zs zt zr zf zh zo zk zz zv zw zaa zab zq zd ze zp zu zc zy zx zl zi zm po) _
    by_cases hc62 : r8 = (0 : Int32)
    · simp only [if_pos hc62] at h
      refine OEnds.ifF hm_10 rfl ((teq hc62).2) ?_
      refine OEnds.adv hm_10 1 (pc' := 19) (L' := [qr 1, qi v1]) (S' := [.int (-2)]) (H' := (c0 :: bk0 zg za zj zn zb zs zt zr zf zh zo zk zz zv zw zaa zab zq zd ze zp zu zc zy zx zl zi zm po)) rfl ?_
      cases h
      exact OEnds.iret hm_10 rfl rfl
    · simp only [if_neg hc62] at h
      refine OEnds.ifT hm_10 rfl (q := 20) rfl ((feq hc62).2) ?_
      refine OEnds.adv hm_10 4 (pc' := 28) (L' := [qr 1, qi v1]) (S' := [.int zaa, .int zd]) (H' := (c0 :: bk0 zg za zj zn zb zs zt zr zf zh zo zk zz zv zw zaa zab zq zd ze zp zu zc zy zx zl zi zm po)) rfl ?_
      by_cases hc63 : zd < zaa
      · simp only [if_pos hc63] at h
        refine OEnds.icmpT hm_10 rfl (q := 34) rfl ((tlt hc63).1) ?_
        refine OEnds.adv hm_10 4 (pc' := 42) (L' := [qr 1, qi v1]) (S' := [.int zab, .int ze]) (H' := (c0 :: bk0 zg za zj zn zb zs zt zr zf zh zo zk zz zv zw zaa zab zq zd ze zp zu zc zy zx zl zi zm po)) rfl ?_
        by_cases hc64 : ze < zab
        · simp only [if_pos hc64] at h
          refine OEnds.icmpF hm_10 rfl ((tlt hc64).2.1) ?_
          refine OEnds.adv hm_10 3 (pc' := 51) (L' := [qr 1, qi v1]) (S' := [.int 8, .int ze]) (H' := (c0 :: bk0 zg za zj zn zb zs zt zr zf zh zo zk zz zv zw zaa zab zq zd ze zp zu zc zy zx zl zi zm po)) rfl ?_
          by_cases hc65 : ze < (8 : Int32)
          · simp only [if_pos hc65] at h
            refine OEnds.icmpT hm_10 rfl (q := 57) rfl ((tlt hc65).1) ?_
            refine OEnds.adv hm_10 5 (pc' := 66) (L' := [qr 1, qi v1]) (S' := [.int v1, .int ze, .ref 5]) (H' := (c0 :: bk0 zg za zj zn zb zs zt zr zf zh zo zk zz zv zw zaa zab zq zd ze zp zu zc zy zx zl zi zm po)) rfl ?_
            obtain ⟨A9, hA9, h⟩ := bnd h
            refine OEnds.plain hm_10 rfl rfl (x_iastore rfl (Nat.le_of_ble_eq_true rfl) hA9) ?_
            refine OEnds.adv hm_10 8 (pc' := 81) (L' := [qr 1, qi v1]) (S' := [.int (ze + (1 : Int32))]) (H' := (c0 :: bk0 zg za zj A9 zb zs zt zr zf zh zo zk zz zv zw zaa zab zq zd (ze + (1 : Int32)) zp zu zc zy zx zl zi zm po)) rfl ?_
            cases h
            exact OEnds.iret hm_10 rfl rfl
          · simp only [if_neg hc65] at h
            refine OEnds.icmpF hm_10 rfl ((flt hc65).1) ?_
            refine OEnds.adv hm_10 1 (pc' := 56) (L' := [qr 1, qi v1]) (S' := [.int (-3)]) (H' := (c0 :: bk0 zg za zj zn zb zs zt zr zf zh zo zk zz zv zw zaa zab zq zd ze zp zu zc zy zx zl zi zm po)) rfl ?_
            cases h
            exact OEnds.iret hm_10 rfl rfl
        · simp only [if_neg hc64] at h
          refine OEnds.icmpT hm_10 rfl (q := 54) rfl ((flt hc64).2.1) ?_
          refine OEnds.adv hm_10 1 (pc' := 56) (L' := [qr 1, qi v1]) (S' := [.int (-3)]) (H' := (c0 :: bk0 zg za zj zn zb zs zt zr zf zh zo zk zz zv zw zaa zab zq zd ze zp zu zc zy zx zl zi zm po)) rfl ?_
          cases h
          exact OEnds.iret hm_10 rfl rfl
      · simp only [if_neg hc63] at h
        refine OEnds.icmpF hm_10 rfl ((flt hc63).1) ?_
        refine OEnds.adv hm_10 1 (pc' := 33) (L' := [qr 1, qi v1]) (S' := [.int (-3)]) (H' := (c0 :: bk0 zg za zj zn zb zs zt zr zf zh zo zk zz zv zw zaa zab zq zd ze zp zu zc zy zx zl zi zm po)) rfl ?_
        cases h
        exact OEnds.iret hm_10 rfl rfl
  · simp only [if_neg hc60] at h
    refine OEnds.ifF hm_10 rfl ((feq hc60).1) ?_
    refine OEnds.adv hm_10 1 (pc' := 8) (L' := [qr 1, qi v1]) (S' := [.int (-1)]) (H' := (c0 :: bk0 zg za zj zn zb zs zt zr zf zh zo zk zz zv zw zaa zab zq zd ze zp zu zc zy zx zl zi zm po)) rfl ?_
    cases h
    exact OEnds.iret hm_10 rfl rfl
theorem ok_phase {zg za zj zn zb zs zt zr zf zh zo zk zz zv zw : List Int32} {zaa zab zq zd ze zp zu zc zy zx zl zi zm : Int32} {c0 : ACell} {po : List ACell} {res : Int32} (h : f_phase zq = some res) : OEnds own_P 4 0 [qr 1] [] (c0 :: bk0 zg za zj zn zb zs zt zr zf zh zo zk zz zv zw zaa zab zq zd ze zp zu zc zy zx zl zi zm po) (some (.int res), (c0 :: bk0 zg za zj zn zb zs zt zr zf zh zo zk zz zv zw zaa zab zq zd ze zp zu zc zy zx zl zi zm po), 0, 0) := by
  unfold f_phase at h
  refine OEnds.adv hm_4 2 (pc' := 4) (L' := [qr 1]) (S' := [.int zq]) (H' := (c0 :: bk0 zg za zj zn zb zs zt zr zf zh zo zk zz zv zw zaa zab zq zd ze zp zu zc zy zx zl zi zm po)) rfl ?_
  cases h
  exact OEnds.iret hm_4 rfl rfl
theorem ok_keywordCount {zg za zj zn zb zs zt zr zf zh zo zk zz zv zw : List Int32} {zaa zab zq zd ze zp zu zc zy zx zl zi zm : Int32} {c0 : ACell} {po : List ACell} {res : Int32} (h : f_keywordCount zd = some res) : OEnds own_P 5 0 [qr 1] [] (c0 :: bk0 zg za zj zn zb zs zt zr zf zh zo zk zz zv zw zaa zab zq zd ze zp zu zc zy zx zl zi zm po) (some (.int res), (c0 :: bk0 zg za zj zn zb zs zt zr zf zh zo zk zz zv zw zaa zab zq zd ze zp zu zc zy zx zl zi zm po), 0, 0) := by
  unfold f_keywordCount at h
  refine OEnds.adv hm_5 2 (pc' := 4) (L' := [qr 1]) (S' := [.int zd]) (H' := (c0 :: bk0 zg za zj zn zb zs zt zr zf zh zo zk zz zv zw zaa zab zq zd ze zp zu zc zy zx zl zi zm po)) rfl ?_
  cases h
  exact OEnds.iret hm_5 rfl rfl
theorem ok_keywordLength_19 {zg za zj zn zb zs zt zr zf zh zo zk zz zv zw : List Int32} {zaa zab zq zd ze zp zu zc zy zx zl zi zm : Int32} {c0 : ACell} {po : List ACell} : ∀ {v1 : Int32} {res : Int32}, f_keywordLength_19 za zd ze v1 = some res → OEnds own_P 6 19 [qr 1, qi v1] [] (c0 :: bk0 zg za zj zn zb zs zt zr zf zh zo zk zz zv zw zaa zab zq zd ze zp zu zc zy zx zl zi zm po) (some (.int res), (c0 :: bk0 zg za zj zn zb zs zt zr zf zh zo zk zz zv zw zaa zab zq zd ze zp zu zc zy zx zl zi zm po), 0, 0) := by
  intro v1 res h
  unfold f_keywordLength_19 at h
  refine OEnds.adv hm_6 3 (pc' := 24) (L' := [qr 1, qi v1]) (S' := [.int zd, .int v1]) (H' := (c0 :: bk0 zg za zj zn zb zs zt zr zf zh zo zk zz zv zw zaa zab zq zd ze zp zu zc zy zx zl zi zm po)) rfl ?_
  by_cases hc66 : v1 = zd
  · simp only [if_pos hc66] at h
    refine OEnds.icmpF hm_6 rfl ((teq hc66).2) ?_
    refine OEnds.adv hm_6 2 (pc' := 31) (L' := [qr 1, qi v1]) (S' := [.int ze]) (H' := (c0 :: bk0 zg za zj zn zb zs zt zr zf zh zo zk zz zv zw zaa zab zq zd ze zp zu zc zy zx zl zi zm po)) rfl ?_
    cases h
    exact OEnds.iret hm_6 rfl rfl
  · simp only [if_neg hc66] at h
    refine OEnds.icmpT hm_6 rfl (q := 32) rfl ((feq hc66).2) ?_
    refine OEnds.adv hm_6 1 (pc' := 33) (L' := [qr 1, qi v1]) (S' := [.int (-1)]) (H' := (c0 :: bk0 zg za zj zn zb zs zt zr zf zh zo zk zz zv zw zaa zab zq zd ze zp zu zc zy zx zl zi zm po)) rfl ?_
    cases h
    exact OEnds.iret hm_6 rfl rfl
theorem ok_keywordLength {zg za zj zn zb zs zt zr zf zh zo zk zz zv zw : List Int32} {zaa zab zq zd ze zp zu zc zy zx zl zi zm : Int32} {c0 : ACell} {po : List ACell} {v1 res : Int32} (h : f_keywordLength za zd ze v1 = some res) : OEnds own_P 6 0 [qr 1, qi v1] [] (c0 :: bk0 zg za zj zn zb zs zt zr zf zh zo zk zz zv zw zaa zab zq zd ze zp zu zc zy zx zl zi zm po) (some (.int res), (c0 :: bk0 zg za zj zn zb zs zt zr zf zh zo zk zz zv zw zaa zab zq zd ze zp zu zc zy zx zl zi zm po), 0, 0) := by
  unfold f_keywordLength at h
  refine OEnds.adv hm_6 1 (pc' := 1) (L' := [qr 1, qi v1]) (S' := [.int v1]) (H' := (c0 :: bk0 zg za zj zn zb zs zt zr zf zh zo zk zz zv zw zaa zab zq zd ze zp zu zc zy zx zl zi zm po)) rfl ?_
  by_cases hc67 : v1 < (0 : Int32)
  · simp only [if_pos hc67] at h
    refine OEnds.ifT hm_6 rfl (q := 19) rfl ((tlt hc67).1) ?_
    show OEnds own_P 6 19 [qr 1, qi v1] [] (c0 :: bk0 zg za zj zn zb zs zt zr zf zh zo zk zz zv zw zaa zab zq zd ze zp zu zc zy zx zl zi zm po) _
    exact ok_keywordLength_19 h
  · simp only [if_neg hc67] at h
    refine OEnds.ifF hm_6 rfl ((flt hc67).1) ?_
    refine OEnds.adv hm_6 3 (pc' := 9) (L' := [qr 1, qi v1]) (S' := [.int zd, .int v1]) (H' := (c0 :: bk0 zg za zj zn zb zs zt zr zf zh zo zk zz zv zw zaa zab zq zd ze zp zu zc zy zx zl zi zm po)) rfl ?_
    by_cases hc68 : v1 < zd
    · simp only [if_pos hc68] at h
      refine OEnds.icmpF hm_6 rfl ((tlt hc68).2.1) ?_
      refine OEnds.adv hm_6 3 (pc' := 17) (L' := [qr 1, qi v1]) (S' := [.int v1, .ref 3]) (H' := (c0 :: bk0 zg za zj zn zb zs zt zr zf zh zo zk zz zv zw zaa zab zq zd ze zp zu zc zy zx zl zi zm po)) rfl ?_
      obtain ⟨x120, hx120, h⟩ := bnd h
      refine OEnds.plain hm_6 rfl rfl (x_iaload rfl hx120) ?_
      show OEnds own_P 6 18 [qr 1, qi v1] [.int x120] (c0 :: bk0 zg za zj zn zb zs zt zr zf zh zo zk zz zv zw zaa zab zq zd ze zp zu zc zy zx zl zi zm po) _
      cases h
      exact OEnds.iret hm_6 rfl rfl
    · simp only [if_neg hc68] at h
      refine OEnds.icmpT hm_6 rfl (q := 19) rfl ((flt hc68).2.1) ?_
      show OEnds own_P 6 19 [qr 1, qi v1] [] (c0 :: bk0 zg za zj zn zb zs zt zr zf zh zo zk zz zv zw zaa zab zq zd ze zp zu zc zy zx zl zi zm po) _
      exact ok_keywordLength_19 h
theorem ok_textLength {zg za zj zn zb zs zt zr zf zh zo zk zz zv zw : List Int32} {zaa zab zq zd ze zp zu zc zy zx zl zi zm : Int32} {c0 : ACell} {po : List ACell} {res : Int32} (h : f_textLength zc = some res) : OEnds own_P 7 0 [qr 1] [] (c0 :: bk0 zg za zj zn zb zs zt zr zf zh zo zk zz zv zw zaa zab zq zd ze zp zu zc zy zx zl zi zm po) (some (.int res), (c0 :: bk0 zg za zj zn zb zs zt zr zf zh zo zk zz zv zw zaa zab zq zd ze zp zu zc zy zx zl zi zm po), 0, 0) := by
  unfold f_textLength at h
  refine OEnds.adv hm_7 2 (pc' := 4) (L' := [qr 1]) (S' := [.int zc]) (H' := (c0 :: bk0 zg za zj zn zb zs zt zr zf zh zo zk zz zv zw zaa zab zq zd ze zp zu zc zy zx zl zi zm po)) rfl ?_
  cases h
  exact OEnds.iret hm_7 rfl rfl
theorem ok_totalOccurrences {zg za zj zn zb zs zt zr zf zh zo zk zz zv zw : List Int32} {zaa zab zq zd ze zp zu zc zy zx zl zi zm : Int32} {c0 : ACell} {po : List ACell} {res : Int32} (h : f_totalOccurrences zx = some res) : OEnds own_P 8 0 [qr 1] [] (c0 :: bk0 zg za zj zn zb zs zt zr zf zh zo zk zz zv zw zaa zab zq zd ze zp zu zc zy zx zl zi zm po) (some (.int res), (c0 :: bk0 zg za zj zn zb zs zt zr zf zh zo zk zz zv zw zaa zab zq zd ze zp zu zc zy zx zl zi zm po), 0, 0) := by
  unfold f_totalOccurrences at h
  refine OEnds.adv hm_8 2 (pc' := 4) (L' := [qr 1]) (S' := [.int zx]) (H' := (c0 :: bk0 zg za zj zn zb zs zt zr zf zh zo zk zz zv zw zaa zab zq zd ze zp zu zc zy zx zl zi zm po)) rfl ?_
  cases h
  exact OEnds.iret hm_8 rfl rfl
theorem ok_outLength {zg za zj zn zb zs zt zr zf zh zo zk zz zv zw : List Int32} {zaa zab zq zd ze zp zu zc zy zx zl zi zm : Int32} {c0 : ACell} {po : List ACell} {res : Int32} (h : f_outLength zl zm = some res) : OEnds own_P 9 0 [qr 1] [] (c0 :: bk0 zg za zj zn zb zs zt zr zf zh zo zk zz zv zw zaa zab zq zd ze zp zu zc zy zx zl zi zm po) (some (.int res), (c0 :: bk0 zg za zj zn zb zs zt zr zf zh zo zk zz zv zw zaa zab zq zd ze zp zu zc zy zx zl zi zm po), 0, 0) := by
  unfold f_outLength at h
  refine OEnds.adv hm_9 5 (pc' := 9) (L' := [qr 1]) (S' := [.int (zl + zm)]) (H' := (c0 :: bk0 zg za zj zn zb zs zt zr zf zh zo zk zz zv zw zaa zab zq zd ze zp zu zc zy zx zl zi zm po)) rfl ?_
  cases h
  exact OEnds.iret hm_9 rfl rfl
theorem ok_nextState {zg za zj zn zb zs zt zr zf zh zo zk zz zv zw : List Int32} {zaa zab zq zd ze zp zu zc zy zx zl zi zm : Int32} {c0 : ACell} {po : List ACell} {v1 v2 res : Int32} (h : f_nextState zs v1 v2 = some res) : OEnds own_P 23 0 [qr 1, qi v1, qi v2] [] (c0 :: bk0 zg za zj zn zb zs zt zr zf zh zo zk zz zv zw zaa zab zq zd ze zp zu zc zy zx zl zi zm po) (some (.int res), (c0 :: bk0 zg za zj zn zb zs zt zr zf zh zo zk zz zv zw zaa zab zq zd ze zp zu zc zy zx zl zi zm po), 0, 0) := by
  unfold f_nextState at h
  refine OEnds.adv hm_23 2 (pc' := 2) (L' := [qr 1, qi v1, qi v2]) (S' := [.int v2, .ref 1]) (H' := (c0 :: bk0 zg za zj zn zb zs zt zr zf zh zo zk zz zv zw zaa zab zq zd ze zp zu zc zy zx zl zi zm po)) rfl ?_
  obtain ⟨r85, hq69, h⟩ := bnd h
  refine OEnds.call0 hm_23 rfl rfl (by decide) rfl (as := [.ref 1, .int v2]) (rest := []) rfl rfl (ok_isLetter hq69) ?_
  show OEnds own_P 23 5 [qr 1, qi v1, qi v2] [.int r85] (c0 :: bk0 zg za zj zn zb zs zt zr zf zh zo zk zz zv zw zaa zab zq zd ze zp zu zc zy zx zl zi zm po) _
  by_cases hc70 : r85 = (0 : Int32)
  · simp only [if_pos hc70] at h
    refine OEnds.ifF hm_23 rfl ((teq hc70).2) ?_
    refine OEnds.adv hm_23 1 (pc' := 9) (L' := [qr 1, qi v1, qi v2]) (S' := [.int 0]) (H' := (c0 :: bk0 zg za zj zn zb zs zt zr zf zh zo zk zz zv zw zaa zab zq zd ze zp zu zc zy zx zl zi zm po)) rfl ?_
    cases h
    exact OEnds.iret hm_23 rfl rfl
  · simp only [if_neg hc70] at h
    refine OEnds.ifT hm_23 rfl (q := 10) rfl ((feq hc70).2) ?_
    refine OEnds.adv hm_23 1 (pc' := 11) (L' := [qr 1, qi v1, qi v2]) (S' := [.int v1]) (H' := (c0 :: bk0 zg za zj zn zb zs zt zr zf zh zo zk zz zv zw zaa zab zq zd ze zp zu zc zy zx zl zi zm po)) rfl ?_
    by_cases hc71 : v1 < (0 : Int32)
    · simp only [if_pos hc71] at h
      refine OEnds.ifT hm_23 rfl (q := 21) rfl ((tlt hc71).1) ?_
      refine OEnds.adv hm_23 1 (pc' := 22) (L' := [qr 1, qi v1, qi v2]) (S' := [.int 0]) (H' := (c0 :: bk0 zg za zj zn zb zs zt zr zf zh zo zk zz zv zw zaa zab zq zd ze zp zu zc zy zx zl zi zm po)) rfl ?_
      cases h
      exact OEnds.iret hm_23 rfl rfl
    · simp only [if_neg hc71] at h
      refine OEnds.ifF hm_23 rfl ((flt hc71).1) ?_
      refine OEnds.adv hm_23 2 (pc' := 18) (L' := [qr 1, qi v1, qi v2]) (S' := [.int 129, .int v1]) (H' := (c0 :: bk0 zg za zj zn zb zs zt zr zf zh zo zk zz zv zw zaa zab zq zd ze zp zu zc zy zx zl zi zm po)) rfl ?_
      by_cases hc72 : v1 < (129 : Int32)
      · simp only [if_pos hc72] at h
        refine OEnds.icmpT hm_23 rfl (q := 23) rfl ((tlt hc72).1) ?_
        refine OEnds.adv hm_23 9 (pc' := 36) (L' := [qr 1, qi v1, qi v2]) (S' := [.int ((v1 * (26 : Int32)) + (v2 - (97 : Int32))), .ref 7]) (H' := (c0 :: bk0 zg za zj zn zb zs zt zr zf zh zo zk zz zv zw zaa zab zq zd ze zp zu zc zy zx zl zi zm po)) rfl ?_
        obtain ⟨x86, hx86, h⟩ := bnd h
        refine OEnds.plain hm_23 rfl rfl (x_iaload rfl hx86) ?_
        show OEnds own_P 23 37 [qr 1, qi v1, qi v2] [.int x86] (c0 :: bk0 zg za zj zn zb zs zt zr zf zh zo zk zz zv zw zaa zab zq zd ze zp zu zc zy zx zl zi zm po) _
        cases h
        exact OEnds.iret hm_23 rfl rfl
      · simp only [if_neg hc72] at h
        refine OEnds.icmpF hm_23 rfl ((flt hc72).1) ?_
        refine OEnds.adv hm_23 1 (pc' := 22) (L' := [qr 1, qi v1, qi v2]) (S' := [.int 0]) (H' := (c0 :: bk0 zg za zj zn zb zs zt zr zf zh zo zk zz zv zw zaa zab zq zd ze zp zu zc zy zx zl zi zm po)) rfl ?_
        cases h
        exact OEnds.iret hm_23 rfl rfl
theorem ok_popCount_4 {zg za zj zn zb zs zt zr zf zh zo zk zz zv zw : List Int32} {zaa zab zq zd ze zp zu zc zy zx zl zi zm : Int32} {c0 : ACell} {po : List ACell} : ∀ (n : Nat), ∀ {v1 v2 v3 : Int32} {d0 : Slot} {res : Int32}, f_popCount_4 n v1 v2 v3 = some res → OEnds own_P 24 4 [d0, qi v1, qi v2, qi v3] [] (c0 :: bk0 zg za zj zn zb zs zt zr zf zh zo zk zz zv zw zaa zab zq zd ze zp zu zc zy zx zl zi zm po) (some (.int res), (c0 :: bk0 zg za zj zn zb zs zt zr zf zh zo zk zz zv zw zaa zab zq zd ze zp zu zc zy zx zl zi zm po), 0, 0) := by
  intro n
  induction n with
  | zero => intro v1 v2 v3 d0 res h; cases h
  | succ n ih =>
    intro v1 v2 v3 d0 res h
    unfold f_popCount_4 at h
    refine OEnds.adv hm_24 2 (pc' := 7) (L' := [qu, qi v1, qi v2, qi v3]) (S' := [.int 16, .int v3]) (H' := (c0 :: bk0 zg za zj zn zb zs zt zr zf zh zo zk zz zv zw zaa zab zq zd ze zp zu zc zy zx zl zi zm po)) rfl ?_
    by_cases hc73 : v3 < (16 : Int32)
    · simp only [if_pos hc73] at h
      refine OEnds.icmpF hm_24 rfl ((tlt hc73).2.1) ?_
      refine OEnds.adv hm_24 5 (pc' := 15) (L' := [qu, qi v1, qi v2, qi v3]) (S' := [.int ((v1 >>> (v3 &&& 31)) &&& (1 : Int32))]) (H' := (c0 :: bk0 zg za zj zn zb zs zt zr zf zh zo zk zz zv zw zaa zab zq zd ze zp zu zc zy zx zl zi zm po)) rfl ?_
      by_cases hc74 : ((v1 >>> (v3 &&& 31)) &&& (1 : Int32)) = (0 : Int32)
      · simp only [if_pos hc74] at h
        refine OEnds.ifT hm_24 rfl (q := 21) rfl ((teq hc74).1) ?_
        refine OEnds.adv hm_24 2 (pc' := 4) (L' := [qu, qi v1, qi v2, qi (v3 + (1 : Int32))]) (S' := []) (H' := (c0 :: bk0 zg za zj zn zb zs zt zr zf zh zo zk zz zv zw zaa zab zq zd ze zp zu zc zy zx zl zi zm po)) rfl ?_
        exact ih h
      · simp only [if_neg hc74] at h
        refine OEnds.ifF hm_24 rfl ((feq hc74).1) ?_
        refine OEnds.adv hm_24 3 (pc' := 4) (L' := [qu, qi v1, qi (v2 + (1 : Int32)), qi (v3 + (1 : Int32))]) (S' := []) (H' := (c0 :: bk0 zg za zj zn zb zs zt zr zf zh zo zk zz zv zw zaa zab zq zd ze zp zu zc zy zx zl zi zm po)) rfl ?_
        exact ih h
    · simp only [if_neg hc73] at h
      refine OEnds.icmpT hm_24 rfl (q := 27) rfl ((flt hc73).2.1) ?_
      refine OEnds.adv hm_24 1 (pc' := 28) (L' := [qu, qi v1, qi v2, qi v3]) (S' := [.int v2]) (H' := (c0 :: bk0 zg za zj zn zb zs zt zr zf zh zo zk zz zv zw zaa zab zq zd ze zp zu zc zy zx zl zi zm po)) rfl ?_
      cases h
      exact OEnds.iret hm_24 rfl rfl
theorem ok_popCount {zg za zj zn zb zs zt zr zf zh zo zk zz zv zw : List Int32} {zaa zab zq zd ze zp zu zc zy zx zl zi zm : Int32} {c0 : ACell} {po : List ACell} {v1 res : Int32} (h : f_popCount v1 = some res) : OEnds own_P 24 0 [qr 1, qi v1, qu, qu] [] (c0 :: bk0 zg za zj zn zb zs zt zr zf zh zo zk zz zv zw zaa zab zq zd ze zp zu zc zy zx zl zi zm po) (some (.int res), (c0 :: bk0 zg za zj zn zb zs zt zr zf zh zo zk zz zv zw zaa zab zq zd ze zp zu zc zy zx zl zi zm po), 0, 0) := by
  unfold f_popCount at h
  refine OEnds.adv hm_24 4 (pc' := 4) (L' := [qr 1, qi v1, qi 0, qi 0]) (S' := []) (H' := (c0 :: bk0 zg za zj zn zb zs zt zr zf zh zo zk zz zv zw zaa zab zq zd ze zp zu zc zy zx zl zi zm po)) rfl ?_
  exact ok_popCount_4 100000 h
theorem ok_longestAt_7 {zg za zj zn zb zs zt zr zf zh zo zk zz zv zw : List Int32} {zaa zab zq zd ze zp zu zc zy zx zl zi zm : Int32} {c0 : ACell} {po : List ACell} : ∀ (n : Nat), ∀ {v1 v2 v3 v4 : Int32} {d5 d6 d7 : Slot} {res : Int32}, f_longestAt_7 zb zf zk zc n v1 v2 v3 v4 = some res → OEnds own_P 27 7 [qr 1, qi v1, qi v2, qi v3, qi v4, d5, d6, d7] [] (c0 :: bk0 zg za zj zn zb zs zt zr zf zh zo zk zz zv zw zaa zab zq zd ze zp zu zc zy zx zl zi zm po) (some (.int res), (c0 :: bk0 zg za zj zn zb zs zt zr zf zh zo zk zz zv zw zaa zab zq zd ze zp zu zc zy zx zl zi zm po), 0, 0) := by
  intro n
  induction n with
  | zero => intro v1 v2 v3 v4 d5 d6 d7 res h; cases h
  | succ n ih =>
    intro v1 v2 v3 v4 d5 d6 d7 res h
    unfold f_longestAt_7 at h
    refine OEnds.adv hm_27 2 (pc' := 11) (L' := [qr 1, qi v1, qi v2, qi v3, qi v4, qu, qu, qu]) (S' := [.int 8, .int v4]) (H' := (c0 :: bk0 zg za zj zn zb zs zt zr zf zh zo zk zz zv zw zaa zab zq zd ze zp zu zc zy zx zl zi zm po)) rfl ?_
    by_cases hc75 : v4 < (8 : Int32)
    · simp only [if_pos hc75] at h
      refine OEnds.icmpF hm_27 rfl ((tlt hc75).2.1) ?_
      refine OEnds.adv hm_27 5 (pc' := 22) (L' := [qr 1, qi v1, qi v2, qi v3, qi v4, qi (v1 + v4), qu, qu]) (S' := [.int (v1 + v4)]) (H' := (c0 :: bk0 zg za zj zn zb zs zt zr zf zh zo zk zz zv zw zaa zab zq zd ze zp zu zc zy zx zl zi zm po)) rfl ?_
      by_cases hc76 : (v1 + v4) < (0 : Int32)
      · simp only [if_pos hc76] at h
        refine OEnds.ifT hm_27 rfl (q := 34) rfl ((tlt hc76).1) ?_
        refine OEnds.adv hm_27 1 (pc' := 35) (L' := [qr 1, qi v1, qi v2, qi v3, qi v4, qi (v1 + v4), qu, qu]) (S' := [.int v2]) (H' := (c0 :: bk0 zg za zj zn zb zs zt zr zf zh zo zk zz zv zw zaa zab zq zd ze zp zu zc zy zx zl zi zm po)) rfl ?_
        cases h
        exact OEnds.iret hm_27 rfl rfl
      · simp only [if_neg hc76] at h
        refine OEnds.ifF hm_27 rfl ((flt hc76).1) ?_
        refine OEnds.adv hm_27 3 (pc' := 31) (L' := [qr 1, qi v1, qi v2, qi v3, qi v4, qi (v1 + v4), qu, qu]) (S' := [.int zc, .int (v1 + v4)]) (H' := (c0 :: bk0 zg za zj zn zb zs zt zr zf zh zo zk zz zv zw zaa zab zq zd ze zp zu zc zy zx zl zi zm po)) rfl ?_
        by_cases hc77 : (v1 + v4) < zc
        · simp only [if_pos hc77] at h
          refine OEnds.icmpT hm_27 rfl (q := 36) rfl ((tlt hc77).1) ?_
          refine OEnds.adv hm_27 3 (pc' := 42) (L' := [qr 1, qi v1, qi v2, qi v3, qi v4, qi (v1 + v4), qu, qu]) (S' := [.int (v1 + v4), .ref 13]) (H' := (c0 :: bk0 zg za zj zn zb zs zt zr zf zh zo zk zz zv zw zaa zab zq zd ze zp zu zc zy zx zl zi zm po)) rfl ?_
          obtain ⟨x87, hx87, h⟩ := bnd h
          refine OEnds.plain hm_27 rfl rfl (x_iaload rfl hx87) ?_
          refine OEnds.adv hm_27 3 (pc' := 48) (L' := [qr 1, qi v1, qi v2, qi v3, qi v4, qi (v1 + v4), qi x87, qu]) (S' := [.int x87, .ref 1]) (H' := (c0 :: bk0 zg za zj zn zb zs zt zr zf zh zo zk zz zv zw zaa zab zq zd ze zp zu zc zy zx zl zi zm po)) rfl ?_
          obtain ⟨r88, hq78, h⟩ := bnd h
          refine OEnds.call0 hm_27 rfl rfl (by decide) rfl (as := [.ref 1, .int x87]) (rest := []) rfl rfl (ok_isLetter hq78) ?_
          show OEnds own_P 27 51 [qr 1, qi v1, qi v2, qi v3, qi v4, qi (v1 + v4), qi x87, qu] [.int r88] (c0 :: bk0 zg za zj zn zb zs zt zr zf zh zo zk zz zv zw zaa zab zq zd ze zp zu zc zy zx zl zi zm po) _
          by_cases hc79 : r88 = (0 : Int32)
          · simp only [if_pos hc79] at h
            refine OEnds.ifF hm_27 rfl ((teq hc79).2) ?_
            refine OEnds.adv hm_27 1 (pc' := 55) (L' := [qr 1, qi v1, qi v2, qi v3, qi v4, qi (v1 + v4), qi x87, qu]) (S' := [.int v2]) (H' := (c0 :: bk0 zg za zj zn zb zs zt zr zf zh zo zk zz zv zw zaa zab zq zd ze zp zu zc zy zx zl zi zm po)) rfl ?_
            cases h
            exact OEnds.iret hm_27 rfl rfl
          · simp only [if_neg hc79] at h
            refine OEnds.ifT hm_27 rfl (q := 56) rfl ((feq hc79).2) ?_
            refine OEnds.adv hm_27 9 (pc' := 70) (L' := [qr 1, qi v1, qi v2, qi v3, qi v4, qi (v1 + v4), qi x87, qu]) (S' := [.int ((v3 * (26 : Int32)) + (x87 - (97 : Int32))), .ref 6]) (H' := (c0 :: bk0 zg za zj zn zb zs zt zr zf zh zo zk zz zv zw zaa zab zq zd ze zp zu zc zy zx zl zi zm po)) rfl ?_
            obtain ⟨x89, hx89, h⟩ := bnd h
            refine OEnds.plain hm_27 rfl rfl (x_iaload rfl hx89) ?_
            refine OEnds.adv hm_27 2 (pc' := 75) (L' := [qr 1, qi v1, qi v2, qi v3, qi v4, qi (v1 + v4), qi x87, qi x89]) (S' := [.int x89]) (H' := (c0 :: bk0 zg za zj zn zb zs zt zr zf zh zo zk zz zv zw zaa zab zq zd ze zp zu zc zy zx zl zi zm po)) rfl ?_
            by_cases hc80 : x89 = (0 : Int32)
            · simp only [if_pos hc80] at h
              refine OEnds.ifF hm_27 rfl ((teq hc80).2) ?_
              refine OEnds.adv hm_27 1 (pc' := 79) (L' := [qr 1, qi v1, qi v2, qi v3, qi v4, qi (v1 + v4), qi x87, qi x89]) (S' := [.int v2]) (H' := (c0 :: bk0 zg za zj zn zb zs zt zr zf zh zo zk zz zv zw zaa zab zq zd ze zp zu zc zy zx zl zi zm po)) rfl ?_
              cases h
              exact OEnds.iret hm_27 rfl rfl
            · simp only [if_neg hc80] at h
              refine OEnds.ifT hm_27 rfl (q := 80) rfl ((feq hc80).2) ?_
              refine OEnds.adv hm_27 5 (pc' := 88) (L' := [qr 1, qi v1, qi v2, qi x89, qi v4, qi (v1 + v4), qi x87, qi x89]) (S' := [.int x89, .ref 10]) (H' := (c0 :: bk0 zg za zj zn zb zs zt zr zf zh zo zk zz zv zw zaa zab zq zd ze zp zu zc zy zx zl zi zm po)) rfl ?_
              obtain ⟨x90, hx90, h⟩ := bnd h
              refine OEnds.plain hm_27 rfl rfl (x_iaload rfl hx90) ?_
              show OEnds own_P 27 89 [qr 1, qi v1, qi v2, qi x89, qi v4, qi (v1 + v4), qi x87, qi x89] [.int x90] (c0 :: bk0 zg za zj zn zb zs zt zr zf zh zo zk zz zv zw zaa zab zq zd ze zp zu zc zy zx zl zi zm po) _
              by_cases hc81 : x90 < (0 : Int32)
              · simp only [if_pos hc81] at h
                refine OEnds.ifT hm_27 rfl (q := 99) rfl ((tlt hc81).1) ?_
                refine OEnds.adv hm_27 2 (pc' := 7) (L' := [qr 1, qi v1, qi v2, qi x89, qi (v4 + (1 : Int32)), qi (v1 + v4), qi x87, qi x89]) (S' := []) (H' := (c0 :: bk0 zg za zj zn zb zs zt zr zf zh zo zk zz zv zw zaa zab zq zd ze zp zu zc zy zx zl zi zm po)) rfl ?_
                exact ih h
              · simp only [if_neg hc81] at h
                refine OEnds.ifF hm_27 rfl ((flt hc81).1) ?_
                refine OEnds.adv hm_27 3 (pc' := 97) (L' := [qr 1, qi v1, qi v2, qi x89, qi v4, qi (v1 + v4), qi x87, qi x89]) (S' := [.int x89, .ref 10]) (H' := (c0 :: bk0 zg za zj zn zb zs zt zr zf zh zo zk zz zv zw zaa zab zq zd ze zp zu zc zy zx zl zi zm po)) rfl ?_
                obtain ⟨x91, hx91, h⟩ := bnd h
                refine OEnds.plain hm_27 rfl rfl (x_iaload rfl hx91) ?_
                refine OEnds.adv hm_27 3 (pc' := 7) (L' := [qr 1, qi v1, qi x91, qi x89, qi (v4 + (1 : Int32)), qi (v1 + v4), qi x87, qi x89]) (S' := []) (H' := (c0 :: bk0 zg za zj zn zb zs zt zr zf zh zo zk zz zv zw zaa zab zq zd ze zp zu zc zy zx zl zi zm po)) rfl ?_
                exact ih h
        · simp only [if_neg hc77] at h
          refine OEnds.icmpF hm_27 rfl ((flt hc77).1) ?_
          refine OEnds.adv hm_27 1 (pc' := 35) (L' := [qr 1, qi v1, qi v2, qi v3, qi v4, qi (v1 + v4), qu, qu]) (S' := [.int v2]) (H' := (c0 :: bk0 zg za zj zn zb zs zt zr zf zh zo zk zz zv zw zaa zab zq zd ze zp zu zc zy zx zl zi zm po)) rfl ?_
          cases h
          exact OEnds.iret hm_27 rfl rfl
    · simp only [if_neg hc75] at h
      refine OEnds.icmpT hm_27 rfl (q := 105) rfl ((flt hc75).2.1) ?_
      refine OEnds.adv hm_27 1 (pc' := 106) (L' := [qr 1, qi v1, qi v2, qi v3, qi v4, qu, qu, qu]) (S' := [.int v2]) (H' := (c0 :: bk0 zg za zj zn zb zs zt zr zf zh zo zk zz zv zw zaa zab zq zd ze zp zu zc zy zx zl zi zm po)) rfl ?_
      cases h
      exact OEnds.iret hm_27 rfl rfl
theorem ok_longestAt {zg za zj zn zb zs zt zr zf zh zo zk zz zv zw : List Int32} {zaa zab zq zd ze zp zu zc zy zx zl zi zm : Int32} {c0 : ACell} {po : List ACell} {v1 res : Int32} (h : f_longestAt zb zf zk zc v1 = some res) : OEnds own_P 27 0 [qr 1, qi v1, qu, qu, qu, qu, qu, qu] [] (c0 :: bk0 zg za zj zn zb zs zt zr zf zh zo zk zz zv zw zaa zab zq zd ze zp zu zc zy zx zl zi zm po) (some (.int res), (c0 :: bk0 zg za zj zn zb zs zt zr zf zh zo zk zz zv zw zaa zab zq zd ze zp zu zc zy zx zl zi zm po), 0, 0) := by
  unfold f_longestAt at h
  refine OEnds.adv hm_27 6 (pc' := 7) (L' := [qr 1, qi v1, qi (-1), qi 0, qi 0, qu, qu, qu]) (S' := []) (H' := (c0 :: bk0 zg za zj zn zb zs zt zr zf zh zo zk zz zv zw zaa zab zq zd ze zp zu zc zy zx zl zi zm po)) rfl ?_
  exact ok_longestAt_7 100000 h
theorem ok_commitOne_74 {zg za zj zn zb zs zt zr zf zh zo zk zz zw : List Int32} {zaa zab zq zd ze zp zu zc zy zx zm : Int32} {c0 : ACell} {po : List ACell} : ∀ {zv : List Int32} {zl zi : Int32} {d1 : Slot} {w_o_out : List Int32} {w_o_outLen : Int32} {w_o_commitPos : Int32}, f_commitOne_74 za zj zb zf zk zc zv zl zi = some (w_o_out, w_o_outLen, w_o_commitPos) → OEnds own_P 31 74 [qr 1, d1] [] (c0 :: bk0 zg za zj zn zb zs zt zr zf zh zo zk zz zv zw zaa zab zq zd ze zp zu zc zy zx zl zi zm po) (none, (c0 :: bk0 zg za zj zn zb zs zt zr zf zh zo zk zz w_o_out zw zaa zab zq zd ze zp zu zc zy zx w_o_outLen w_o_commitPos zm po), 0, 0) := by
  intro zv zl zi d1 w_o_out w_o_outLen w_o_commitPos h
  unfold f_commitOne_74 at h
  refine OEnds.adv hm_31 6 (pc' := 84) (L' := [qr 1, qu]) (S' := []) (H' := (c0 :: bk0 zg za zj zn zb zs zt zr zf zh zo zk zz zv zw zaa zab zq zd ze zp zu zc zy zx (zl + (1 : Int32)) zi zm po)) rfl ?_
  cases h
  exact OEnds.vret hm_31 rfl rfl
theorem ok_commitOne {zg za zj zn zb zs zt zr zf zh zo zk zz zw : List Int32} {zaa zab zq zd ze zp zu zc zy zx zm : Int32} {c0 : ACell} {po : List ACell} {zv : List Int32} {zl zi : Int32} {w_o_out : List Int32} {w_o_outLen w_o_commitPos : Int32} (h : f_commitOne za zj zb zf zk zc zv zl zi = some (w_o_out, w_o_outLen, w_o_commitPos)) : OEnds own_P 31 0 [qr 1, qu] [] (c0 :: bk0 zg za zj zn zb zs zt zr zf zh zo zk zz zv zw zaa zab zq zd ze zp zu zc zy zx zl zi zm po) (none, (c0 :: bk0 zg za zj zn zb zs zt zr zf zh zo zk zz w_o_out zw zaa zab zq zd ze zp zu zc zy zx w_o_outLen w_o_commitPos zm po), 0, 0) := by
  unfold f_commitOne at h
  refine OEnds.adv hm_31 3 (pc' := 5) (L' := [qr 1, qu]) (S' := [.int zi, .ref 1]) (H' := (c0 :: bk0 zg za zj zn zb zs zt zr zf zh zo zk zz zv zw zaa zab zq zd ze zp zu zc zy zx zl zi zm po)) rfl ?_
  obtain ⟨r92, hq82, h⟩ := bnd h
  refine OEnds.call0 hm_31 rfl rfl (by decide) rfl (as := [.ref 1, .int zi]) (rest := []) rfl rfl (ok_longestAt hq82) ?_
  refine OEnds.adv hm_31 2 (pc' := 10) (L' := [qr 1, qi r92]) (S' := [.int r92]) (H' := (c0 :: bk0 zg za zj zn zb zs zt zr zf zh zo zk zz zv zw zaa zab zq zd ze zp zu zc zy zx zl zi zm po)) rfl ?_
  by_cases hc83 : r92 < (0 : Int32)
  · simp only [if_pos hc83] at h
    refine OEnds.ifT hm_31 rfl (q := 46) rfl ((tlt hc83).1) ?_
    refine OEnds.adv hm_31 8 (pc' := 62) (L' := [qr 1, qi r92]) (S' := [.int zi, .ref 13, .int zl, .ref 15]) (H' := (c0 :: bk0 zg za zj zn zb zs zt zr zf zh zo zk zz zv zw zaa zab zq zd ze zp zu zc zy zx zl zi zm po)) rfl ?_
    obtain ⟨x93, hx93, h⟩ := bnd h
    refine OEnds.plain hm_31 rfl rfl (x_iaload rfl hx93) ?_
    show OEnds own_P 31 63 [qr 1, qi r92] [.int x93, .int zl, .ref 15] (c0 :: bk0 zg za zj zn zb zs zt zr zf zh zo zk zz zv zw zaa zab zq zd ze zp zu zc zy zx zl zi zm po) _
    obtain ⟨A94, hA94, h⟩ := bnd h
    refine OEnds.plain hm_31 rfl rfl (x_iastore rfl (Nat.le_of_ble_eq_true rfl) hA94) ?_
    refine OEnds.adv hm_31 6 (pc' := 74) (L' := [qr 1, qi r92]) (S' := []) (H' := (c0 :: bk0 zg za zj zn zb zs zt zr zf zh zo zk zz A94 zw zaa zab zq zd ze zp zu zc zy zx zl (zi + (1 : Int32)) zm po)) rfl ?_
    exact ok_commitOne_74 h
  · simp only [if_neg hc83] at h
    refine OEnds.ifF hm_31 rfl ((flt hc83).1) ?_
    refine OEnds.adv hm_31 7 (pc' := 26) (L' := [qr 1, qi r92]) (S' := [.int r92, .ref 4, .int zl, .ref 15]) (H' := (c0 :: bk0 zg za zj zn zb zs zt zr zf zh zo zk zz zv zw zaa zab zq zd ze zp zu zc zy zx zl zi zm po)) rfl ?_
    obtain ⟨x95, hx95, h⟩ := bnd h
    refine OEnds.plain hm_31 rfl rfl (x_iaload rfl hx95) ?_
    show OEnds own_P 31 27 [qr 1, qi r92] [.int x95, .int zl, .ref 15] (c0 :: bk0 zg za zj zn zb zs zt zr zf zh zo zk zz zv zw zaa zab zq zd ze zp zu zc zy zx zl zi zm po) _
    obtain ⟨A96, hA96, h⟩ := bnd h
    refine OEnds.plain hm_31 rfl rfl (x_iastore rfl (Nat.le_of_ble_eq_true rfl) hA96) ?_
    refine OEnds.adv hm_31 6 (pc' := 38) (L' := [qr 1, qi r92]) (S' := [.int r92, .ref 3, .int zi, .ref 1]) (H' := (c0 :: bk0 zg za zj zn zb zs zt zr zf zh zo zk zz A96 zw zaa zab zq zd ze zp zu zc zy zx zl zi zm po)) rfl ?_
    obtain ⟨x97, hx97, h⟩ := bnd h
    refine OEnds.plain hm_31 rfl rfl (x_iaload rfl hx97) ?_
    refine OEnds.adv hm_31 3 (pc' := 74) (L' := [qr 1, qi r92]) (S' := []) (H' := (c0 :: bk0 zg za zj zn zb zs zt zr zf zh zo zk zz A96 zw zaa zab zq zd ze zp zu zc zy zx zl (zi + x97) zm po)) rfl ?_
    exact ok_commitOne_74 h
theorem ok_commitReady_2 {zg za zj zn zb zs zt zr zf zh zo zk zz zw : List Int32} {zaa zab zq zd ze zp zu zc zy zx zm : Int32} {c0 : ACell} {po : List ACell} : ∀ (n : Nat), ∀ {zv : List Int32} {zl zi v1 : Int32} {w_o_out : List Int32} {w_o_outLen : Int32} {w_o_commitPos : Int32}, f_commitReady_2 za zj zb zf zk zu zc n zv zl zi v1 = some (w_o_out, w_o_outLen, w_o_commitPos) → OEnds own_P 25 2 [qr 1, qi v1] [] (c0 :: bk0 zg za zj zn zb zs zt zr zf zh zo zk zz zv zw zaa zab zq zd ze zp zu zc zy zx zl zi zm po) (none, (c0 :: bk0 zg za zj zn zb zs zt zr zf zh zo zk zz w_o_out zw zaa zab zq zd ze zp zu zc zy zx w_o_outLen w_o_commitPos zm po), 0, 0) := by
  intro n
  induction n with
  | zero => intro zv zl zi v1 w_o_out w_o_outLen w_o_commitPos h; cases h
  | succ n ih =>
    intro zv zl zi v1 w_o_out w_o_outLen w_o_commitPos h
    unfold f_commitReady_2 at h
    refine OEnds.adv hm_25 2 (pc' := 6) (L' := [qr 1, qi v1]) (S' := [.int 240, .int v1]) (H' := (c0 :: bk0 zg za zj zn zb zs zt zr zf zh zo zk zz zv zw zaa zab zq zd ze zp zu zc zy zx zl zi zm po)) rfl ?_
    by_cases hc84 : v1 < (240 : Int32)
    · simp only [if_pos hc84] at h
      refine OEnds.icmpF hm_25 rfl ((tlt hc84).2.1) ?_
      refine OEnds.adv hm_25 2 (pc' := 13) (L' := [qr 1, qi v1]) (S' := [.int zi]) (H' := (c0 :: bk0 zg za zj zn zb zs zt zr zf zh zo zk zz zv zw zaa zab zq zd ze zp zu zc zy zx zl zi zm po)) rfl ?_
      by_cases hc85 : zi < (0 : Int32)
      · simp only [if_pos hc85] at h
        refine OEnds.ifT hm_25 rfl (q := 43) rfl ((tlt hc85).1) ?_
        show OEnds own_P 25 43 [qr 1, qi v1] [] (c0 :: bk0 zg za zj zn zb zs zt zr zf zh zo zk zz zv zw zaa zab zq zd ze zp zu zc zy zx zl zi zm po) _
        cases h
        exact OEnds.vret hm_25 rfl rfl
      · simp only [if_neg hc85] at h
        refine OEnds.ifF hm_25 rfl ((flt hc85).1) ?_
        refine OEnds.adv hm_25 4 (pc' := 24) (L' := [qr 1, qi v1]) (S' := [.int zc, .int zi]) (H' := (c0 :: bk0 zg za zj zn zb zs zt zr zf zh zo zk zz zv zw zaa zab zq zd ze zp zu zc zy zx zl zi zm po)) rfl ?_
        by_cases hc86 : zi < zc
        · simp only [if_pos hc86] at h
          refine OEnds.icmpF hm_25 rfl ((tlt hc86).2.1) ?_
          refine OEnds.adv hm_25 7 (pc' := 40) (L' := [qr 1, qi v1]) (S' := [.int zc, .int (zi + zu)]) (H' := (c0 :: bk0 zg za zj zn zb zs zt zr zf zh zo zk zz zv zw zaa zab zq zd ze zp zu zc zy zx zl zi zm po)) rfl ?_
          by_cases hc87 : zc < (zi + zu)
          · simp only [if_pos hc87] at h
            refine OEnds.icmpF hm_25 rfl ((tlt hc87).2.2.2) ?_
            show OEnds own_P 25 43 [qr 1, qi v1] [] (c0 :: bk0 zg za zj zn zb zs zt zr zf zh zo zk zz zv zw zaa zab zq zd ze zp zu zc zy zx zl zi zm po) _
            cases h
            exact OEnds.vret hm_25 rfl rfl
          · simp only [if_neg hc87] at h
            refine OEnds.icmpT hm_25 rfl (q := 44) rfl ((flt hc87).2.2.2) ?_
            refine OEnds.adv hm_25 3 (pc' := 51) (L' := [qr 1, qi v1]) (S' := [.int 240, .int zl]) (H' := (c0 :: bk0 zg za zj zn zb zs zt zr zf zh zo zk zz zv zw zaa zab zq zd ze zp zu zc zy zx zl zi zm po)) rfl ?_
            by_cases hc88 : zl < (240 : Int32)
            · simp only [if_pos hc88] at h
              refine OEnds.icmpT hm_25 rfl (q := 55) rfl ((tlt hc88).1) ?_
              refine OEnds.adv hm_25 1 (pc' := 56) (L' := [qr 1, qi v1]) (S' := [.ref 1]) (H' := (c0 :: bk0 zg za zj zn zb zs zt zr zf zh zo zk zz zv zw zaa zab zq zd ze zp zu zc zy zx zl zi zm po)) rfl ?_
              obtain ⟨⟨s98, s99, s100⟩, hq89, h⟩ := bnd h
              refine OEnds.call0 hm_25 rfl rfl (by decide) rfl (as := [.ref 1]) (rest := []) rfl rfl (ok_commitOne hq89) ?_
              refine OEnds.adv hm_25 2 (pc' := 2) (L' := [qr 1, qi (v1 + (1 : Int32))]) (S' := []) (H' := (c0 :: bk0 zg za zj zn zb zs zt zr zf zh zo zk zz s98 zw zaa zab zq zd ze zp zu zc zy zx s99 s100 zm po)) rfl ?_
              exact ih h
            · simp only [if_neg hc88] at h
              refine OEnds.icmpF hm_25 rfl ((flt hc88).1) ?_
              show OEnds own_P 25 54 [qr 1, qi v1] [] (c0 :: bk0 zg za zj zn zb zs zt zr zf zh zo zk zz zv zw zaa zab zq zd ze zp zu zc zy zx zl zi zm po) _
              cases h
              exact OEnds.vret hm_25 rfl rfl
        · simp only [if_neg hc86] at h
          refine OEnds.icmpT hm_25 rfl (q := 43) rfl ((flt hc86).2.1) ?_
          show OEnds own_P 25 43 [qr 1, qi v1] [] (c0 :: bk0 zg za zj zn zb zs zt zr zf zh zo zk zz zv zw zaa zab zq zd ze zp zu zc zy zx zl zi zm po) _
          cases h
          exact OEnds.vret hm_25 rfl rfl
    · simp only [if_neg hc84] at h
      refine OEnds.icmpT hm_25 rfl (q := 65) rfl ((flt hc84).2.1) ?_
      show OEnds own_P 25 65 [qr 1, qi v1] [] (c0 :: bk0 zg za zj zn zb zs zt zr zf zh zo zk zz zv zw zaa zab zq zd ze zp zu zc zy zx zl zi zm po) _
      cases h
      exact OEnds.vret hm_25 rfl rfl
theorem ok_commitReady {zg za zj zn zb zs zt zr zf zh zo zk zz zw : List Int32} {zaa zab zq zd ze zp zu zc zy zx zm : Int32} {c0 : ACell} {po : List ACell} {zv : List Int32} {zl zi : Int32} {w_o_out : List Int32} {w_o_outLen w_o_commitPos : Int32} (h : f_commitReady za zj zb zf zk zu zc zv zl zi = some (w_o_out, w_o_outLen, w_o_commitPos)) : OEnds own_P 25 0 [qr 1, qu] [] (c0 :: bk0 zg za zj zn zb zs zt zr zf zh zo zk zz zv zw zaa zab zq zd ze zp zu zc zy zx zl zi zm po) (none, (c0 :: bk0 zg za zj zn zb zs zt zr zf zh zo zk zz w_o_out zw zaa zab zq zd ze zp zu zc zy zx w_o_outLen w_o_commitPos zm po), 0, 0) := by
  unfold f_commitReady at h
  refine OEnds.adv hm_25 2 (pc' := 2) (L' := [qr 1, qi 0]) (S' := []) (H' := (c0 :: bk0 zg za zj zn zb zs zt zr zf zh zo zk zz zv zw zaa zab zq zd ze zp zu zc zy zx zl zi zm po)) rfl ?_
  exact ok_commitReady_2 100000 h
theorem ok_rebuildTail_95 {zg za zj zn zb zs zt zr zf zh zo zk zz zv : List Int32} {zaa zab zq zd ze zp zu zc zy zx zl zi : Int32} {c0 : ACell} {po : List ACell} {kb : List Int32 → Int32 → Int32 → Int32 → Option (List Int32 × Int32)} (hkb : ∀ {zw : List Int32} {zm v1 v2 : Int32} {d3 : Slot} {w_o_tail : List Int32} {w_o_tailLen : Int32}, kb zw zm v1 v2 = some (w_o_tail, w_o_tailLen) → OEnds own_P 26 12 [qr 1, qi v1, qi v2, d3] [] (c0 :: bk0 zg za zj zn zb zs zt zr zf zh zo zk zz zv zw zaa zab zq zd ze zp zu zc zy zx zl zi zm po) (none, (c0 :: bk0 zg za zj zn zb zs zt zr zf zh zo zk zz zv w_o_tail zaa zab zq zd ze zp zu zc zy zx zl zi w_o_tailLen po), 0, 0)) : ∀ {zw : List Int32} {zm v1 v2 : Int32} {d3 : Slot} {w_o_tail : List Int32} {w_o_tailLen : Int32}, f_rebuildTail_95 kb za zj zb zf zk zc zi zw zm v1 v2 = some (w_o_tail, w_o_tailLen) → OEnds own_P 26 95 [qr 1, qi v1, qi v2, d3] [] (c0 :: bk0 zg za zj zn zb zs zt zr zf zh zo zk zz zv zw zaa zab zq zd ze zp zu zc zy zx zl zi zm po) (none, (c0 :: bk0 zg za zj zn zb zs zt zr zf zh zo zk zz zv w_o_tail zaa zab zq zd ze zp zu zc zy zx zl zi w_o_tailLen po), 0, 0) := by
  intro zw zm v1 v2 d3 w_o_tail w_o_tailLen h
  unfold f_rebuildTail_95 at h
  refine OEnds.adv hm_26 8 (pc' := 12) (L' := [qr 1, qi v1, qi (v2 + (1 : Int32)), qu]) (S' := []) (H' := (c0 :: bk0 zg za zj zn zb zs zt zr zf zh zo zk zz zv zw zaa zab zq zd ze zp zu zc zy zx zl zi (zm + (1 : Int32)) po)) rfl ?_
  exact hkb h
theorem ok_rebuildTail_12 {zg za zj zn zb zs zt zr zf zh zo zk zz zv : List Int32} {zaa zab zq zd ze zp zu zc zy zx zl zi : Int32} {c0 : ACell} {po : List ACell} : ∀ (n : Nat), ∀ {zw : List Int32} {zm v1 v2 : Int32} {d3 : Slot} {w_o_tail : List Int32} {w_o_tailLen : Int32}, f_rebuildTail_12 za zj zb zf zk zc zi n zw zm v1 v2 = some (w_o_tail, w_o_tailLen) → OEnds own_P 26 12 [qr 1, qi v1, qi v2, d3] [] (c0 :: bk0 zg za zj zn zb zs zt zr zf zh zo zk zz zv zw zaa zab zq zd ze zp zu zc zy zx zl zi zm po) (none, (c0 :: bk0 zg za zj zn zb zs zt zr zf zh zo zk zz zv w_o_tail zaa zab zq zd ze zp zu zc zy zx zl zi w_o_tailLen po), 0, 0) := by
  intro n
  induction n with
  | zero => intro zw zm v1 v2 d3 w_o_tail w_o_tailLen h; cases h
  | succ n ih =>
    intro zw zm v1 v2 d3 w_o_tail w_o_tailLen h
    unfold f_rebuildTail_12 at h
    refine OEnds.adv hm_26 2 (pc' := 15) (L' := [qr 1, qi v1, qi v2, qu]) (S' := [.int 8, .int v2]) (H' := (c0 :: bk0 zg za zj zn zb zs zt zr zf zh zo zk zz zv zw zaa zab zq zd ze zp zu zc zy zx zl zi zm po)) rfl ?_
    by_cases hc90 : v2 < (8 : Int32)
    · simp only [if_pos hc90] at h
      refine OEnds.icmpF hm_26 rfl ((tlt hc90).2.1) ?_
      refine OEnds.adv hm_26 1 (pc' := 19) (L' := [qr 1, qi v1, qi v2, qu]) (S' := [.int v1]) (H' := (c0 :: bk0 zg za zj zn zb zs zt zr zf zh zo zk zz zv zw zaa zab zq zd ze zp zu zc zy zx zl zi zm po)) rfl ?_
      by_cases hc91 : v1 < (0 : Int32)
      · simp only [if_pos hc91] at h
        refine OEnds.ifT hm_26 rfl (q := 39) rfl ((tlt hc91).1) ?_
        show OEnds own_P 26 39 [qr 1, qi v1, qi v2, qu] [] (c0 :: bk0 zg za zj zn zb zs zt zr zf zh zo zk zz zv zw zaa zab zq zd ze zp zu zc zy zx zl zi zm po) _
        cases h
        exact OEnds.vret hm_26 rfl rfl
      · simp only [if_neg hc91] at h
        refine OEnds.ifF hm_26 rfl ((flt hc91).1) ?_
        refine OEnds.adv hm_26 3 (pc' := 27) (L' := [qr 1, qi v1, qi v2, qu]) (S' := [.int zc, .int v1]) (H' := (c0 :: bk0 zg za zj zn zb zs zt zr zf zh zo zk zz zv zw zaa zab zq zd ze zp zu zc zy zx zl zi zm po)) rfl ?_
        by_cases hc92 : v1 < zc
        · simp only [if_pos hc92] at h
          refine OEnds.icmpF hm_26 rfl ((tlt hc92).2.1) ?_
          refine OEnds.adv hm_26 3 (pc' := 36) (L' := [qr 1, qi v1, qi v2, qu]) (S' := [.int 8, .int zm]) (H' := (c0 :: bk0 zg za zj zn zb zs zt zr zf zh zo zk zz zv zw zaa zab zq zd ze zp zu zc zy zx zl zi zm po)) rfl ?_
          by_cases hc93 : zm < (8 : Int32)
          · simp only [if_pos hc93] at h
            refine OEnds.icmpT hm_26 rfl (q := 40) rfl ((tlt hc93).1) ?_
            refine OEnds.adv hm_26 2 (pc' := 42) (L' := [qr 1, qi v1, qi v2, qu]) (S' := [.int v1, .ref 1]) (H' := (c0 :: bk0 zg za zj zn zb zs zt zr zf zh zo zk zz zv zw zaa zab zq zd ze zp zu zc zy zx zl zi zm po)) rfl ?_
            obtain ⟨r101, hq94, h⟩ := bnd h
            refine OEnds.call0 hm_26 rfl rfl (by decide) rfl (as := [.ref 1, .int v1]) (rest := []) rfl rfl (ok_longestAt hq94) ?_
            refine OEnds.adv hm_26 2 (pc' := 47) (L' := [qr 1, qi v1, qi v2, qi r101]) (S' := [.int r101]) (H' := (c0 :: bk0 zg za zj zn zb zs zt zr zf zh zo zk zz zv zw zaa zab zq zd ze zp zu zc zy zx zl zi zm po)) rfl ?_
            by_cases hc95 : r101 < (0 : Int32)
            · simp only [if_pos hc95] at h
              refine OEnds.ifT hm_26 rfl (q := 77) rfl ((tlt hc95).1) ?_
              refine OEnds.adv hm_26 7 (pc' := 90) (L' := [qr 1, qi v1, qi v2, qi r101]) (S' := [.int v1, .ref 13, .int zm, .ref 16]) (H' := (c0 :: bk0 zg za zj zn zb zs zt zr zf zh zo zk zz zv zw zaa zab zq zd ze zp zu zc zy zx zl zi zm po)) rfl ?_
              obtain ⟨x102, hx102, h⟩ := bnd h
              refine OEnds.plain hm_26 rfl rfl (x_iaload rfl hx102) ?_
              show OEnds own_P 26 91 [qr 1, qi v1, qi v2, qi r101] [.int x102, .int zm, .ref 16] (c0 :: bk0 zg za zj zn zb zs zt zr zf zh zo zk zz zv zw zaa zab zq zd ze zp zu zc zy zx zl zi zm po) _
              obtain ⟨A103, hA103, h⟩ := bnd h
              refine OEnds.plain hm_26 rfl rfl (x_iastore rfl (Nat.le_of_ble_eq_true rfl) hA103) ?_
              refine OEnds.adv hm_26 1 (pc' := 95) (L' := [qr 1, qi (v1 + (1 : Int32)), qi v2, qi r101]) (S' := []) (H' := (c0 :: bk0 zg za zj zn zb zs zt zr zf zh zo zk zz zv A103 zaa zab zq zd ze zp zu zc zy zx zl zi zm po)) rfl ?_
              exact ok_rebuildTail_95 ih h
            · simp only [if_neg hc95] at h
              refine OEnds.ifF hm_26 rfl ((flt hc95).1) ?_
              refine OEnds.adv hm_26 7 (pc' := 63) (L' := [qr 1, qi v1, qi v2, qi r101]) (S' := [.int r101, .ref 4, .int zm, .ref 16]) (H' := (c0 :: bk0 zg za zj zn zb zs zt zr zf zh zo zk zz zv zw zaa zab zq zd ze zp zu zc zy zx zl zi zm po)) rfl ?_
              obtain ⟨x104, hx104, h⟩ := bnd h
              refine OEnds.plain hm_26 rfl rfl (x_iaload rfl hx104) ?_
              show OEnds own_P 26 64 [qr 1, qi v1, qi v2, qi r101] [.int x104, .int zm, .ref 16] (c0 :: bk0 zg za zj zn zb zs zt zr zf zh zo zk zz zv zw zaa zab zq zd ze zp zu zc zy zx zl zi zm po) _
              obtain ⟨A105, hA105, h⟩ := bnd h
              refine OEnds.plain hm_26 rfl rfl (x_iastore rfl (Nat.le_of_ble_eq_true rfl) hA105) ?_
              refine OEnds.adv hm_26 4 (pc' := 71) (L' := [qr 1, qi v1, qi v2, qi r101]) (S' := [.int r101, .ref 3, .int v1]) (H' := (c0 :: bk0 zg za zj zn zb zs zt zr zf zh zo zk zz zv A105 zaa zab zq zd ze zp zu zc zy zx zl zi zm po)) rfl ?_
              obtain ⟨x106, hx106, h⟩ := bnd h
              refine OEnds.plain hm_26 rfl rfl (x_iaload rfl hx106) ?_
              refine OEnds.adv hm_26 3 (pc' := 95) (L' := [qr 1, qi (v1 + x106), qi v2, qi r101]) (S' := []) (H' := (c0 :: bk0 zg za zj zn zb zs zt zr zf zh zo zk zz zv A105 zaa zab zq zd ze zp zu zc zy zx zl zi zm po)) rfl ?_
              exact ok_rebuildTail_95 ih h
          · simp only [if_neg hc93] at h
            refine OEnds.icmpF hm_26 rfl ((flt hc93).1) ?_
            show OEnds own_P 26 39 [qr 1, qi v1, qi v2, qu] [] (c0 :: bk0 zg za zj zn zb zs zt zr zf zh zo zk zz zv zw zaa zab zq zd ze zp zu zc zy zx zl zi zm po) _
            cases h
            exact OEnds.vret hm_26 rfl rfl
        · simp only [if_neg hc92] at h
          refine OEnds.icmpT hm_26 rfl (q := 39) rfl ((flt hc92).2.1) ?_
          show OEnds own_P 26 39 [qr 1, qi v1, qi v2, qu] [] (c0 :: bk0 zg za zj zn zb zs zt zr zf zh zo zk zz zv zw zaa zab zq zd ze zp zu zc zy zx zl zi zm po) _
          cases h
          exact OEnds.vret hm_26 rfl rfl
    · simp only [if_neg hc90] at h
      refine OEnds.icmpT hm_26 rfl (q := 111) rfl ((flt hc90).2.1) ?_
      show OEnds own_P 26 111 [qr 1, qi v1, qi v2, qu] [] (c0 :: bk0 zg za zj zn zb zs zt zr zf zh zo zk zz zv zw zaa zab zq zd ze zp zu zc zy zx zl zi zm po) _
      cases h
      exact OEnds.vret hm_26 rfl rfl
theorem ok_rebuildTail {zg za zj zn zb zs zt zr zf zh zo zk zz zv : List Int32} {zaa zab zq zd ze zp zu zc zy zx zl zi : Int32} {c0 : ACell} {po : List ACell} {zw : List Int32} {zm : Int32} {w_o_tail : List Int32} {w_o_tailLen : Int32} (h : f_rebuildTail za zj zb zf zk zc zi zw zm = some (w_o_tail, w_o_tailLen)) : OEnds own_P 26 0 [qr 1, qu, qu, qu] [] (c0 :: bk0 zg za zj zn zb zs zt zr zf zh zo zk zz zv zw zaa zab zq zd ze zp zu zc zy zx zl zi zm po) (none, (c0 :: bk0 zg za zj zn zb zs zt zr zf zh zo zk zz zv w_o_tail zaa zab zq zd ze zp zu zc zy zx zl zi w_o_tailLen po), 0, 0) := by
  unfold f_rebuildTail at h
  refine OEnds.adv hm_26 8 (pc' := 12) (L' := [qr 1, qi zi, qi 0, qu]) (S' := []) (H' := (c0 :: bk0 zg za zj zn zb zs zt zr zf zh zo zk zz zv zw zaa zab zq zd ze zp zu zc zy zx zl zi 0 po)) rfl ?_
  exact ok_rebuildTail_12 100000 h
theorem ok_feed {zg za zj zn zb zs zt zr zf zh zo : List Int32} {zaa zab zq zd ze zp zu : Int32} {c0 : ACell} {po : List ACell} {zk zz zv zw : List Int32} {zc zy zx zl zi zm v1 res : Int32} {w_o_text w_o_masks w_o_out w_o_tail : List Int32} {w_o_n w_o_state w_o_total w_o_outLen w_o_commitPos w_o_tailLen : Int32} (h : f_feed za zj zb zs zf zh zq zu zk zz zv zw zc zy zx zl zi zm v1 = some (res, w_o_text, w_o_masks, w_o_out, w_o_tail, w_o_n, w_o_state, w_o_total, w_o_outLen, w_o_commitPos, w_o_tailLen)) : OEnds own_P 21 0 [qr 1, qi v1, qu, qu] [] (c0 :: bk0 zg za zj zn zb zs zt zr zf zh zo zk zz zv zw zaa zab zq zd ze zp zu zc zy zx zl zi zm po) (some (.int res), (c0 :: bk0 zg za zj zn zb zs zt zr zf zh zo w_o_text w_o_masks w_o_out w_o_tail zaa zab zq zd ze zp zu w_o_n w_o_state w_o_total w_o_outLen w_o_commitPos w_o_tailLen po), 0, 0) := by
  unfold f_feed at h
  refine OEnds.adv hm_21 3 (pc' := 5) (L' := [qr 1, qi v1, qu, qu]) (S' := [.int 1, .int zq]) (H' := (c0 :: bk0 zg za zj zn zb zs zt zr zf zh zo zk zz zv zw zaa zab zq zd ze zp zu zc zy zx zl zi zm po)) rfl ?_
  by_cases hc96 : zq = (1 : Int32)
  · simp only [if_pos hc96] at h
    refine OEnds.icmpT hm_21 rfl (q := 10) rfl ((teq hc96).1) ?_
    refine OEnds.adv hm_21 2 (pc' := 12) (L' := [qr 1, qi v1, qu, qu]) (S' := [.int v1, .ref 1]) (H' := (c0 :: bk0 zg za zj zn zb zs zt zr zf zh zo zk zz zv zw zaa zab zq zd ze zp zu zc zy zx zl zi zm po)) rfl ?_
    obtain ⟨r107, hq97, h⟩ := bnd h
    refine OEnds.call0 hm_21 rfl rfl (by decide) rfl (as := [.ref 1, .int v1]) (rest := []) rfl rfl (ok_isPrintable hq97) ?_
    show OEnds own_P 21 15 [qr 1, qi v1, qu, qu] [.int r107] (c0 :: bk0 zg za zj zn zb zs zt zr zf zh zo zk zz zv zw zaa zab zq zd ze zp zu zc zy zx zl zi zm po) _
    by_cases hc98 : r107 = (0 : Int32)
    · simp only [if_pos hc98] at h
      refine OEnds.ifF hm_21 rfl ((teq hc98).2) ?_
      refine OEnds.adv hm_21 1 (pc' := 20) (L' := [qr 1, qi v1, qu, qu]) (S' := [.int (-2)]) (H' := (c0 :: bk0 zg za zj zn zb zs zt zr zf zh zo zk zz zv zw zaa zab zq zd ze zp zu zc zy zx zl zi zm po)) rfl ?_
      cases h
      exact OEnds.iret hm_21 rfl rfl
    · simp only [if_neg hc98] at h
      refine OEnds.ifT hm_21 rfl (q := 21) rfl ((feq hc98).2) ?_
      refine OEnds.adv hm_21 3 (pc' := 28) (L' := [qr 1, qi v1, qu, qu]) (S' := [.int 240, .int zc]) (H' := (c0 :: bk0 zg za zj zn zb zs zt zr zf zh zo zk zz zv zw zaa zab zq zd ze zp zu zc zy zx zl zi zm po)) rfl ?_
      by_cases hc99 : zc < (240 : Int32)
      · simp only [if_pos hc99] at h
        refine OEnds.icmpT hm_21 rfl (q := 34) rfl ((tlt hc99).1) ?_
        refine OEnds.adv hm_21 5 (pc' := 41) (L' := [qr 1, qi v1, qu, qu]) (S' := [.int v1, .int zy, .ref 1, .ref 1]) (H' := (c0 :: bk0 zg za zj zn zb zs zt zr zf zh zo zk zz zv zw zaa zab zq zd ze zp zu zc zy zx zl zi zm po)) rfl ?_
        obtain ⟨r108, hq100, h⟩ := bnd h
        refine OEnds.call0 hm_21 rfl rfl (by decide) rfl (as := [.ref 1, .int zy, .int v1]) (rest := [.ref 1]) rfl rfl (ok_nextState hq100) ?_
        refine OEnds.adv hm_21 5 (pc' := 55) (L' := [qr 1, qi v1, qu, qu]) (S' := [.int r108, .ref 11]) (H' := (c0 :: bk0 zg za zj zn zb zs zt zr zf zh zo zk zz zv zw zaa zab zq zd ze zp zu zc r108 zx zl zi zm po)) rfl ?_
        obtain ⟨x109, hx109, h⟩ := bnd h
        refine OEnds.plain hm_21 rfl rfl (x_iaload rfl hx109) ?_
        refine OEnds.adv hm_21 6 (pc' := 66) (L' := [qr 1, qi v1, qi x109, qu]) (S' := [.int v1, .int zc, .ref 13]) (H' := (c0 :: bk0 zg za zj zn zb zs zt zr zf zh zo zk zz zv zw zaa zab zq zd ze zp zu zc r108 zx zl zi zm po)) rfl ?_
        obtain ⟨A110, hA110, h⟩ := bnd h
        refine OEnds.plain hm_21 rfl rfl (x_iastore rfl (Nat.le_of_ble_eq_true rfl) hA110) ?_
        refine OEnds.adv hm_21 5 (pc' := 76) (L' := [qr 1, qi v1, qi x109, qu]) (S' := [.int x109, .int zc, .ref 14]) (H' := (c0 :: bk0 zg za zj zn zb zs zt zr zf zh zo A110 zz zv zw zaa zab zq zd ze zp zu zc r108 zx zl zi zm po)) rfl ?_
        obtain ⟨A111, hA111, h⟩ := bnd h
        refine OEnds.plain hm_21 rfl rfl (x_iastore rfl (Nat.le_of_ble_eq_true rfl) hA111) ?_
        refine OEnds.adv hm_21 8 (pc' := 89) (L' := [qr 1, qi v1, qi x109, qu]) (S' := [.int x109, .ref 1]) (H' := (c0 :: bk0 zg za zj zn zb zs zt zr zf zh zo A110 A111 zv zw zaa zab zq zd ze zp zu (zc + (1 : Int32)) r108 zx zl zi zm po)) rfl ?_
        obtain ⟨r112, hq101, h⟩ := bnd h
        refine OEnds.call0 hm_21 rfl rfl (by decide) rfl (as := [.ref 1, .int x109]) (rest := []) rfl rfl (ok_popCount hq101) ?_
        refine OEnds.adv hm_21 8 (pc' := 104) (L' := [qr 1, qi v1, qi x109, qi r112]) (S' := [.ref 1]) (H' := (c0 :: bk0 zg za zj zn zb zs zt zr zf zh zo A110 A111 zv zw zaa zab zq zd ze zp zu (zc + (1 : Int32)) r108 (zx + r112) zl zi zm po)) rfl ?_
        obtain ⟨⟨s113, s114, s115⟩, hq102, h⟩ := bnd h
        refine OEnds.call0 hm_21 rfl rfl (by decide) rfl (as := [.ref 1]) (rest := []) rfl rfl (ok_commitReady hq102) ?_
        refine OEnds.adv hm_21 1 (pc' := 108) (L' := [qr 1, qi v1, qi x109, qi r112]) (S' := [.ref 1]) (H' := (c0 :: bk0 zg za zj zn zb zs zt zr zf zh zo A110 A111 s113 zw zaa zab zq zd ze zp zu (zc + (1 : Int32)) r108 (zx + r112) s114 s115 zm po)) rfl ?_
        obtain ⟨⟨s116, s117⟩, hq103, h⟩ := bnd h
        refine OEnds.call0 hm_21 rfl rfl (by decide) rfl (as := [.ref 1]) (rest := []) rfl rfl (ok_rebuildTail hq103) ?_
        refine OEnds.adv hm_21 1 (pc' := 112) (L' := [qr 1, qi v1, qi x109, qi r112]) (S' := [.int r112]) (H' := (c0 :: bk0 zg za zj zn zb zs zt zr zf zh zo A110 A111 s113 s116 zaa zab zq zd ze zp zu (zc + (1 : Int32)) r108 (zx + r112) s114 s115 s117 po)) rfl ?_
        cases h
        exact OEnds.iret hm_21 rfl rfl
      · simp only [if_neg hc99] at h
        refine OEnds.icmpF hm_21 rfl ((flt hc99).1) ?_
        refine OEnds.adv hm_21 1 (pc' := 33) (L' := [qr 1, qi v1, qu, qu]) (S' := [.int (-3)]) (H' := (c0 :: bk0 zg za zj zn zb zs zt zr zf zh zo zk zz zv zw zaa zab zq zd ze zp zu zc zy zx zl zi zm po)) rfl ?_
        cases h
        exact OEnds.iret hm_21 rfl rfl
  · simp only [if_neg hc96] at h
    refine OEnds.icmpF hm_21 rfl ((feq hc96).1) ?_
    refine OEnds.adv hm_21 1 (pc' := 9) (L' := [qr 1, qi v1, qu, qu]) (S' := [.int (-1)]) (H' := (c0 :: bk0 zg za zj zn zb zs zt zr zf zh zo zk zz zv zw zaa zab zq zd ze zp zu zc zy zx zl zi zm po)) rfl ?_
    cases h
    exact OEnds.iret hm_21 rfl rfl
theorem ok_L_hit_34 {c0 : ACell} {po : List ACell} : ∀ {v2 v3 t0 : Int32} {d0 d1 d4 : Slot} {res : Int32}, f_L_hit_34 v2 v3 t0 = some res → OEnds own_P 28 34 [d0, d1, qi v2, qi v3, d4] [.int t0] (c0 :: po) (some (.int res), (c0 :: po), 0, 0) := by
  intro v2 v3 t0 d0 d1 d4 res h
  unfold f_L_hit_34 at h
  refine OEnds.adv hm_28 5 (pc' := 41) (L' := [qu, qu, qi v2, qi v3, qi t0]) (S' := [.int v2, .int (v3 &&& t0)]) (H' := (c0 :: po)) rfl ?_
  by_cases hc104 : (v3 &&& t0) = v2
  · simp only [if_pos hc104] at h
    refine OEnds.icmpF hm_28 rfl ((teq hc104).2) ?_
    refine OEnds.adv hm_28 2 (pc' := 49) (L' := [qu, qu, qi v2, qi v3, qi t0]) (S' := [.int 1]) (H' := (c0 :: po)) rfl ?_
    cases h
    exact OEnds.iret hm_28 rfl rfl
  · simp only [if_neg hc104] at h
    refine OEnds.icmpT hm_28 rfl (q := 48) rfl ((feq hc104).2) ?_
    refine OEnds.adv hm_28 1 (pc' := 49) (L' := [qu, qu, qi v2, qi v3, qi t0]) (S' := [.int 0]) (H' := (c0 :: po)) rfl ?_
    cases h
    exact OEnds.iret hm_28 rfl rfl
theorem ok_L_hit {c0 : ACell} {po : List ACell} {v0 v1 v2 v3 res : Int32} (h : f_L_hit v0 v1 v2 v3 = some res) : OEnds own_P 28 0 [qi v0, qi v1, qi v2, qi v3, qu] [] (c0 :: po) (some (.int res), (c0 :: po), 0, 0) := by
  unfold f_L_hit at h
  refine OEnds.adv hm_28 2 (pc' := 2) (L' := [qi v0, qi v1, qi v2, qi v3, qu]) (S' := [.int v0, .int v1]) (H' := (c0 :: po)) rfl ?_
  by_cases hc105 : v1 < v0
  · simp only [if_pos hc105] at h
    refine OEnds.icmpT hm_28 rfl (q := 7) rfl ((tlt hc105).1) ?_
    refine OEnds.adv hm_28 2 (pc' := 10) (L' := [qi v0, qi v1, qi v2, qi v3, qu]) (S' := [.int 16, .int v2]) (H' := (c0 :: po)) rfl ?_
    by_cases hc106 : v2 < (16 : Int32)
    · simp only [if_pos hc106] at h
      refine OEnds.icmpF hm_28 rfl ((tlt hc106).2.1) ?_
      refine OEnds.adv hm_28 2 (pc' := 34) (L' := [qi v0, qi v1, qi v2, qi v3, qu]) (S' := [.int 15]) (H' := (c0 :: po)) rfl ?_
      exact ok_L_hit_34 h
    · simp only [if_neg hc106] at h
      refine OEnds.icmpT hm_28 rfl (q := 18) rfl ((flt hc106).2.1) ?_
      refine OEnds.adv hm_28 2 (pc' := 22) (L' := [qi v0, qi v1, qi v2, qi v3, qu]) (S' := [.int 256, .int v2]) (H' := (c0 :: po)) rfl ?_
      by_cases hc107 : v2 < (256 : Int32)
      · simp only [if_pos hc107] at h
        refine OEnds.icmpF hm_28 rfl ((tlt hc107).2.1) ?_
        refine OEnds.adv hm_28 2 (pc' := 34) (L' := [qi v0, qi v1, qi v2, qi v3, qu]) (S' := [.int 255]) (H' := (c0 :: po)) rfl ?_
        exact ok_L_hit_34 h
      · simp only [if_neg hc107] at h
        refine OEnds.icmpT hm_28 rfl (q := 31) rfl ((flt hc107).2.1) ?_
        refine OEnds.adv hm_28 1 (pc' := 34) (L' := [qi v0, qi v1, qi v2, qi v3, qu]) (S' := [.int 4095]) (H' := (c0 :: po)) rfl ?_
        exact ok_L_hit_34 h
  · simp only [if_neg hc105] at h
    refine OEnds.icmpF hm_28 rfl ((flt hc105).1) ?_
    refine OEnds.adv hm_28 1 (pc' := 6) (L' := [qi v0, qi v1, qi v2, qi v3, qu]) (S' := [.int 0]) (H' := (c0 :: po)) rfl ?_
    cases h
    exact OEnds.iret hm_28 rfl rfl
theorem ok_occurrenceMask {zg za zj zn zb zs zt zr zf zh zo zk zz zv zw : List Int32} {zaa zab zq zd ze zp zu zc zy zx zl zi zm : Int32} {c0 : ACell} {po : List ACell} {v1 res : Int32} (h : f_occurrenceMask zz zc v1 = some res) : OEnds own_P 29 0 [qr 1, qi v1] [] (c0 :: bk0 zg za zj zn zb zs zt zr zf zh zo zk zz zv zw zaa zab zq zd ze zp zu zc zy zx zl zi zm po) (some (.int res), (c0 :: bk0 zg za zj zn zb zs zt zr zf zh zo zk zz zv zw zaa zab zq zd ze zp zu zc zy zx zl zi zm po), 0, 0) := by
  unfold f_occurrenceMask at h
  refine OEnds.adv hm_29 1 (pc' := 1) (L' := [qr 1, qi v1]) (S' := [.int v1]) (H' := (c0 :: bk0 zg za zj zn zb zs zt zr zf zh zo zk zz zv zw zaa zab zq zd ze zp zu zc zy zx zl zi zm po)) rfl ?_
  by_cases hc108 : v1 < (0 : Int32)
  · simp only [if_pos hc108] at h
    refine OEnds.ifT hm_29 rfl (q := 12) rfl ((tlt hc108).1) ?_
    refine OEnds.adv hm_29 1 (pc' := 13) (L' := [qr 1, qi v1]) (S' := [.int (-1)]) (H' := (c0 :: bk0 zg za zj zn zb zs zt zr zf zh zo zk zz zv zw zaa zab zq zd ze zp zu zc zy zx zl zi zm po)) rfl ?_
    cases h
    exact OEnds.iret hm_29 rfl rfl
  · simp only [if_neg hc108] at h
    refine OEnds.ifF hm_29 rfl ((flt hc108).1) ?_
    refine OEnds.adv hm_29 3 (pc' := 9) (L' := [qr 1, qi v1]) (S' := [.int zc, .int v1]) (H' := (c0 :: bk0 zg za zj zn zb zs zt zr zf zh zo zk zz zv zw zaa zab zq zd ze zp zu zc zy zx zl zi zm po)) rfl ?_
    by_cases hc109 : v1 < zc
    · simp only [if_pos hc109] at h
      refine OEnds.icmpT hm_29 rfl (q := 14) rfl ((tlt hc109).1) ?_
      refine OEnds.adv hm_29 3 (pc' := 19) (L' := [qr 1, qi v1]) (S' := [.int v1, .ref 14]) (H' := (c0 :: bk0 zg za zj zn zb zs zt zr zf zh zo zk zz zv zw zaa zab zq zd ze zp zu zc zy zx zl zi zm po)) rfl ?_
      obtain ⟨x118, hx118, h⟩ := bnd h
      refine OEnds.plain hm_29 rfl rfl (x_iaload rfl hx118) ?_
      show OEnds own_P 29 20 [qr 1, qi v1] [.int x118] (c0 :: bk0 zg za zj zn zb zs zt zr zf zh zo zk zz zv zw zaa zab zq zd ze zp zu zc zy zx zl zi zm po) _
      cases h
      exact OEnds.iret hm_29 rfl rfl
    · simp only [if_neg hc109] at h
      refine OEnds.icmpF hm_29 rfl ((flt hc109).1) ?_
      refine OEnds.adv hm_29 1 (pc' := 13) (L' := [qr 1, qi v1]) (S' := [.int (-1)]) (H' := (c0 :: bk0 zg za zj zn zb zs zt zr zf zh zo zk zz zv zw zaa zab zq zd ze zp zu zc zy zx zl zi zm po)) rfl ?_
      cases h
      exact OEnds.iret hm_29 rfl rfl
theorem ok_textChar {zg za zj zn zb zs zt zr zf zh zo zk zz zv zw : List Int32} {zaa zab zq zd ze zp zu zc zy zx zl zi zm : Int32} {c0 : ACell} {po : List ACell} {v1 res : Int32} (h : f_textChar zk zc v1 = some res) : OEnds own_P 30 0 [qr 1, qi v1] [] (c0 :: bk0 zg za zj zn zb zs zt zr zf zh zo zk zz zv zw zaa zab zq zd ze zp zu zc zy zx zl zi zm po) (some (.int res), (c0 :: bk0 zg za zj zn zb zs zt zr zf zh zo zk zz zv zw zaa zab zq zd ze zp zu zc zy zx zl zi zm po), 0, 0) := by
  unfold f_textChar at h
  refine OEnds.adv hm_30 1 (pc' := 1) (L' := [qr 1, qi v1]) (S' := [.int v1]) (H' := (c0 :: bk0 zg za zj zn zb zs zt zr zf zh zo zk zz zv zw zaa zab zq zd ze zp zu zc zy zx zl zi zm po)) rfl ?_
  by_cases hc110 : v1 < (0 : Int32)
  · simp only [if_pos hc110] at h
    refine OEnds.ifT hm_30 rfl (q := 12) rfl ((tlt hc110).1) ?_
    refine OEnds.adv hm_30 1 (pc' := 13) (L' := [qr 1, qi v1]) (S' := [.int (-1)]) (H' := (c0 :: bk0 zg za zj zn zb zs zt zr zf zh zo zk zz zv zw zaa zab zq zd ze zp zu zc zy zx zl zi zm po)) rfl ?_
    cases h
    exact OEnds.iret hm_30 rfl rfl
  · simp only [if_neg hc110] at h
    refine OEnds.ifF hm_30 rfl ((flt hc110).1) ?_
    refine OEnds.adv hm_30 3 (pc' := 9) (L' := [qr 1, qi v1]) (S' := [.int zc, .int v1]) (H' := (c0 :: bk0 zg za zj zn zb zs zt zr zf zh zo zk zz zv zw zaa zab zq zd ze zp zu zc zy zx zl zi zm po)) rfl ?_
    by_cases hc111 : v1 < zc
    · simp only [if_pos hc111] at h
      refine OEnds.icmpT hm_30 rfl (q := 14) rfl ((tlt hc111).1) ?_
      refine OEnds.adv hm_30 3 (pc' := 19) (L' := [qr 1, qi v1]) (S' := [.int v1, .ref 13]) (H' := (c0 :: bk0 zg za zj zn zb zs zt zr zf zh zo zk zz zv zw zaa zab zq zd ze zp zu zc zy zx zl zi zm po)) rfl ?_
      obtain ⟨x119, hx119, h⟩ := bnd h
      refine OEnds.plain hm_30 rfl rfl (x_iaload rfl hx119) ?_
      show OEnds own_P 30 20 [qr 1, qi v1] [.int x119] (c0 :: bk0 zg za zj zn zb zs zt zr zf zh zo zk zz zv zw zaa zab zq zd ze zp zu zc zy zx zl zi zm po) _
      cases h
      exact OEnds.iret hm_30 rfl rfl
    · simp only [if_neg hc111] at h
      refine OEnds.icmpF hm_30 rfl ((flt hc111).1) ?_
      refine OEnds.adv hm_30 1 (pc' := 13) (L' := [qr 1, qi v1]) (S' := [.int (-1)]) (H' := (c0 :: bk0 zg za zj zn zb zs zt zr zf zh zo zk zz zv zw zaa zab zq zd ze zp zu zc zy zx zl zi zm po)) rfl ?_
      cases h
      exact OEnds.iret hm_30 rfl rfl
theorem ok_L_law_611 {scr : List Int32} {kb : List Int32 → List Int32 → List Int32 → List Int32 → List Int32 → List Int32 → List Int32 → List Int32 → List Int32 → List Int32 → List Int32 → List Int32 → List Int32 → List Int32 → List Int32 → Int32 → Int32 → Int32 → Int32 → Int32 → Int32 → Int32 → Int32 → Int32 → Int32 → Int32 → Int32 → Int32 → Int32 → Int32 → Int32 → Int32 → Int32 → Int32 → Int32 → Int32 → Int32 → Int32 → Int32 → Int32 → Option (Int32)} (hkb : ∀ {zav zau zaw zao zaf zag zak zal zah zai zam zap zaq zar zas : List Int32} {zac zad zae zat zbd zan zaj zax zbb zay zaz zbc zba v2 v3 v4 v5 v6 v7 v8 v9 v10 v11 v12 v13 : Int32} {d14 d15 d16 d17 d18 d19 d20 d21 d22 : Slot} {res : Int32}, kb zav zau zaw zao zaf zag zak zal zah zai zam zap zaq zar zas zac zad zae zat zbd zan zaj zax zbb zay zaz zbc zba v2 v3 v4 v5 v6 v7 v8 v9 v10 v11 v12 v13 = some res → OEndsQ own_P 0 44 [qr 0, qr 1, qi v2, qi v3, qi v4, qi v5, qi v6, qi v7, qi v8, qi v9, qi v10, qi v11, qi v12, qi v13, d14, d15, d16, d17, d18, d19, d20, d21, d22] [] (qa scr :: bk0 zav zau zaw zao zaf zag zak zal zah zai zam zap zaq zar zas zac zad zae zat zbd zan zaj zax zbb zay zaz zbc zba []) (LawQ res 0 0)) : ∀ {zav zau zaw zao zaf zag zak zal zah zai zam zap zaq zar zas : List Int32} {zac zad zae zat zbd zan zaj zax zbb zay zaz zbc zba v2 v3 v4 v5 v6 v7 v8 v9 v10 v11 v12 v13 v16 v17 : Int32} {d14 d15 d18 d19 d20 d21 d22 : Slot} {res : Int32}, f_L_law_611 kb scr zav zau zaw zao zaf zag zak zal zah zai zam zap zaq zar zas zac zad zae zat zbd zan zaj zax zbb zay zaz zbc zba v2 v3 v4 v5 v6 v7 v8 v9 v10 v11 v12 v13 v16 v17 = some res → OEndsQ own_P 0 611 [qr 0, qr 1, qi v2, qi v3, qi v4, qi v5, qi v6, qi v7, qi v8, qi v9, qi v10, qi v11, qi v12, qi v13, d14, d15, qi v16, qi v17, d18, d19, d20, d21, d22] [] (qa scr :: bk0 zav zau zaw zao zaf zag zak zal zah zai zam zap zaq zar zas zac zad zae zat zbd zan zaj zax zbb zay zaz zbc zba []) (LawQ res 0 0) := by
  intro zav zau zaw zao zaf zag zak zal zah zai zam zap zaq zar zas zac zad zae zat zbd zan zaj zax zbb zay zaz zbc zba v2 v3 v4 v5 v6 v7 v8 v9 v10 v11 v12 v13 v16 v17 d14 d15 d18 d19 d20 d21 d22 res h
  unfold f_L_law_611 at h
  refine OEndsQ.adv hm_0 2 (pc' := 615) (L' := [qr 0, qr 1, qi v2, qi v3, qi v4, qi v5, qi v6, qi v7, qi v8, qi v9, qi v10, qi v11, qi v12, qi v13, qu, qu, qi v16, qi v17, qu, qu, qu, qu, qu]) (S' := [.int v17, .int v16]) (H' := (qa scr :: bk0 zav zau zaw zao zaf zag zak zal zah zai zam zap zaq zar zas zac zad zae zat zbd zan zaj zax zbb zay zaz zbc zba [])) rfl ?_
  by_cases hc112 : v16 = v17
  · simp only [if_pos hc112] at h
    refine OEndsQ.icmpT hm_0 rfl (q := 620) rfl ((teq hc112).1) ?_
    refine OEndsQ.adv hm_0 1 (pc' := 621) (L' := [qr 0, qr 1, qi v2, qi v3, qi v4, qi v5, qi v6, qi v7, qi v8, qi v9, qi v10, qi v11, qi v12, qi v13, qu, qu, qi v16, qi v17, qu, qu, qu, qu, qu]) (S' := [.ref 1]) (H' := (qa scr :: bk0 zav zau zaw zao zaf zag zak zal zah zai zam zap zaq zar zas zac zad zae zat zbd zan zaj zax zbb zay zaz zbc zba [])) rfl ?_
    obtain ⟨r184, hq113, h⟩ := bnd h
    refine OEndsQ.call0 hm_0 rfl rfl (by decide) rfl (as := [.ref 1]) (rest := []) rfl rfl (ok_phase hq113) ?_
    refine OEndsQ.adv hm_0 1 (pc' := 625) (L' := [qr 0, qr 1, qi v2, qi v3, qi v4, qi v5, qi v6, qi v7, qi v8, qi v9, qi v10, qi v11, qi v12, qi v13, qu, qu, qi v16, qi v17, qu, qu, qu, qu, qu]) (S' := [.int v2, .int r184]) (H' := (qa scr :: bk0 zav zau zaw zao zaf zag zak zal zah zai zam zap zaq zar zas zac zad zae zat zbd zan zaj zax zbb zay zaz zbc zba [])) rfl ?_
    by_cases hc114 : r184 = v2
    · simp only [if_pos hc114] at h
      refine OEndsQ.icmpT hm_0 rfl (q := 630) rfl ((teq hc114).1) ?_
      refine OEndsQ.adv hm_0 1 (pc' := 631) (L' := [qr 0, qr 1, qi v2, qi v3, qi v4, qi v5, qi v6, qi v7, qi v8, qi v9, qi v10, qi v11, qi v12, qi v13, qu, qu, qi v16, qi v17, qu, qu, qu, qu, qu]) (S' := [.ref 1]) (H' := (qa scr :: bk0 zav zau zaw zao zaf zag zak zal zah zai zam zap zaq zar zas zac zad zae zat zbd zan zaj zax zbb zay zaz zbc zba [])) rfl ?_
      obtain ⟨r185, hq115, h⟩ := bnd h
      refine OEndsQ.call0 hm_0 rfl rfl (by decide) rfl (as := [.ref 1]) (rest := []) rfl rfl (ok_keywordCount hq115) ?_
      refine OEndsQ.adv hm_0 1 (pc' := 635) (L' := [qr 0, qr 1, qi v2, qi v3, qi v4, qi v5, qi v6, qi v7, qi v8, qi v9, qi v10, qi v11, qi v12, qi v13, qu, qu, qi v16, qi v17, qu, qu, qu, qu, qu]) (S' := [.int v3, .int r185]) (H' := (qa scr :: bk0 zav zau zaw zao zaf zag zak zal zah zai zam zap zaq zar zas zac zad zae zat zbd zan zaj zax zbb zay zaz zbc zba [])) rfl ?_
      by_cases hc116 : r185 = v3
      · simp only [if_pos hc116] at h
        refine OEndsQ.icmpT hm_0 rfl (q := 640) rfl ((teq hc116).1) ?_
        refine OEndsQ.adv hm_0 2 (pc' := 642) (L' := [qr 0, qr 1, qi v2, qi v3, qi v4, qi v5, qi v6, qi v7, qi v8, qi v9, qi v10, qi v11, qi v12, qi v13, qu, qu, qi v16, qi v17, qu, qu, qu, qu, qu]) (S' := [.int v3, .ref 1]) (H' := (qa scr :: bk0 zav zau zaw zao zaf zag zak zal zah zai zam zap zaq zar zas zac zad zae zat zbd zan zaj zax zbb zay zaz zbc zba [])) rfl ?_
        obtain ⟨r186, hq117, h⟩ := bnd h
        refine OEndsQ.call0 hm_0 rfl rfl (by decide) rfl (as := [.ref 1, .int v3]) (rest := []) rfl rfl (ok_keywordLength hq117) ?_
        refine OEndsQ.adv hm_0 1 (pc' := 647) (L' := [qr 0, qr 1, qi v2, qi v3, qi v4, qi v5, qi v6, qi v7, qi v8, qi v9, qi v10, qi v11, qi v12, qi v13, qu, qu, qi v16, qi v17, qu, qu, qu, qu, qu]) (S' := [.int v4, .int r186]) (H' := (qa scr :: bk0 zav zau zaw zao zaf zag zak zal zah zai zam zap zaq zar zas zac zad zae zat zbd zan zaj zax zbb zay zaz zbc zba [])) rfl ?_
        by_cases hc118 : r186 = v4
        · simp only [if_pos hc118] at h
          refine OEndsQ.icmpT hm_0 rfl (q := 652) rfl ((teq hc118).1) ?_
          refine OEndsQ.adv hm_0 1 (pc' := 653) (L' := [qr 0, qr 1, qi v2, qi v3, qi v4, qi v5, qi v6, qi v7, qi v8, qi v9, qi v10, qi v11, qi v12, qi v13, qu, qu, qi v16, qi v17, qu, qu, qu, qu, qu]) (S' := [.ref 1]) (H' := (qa scr :: bk0 zav zau zaw zao zaf zag zak zal zah zai zam zap zaq zar zas zac zad zae zat zbd zan zaj zax zbb zay zaz zbc zba [])) rfl ?_
          obtain ⟨r187, hq119, h⟩ := bnd h
          refine OEndsQ.call0 hm_0 rfl rfl (by decide) rfl (as := [.ref 1]) (rest := []) rfl rfl (ok_textLength hq119) ?_
          refine OEndsQ.adv hm_0 1 (pc' := 658) (L' := [qr 0, qr 1, qi v2, qi v3, qi v4, qi v5, qi v6, qi v7, qi v8, qi v9, qi v10, qi v11, qi v12, qi v13, qu, qu, qi v16, qi v17, qu, qu, qu, qu, qu]) (S' := [.int v6, .int r187]) (H' := (qa scr :: bk0 zav zau zaw zao zaf zag zak zal zah zai zam zap zaq zar zas zac zad zae zat zbd zan zaj zax zbb zay zaz zbc zba [])) rfl ?_
          by_cases hc120 : r187 = v6
          · simp only [if_pos hc120] at h
            refine OEndsQ.icmpT hm_0 rfl (q := 663) rfl ((teq hc120).1) ?_
            refine OEndsQ.adv hm_0 1 (pc' := 664) (L' := [qr 0, qr 1, qi v2, qi v3, qi v4, qi v5, qi v6, qi v7, qi v8, qi v9, qi v10, qi v11, qi v12, qi v13, qu, qu, qi v16, qi v17, qu, qu, qu, qu, qu]) (S' := [.ref 1]) (H' := (qa scr :: bk0 zav zau zaw zao zaf zag zak zal zah zai zam zap zaq zar zas zac zad zae zat zbd zan zaj zax zbb zay zaz zbc zba [])) rfl ?_
            obtain ⟨r188, hq121, h⟩ := bnd h
            refine OEndsQ.call0 hm_0 rfl rfl (by decide) rfl (as := [.ref 1]) (rest := []) rfl rfl (ok_totalOccurrences hq121) ?_
            refine OEndsQ.adv hm_0 1 (pc' := 669) (L' := [qr 0, qr 1, qi v2, qi v3, qi v4, qi v5, qi v6, qi v7, qi v8, qi v9, qi v10, qi v11, qi v12, qi v13, qu, qu, qi v16, qi v17, qu, qu, qu, qu, qu]) (S' := [.int v8, .int r188]) (H' := (qa scr :: bk0 zav zau zaw zao zaf zag zak zal zah zai zam zap zaq zar zas zac zad zae zat zbd zan zaj zax zbb zay zaz zbc zba [])) rfl ?_
            by_cases hc122 : r188 = v8
            · simp only [if_pos hc122] at h
              refine OEndsQ.icmpT hm_0 rfl (q := 674) rfl ((teq hc122).1) ?_
              refine OEndsQ.adv hm_0 1 (pc' := 675) (L' := [qr 0, qr 1, qi v2, qi v3, qi v4, qi v5, qi v6, qi v7, qi v8, qi v9, qi v10, qi v11, qi v12, qi v13, qu, qu, qi v16, qi v17, qu, qu, qu, qu, qu]) (S' := [.ref 1]) (H' := (qa scr :: bk0 zav zau zaw zao zaf zag zak zal zah zai zam zap zaq zar zas zac zad zae zat zbd zan zaj zax zbb zay zaz zbc zba [])) rfl ?_
              obtain ⟨r189, hq123, h⟩ := bnd h
              refine OEndsQ.call0 hm_0 rfl rfl (by decide) rfl (as := [.ref 1]) (rest := []) rfl rfl (ok_outLength hq123) ?_
              refine OEndsQ.adv hm_0 2 (pc' := 682) (L' := [qr 0, qr 1, qi v2, qi v3, qi v4, qi v5, qi v6, qi v7, qi v8, qi v9, qi v10, qi v11, qi v12, qi v13, qu, qu, qi v16, qi v17, qi r189, qu, qu, qu, qu]) (S' := [.int r189]) (H' := (qa scr :: bk0 zav zau zaw zao zaf zag zak zal zah zai zam zap zaq zar zas zac zad zae zat zbd zan zaj zax zbb zay zaz zbc zba [])) rfl ?_
              by_cases hc124 : r189 < (0 : Int32)
              · simp only [if_pos hc124] at h
                refine OEndsQ.ifT hm_0 rfl (q := 692) rfl ((tlt hc124).1) ?_
                refine OEndsQ.adv hm_0 1 (pc' := 693) (L' := [qr 0, qr 1, qi v2, qi v3, qi v4, qi v5, qi v6, qi v7, qi v8, qi v9, qi v10, qi v11, qi v12, qi v13, qu, qu, qi v16, qi v17, qi r189, qu, qu, qu, qu]) (S' := [.int 0]) (H' := (qa scr :: bk0 zav zau zaw zao zaf zag zak zal zah zai zam zap zaq zar zas zac zad zae zat zbd zan zaj zax zbb zay zaz zbc zba [])) rfl ?_
                cases h
                exact OEndsQ.iret hm_0 rfl rfl
              · simp only [if_neg hc124] at h
                refine OEndsQ.ifF hm_0 rfl ((flt hc124).1) ?_
                refine OEndsQ.adv hm_0 2 (pc' := 689) (L' := [qr 0, qr 1, qi v2, qi v3, qi v4, qi v5, qi v6, qi v7, qi v8, qi v9, qi v10, qi v11, qi v12, qi v13, qu, qu, qi v16, qi v17, qi r189, qu, qu, qu, qu]) (S' := [.int v6, .int r189]) (H' := (qa scr :: bk0 zav zau zaw zao zaf zag zak zal zah zai zam zap zaq zar zas zac zad zae zat zbd zan zaj zax zbb zay zaz zbc zba [])) rfl ?_
                by_cases hc125 : v6 < r189
                · simp only [if_pos hc125] at h
                  refine OEndsQ.icmpF hm_0 rfl ((tlt hc125).2.2.2) ?_
                  refine OEndsQ.adv hm_0 1 (pc' := 693) (L' := [qr 0, qr 1, qi v2, qi v3, qi v4, qi v5, qi v6, qi v7, qi v8, qi v9, qi v10, qi v11, qi v12, qi v13, qu, qu, qi v16, qi v17, qi r189, qu, qu, qu, qu]) (S' := [.int 0]) (H' := (qa scr :: bk0 zav zau zaw zao zaf zag zak zal zah zai zam zap zaq zar zas zac zad zae zat zbd zan zaj zax zbb zay zaz zbc zba [])) rfl ?_
                  cases h
                  exact OEndsQ.iret hm_0 rfl rfl
                · simp only [if_neg hc125] at h
                  refine OEndsQ.icmpT hm_0 rfl (q := 694) rfl ((flt hc125).2.2.2) ?_
                  refine OEndsQ.adv hm_0 2 (pc' := 44) (L' := [qr 0, qr 1, qi v2, qi v3, qi v4, qi v5, qi v6, qi v7, qi v8, qi v9, qi v10, qi v11, qi v12, qi (v13 + (2 : Int32)), qu, qu, qi v16, qi v17, qi r189, qu, qu, qu, qu]) (S' := []) (H' := (qa scr :: bk0 zav zau zaw zao zaf zag zak zal zah zai zam zap zaq zar zas zac zad zae zat zbd zan zaj zax zbb zay zaz zbc zba [])) rfl ?_
                  exact hkb h
            · simp only [if_neg hc122] at h
              refine OEndsQ.icmpF hm_0 rfl ((feq hc122).1) ?_
              refine OEndsQ.adv hm_0 1 (pc' := 673) (L' := [qr 0, qr 1, qi v2, qi v3, qi v4, qi v5, qi v6, qi v7, qi v8, qi v9, qi v10, qi v11, qi v12, qi v13, qu, qu, qi v16, qi v17, qu, qu, qu, qu, qu]) (S' := [.int 0]) (H' := (qa scr :: bk0 zav zau zaw zao zaf zag zak zal zah zai zam zap zaq zar zas zac zad zae zat zbd zan zaj zax zbb zay zaz zbc zba [])) rfl ?_
              cases h
              exact OEndsQ.iret hm_0 rfl rfl
          · simp only [if_neg hc120] at h
            refine OEndsQ.icmpF hm_0 rfl ((feq hc120).1) ?_
            refine OEndsQ.adv hm_0 1 (pc' := 662) (L' := [qr 0, qr 1, qi v2, qi v3, qi v4, qi v5, qi v6, qi v7, qi v8, qi v9, qi v10, qi v11, qi v12, qi v13, qu, qu, qi v16, qi v17, qu, qu, qu, qu, qu]) (S' := [.int 0]) (H' := (qa scr :: bk0 zav zau zaw zao zaf zag zak zal zah zai zam zap zaq zar zas zac zad zae zat zbd zan zaj zax zbb zay zaz zbc zba [])) rfl ?_
            cases h
            exact OEndsQ.iret hm_0 rfl rfl
        · simp only [if_neg hc118] at h
          refine OEndsQ.icmpF hm_0 rfl ((feq hc118).1) ?_
          refine OEndsQ.adv hm_0 1 (pc' := 651) (L' := [qr 0, qr 1, qi v2, qi v3, qi v4, qi v5, qi v6, qi v7, qi v8, qi v9, qi v10, qi v11, qi v12, qi v13, qu, qu, qi v16, qi v17, qu, qu, qu, qu, qu]) (S' := [.int 0]) (H' := (qa scr :: bk0 zav zau zaw zao zaf zag zak zal zah zai zam zap zaq zar zas zac zad zae zat zbd zan zaj zax zbb zay zaz zbc zba [])) rfl ?_
          cases h
          exact OEndsQ.iret hm_0 rfl rfl
      · simp only [if_neg hc116] at h
        refine OEndsQ.icmpF hm_0 rfl ((feq hc116).1) ?_
        refine OEndsQ.adv hm_0 1 (pc' := 639) (L' := [qr 0, qr 1, qi v2, qi v3, qi v4, qi v5, qi v6, qi v7, qi v8, qi v9, qi v10, qi v11, qi v12, qi v13, qu, qu, qi v16, qi v17, qu, qu, qu, qu, qu]) (S' := [.int 0]) (H' := (qa scr :: bk0 zav zau zaw zao zaf zag zak zal zah zai zam zap zaq zar zas zac zad zae zat zbd zan zaj zax zbb zay zaz zbc zba [])) rfl ?_
        cases h
        exact OEndsQ.iret hm_0 rfl rfl
    · simp only [if_neg hc114] at h
      refine OEndsQ.icmpF hm_0 rfl ((feq hc114).1) ?_
      refine OEndsQ.adv hm_0 1 (pc' := 629) (L' := [qr 0, qr 1, qi v2, qi v3, qi v4, qi v5, qi v6, qi v7, qi v8, qi v9, qi v10, qi v11, qi v12, qi v13, qu, qu, qi v16, qi v17, qu, qu, qu, qu, qu]) (S' := [.int 0]) (H' := (qa scr :: bk0 zav zau zaw zao zaf zag zak zal zah zai zam zap zaq zar zas zac zad zae zat zbd zan zaj zax zbb zay zaz zbc zba [])) rfl ?_
      cases h
      exact OEndsQ.iret hm_0 rfl rfl
  · simp only [if_neg hc112] at h
    refine OEndsQ.icmpF hm_0 rfl ((feq hc112).1) ?_
    refine OEndsQ.adv hm_0 1 (pc' := 619) (L' := [qr 0, qr 1, qi v2, qi v3, qi v4, qi v5, qi v6, qi v7, qi v8, qi v9, qi v10, qi v11, qi v12, qi v13, qu, qu, qi v16, qi v17, qu, qu, qu, qu, qu]) (S' := [.int 0]) (H' := (qa scr :: bk0 zav zau zaw zao zaf zag zak zal zah zai zam zap zaq zar zas zac zad zae zat zbd zan zaj zax zbb zay zaz zbc zba [])) rfl ?_
    cases h
    exact OEndsQ.iret hm_0 rfl rfl
theorem ok_L_law_433 {scr : List Int32} {kb : List Int32 → List Int32 → List Int32 → List Int32 → List Int32 → List Int32 → List Int32 → List Int32 → List Int32 → List Int32 → List Int32 → List Int32 → List Int32 → List Int32 → List Int32 → Int32 → Int32 → Int32 → Int32 → Int32 → Int32 → Int32 → Int32 → Int32 → Int32 → Int32 → Int32 → Int32 → Int32 → Int32 → Int32 → Int32 → Int32 → Int32 → Int32 → Int32 → Int32 → Int32 → Int32 → Int32 → Option (Int32)} (hkb : ∀ {zav zau zaw zao zaf zag zak zal zah zai zam zap zaq zar zas : List Int32} {zac zad zae zat zbd zan zaj zax zbb zay zaz zbc zba v2 v3 v4 v5 v6 v7 v8 v9 v10 v11 v12 v13 : Int32} {d14 d15 d16 d17 d18 d19 d20 d21 d22 : Slot} {res : Int32}, kb zav zau zaw zao zaf zag zak zal zah zai zam zap zaq zar zas zac zad zae zat zbd zan zaj zax zbb zay zaz zbc zba v2 v3 v4 v5 v6 v7 v8 v9 v10 v11 v12 v13 = some res → OEndsQ own_P 0 44 [qr 0, qr 1, qi v2, qi v3, qi v4, qi v5, qi v6, qi v7, qi v8, qi v9, qi v10, qi v11, qi v12, qi v13, d14, d15, d16, d17, d18, d19, d20, d21, d22] [] (qa scr :: bk0 zav zau zaw zao zaf zag zak zal zah zai zam zap zaq zar zas zac zad zae zat zbd zan zaj zax zbb zay zaz zbc zba []) (LawQ res 0 0)) : ∀ {zav zau zaw zao zaf zag zak zal zah zai zam zap zaq zar zas : List Int32} {zac zad zae zat zbd zan zaj zax zbb zay zaz zbc zba v2 v3 v4 v5 v6 v7 v8 v9 v10 v11 v12 v13 v18 : Int32} {d14 d15 d16 d17 d19 d20 d21 d22 : Slot} {res : Int32}, f_L_law_433 kb scr zav zau zaw zao zaf zag zak zal zah zai zam zap zaq zar zas zac zad zae zat zbd zan zaj zax zbb zay zaz zbc zba v2 v3 v4 v5 v6 v7 v8 v9 v10 v11 v12 v13 v18 = some res → OEndsQ own_P 0 433 [qr 0, qr 1, qi v2, qi v3, qi v4, qi v5, qi v6, qi v7, qi v8, qi v9, qi v10, qi v11, qi v12, qi v13, d14, d15, d16, d17, qi v18, d19, d20, d21, d22] [] (qa scr :: bk0 zav zau zaw zao zaf zag zak zal zah zai zam zap zaq zar zas zac zad zae zat zbd zan zaj zax zbb zay zaz zbc zba []) (LawQ res 0 0) := by
  intro zav zau zaw zao zaf zag zak zal zah zai zam zap zaq zar zas zac zad zae zat zbd zan zaj zax zbb zay zaz zbc zba v2 v3 v4 v5 v6 v7 v8 v9 v10 v11 v12 v13 v18 d14 d15 d16 d17 d19 d20 d21 d22 res h
  unfold f_L_law_433 at h
  refine OEndsQ.adv hm_0 2 (pc' := 436) (L' := [qr 0, qr 1, qi v2, qi v3, qi v4, qi v5, qi v6, qi v7, qi v8, qi v9, qi v10, qi v11, qi v12, qi v13, qu, qu, qu, qu, qi v18, qu, qu, qu, qu]) (S' := [.int v18, .ref 1]) (H' := (qa scr :: bk0 zav zau zaw zao zaf zag zak zal zah zai zam zap zaq zar zas zac zad zae zat zbd zan zaj zax zbb zay zaz zbc zba [])) rfl ?_
  obtain ⟨⟨r190, s191, s192, s193, s194, s195, s196, s197, s198, s199, s200⟩, hq126, h⟩ := bnd h
  refine OEndsQ.call0 hm_0 rfl rfl (by decide) rfl (as := [.ref 1, .int v18]) (rest := []) rfl rfl (ok_feed hq126) ?_
  refine OEndsQ.adv hm_0 3 (pc' := 443) (L' := [qr 0, qr 1, qi v2, qi v3, qi v4, qi v5, qi v6, qi v7, qi v8, qi v9, qi v10, qi v11, qi v12, qi v13, qu, qu, qi r190, qu, qi v18, qu, qu, qu, qu]) (S' := [.int 1, .int v2]) (H' := (qa scr :: bk0 zav zau zaw zao zaf zag zak zal zah zai zam s191 s192 s193 s194 zac zad zae zat zbd zan zaj s195 s196 s197 s198 s199 s200 [])) rfl ?_
  by_cases hc127 : v2 = (1 : Int32)
  · simp only [if_pos hc127] at h
    refine OEndsQ.icmpT hm_0 rfl (q := 452) rfl ((teq hc127).1) ?_
    refine OEndsQ.adv hm_0 2 (pc' := 456) (L' := [qr 0, qr 1, qi v2, qi v3, qi v4, qi v5, qi v6, qi v7, qi v8, qi v9, qi v10, qi v11, qi v12, qi v13, qu, qu, qi r190, qu, qi v18, qu, qu, qu, qu]) (S' := [.int 127, .int v18]) (H' := (qa scr :: bk0 zav zau zaw zao zaf zag zak zal zah zai zam s191 s192 s193 s194 zac zad zae zat zbd zan zaj s195 s196 s197 s198 s199 s200 [])) rfl ?_
    by_cases hc128 : v18 = (127 : Int32)
    · simp only [if_pos hc128] at h
      refine OEndsQ.icmpF hm_0 rfl ((teq hc128).2) ?_
      refine OEndsQ.adv hm_0 3 (pc' := 611) (L' := [qr 0, qr 1, qi v2, qi v3, qi v4, qi v5, qi v6, qi v7, qi v8, qi v9, qi v10, qi v11, qi v12, qi v13, qu, qu, qi r190, qi (-2), qi v18, qu, qu, qu, qu]) (S' := []) (H' := (qa scr :: bk0 zav zau zaw zao zaf zag zak zal zah zai zam s191 s192 s193 s194 zac zad zae zat zbd zan zaj s195 s196 s197 s198 s199 s200 [])) rfl ?_
      exact ok_L_law_611 hkb h
    · simp only [if_neg hc128] at h
      refine OEndsQ.icmpT hm_0 rfl (q := 466) rfl ((feq hc128).2) ?_
      refine OEndsQ.adv hm_0 2 (pc' := 471) (L' := [qr 0, qr 1, qi v2, qi v3, qi v4, qi v5, qi v6, qi v7, qi v8, qi v9, qi v10, qi v11, qi v12, qi v13, qu, qu, qi r190, qu, qi v18, qu, qu, qu, qu]) (S' := [.int 240, .int v6]) (H' := (qa scr :: bk0 zav zau zaw zao zaf zag zak zal zah zai zam s191 s192 s193 s194 zac zad zae zat zbd zan zaj s195 s196 s197 s198 s199 s200 [])) rfl ?_
      by_cases hc129 : v6 = (240 : Int32)
      · simp only [if_pos hc129] at h
        refine OEndsQ.icmpF hm_0 rfl ((teq hc129).2) ?_
        refine OEndsQ.adv hm_0 3 (pc' := 611) (L' := [qr 0, qr 1, qi v2, qi v3, qi v4, qi v5, qi v6, qi v7, qi v8, qi v9, qi v10, qi v11, qi v12, qi v13, qu, qu, qi r190, qi (-3), qi v18, qu, qu, qu, qu]) (S' := []) (H' := (qa scr :: bk0 zav zau zaw zao zaf zag zak zal zah zai zam s191 s192 s193 s194 zac zad zae zat zbd zan zaj s195 s196 s197 s198 s199 s200 [])) rfl ?_
        exact ok_L_law_611 hkb h
      · simp only [if_neg hc129] at h
        refine OEndsQ.icmpT hm_0 rfl (q := 481) rfl ((feq hc129).2) ?_
        refine OEndsQ.adv hm_0 15 (pc' := 507) (L' := [qr 0, qr 1, qi v2, qi v3, qi v4, qi v5, qi (v6 + (1 : Int32)), qi (((v7 * (16 : Int32)) + (v18 - (96 : Int32))) &&& (4095 : Int32)), qi v8, qi v9, qi v10, qi v11, qi v12, qi v13, qu, qu, qi r190, qu, qi v18, qu, qu, qu, qu]) (S' := [.int (((v7 * (16 : Int32)) + (v18 - (96 : Int32))) &&& (4095 : Int32)), .int v9, .int 0, .int v3]) (H' := (qa scr :: bk0 zav zau zaw zao zaf zag zak zal zah zai zam s191 s192 s193 s194 zac zad zae zat zbd zan zaj s195 s196 s197 s198 s199 s200 [])) rfl ?_
        obtain ⟨r201, hq130, h⟩ := bnd h
        refine OEndsQ.call0 hm_0 rfl rfl (by decide) rfl (as := [.int v3, .int 0, .int v9, .int (((v7 * (16 : Int32)) + (v18 - (96 : Int32))) &&& (4095 : Int32))]) (rest := []) rfl rfl (ok_L_hit hq130) ?_
        refine OEndsQ.adv hm_0 5 (pc' := 518) (L' := [qr 0, qr 1, qi v2, qi v3, qi v4, qi v5, qi (v6 + (1 : Int32)), qi (((v7 * (16 : Int32)) + (v18 - (96 : Int32))) &&& (4095 : Int32)), qi v8, qi v9, qi v10, qi v11, qi v12, qi v13, qu, qu, qi r190, qu, qi v18, qi r201, qu, qu, qu]) (S' := [.int (((v7 * (16 : Int32)) + (v18 - (96 : Int32))) &&& (4095 : Int32)), .int v10, .int 1, .int v3]) (H' := (qa scr :: bk0 zav zau zaw zao zaf zag zak zal zah zai zam s191 s192 s193 s194 zac zad zae zat zbd zan zaj s195 s196 s197 s198 s199 s200 [])) rfl ?_
        obtain ⟨r202, hq131, h⟩ := bnd h
        refine OEndsQ.call0 hm_0 rfl rfl (by decide) rfl (as := [.int v3, .int 1, .int v10, .int (((v7 * (16 : Int32)) + (v18 - (96 : Int32))) &&& (4095 : Int32))]) (rest := []) rfl rfl (ok_L_hit hq131) ?_
        refine OEndsQ.adv hm_0 5 (pc' := 529) (L' := [qr 0, qr 1, qi v2, qi v3, qi v4, qi v5, qi (v6 + (1 : Int32)), qi (((v7 * (16 : Int32)) + (v18 - (96 : Int32))) &&& (4095 : Int32)), qi v8, qi v9, qi v10, qi v11, qi v12, qi v13, qu, qu, qi r190, qu, qi v18, qi r201, qi r202, qu, qu]) (S' := [.int (((v7 * (16 : Int32)) + (v18 - (96 : Int32))) &&& (4095 : Int32)), .int v11, .int 2, .int v3]) (H' := (qa scr :: bk0 zav zau zaw zao zaf zag zak zal zah zai zam s191 s192 s193 s194 zac zad zae zat zbd zan zaj s195 s196 s197 s198 s199 s200 [])) rfl ?_
        obtain ⟨r203, hq132, h⟩ := bnd h
        refine OEndsQ.call0 hm_0 rfl rfl (by decide) rfl (as := [.int v3, .int 2, .int v11, .int (((v7 * (16 : Int32)) + (v18 - (96 : Int32))) &&& (4095 : Int32))]) (rest := []) rfl rfl (ok_L_hit hq132) ?_
        refine OEndsQ.adv hm_0 5 (pc' := 540) (L' := [qr 0, qr 1, qi v2, qi v3, qi v4, qi v5, qi (v6 + (1 : Int32)), qi (((v7 * (16 : Int32)) + (v18 - (96 : Int32))) &&& (4095 : Int32)), qi v8, qi v9, qi v10, qi v11, qi v12, qi v13, qu, qu, qi r190, qu, qi v18, qi r201, qi r202, qi r203, qu]) (S' := [.int (((v7 * (16 : Int32)) + (v18 - (96 : Int32))) &&& (4095 : Int32)), .int v12, .int 3, .int v3]) (H' := (qa scr :: bk0 zav zau zaw zao zaf zag zak zal zah zai zam s191 s192 s193 s194 zac zad zae zat zbd zan zaj s195 s196 s197 s198 s199 s200 [])) rfl ?_
        obtain ⟨r204, hq133, h⟩ := bnd h
        refine OEndsQ.call0 hm_0 rfl rfl (by decide) rfl (as := [.int v3, .int 3, .int v12, .int (((v7 * (16 : Int32)) + (v18 - (96 : Int32))) &&& (4095 : Int32))]) (rest := []) rfl rfl (ok_L_hit hq133) ?_
        refine OEndsQ.adv hm_0 17 (pc' := 570) (L' := [qr 0, qr 1, qi v2, qi v3, qi v4, qi v5, qi (v6 + (1 : Int32)), qi (((v7 * (16 : Int32)) + (v18 - (96 : Int32))) &&& (4095 : Int32)), qi (v8 + (((r201 + r202) + r203) + r204)), qi v9, qi v10, qi v11, qi v12, qi v13, qu, qu, qi r190, qi (((r201 + r202) + r203) + r204), qi v18, qi r201, qi r202, qi r203, qi r204]) (S' := [.int ((v6 + (1 : Int32)) - (1 : Int32)), .ref 1]) (H' := (qa scr :: bk0 zav zau zaw zao zaf zag zak zal zah zai zam s191 s192 s193 s194 zac zad zae zat zbd zan zaj s195 s196 s197 s198 s199 s200 [])) rfl ?_
        obtain ⟨r205, hq134, h⟩ := bnd h
        refine OEndsQ.call0 hm_0 rfl rfl (by decide) rfl (as := [.ref 1, .int ((v6 + (1 : Int32)) - (1 : Int32))]) (rest := []) rfl rfl (ok_occurrenceMask hq134) ?_
        refine OEndsQ.adv hm_0 13 (pc' := 591) (L' := [qr 0, qr 1, qi v2, qi v3, qi v4, qi v5, qi (v6 + (1 : Int32)), qi (((v7 * (16 : Int32)) + (v18 - (96 : Int32))) &&& (4095 : Int32)), qi (v8 + (((r201 + r202) + r203) + r204)), qi v9, qi v10, qi v11, qi v12, qi v13, qu, qu, qi r190, qi (((r201 + r202) + r203) + r204), qi v18, qi r201, qi r202, qi r203, qi r204]) (S' := [.int (((r201 + ((2 : Int32) * r202)) + ((4 : Int32) * r203)) + ((8 : Int32) * r204)), .int r205]) (H' := (qa scr :: bk0 zav zau zaw zao zaf zag zak zal zah zai zam s191 s192 s193 s194 zac zad zae zat zbd zan zaj s195 s196 s197 s198 s199 s200 [])) rfl ?_
        by_cases hc135 : r205 = (((r201 + ((2 : Int32) * r202)) + ((4 : Int32) * r203)) + ((8 : Int32) * r204))
        · simp only [if_pos hc135] at h
          refine OEndsQ.icmpT hm_0 rfl (q := 596) rfl ((teq hc135).1) ?_
          refine OEndsQ.adv hm_0 4 (pc' := 601) (L' := [qr 0, qr 1, qi v2, qi v3, qi v4, qi v5, qi (v6 + (1 : Int32)), qi (((v7 * (16 : Int32)) + (v18 - (96 : Int32))) &&& (4095 : Int32)), qi (v8 + (((r201 + r202) + r203) + r204)), qi v9, qi v10, qi v11, qi v12, qi v13, qu, qu, qi r190, qi (((r201 + r202) + r203) + r204), qi v18, qi r201, qi r202, qi r203, qi r204]) (S' := [.int ((v6 + (1 : Int32)) - (1 : Int32)), .ref 1]) (H' := (qa scr :: bk0 zav zau zaw zao zaf zag zak zal zah zai zam s191 s192 s193 s194 zac zad zae zat zbd zan zaj s195 s196 s197 s198 s199 s200 [])) rfl ?_
          obtain ⟨r206, hq136, h⟩ := bnd h
          refine OEndsQ.call0 hm_0 rfl rfl (by decide) rfl (as := [.ref 1, .int ((v6 + (1 : Int32)) - (1 : Int32))]) (rest := []) rfl rfl (ok_textChar hq136) ?_
          refine OEndsQ.adv hm_0 1 (pc' := 606) (L' := [qr 0, qr 1, qi v2, qi v3, qi v4, qi v5, qi (v6 + (1 : Int32)), qi (((v7 * (16 : Int32)) + (v18 - (96 : Int32))) &&& (4095 : Int32)), qi (v8 + (((r201 + r202) + r203) + r204)), qi v9, qi v10, qi v11, qi v12, qi v13, qu, qu, qi r190, qi (((r201 + r202) + r203) + r204), qi v18, qi r201, qi r202, qi r203, qi r204]) (S' := [.int v18, .int r206]) (H' := (qa scr :: bk0 zav zau zaw zao zaf zag zak zal zah zai zam s191 s192 s193 s194 zac zad zae zat zbd zan zaj s195 s196 s197 s198 s199 s200 [])) rfl ?_
          by_cases hc137 : r206 = v18
          · simp only [if_pos hc137] at h
            refine OEndsQ.icmpT hm_0 rfl (q := 611) rfl ((teq hc137).1) ?_
            show OEndsQ own_P 0 611 [qr 0, qr 1, qi v2, qi v3, qi v4, qi v5, qi (v6 + (1 : Int32)), qi (((v7 * (16 : Int32)) + (v18 - (96 : Int32))) &&& (4095 : Int32)), qi (v8 + (((r201 + r202) + r203) + r204)), qi v9, qi v10, qi v11, qi v12, qi v13, qu, qu, qi r190, qi (((r201 + r202) + r203) + r204), qi v18, qi r201, qi r202, qi r203, qi r204] [] (qa scr :: bk0 zav zau zaw zao zaf zag zak zal zah zai zam s191 s192 s193 s194 zac zad zae zat zbd zan zaj s195 s196 s197 s198 s199 s200 []) _
            exact ok_L_law_611 hkb h
          · simp only [if_neg hc137] at h
            refine OEndsQ.icmpF hm_0 rfl ((feq hc137).1) ?_
            refine OEndsQ.adv hm_0 1 (pc' := 610) (L' := [qr 0, qr 1, qi v2, qi v3, qi v4, qi v5, qi (v6 + (1 : Int32)), qi (((v7 * (16 : Int32)) + (v18 - (96 : Int32))) &&& (4095 : Int32)), qi (v8 + (((r201 + r202) + r203) + r204)), qi v9, qi v10, qi v11, qi v12, qi v13, qu, qu, qi r190, qi (((r201 + r202) + r203) + r204), qi v18, qi r201, qi r202, qi r203, qi r204]) (S' := [.int 0]) (H' := (qa scr :: bk0 zav zau zaw zao zaf zag zak zal zah zai zam s191 s192 s193 s194 zac zad zae zat zbd zan zaj s195 s196 s197 s198 s199 s200 [])) rfl ?_
            cases h
            exact OEndsQ.iret hm_0 rfl rfl
        · simp only [if_neg hc135] at h
          refine OEndsQ.icmpF hm_0 rfl ((feq hc135).1) ?_
          refine OEndsQ.adv hm_0 1 (pc' := 595) (L' := [qr 0, qr 1, qi v2, qi v3, qi v4, qi v5, qi (v6 + (1 : Int32)), qi (((v7 * (16 : Int32)) + (v18 - (96 : Int32))) &&& (4095 : Int32)), qi (v8 + (((r201 + r202) + r203) + r204)), qi v9, qi v10, qi v11, qi v12, qi v13, qu, qu, qi r190, qi (((r201 + r202) + r203) + r204), qi v18, qi r201, qi r202, qi r203, qi r204]) (S' := [.int 0]) (H' := (qa scr :: bk0 zav zau zaw zao zaf zag zak zal zah zai zam s191 s192 s193 s194 zac zad zae zat zbd zan zaj s195 s196 s197 s198 s199 s200 [])) rfl ?_
          cases h
          exact OEndsQ.iret hm_0 rfl rfl
  · simp only [if_neg hc127] at h
    refine OEndsQ.icmpF hm_0 rfl ((feq hc127).1) ?_
    refine OEndsQ.adv hm_0 3 (pc' := 611) (L' := [qr 0, qr 1, qi v2, qi v3, qi v4, qi v5, qi v6, qi v7, qi v8, qi v9, qi v10, qi v11, qi v12, qi v13, qu, qu, qi r190, qi (-1), qi v18, qu, qu, qu, qu]) (S' := []) (H' := (qa scr :: bk0 zav zau zaw zao zaf zag zak zal zah zai zam s191 s192 s193 s194 zac zad zae zat zbd zan zaj s195 s196 s197 s198 s199 s200 [])) rfl ?_
    exact ok_L_law_611 hkb h
theorem ok_L_law_296 {scr : List Int32} {kb : List Int32 → List Int32 → List Int32 → List Int32 → List Int32 → List Int32 → List Int32 → List Int32 → List Int32 → List Int32 → List Int32 → List Int32 → List Int32 → List Int32 → List Int32 → Int32 → Int32 → Int32 → Int32 → Int32 → Int32 → Int32 → Int32 → Int32 → Int32 → Int32 → Int32 → Int32 → Int32 → Int32 → Int32 → Int32 → Int32 → Int32 → Int32 → Int32 → Int32 → Int32 → Int32 → Int32 → Option (Int32)} (hkb : ∀ {zav zau zaw zao zaf zag zak zal zah zai zam zap zaq zar zas : List Int32} {zac zad zae zat zbd zan zaj zax zbb zay zaz zbc zba v2 v3 v4 v5 v6 v7 v8 v9 v10 v11 v12 v13 : Int32} {d14 d15 d16 d17 d18 d19 d20 d21 d22 : Slot} {res : Int32}, kb zav zau zaw zao zaf zag zak zal zah zai zam zap zaq zar zas zac zad zae zat zbd zan zaj zax zbb zay zaz zbc zba v2 v3 v4 v5 v6 v7 v8 v9 v10 v11 v12 v13 = some res → OEndsQ own_P 0 44 [qr 0, qr 1, qi v2, qi v3, qi v4, qi v5, qi v6, qi v7, qi v8, qi v9, qi v10, qi v11, qi v12, qi v13, d14, d15, d16, d17, d18, d19, d20, d21, d22] [] (qa scr :: bk0 zav zau zaw zao zaf zag zak zal zah zai zam zap zaq zar zas zac zad zae zat zbd zan zaj zax zbb zay zaz zbc zba []) (LawQ res 0 0)) : ∀ {zav zau zaw zao zaf zag zak zal zah zai zam zap zaq zar zas : List Int32} {zac zad zae zat zbd zan zaj zax zbb zay zaz zbc zba v2 v3 v6 v7 v8 v9 v10 v11 v12 v13 v16 v17 : Int32} {d4 d5 d14 d15 d18 d19 d20 d21 d22 : Slot} {res : Int32}, f_L_law_296 kb scr zav zau zaw zao zaf zag zak zal zah zai zam zap zaq zar zas zac zad zae zat zbd zan zaj zax zbb zay zaz zbc zba v2 v3 v6 v7 v8 v9 v10 v11 v12 v13 v16 v17 = some res → OEndsQ own_P 0 296 [qr 0, qr 1, qi v2, qi v3, d4, d5, qi v6, qi v7, qi v8, qi v9, qi v10, qi v11, qi v12, qi v13, d14, d15, qi v16, qi v17, d18, d19, d20, d21, d22] [] (qa scr :: bk0 zav zau zaw zao zaf zag zak zal zah zai zam zap zaq zar zas zac zad zae zat zbd zan zaj zax zbb zay zaz zbc zba []) (LawQ res 0 0) := by
  intro zav zau zaw zao zaf zag zak zal zah zai zam zap zaq zar zas zac zad zae zat zbd zan zaj zax zbb zay zaz zbc zba v2 v3 v6 v7 v8 v9 v10 v11 v12 v13 v16 v17 d4 d5 d14 d15 d18 d19 d20 d21 d22 res h
  unfold f_L_law_296 at h
  refine OEndsQ.adv hm_0 6 (pc' := 611) (L' := [qr 0, qr 1, qi v2, qi (v3 + (1 : Int32)), qi 0, qi 0, qi v6, qi v7, qi v8, qi v9, qi v10, qi v11, qi v12, qi v13, qu, qu, qi v16, qi v17, qu, qu, qu, qu, qu]) (S' := []) (H' := (qa scr :: bk0 zav zau zaw zao zaf zag zak zal zah zai zam zap zaq zar zas zac zad zae zat zbd zan zaj zax zbb zay zaz zbc zba [])) rfl ?_
  exact ok_L_law_611 hkb h
theorem ok_L_law_44 {scr : List Int32} : ∀ (n : Nat), ∀ {zav zau zaw zao zaf zag zak zal zah zai zam zap zaq zar zas : List Int32} {zac zad zae zat zbd zan zaj zax zbb zay zaz zbc zba v2 v3 v4 v5 v6 v7 v8 v9 v10 v11 v12 v13 : Int32} {d14 d15 d16 d17 d18 d19 d20 d21 d22 : Slot} {res : Int32}, f_L_law_44 scr n zav zau zaw zao zaf zag zak zal zah zai zam zap zaq zar zas zac zad zae zat zbd zan zaj zax zbb zay zaz zbc zba v2 v3 v4 v5 v6 v7 v8 v9 v10 v11 v12 v13 = some res → OEndsQ own_P 0 44 [qr 0, qr 1, qi v2, qi v3, qi v4, qi v5, qi v6, qi v7, qi v8, qi v9, qi v10, qi v11, qi v12, qi v13, d14, d15, d16, d17, d18, d19, d20, d21, d22] [] (qa scr :: bk0 zav zau zaw zao zaf zag zak zal zah zai zam zap zaq zar zas zac zad zae zat zbd zan zaj zax zbb zay zaz zbc zba []) (LawQ res 0 0) := by
  intro n
  induction n with
  | zero => intro zav zau zaw zao zaf zag zak zal zah zai zam zap zaq zar zas zac zad zae zat zbd zan zaj zax zbb zay zaz zbc zba v2 v3 v4 v5 v6 v7 v8 v9 v10 v11 v12 v13 d14 d15 d16 d17 d18 d19 d20 d21 d22 res h; cases h
  | succ n ih =>
    intro zav zau zaw zao zaf zag zak zal zah zai zam zap zaq zar zas zac zad zae zat zbd zan zaj zax zbb zay zaz zbc zba v2 v3 v4 v5 v6 v7 v8 v9 v10 v11 v12 v13 d14 d15 d16 d17 d18 d19 d20 d21 d22 res h
    unfold f_L_law_44 at h
    refine OEndsQ.adv hm_0 5 (pc' := 50) (L' := [qr 0, qr 1, qi v2, qi v3, qi v4, qi v5, qi v6, qi v7, qi v8, qi v9, qi v10, qi v11, qi v12, qi v13, qu, qu, qu, qu, qu, qu, qu, qu, qu]) (S' := [.int scr.length.toInt32, .int (v13 + (1 : Int32))]) (H' := (qa scr :: bk0 zav zau zaw zao zaf zag zak zal zah zai zam zap zaq zar zas zac zad zae zat zbd zan zaj zax zbb zay zaz zbc zba [])) rfl ?_
    by_cases hc138 : (v13 + (1 : Int32)) < scr.length.toInt32
    · simp only [if_pos hc138] at h
      refine OEndsQ.icmpF hm_0 rfl ((tlt hc138).2.1) ?_
      refine OEndsQ.adv hm_0 2 (pc' := 56) (L' := [qr 0, qr 1, qi v2, qi v3, qi v4, qi v5, qi v6, qi v7, qi v8, qi v9, qi v10, qi v11, qi v12, qi v13, qu, qu, qu, qu, qu, qu, qu, qu, qu]) (S' := [.int v13, .ref 0]) (H' := (qa scr :: bk0 zav zau zaw zao zaf zag zak zal zah zai zam zap zaq zar zas zac zad zae zat zbd zan zaj zax zbb zay zaz zbc zba [])) rfl ?_
      obtain ⟨x149, hx149, h⟩ := bnd h
      refine OEndsQ.plain hm_0 rfl rfl (x_iaload rfl hx149) ?_
      refine OEndsQ.adv hm_0 7 (pc' := 67) (L' := [qr 0, qr 1, qi v2, qi v3, qi v4, qi v5, qi v6, qi v7, qi v8, qi v9, qi v10, qi v11, qi v12, qi v13, qi (x149 &&& (7 : Int32)), qu, qu, qu, qu, qu, qu, qu, qu]) (S' := [.int (v13 + (1 : Int32)), .ref 0]) (H' := (qa scr :: bk0 zav zau zaw zao zaf zag zak zal zah zai zam zap zaq zar zas zac zad zae zat zbd zan zaj zax zbb zay zaz zbc zba [])) rfl ?_
      obtain ⟨x150, hx150, h⟩ := bnd h
      refine OEndsQ.plain hm_0 rfl rfl (x_iaload rfl hx150) ?_
      refine OEndsQ.adv hm_0 3 (pc' := 73) (L' := [qr 0, qr 1, qi v2, qi v3, qi v4, qi v5, qi v6, qi v7, qi v8, qi v9, qi v10, qi v11, qi v12, qi v13, qi (x149 &&& (7 : Int32)), qi x150, qu, qu, qu, qu, qu, qu, qu]) (S' := [.int 1, .int (x149 &&& (7 : Int32))]) (H' := (qa scr :: bk0 zav zau zaw zao zaf zag zak zal zah zai zam zap zaq zar zas zac zad zae zat zbd zan zaj zax zbb zay zaz zbc zba [])) rfl ?_
      by_cases hc139 : (1 : Int32) < (x149 &&& (7 : Int32))
      · simp only [if_pos hc139] at h
        refine OEndsQ.icmpT hm_0 rfl (q := 159) rfl ((tlt hc139).2.2.1) ?_
        refine OEndsQ.adv hm_0 2 (pc' := 162) (L' := [qr 0, qr 1, qi v2, qi v3, qi v4, qi v5, qi v6, qi v7, qi v8, qi v9, qi v10, qi v11, qi v12, qi v13, qi (x149 &&& (7 : Int32)), qi x150, qu, qu, qu, qu, qu, qu, qu]) (S' := [.int 2, .int (x149 &&& (7 : Int32))]) (H' := (qa scr :: bk0 zav zau zaw zao zaf zag zak zal zah zai zam zap zaq zar zas zac zad zae zat zbd zan zaj zax zbb zay zaz zbc zba [])) rfl ?_
        by_cases hc140 : (x149 &&& (7 : Int32)) = (2 : Int32)
        · simp only [if_pos hc140] at h
          refine OEndsQ.icmpF hm_0 rfl ((teq hc140).2) ?_
          refine OEndsQ.adv hm_0 8 (pc' := 178) (L' := [qr 0, qr 1, qi v2, qi v3, qi v4, qi v5, qi v6, qi v7, qi v8, qi v9, qi v10, qi v11, qi v12, qi v13, qi (x149 &&& (7 : Int32)), qi x150, qu, qu, qi ((31 : Int32) + (x150 &&& (63 : Int32))), qu, qu, qu, qu]) (S' := [.int ((31 : Int32) + (x150 &&& (63 : Int32))), .ref 1]) (H' := (qa scr :: bk0 zav zau zaw zao zaf zag zak zal zah zai zam zap zaq zar zas zac zad zae zat zbd zan zaj zax zbb zay zaz zbc zba [])) rfl ?_
          obtain ⟨⟨r175, s176, s177, s178, s179, s180⟩, hq141, h⟩ := bnd h
          refine OEndsQ.call0 hm_0 rfl rfl (by decide) rfl (as := [.ref 1, .int ((31 : Int32) + (x150 &&& (63 : Int32)))]) (rest := []) rfl rfl (ok_endKeyword hq141) ?_
          refine OEndsQ.adv hm_0 2 (pc' := 184) (L' := [qr 0, qr 1, qi v2, qi v3, qi v4, qi v5, qi v6, qi v7, qi v8, qi v9, qi v10, qi v11, qi v12, qi v13, qi (x149 &&& (7 : Int32)), qi x150, qi r175, qu, qi ((31 : Int32) + (x150 &&& (63 : Int32))), qu, qu, qu, qu]) (S' := [.int v2]) (H' := (qa scr :: bk0 s176 s177 s178 zao zaf zag zak zal zah zai zam zap zaq zar zas zac zad zae s179 s180 zan zaj zax zbb zay zaz zbc zba [])) rfl ?_
          by_cases hc142 : v2 = (0 : Int32)
          · simp only [if_pos hc142] at h
            refine OEndsQ.ifT hm_0 rfl (q := 193) rfl ((teq hc142).1) ?_
            refine OEndsQ.adv hm_0 1 (pc' := 195) (L' := [qr 0, qr 1, qi v2, qi v3, qi v4, qi v5, qi v6, qi v7, qi v8, qi v9, qi v10, qi v11, qi v12, qi v13, qi (x149 &&& (7 : Int32)), qi x150, qi r175, qu, qi ((31 : Int32) + (x150 &&& (63 : Int32))), qu, qu, qu, qu]) (S' := [.int v4]) (H' := (qa scr :: bk0 s176 s177 s178 zao zaf zag zak zal zah zai zam zap zaq zar zas zac zad zae s179 s180 zan zaj zax zbb zay zaz zbc zba [])) rfl ?_
            by_cases hc143 : v4 = (0 : Int32)
            · simp only [if_pos hc143] at h
              refine OEndsQ.ifF hm_0 rfl ((teq hc143).2) ?_
              refine OEndsQ.adv hm_0 4 (pc' := 611) (L' := [qr 0, qr 1, qi v2, qi v3, qi v4, qi v5, qi v6, qi v7, qi v8, qi v9, qi v10, qi v11, qi v12, qi v13, qi (x149 &&& (7 : Int32)), qi x150, qi r175, qi (-4), qi ((31 : Int32) + (x150 &&& (63 : Int32))), qu, qu, qu, qu]) (S' := []) (H' := (qa scr :: bk0 s176 s177 s178 zao zaf zag zak zal zah zai zam zap zaq zar zas zac zad zae s179 s180 zan zaj zax zbb zay zaz zbc zba [])) rfl ?_
              exact ok_L_law_611 ih h
            · simp only [if_neg hc143] at h
              refine OEndsQ.ifT hm_0 rfl (q := 205) rfl ((feq hc143).2) ?_
              refine OEndsQ.adv hm_0 2 (pc' := 209) (L' := [qr 0, qr 1, qi v2, qi v3, qi v4, qi v5, qi v6, qi v7, qi v8, qi v9, qi v10, qi v11, qi v12, qi v13, qi (x149 &&& (7 : Int32)), qi x150, qi r175, qu, qi ((31 : Int32) + (x150 &&& (63 : Int32))), qu, qu, qu, qu]) (S' := [.int 32, .int ((31 : Int32) + (x150 &&& (63 : Int32)))]) (H' := (qa scr :: bk0 s176 s177 s178 zao zaf zag zak zal zah zai zam zap zaq zar zas zac zad zae s179 s180 zan zaj zax zbb zay zaz zbc zba [])) rfl ?_
              by_cases hc144 : ((31 : Int32) + (x150 &&& (63 : Int32))) < (32 : Int32)
              · simp only [if_pos hc144] at h
                refine OEndsQ.icmpF hm_0 rfl ((tlt hc144).2.1) ?_
                refine OEndsQ.adv hm_0 4 (pc' := 611) (L' := [qr 0, qr 1, qi v2, qi v3, qi v4, qi v5, qi v6, qi v7, qi v8, qi v9, qi v10, qi v11, qi v12, qi v13, qi (x149 &&& (7 : Int32)), qi x150, qi r175, qi (-6), qi ((31 : Int32) + (x150 &&& (63 : Int32))), qu, qu, qu, qu]) (S' := []) (H' := (qa scr :: bk0 s176 s177 s178 zao zaf zag zak zal zah zai zam zap zaq zar zas zac zad zae s179 s180 zan zaj zax zbb zay zaz zbc zba [])) rfl ?_
                exact ok_L_law_611 ih h
              · simp only [if_neg hc144] at h
                refine OEndsQ.icmpT hm_0 rfl (q := 219) rfl ((flt hc144).2.1) ?_
                refine OEndsQ.adv hm_0 2 (pc' := 223) (L' := [qr 0, qr 1, qi v2, qi v3, qi v4, qi v5, qi v6, qi v7, qi v8, qi v9, qi v10, qi v11, qi v12, qi v13, qi (x149 &&& (7 : Int32)), qi x150, qi r175, qu, qi ((31 : Int32) + (x150 &&& (63 : Int32))), qu, qu, qu, qu]) (S' := [.int v9, .int v5]) (H' := (qa scr :: bk0 s176 s177 s178 zao zaf zag zak zal zah zai zam zap zaq zar zas zac zad zae s179 s180 zan zaj zax zbb zay zaz zbc zba [])) rfl ?_
                by_cases hc145 : v5 = v9
                · simp only [if_pos hc145] at h
                  refine OEndsQ.icmpT hm_0 rfl (q := 247) rfl ((teq hc145).1) ?_
                  refine OEndsQ.adv hm_0 4 (pc' := 611) (L' := [qr 0, qr 1, qi v2, qi v3, qi v4, qi v5, qi v6, qi v7, qi v8, qi v9, qi v10, qi v11, qi v12, qi v13, qi (x149 &&& (7 : Int32)), qi x150, qi r175, qi (-5), qi ((31 : Int32) + (x150 &&& (63 : Int32))), qu, qu, qu, qu]) (S' := []) (H' := (qa scr :: bk0 s176 s177 s178 zao zaf zag zak zal zah zai zam zap zaq zar zas zac zad zae s179 s180 zan zaj zax zbb zay zaz zbc zba [])) rfl ?_
                  exact ok_L_law_611 ih h
                · simp only [if_neg hc145] at h
                  refine OEndsQ.icmpF hm_0 rfl ((feq hc145).1) ?_
                  refine OEndsQ.adv hm_0 2 (pc' := 230) (L' := [qr 0, qr 1, qi v2, qi v3, qi v4, qi v5, qi v6, qi v7, qi v8, qi v9, qi v10, qi v11, qi v12, qi v13, qi (x149 &&& (7 : Int32)), qi x150, qi r175, qu, qi ((31 : Int32) + (x150 &&& (63 : Int32))), qu, qu, qu, qu]) (S' := [.int v10, .int v5]) (H' := (qa scr :: bk0 s176 s177 s178 zao zaf zag zak zal zah zai zam zap zaq zar zas zac zad zae s179 s180 zan zaj zax zbb zay zaz zbc zba [])) rfl ?_
                  by_cases hc146 : v5 = v10
                  · simp only [if_pos hc146] at h
                    refine OEndsQ.icmpT hm_0 rfl (q := 247) rfl ((teq hc146).1) ?_
                    refine OEndsQ.adv hm_0 4 (pc' := 611) (L' := [qr 0, qr 1, qi v2, qi v3, qi v4, qi v5, qi v6, qi v7, qi v8, qi v9, qi v10, qi v11, qi v12, qi v13, qi (x149 &&& (7 : Int32)), qi x150, qi r175, qi (-5), qi ((31 : Int32) + (x150 &&& (63 : Int32))), qu, qu, qu, qu]) (S' := []) (H' := (qa scr :: bk0 s176 s177 s178 zao zaf zag zak zal zah zai zam zap zaq zar zas zac zad zae s179 s180 zan zaj zax zbb zay zaz zbc zba [])) rfl ?_
                    exact ok_L_law_611 ih h
                  · simp only [if_neg hc146] at h
                    refine OEndsQ.icmpF hm_0 rfl ((feq hc146).1) ?_
                    refine OEndsQ.adv hm_0 2 (pc' := 237) (L' := [qr 0, qr 1, qi v2, qi v3, qi v4, qi v5, qi v6, qi v7, qi v8, qi v9, qi v10, qi v11, qi v12, qi v13, qi (x149 &&& (7 : Int32)), qi x150, qi r175, qu, qi ((31 : Int32) + (x150 &&& (63 : Int32))), qu, qu, qu, qu]) (S' := [.int v11, .int v5]) (H' := (qa scr :: bk0 s176 s177 s178 zao zaf zag zak zal zah zai zam zap zaq zar zas zac zad zae s179 s180 zan zaj zax zbb zay zaz zbc zba [])) rfl ?_
                    by_cases hc147 : v5 = v11
                    · simp only [if_pos hc147] at h
                      refine OEndsQ.icmpT hm_0 rfl (q := 247) rfl ((teq hc147).1) ?_
                      refine OEndsQ.adv hm_0 4 (pc' := 611) (L' := [qr 0, qr 1, qi v2, qi v3, qi v4, qi v5, qi v6, qi v7, qi v8, qi v9, qi v10, qi v11, qi v12, qi v13, qi (x149 &&& (7 : Int32)), qi x150, qi r175, qi (-5), qi ((31 : Int32) + (x150 &&& (63 : Int32))), qu, qu, qu, qu]) (S' := []) (H' := (qa scr :: bk0 s176 s177 s178 zao zaf zag zak zal zah zai zam zap zaq zar zas zac zad zae s179 s180 zan zaj zax zbb zay zaz zbc zba [])) rfl ?_
                      exact ok_L_law_611 ih h
                    · simp only [if_neg hc147] at h
                      refine OEndsQ.icmpF hm_0 rfl ((feq hc147).1) ?_
                      refine OEndsQ.adv hm_0 2 (pc' := 244) (L' := [qr 0, qr 1, qi v2, qi v3, qi v4, qi v5, qi v6, qi v7, qi v8, qi v9, qi v10, qi v11, qi v12, qi v13, qi (x149 &&& (7 : Int32)), qi x150, qi r175, qu, qi ((31 : Int32) + (x150 &&& (63 : Int32))), qu, qu, qu, qu]) (S' := [.int v12, .int v5]) (H' := (qa scr :: bk0 s176 s177 s178 zao zaf zag zak zal zah zai zam zap zaq zar zas zac zad zae s179 s180 zan zaj zax zbb zay zaz zbc zba [])) rfl ?_
                      by_cases hc148 : v5 = v12
                      · simp only [if_pos hc148] at h
                        refine OEndsQ.icmpF hm_0 rfl ((teq hc148).2) ?_
                        refine OEndsQ.adv hm_0 4 (pc' := 611) (L' := [qr 0, qr 1, qi v2, qi v3, qi v4, qi v5, qi v6, qi v7, qi v8, qi v9, qi v10, qi v11, qi v12, qi v13, qi (x149 &&& (7 : Int32)), qi x150, qi r175, qi (-5), qi ((31 : Int32) + (x150 &&& (63 : Int32))), qu, qu, qu, qu]) (S' := []) (H' := (qa scr :: bk0 s176 s177 s178 zao zaf zag zak zal zah zai zam zap zaq zar zas zac zad zae s179 s180 zan zaj zax zbb zay zaz zbc zba [])) rfl ?_
                        exact ok_L_law_611 ih h
                      · simp only [if_neg hc148] at h
                        refine OEndsQ.icmpT hm_0 rfl (q := 254) rfl ((feq hc148).2) ?_
                        refine OEndsQ.adv hm_0 3 (pc' := 258) (L' := [qr 0, qr 1, qi v2, qi v3, qi v4, qi v5, qi v6, qi v7, qi v8, qi v9, qi v10, qi v11, qi v12, qi v13, qi (x149 &&& (7 : Int32)), qi x150, qi r175, qi v3, qi ((31 : Int32) + (x150 &&& (63 : Int32))), qu, qu, qu, qu]) (S' := [.int v3]) (H' := (qa scr :: bk0 s176 s177 s178 zao zaf zag zak zal zah zai zam zap zaq zar zas zac zad zae s179 s180 zan zaj zax zbb zay zaz zbc zba [])) rfl ?_
                        by_cases hc149 : v3 = (0 : Int32)
                        · simp only [if_pos hc149] at h
                          refine OEndsQ.ifF hm_0 rfl ((teq hc149).2) ?_
                          refine OEndsQ.adv hm_0 3 (pc' := 296) (L' := [qr 0, qr 1, qi v2, qi v3, qi v4, qi v5, qi v6, qi v7, qi v8, qi v5, qi v10, qi v11, qi v12, qi v13, qi (x149 &&& (7 : Int32)), qi x150, qi r175, qi v3, qi ((31 : Int32) + (x150 &&& (63 : Int32))), qu, qu, qu, qu]) (S' := []) (H' := (qa scr :: bk0 s176 s177 s178 zao zaf zag zak zal zah zai zam zap zaq zar zas zac zad zae s179 s180 zan zaj zax zbb zay zaz zbc zba [])) rfl ?_
                          exact ok_L_law_296 ih h
                        · simp only [if_neg hc149] at h
                          refine OEndsQ.ifT hm_0 rfl (q := 268) rfl ((feq hc149).2) ?_
                          refine OEndsQ.adv hm_0 2 (pc' := 270) (L' := [qr 0, qr 1, qi v2, qi v3, qi v4, qi v5, qi v6, qi v7, qi v8, qi v9, qi v10, qi v11, qi v12, qi v13, qi (x149 &&& (7 : Int32)), qi x150, qi r175, qi v3, qi ((31 : Int32) + (x150 &&& (63 : Int32))), qu, qu, qu, qu]) (S' := [.int 1, .int v3]) (H' := (qa scr :: bk0 s176 s177 s178 zao zaf zag zak zal zah zai zam zap zaq zar zas zac zad zae s179 s180 zan zaj zax zbb zay zaz zbc zba [])) rfl ?_
                          by_cases hc150 : v3 = (1 : Int32)
                          · simp only [if_pos hc150] at h
                            refine OEndsQ.icmpF hm_0 rfl ((teq hc150).2) ?_
                            refine OEndsQ.adv hm_0 3 (pc' := 296) (L' := [qr 0, qr 1, qi v2, qi v3, qi v4, qi v5, qi v6, qi v7, qi v8, qi v9, qi v5, qi v11, qi v12, qi v13, qi (x149 &&& (7 : Int32)), qi x150, qi r175, qi v3, qi ((31 : Int32) + (x150 &&& (63 : Int32))), qu, qu, qu, qu]) (S' := []) (H' := (qa scr :: bk0 s176 s177 s178 zao zaf zag zak zal zah zai zam zap zaq zar zas zac zad zae s179 s180 zan zaj zax zbb zay zaz zbc zba [])) rfl ?_
                            exact ok_L_law_296 ih h
                          · simp only [if_neg hc150] at h
                            refine OEndsQ.icmpT hm_0 rfl (q := 280) rfl ((feq hc150).2) ?_
                            refine OEndsQ.adv hm_0 2 (pc' := 282) (L' := [qr 0, qr 1, qi v2, qi v3, qi v4, qi v5, qi v6, qi v7, qi v8, qi v9, qi v10, qi v11, qi v12, qi v13, qi (x149 &&& (7 : Int32)), qi x150, qi r175, qi v3, qi ((31 : Int32) + (x150 &&& (63 : Int32))), qu, qu, qu, qu]) (S' := [.int 2, .int v3]) (H' := (qa scr :: bk0 s176 s177 s178 zao zaf zag zak zal zah zai zam zap zaq zar zas zac zad zae s179 s180 zan zaj zax zbb zay zaz zbc zba [])) rfl ?_
                            by_cases hc151 : v3 = (2 : Int32)
                            · simp only [if_pos hc151] at h
                              refine OEndsQ.icmpF hm_0 rfl ((teq hc151).2) ?_
                              refine OEndsQ.adv hm_0 3 (pc' := 296) (L' := [qr 0, qr 1, qi v2, qi v3, qi v4, qi v5, qi v6, qi v7, qi v8, qi v9, qi v10, qi v5, qi v12, qi v13, qi (x149 &&& (7 : Int32)), qi x150, qi r175, qi v3, qi ((31 : Int32) + (x150 &&& (63 : Int32))), qu, qu, qu, qu]) (S' := []) (H' := (qa scr :: bk0 s176 s177 s178 zao zaf zag zak zal zah zai zam zap zaq zar zas zac zad zae s179 s180 zan zaj zax zbb zay zaz zbc zba [])) rfl ?_
                              exact ok_L_law_296 ih h
                            · simp only [if_neg hc151] at h
                              refine OEndsQ.icmpT hm_0 rfl (q := 292) rfl ((feq hc151).2) ?_
                              refine OEndsQ.adv hm_0 2 (pc' := 296) (L' := [qr 0, qr 1, qi v2, qi v3, qi v4, qi v5, qi v6, qi v7, qi v8, qi v9, qi v10, qi v11, qi v5, qi v13, qi (x149 &&& (7 : Int32)), qi x150, qi r175, qi v3, qi ((31 : Int32) + (x150 &&& (63 : Int32))), qu, qu, qu, qu]) (S' := []) (H' := (qa scr :: bk0 s176 s177 s178 zao zaf zag zak zal zah zai zam zap zaq zar zas zac zad zae s179 s180 zan zaj zax zbb zay zaz zbc zba [])) rfl ?_
                              exact ok_L_law_296 ih h
          · simp only [if_neg hc142] at h
            refine OEndsQ.ifF hm_0 rfl ((feq hc142).1) ?_
            refine OEndsQ.adv hm_0 4 (pc' := 611) (L' := [qr 0, qr 1, qi v2, qi v3, qi v4, qi v5, qi v6, qi v7, qi v8, qi v9, qi v10, qi v11, qi v12, qi v13, qi (x149 &&& (7 : Int32)), qi x150, qi r175, qi (-1), qi ((31 : Int32) + (x150 &&& (63 : Int32))), qu, qu, qu, qu]) (S' := []) (H' := (qa scr :: bk0 s176 s177 s178 zao zaf zag zak zal zah zai zam zap zaq zar zas zac zad zae s179 s180 zan zaj zax zbb zay zaz zbc zba [])) rfl ?_
            exact ok_L_law_611 ih h
        · simp only [if_neg hc140] at h
          refine OEndsQ.icmpT hm_0 rfl (q := 308) rfl ((feq hc140).2) ?_
          refine OEndsQ.adv hm_0 2 (pc' := 311) (L' := [qr 0, qr 1, qi v2, qi v3, qi v4, qi v5, qi v6, qi v7, qi v8, qi v9, qi v10, qi v11, qi v12, qi v13, qi (x149 &&& (7 : Int32)), qi x150, qu, qu, qu, qu, qu, qu, qu]) (S' := [.int 3, .int (x149 &&& (7 : Int32))]) (H' := (qa scr :: bk0 zav zau zaw zao zaf zag zak zal zah zai zam zap zaq zar zas zac zad zae zat zbd zan zaj zax zbb zay zaz zbc zba [])) rfl ?_
          by_cases hc152 : (x149 &&& (7 : Int32)) = (3 : Int32)
          · simp only [if_pos hc152] at h
            refine OEndsQ.icmpF hm_0 rfl ((teq hc152).2) ?_
            refine OEndsQ.adv hm_0 1 (pc' := 315) (L' := [qr 0, qr 1, qi v2, qi v3, qi v4, qi v5, qi v6, qi v7, qi v8, qi v9, qi v10, qi v11, qi v12, qi v13, qi (x149 &&& (7 : Int32)), qi x150, qu, qu, qu, qu, qu, qu, qu]) (S' := [.ref 1]) (H' := (qa scr :: bk0 zav zau zaw zao zaf zag zak zal zah zai zam zap zaq zar zas zac zad zae zat zbd zan zaj zax zbb zay zaz zbc zba [])) rfl ?_
            obtain ⟨⟨r158, s159, s160, s161, s162, s163, s164, s165, s166, s167, s168, s169, s170, s171, s172, s173, s174⟩, hq153, h⟩ := bnd h
            refine OEndsQ.call0 hm_0 rfl rfl (by decide) rfl (as := [.ref 1]) (rest := []) rfl rfl (ok_build hq153) ?_
            refine OEndsQ.adv hm_0 2 (pc' := 321) (L' := [qr 0, qr 1, qi v2, qi v3, qi v4, qi v5, qi v6, qi v7, qi v8, qi v9, qi v10, qi v11, qi v12, qi v13, qi (x149 &&& (7 : Int32)), qi x150, qi r158, qu, qu, qu, qu, qu, qu]) (S' := [.int v2]) (H' := (qa scr :: bk0 zav zau zaw zao s159 s160 s161 s162 s163 s164 s165 zap zaq zar zas zac zad s166 zat zbd s167 s168 s169 s170 s171 s172 s173 s174 [])) rfl ?_
            by_cases hc154 : v2 = (0 : Int32)
            · simp only [if_pos hc154] at h
              refine OEndsQ.ifT hm_0 rfl (q := 330) rfl ((teq hc154).1) ?_
              refine OEndsQ.adv hm_0 1 (pc' := 332) (L' := [qr 0, qr 1, qi v2, qi v3, qi v4, qi v5, qi v6, qi v7, qi v8, qi v9, qi v10, qi v11, qi v12, qi v13, qi (x149 &&& (7 : Int32)), qi x150, qi r158, qu, qu, qu, qu, qu, qu]) (S' := [.int v4]) (H' := (qa scr :: bk0 zav zau zaw zao s159 s160 s161 s162 s163 s164 s165 zap zaq zar zas zac zad s166 zat zbd s167 s168 s169 s170 s171 s172 s173 s174 [])) rfl ?_
              by_cases hc155 : v4 = (0 : Int32)
              · simp only [if_pos hc155] at h
                refine OEndsQ.ifT hm_0 rfl (q := 342) rfl ((teq hc155).1) ?_
                refine OEndsQ.adv hm_0 1 (pc' := 343) (L' := [qr 0, qr 1, qi v2, qi v3, qi v4, qi v5, qi v6, qi v7, qi v8, qi v9, qi v10, qi v11, qi v12, qi v13, qi (x149 &&& (7 : Int32)), qi x150, qi r158, qu, qu, qu, qu, qu, qu]) (S' := [.int v3]) (H' := (qa scr :: bk0 zav zau zaw zao s159 s160 s161 s162 s163 s164 s165 zap zaq zar zas zac zad s166 zat zbd s167 s168 s169 s170 s171 s172 s173 s174 [])) rfl ?_
                by_cases hc156 : v3 = (0 : Int32)
                · simp only [if_pos hc156] at h
                  refine OEndsQ.ifF hm_0 rfl ((teq hc156).2) ?_
                  refine OEndsQ.adv hm_0 3 (pc' := 611) (L' := [qr 0, qr 1, qi v2, qi v3, qi v4, qi v5, qi v6, qi v7, qi v8, qi v9, qi v10, qi v11, qi v12, qi v13, qi (x149 &&& (7 : Int32)), qi x150, qi r158, qi (-4), qu, qu, qu, qu, qu]) (S' := []) (H' := (qa scr :: bk0 zav zau zaw zao s159 s160 s161 s162 s163 s164 s165 zap zaq zar zas zac zad s166 zat zbd s167 s168 s169 s170 s171 s172 s173 s174 [])) rfl ?_
                  exact ok_L_law_611 ih h
                · simp only [if_neg hc156] at h
                  refine OEndsQ.ifT hm_0 rfl (q := 353) rfl ((feq hc156).2) ?_
                  refine OEndsQ.adv hm_0 11 (pc' := 611) (L' := [qr 0, qr 1, qi 1, qi v3, qi v4, qi v5, qi 0, qi 0, qi 0, qi v9, qi v10, qi v11, qi v12, qi v13, qi (x149 &&& (7 : Int32)), qi x150, qi r158, qi 0, qu, qu, qu, qu, qu]) (S' := []) (H' := (qa scr :: bk0 zav zau zaw zao s159 s160 s161 s162 s163 s164 s165 zap zaq zar zas zac zad s166 zat zbd s167 s168 s169 s170 s171 s172 s173 s174 [])) rfl ?_
                  exact ok_L_law_611 ih h
              · simp only [if_neg hc155] at h
                refine OEndsQ.ifF hm_0 rfl ((feq hc155).1) ?_
                refine OEndsQ.adv hm_0 3 (pc' := 611) (L' := [qr 0, qr 1, qi v2, qi v3, qi v4, qi v5, qi v6, qi v7, qi v8, qi v9, qi v10, qi v11, qi v12, qi v13, qi (x149 &&& (7 : Int32)), qi x150, qi r158, qi (-7), qu, qu, qu, qu, qu]) (S' := []) (H' := (qa scr :: bk0 zav zau zaw zao s159 s160 s161 s162 s163 s164 s165 zap zaq zar zas zac zad s166 zat zbd s167 s168 s169 s170 s171 s172 s173 s174 [])) rfl ?_
                exact ok_L_law_611 ih h
            · simp only [if_neg hc154] at h
              refine OEndsQ.ifF hm_0 rfl ((feq hc154).1) ?_
              refine OEndsQ.adv hm_0 3 (pc' := 611) (L' := [qr 0, qr 1, qi v2, qi v3, qi v4, qi v5, qi v6, qi v7, qi v8, qi v9, qi v10, qi v11, qi v12, qi v13, qi (x149 &&& (7 : Int32)), qi x150, qi r158, qi (-1), qu, qu, qu, qu, qu]) (S' := []) (H' := (qa scr :: bk0 zav zau zaw zao s159 s160 s161 s162 s163 s164 s165 zap zaq zar zas zac zad s166 zat zbd s167 s168 s169 s170 s171 s172 s173 s174 [])) rfl ?_
              exact ok_L_law_611 ih h
          · simp only [if_neg hc152] at h
            refine OEndsQ.icmpT hm_0 rfl (q := 370) rfl ((feq hc152).2) ?_
            refine OEndsQ.adv hm_0 2 (pc' := 374) (L' := [qr 0, qr 1, qi v2, qi v3, qi v4, qi v5, qi v6, qi v7, qi v8, qi v9, qi v10, qi v11, qi v12, qi v13, qi (x149 &&& (7 : Int32)), qi x150, qu, qu, qu, qu, qu, qu, qu]) (S' := [.int 7, .int (x149 &&& (7 : Int32))]) (H' := (qa scr :: bk0 zav zau zaw zao zaf zag zak zal zah zai zam zap zaq zar zas zac zad zae zat zbd zan zaj zax zbb zay zaz zbc zba [])) rfl ?_
            by_cases hc157 : (x149 &&& (7 : Int32)) = (7 : Int32)
            · simp only [if_pos hc157] at h
              refine OEndsQ.icmpF hm_0 rfl ((teq hc157).2) ?_
              refine OEndsQ.adv hm_0 1 (pc' := 378) (L' := [qr 0, qr 1, qi v2, qi v3, qi v4, qi v5, qi v6, qi v7, qi v8, qi v9, qi v10, qi v11, qi v12, qi v13, qi (x149 &&& (7 : Int32)), qi x150, qu, qu, qu, qu, qu, qu, qu]) (S' := [.ref 1]) (H' := (qa scr :: bk0 zav zau zaw zao zaf zag zak zal zah zai zam zap zaq zar zas zac zad zae zat zbd zan zaj zax zbb zay zaz zbc zba [])) rfl ?_
              obtain ⟨⟨r151, s152, s153, s154, s155, s156, s157⟩, hq158, h⟩ := bnd h
              refine OEndsQ.call0 hm_0 rfl rfl (by decide) rfl (as := [.ref 1]) (rest := []) rfl rfl (ok_resetText hq158) ?_
              refine OEndsQ.adv hm_0 3 (pc' := 385) (L' := [qr 0, qr 1, qi v2, qi v3, qi v4, qi v5, qi v6, qi v7, qi v8, qi v9, qi v10, qi v11, qi v12, qi v13, qi (x149 &&& (7 : Int32)), qi x150, qi r151, qu, qu, qu, qu, qu, qu]) (S' := [.int 1, .int v2]) (H' := (qa scr :: bk0 zav zau zaw zao zaf zag zak zal zah zai zam zap zaq zar zas zac zad zae zat zbd zan zaj s152 s153 s154 s155 s156 s157 [])) rfl ?_
              by_cases hc159 : v2 = (1 : Int32)
              · simp only [if_pos hc159] at h
                refine OEndsQ.icmpT hm_0 rfl (q := 394) rfl ((teq hc159).1) ?_
                refine OEndsQ.adv hm_0 9 (pc' := 611) (L' := [qr 0, qr 1, qi v2, qi v3, qi v4, qi v5, qi 0, qi 0, qi 0, qi v9, qi v10, qi v11, qi v12, qi v13, qi (x149 &&& (7 : Int32)), qi x150, qi r151, qi 0, qu, qu, qu, qu, qu]) (S' := []) (H' := (qa scr :: bk0 zav zau zaw zao zaf zag zak zal zah zai zam zap zaq zar zas zac zad zae zat zbd zan zaj s152 s153 s154 s155 s156 s157 [])) rfl ?_
                exact ok_L_law_611 ih h
              · simp only [if_neg hc159] at h
                refine OEndsQ.icmpF hm_0 rfl ((feq hc159).1) ?_
                refine OEndsQ.adv hm_0 3 (pc' := 611) (L' := [qr 0, qr 1, qi v2, qi v3, qi v4, qi v5, qi v6, qi v7, qi v8, qi v9, qi v10, qi v11, qi v12, qi v13, qi (x149 &&& (7 : Int32)), qi x150, qi r151, qi (-1), qu, qu, qu, qu, qu]) (S' := []) (H' := (qa scr :: bk0 zav zau zaw zao zaf zag zak zal zah zai zam zap zaq zar zas zac zad zae zat zbd zan zaj s152 s153 s154 s155 s156 s157 [])) rfl ?_
                exact ok_L_law_611 ih h
            · simp only [if_neg hc157] at h
              refine OEndsQ.icmpT hm_0 rfl (q := 409) rfl ((feq hc157).2) ?_
              refine OEndsQ.adv hm_0 10 (pc' := 426) (L' := [qr 0, qr 1, qi v2, qi v3, qi v4, qi v5, qi v6, qi v7, qi v8, qi v9, qi v10, qi v11, qi v12, qi v13, qi (x149 &&& (7 : Int32)), qi x150, qu, qu, qi ((97 : Int32) + (x150 &&& (7 : Int32))), qu, qu, qu, qu]) (S' := [.int 48, .int (x150 &&& (48 : Int32))]) (H' := (qa scr :: bk0 zav zau zaw zao zaf zag zak zal zah zai zam zap zaq zar zas zac zad zae zat zbd zan zaj zax zbb zay zaz zbc zba [])) rfl ?_
              by_cases hc160 : (x150 &&& (48 : Int32)) = (48 : Int32)
              · simp only [if_pos hc160] at h
                refine OEndsQ.icmpF hm_0 rfl ((teq hc160).2) ?_
                refine OEndsQ.adv hm_0 2 (pc' := 433) (L' := [qr 0, qr 1, qi v2, qi v3, qi v4, qi v5, qi v6, qi v7, qi v8, qi v9, qi v10, qi v11, qi v12, qi v13, qi (x149 &&& (7 : Int32)), qi x150, qu, qu, qi 127, qu, qu, qu, qu]) (S' := []) (H' := (qa scr :: bk0 zav zau zaw zao zaf zag zak zal zah zai zam zap zaq zar zas zac zad zae zat zbd zan zaj zax zbb zay zaz zbc zba [])) rfl ?_
                exact ok_L_law_433 ih h
              · simp only [if_neg hc160] at h
                refine OEndsQ.icmpT hm_0 rfl (q := 433) rfl ((feq hc160).2) ?_
                show OEndsQ own_P 0 433 [qr 0, qr 1, qi v2, qi v3, qi v4, qi v5, qi v6, qi v7, qi v8, qi v9, qi v10, qi v11, qi v12, qi v13, qi (x149 &&& (7 : Int32)), qi x150, qu, qu, qi ((97 : Int32) + (x150 &&& (7 : Int32))), qu, qu, qu, qu] [] (qa scr :: bk0 zav zau zaw zao zaf zag zak zal zah zai zam zap zaq zar zas zac zad zae zat zbd zan zaj zax zbb zay zaz zbc zba []) _
                exact ok_L_law_433 ih h
      · simp only [if_neg hc139] at h
        refine OEndsQ.icmpF hm_0 rfl ((flt hc139).2.2.1) ?_
        refine OEndsQ.adv hm_0 8 (pc' := 89) (L' := [qr 0, qr 1, qi v2, qi v3, qi v4, qi v5, qi v6, qi v7, qi v8, qi v9, qi v10, qi v11, qi v12, qi v13, qi (x149 &&& (7 : Int32)), qi x150, qu, qu, qi ((96 : Int32) + (x150 &&& (7 : Int32))), qu, qu, qu, qu]) (S' := [.int ((96 : Int32) + (x150 &&& (7 : Int32))), .ref 1]) (H' := (qa scr :: bk0 zav zau zaw zao zaf zag zak zal zah zai zam zap zaq zar zas zac zad zae zat zbd zan zaj zax zbb zay zaz zbc zba [])) rfl ?_
        obtain ⟨⟨r181, s182, s183⟩, hq161, h⟩ := bnd h
        refine OEndsQ.call0 hm_0 rfl rfl (by decide) rfl (as := [.ref 1, .int ((96 : Int32) + (x150 &&& (7 : Int32)))]) (rest := []) rfl rfl (ok_addChar hq161) ?_
        refine OEndsQ.adv hm_0 2 (pc' := 95) (L' := [qr 0, qr 1, qi v2, qi v3, qi v4, qi v5, qi v6, qi v7, qi v8, qi v9, qi v10, qi v11, qi v12, qi v13, qi (x149 &&& (7 : Int32)), qi x150, qi r181, qu, qi ((96 : Int32) + (x150 &&& (7 : Int32))), qu, qu, qu, qu]) (S' := [.int v2]) (H' := (qa scr :: bk0 zav zau zaw s182 zaf zag zak zal zah zai zam zap zaq zar zas zac zad zae zat s183 zan zaj zax zbb zay zaz zbc zba [])) rfl ?_
        by_cases hc162 : v2 = (0 : Int32)
        · simp only [if_pos hc162] at h
          refine OEndsQ.ifT hm_0 rfl (q := 104) rfl ((teq hc162).1) ?_
          refine OEndsQ.adv hm_0 2 (pc' := 108) (L' := [qr 0, qr 1, qi v2, qi v3, qi v4, qi v5, qi v6, qi v7, qi v8, qi v9, qi v10, qi v11, qi v12, qi v13, qi (x149 &&& (7 : Int32)), qi x150, qi r181, qu, qi ((96 : Int32) + (x150 &&& (7 : Int32))), qu, qu, qu, qu]) (S' := [.int 97, .int ((96 : Int32) + (x150 &&& (7 : Int32)))]) (H' := (qa scr :: bk0 zav zau zaw s182 zaf zag zak zal zah zai zam zap zaq zar zas zac zad zae zat s183 zan zaj zax zbb zay zaz zbc zba [])) rfl ?_
          by_cases hc163 : ((96 : Int32) + (x150 &&& (7 : Int32))) < (97 : Int32)
          · simp only [if_pos hc163] at h
            refine OEndsQ.icmpF hm_0 rfl ((tlt hc163).2.1) ?_
            refine OEndsQ.adv hm_0 4 (pc' := 611) (L' := [qr 0, qr 1, qi v2, qi v3, qi v4, qi v5, qi v6, qi v7, qi v8, qi v9, qi v10, qi v11, qi v12, qi v13, qi (x149 &&& (7 : Int32)), qi x150, qi r181, qi (-2), qi ((96 : Int32) + (x150 &&& (7 : Int32))), qu, qu, qu, qu]) (S' := []) (H' := (qa scr :: bk0 zav zau zaw s182 zaf zag zak zal zah zai zam zap zaq zar zas zac zad zae zat s183 zan zaj zax zbb zay zaz zbc zba [])) rfl ?_
            exact ok_L_law_611 ih h
          · simp only [if_neg hc163] at h
            refine OEndsQ.icmpT hm_0 rfl (q := 118) rfl ((flt hc163).2.1) ?_
            refine OEndsQ.adv hm_0 2 (pc' := 120) (L' := [qr 0, qr 1, qi v2, qi v3, qi v4, qi v5, qi v6, qi v7, qi v8, qi v9, qi v10, qi v11, qi v12, qi v13, qi (x149 &&& (7 : Int32)), qi x150, qi r181, qu, qi ((96 : Int32) + (x150 &&& (7 : Int32))), qu, qu, qu, qu]) (S' := [.int 4, .int v3]) (H' := (qa scr :: bk0 zav zau zaw s182 zaf zag zak zal zah zai zam zap zaq zar zas zac zad zae zat s183 zan zaj zax zbb zay zaz zbc zba [])) rfl ?_
            by_cases hc164 : v3 = (4 : Int32)
            · simp only [if_pos hc164] at h
              refine OEndsQ.icmpT hm_0 rfl (q := 129) rfl ((teq hc164).1) ?_
              refine OEndsQ.adv hm_0 4 (pc' := 611) (L' := [qr 0, qr 1, qi v2, qi v3, qi v4, qi v5, qi v6, qi v7, qi v8, qi v9, qi v10, qi v11, qi v12, qi v13, qi (x149 &&& (7 : Int32)), qi x150, qi r181, qi (-3), qi ((96 : Int32) + (x150 &&& (7 : Int32))), qu, qu, qu, qu]) (S' := []) (H' := (qa scr :: bk0 zav zau zaw s182 zaf zag zak zal zah zai zam zap zaq zar zas zac zad zae zat s183 zan zaj zax zbb zay zaz zbc zba [])) rfl ?_
              exact ok_L_law_611 ih h
            · simp only [if_neg hc164] at h
              refine OEndsQ.icmpF hm_0 rfl ((feq hc164).1) ?_
              refine OEndsQ.adv hm_0 2 (pc' := 126) (L' := [qr 0, qr 1, qi v2, qi v3, qi v4, qi v5, qi v6, qi v7, qi v8, qi v9, qi v10, qi v11, qi v12, qi v13, qi (x149 &&& (7 : Int32)), qi x150, qi r181, qu, qi ((96 : Int32) + (x150 &&& (7 : Int32))), qu, qu, qu, qu]) (S' := [.int 3, .int v4]) (H' := (qa scr :: bk0 zav zau zaw s182 zaf zag zak zal zah zai zam zap zaq zar zas zac zad zae zat s183 zan zaj zax zbb zay zaz zbc zba [])) rfl ?_
              by_cases hc165 : v4 = (3 : Int32)
              · simp only [if_pos hc165] at h
                refine OEndsQ.icmpF hm_0 rfl ((teq hc165).2) ?_
                refine OEndsQ.adv hm_0 4 (pc' := 611) (L' := [qr 0, qr 1, qi v2, qi v3, qi v4, qi v5, qi v6, qi v7, qi v8, qi v9, qi v10, qi v11, qi v12, qi v13, qi (x149 &&& (7 : Int32)), qi x150, qi r181, qi (-3), qi ((96 : Int32) + (x150 &&& (7 : Int32))), qu, qu, qu, qu]) (S' := []) (H' := (qa scr :: bk0 zav zau zaw s182 zaf zag zak zal zah zai zam zap zaq zar zas zac zad zae zat s183 zan zaj zax zbb zay zaz zbc zba [])) rfl ?_
                exact ok_L_law_611 ih h
              · simp only [if_neg hc165] at h
                refine OEndsQ.icmpT hm_0 rfl (q := 136) rfl ((feq hc165).2) ?_
                refine OEndsQ.adv hm_0 12 (pc' := 611) (L' := [qr 0, qr 1, qi v2, qi v3, qi (v4 + (1 : Int32)), qi ((v5 * (16 : Int32)) + (((96 : Int32) + (x150 &&& (7 : Int32))) - (96 : Int32))), qi v6, qi v7, qi v8, qi v9, qi v10, qi v11, qi v12, qi v13, qi (x149 &&& (7 : Int32)), qi x150, qi r181, qi (v4 + (1 : Int32)), qi ((96 : Int32) + (x150 &&& (7 : Int32))), qu, qu, qu, qu]) (S' := []) (H' := (qa scr :: bk0 zav zau zaw s182 zaf zag zak zal zah zai zam zap zaq zar zas zac zad zae zat s183 zan zaj zax zbb zay zaz zbc zba [])) rfl ?_
                exact ok_L_law_611 ih h
        · simp only [if_neg hc162] at h
          refine OEndsQ.ifF hm_0 rfl ((feq hc162).1) ?_
          refine OEndsQ.adv hm_0 4 (pc' := 611) (L' := [qr 0, qr 1, qi v2, qi v3, qi v4, qi v5, qi v6, qi v7, qi v8, qi v9, qi v10, qi v11, qi v12, qi v13, qi (x149 &&& (7 : Int32)), qi x150, qi r181, qi (-1), qi ((96 : Int32) + (x150 &&& (7 : Int32))), qu, qu, qu, qu]) (S' := []) (H' := (qa scr :: bk0 zav zau zaw s182 zaf zag zak zal zah zai zam zap zaq zar zas zac zad zae zat s183 zan zaj zax zbb zay zaz zbc zba [])) rfl ?_
          exact ok_L_law_611 ih h
    · simp only [if_neg hc138] at h
      refine OEndsQ.icmpT hm_0 rfl (q := 700) rfl ((flt hc138).2.1) ?_
      refine OEndsQ.adv hm_0 1 (pc' := 701) (L' := [qr 0, qr 1, qi v2, qi v3, qi v4, qi v5, qi v6, qi v7, qi v8, qi v9, qi v10, qi v11, qi v12, qi v13, qu, qu, qu, qu, qu, qu, qu, qu, qu]) (S' := [.int 1]) (H' := (qa scr :: bk0 zav zau zaw zao zaf zag zak zal zah zai zam zap zaq zar zas zac zad zae zat zbd zan zaj zax zbb zay zaz zbc zba [])) rfl ?_
      cases h
      exact OEndsQ.iret hm_0 rfl rfl
theorem ok_L_law {scr : List Int32} {res : Int32} (h : f_L_law scr = some res) : OEndsQ own_P 0 0 [qr 0, qu, qu, qu, qu, qu, qu, qu, qu, qu, qu, qu, qu, qu, qu, qu, qu, qu, qu, qu, qu, qu, qu] [] (qa scr :: []) (LawQ res 16 8277) := by
  unfold f_L_law at h
  refine OEndsQ.made hm_0 rfl rfl (ks := 28) (c0 := 15) (s0 := 8249) rfl (Nat.le_of_ble_eq_true rfl) (Nat.le_of_ble_eq_true rfl) ?_
  refine OEndsQ.adv hm_0 3 (pc' := 6) (L' := [qr 0, qu, qu, qu, qu, qu, qu, qu, qu, qu, qu, qu, qu, qu, qu, qu, qu, qu, qu, qu, qu, qu, qu]) (S' := [.int 3, .int 4, .ref 1, .ref 1]) (H' := (qa scr :: (.inl (0, [.null, .null, .null, .null, .null, .null, .null, .null, .null, .null, .null, .null, .null, .null, .null, .int 0, .int 0, .int 0, .int 0, .int 0, .int 0, .int 0, .int 0, .int 0, .int 0, .int 0, .int 0, .int 0]) : ACell) :: [])) rfl ?_
  obtain ⟨⟨s121, s122, s123, s124, s125, s126, s127, s128, s129, s130, s131, s132, s133, s134, s135, s136, s137, s138, s139, s140, s141, s142, s143, s144, s145, s146, s147, s148⟩, hq166, h⟩ := bnd h
  refine OEndsQ.callN hm_0 rfl rfl (by decide) rfl (as := [.ref 1, .int 4, .int 3]) (rest := [.ref 1]) rfl rfl (c0 := 0) (s0 := 0) (ok_init hq166) (Nat.le_of_ble_eq_true rfl) (Nat.le_of_ble_eq_true rfl) ?_
  refine OEndsQ.adv hm_0 25 (pc' := 44) (L' := [qr 0, qr 1, qi 0, qi 0, qi 0, qi 0, qi 0, qi 0, qi 0, qi (-1), qi (-1), qi (-1), qi (-1), qi 0, qu, qu, qu, qu, qu, qu, qu, qu, qu]) (S' := []) (H' := (qa scr :: bk0 s121 s122 s123 s124 s125 s126 s127 s128 s129 s130 s131 s132 s133 s134 s135 s136 s137 s138 s139 s140 s141 s142 s143 s144 s145 s146 s147 s148 [])) rfl ?_
  exact ok_L_law_44 100000 h
theorem own_iL {α : Type} {Q : α → Prop} {a b : Int32} {x y : Option α} (h1 : a.toInt < b.toInt → Tot x Q) (h2 : b.toInt ≤ a.toInt → Tot y Q) : Tot (if a < b then x else y) Q :=
  Tot.ite (fun h => h1 (ilt.mp h)) (fun h => h2 (by rw [ilt] at h; omega))
theorem own_iE {α : Type} {Q : α → Prop} {a b : Int32} {x y : Option α} (h1 : a = b → Tot x Q) (h2 : ¬ a = b → Tot y Q) : Tot (if a = b then x else y) Q :=
  Tot.ite h1 h2
theorem own_p1 {a : Int32} (h : a.toInt < 2147483647) : (a + 1).toInt = a.toInt + 1 := by
  have e1 : (1 : Int32).toInt = 1 := rfl
  have := Int32.le_toInt a
  rw [iadd_i (by omega) (by omega), e1]
def own_V (L : List Int32) (n : Nat) (lo hi : Int) : Prop := L.length = n ∧ ∀ j : Int32, 0 ≤ j.toInt → j.toInt < n → lo ≤ (gI L j).toInt ∧ (gI L j).toInt ≤ hi
theorem own_V.put {L : List Int32} {n : Nat} {lo hi : Int} (h : own_V L n lo hi) {k x : Int32} (k0 : 0 ≤ k.toInt) (k1 : k.toInt < n) (x0 : lo ≤ x.toInt) (x1 : x.toInt ≤ hi) : own_V (L.set k.toInt.toNat x) n lo hi := by
  refine ⟨by rw [List.length_set]; exact h.1, fun j j0 j1 => ?_⟩
  rw [gset k0 (by have := h.1; omega) j0]
  by_cases e : k = j
  · rw [if_pos e]; exact ⟨x0, x1⟩
  · rw [if_neg e]; exact h.2 j j0 j1
theorem own_V.rd {β : Type} {L : List Int32} {n : Nat} {lo hi : Int} (h : own_V L n lo hi) {k : Int32} {f : Int32 → Option β} {Q : β → Prop} (k0 : 0 ≤ k.toInt) (k1 : k.toInt < n) (g : ∀ x : Int32, x = gI L k → lo ≤ x.toInt → x.toInt ≤ hi → Tot (f x) Q) : Tot ((rdA L k).bind f) Q := by
  rw [rdg k0 (by have := h.1; omega), Option.bind_some]
  have r := h.2 k k0 k1
  exact g _ rfl r.1 r.2
theorem own_V.wr {β : Type} {L : List Int32} {n : Nat} {lo hi : Int} (h : own_V L n lo hi) {k x : Int32} {f : List Int32 → Option β} {Q : β → Prop} (k0 : 0 ≤ k.toInt) (k1 : k.toInt < n) (x0 : lo ≤ x.toInt) (x1 : x.toInt ≤ hi) (g : ∀ L' : List Int32, own_V L' n lo hi → Tot (f L') Q) : Tot ((wrA L k x).bind f) Q := by
  rw [wrA_in k0 (by have := h.1; omega), Option.bind_some]
  exact g _ (h.put k0 k1 x0 x1)
theorem own_ix26 {v c : Int32} (v0 : 0 ≤ v.toInt) (v1 : v.toInt ≤ 128) (c0 : 0 ≤ c.toInt) (c1 : c.toInt < 26) : (v * 26 + c).toInt = v.toInt * 26 + c.toInt := by
  have e26 : (26 : Int32).toInt = 26 := rfl
  have m : (v * 26).toInt = v.toInt * 26 := by rw [imul_i (by rw [e26]; omega) (by rw [e26]; omega), e26]
  rw [iadd_i (by omega) (by omega), m]
theorem own_let (c : Int32) : (f_isLetter c = some 0 ∧ ¬ (97 ≤ c.toInt ∧ c.toInt ≤ 122)) ∨ (f_isLetter c = some 1 ∧ 97 ≤ c.toInt ∧ c.toInt ≤ 122) := by
  have e97 : (97 : Int32).toInt = 97 := rfl
  have e122 : (122 : Int32).toInt = 122 := rfl
  unfold f_isLetter
  by_cases c1 : c < 97
  · rw [if_pos c1]; rw [ilt] at c1; exact Or.inl ⟨rfl, by omega⟩
  · by_cases c2 : 122 < c
    · rw [if_neg c1, if_pos c2]; rw [ilt] at c2; exact Or.inl ⟨rfl, by omega⟩
    · rw [if_neg c1, if_neg c2]; rw [ilt] at c1 c2; exact Or.inr ⟨rfl, by omega, by omega⟩
theorem own_pri (c : Int32) : (f_isPrintable c = some 0 ∧ ¬ (32 ≤ c.toInt ∧ c.toInt ≤ 126)) ∨ (f_isPrintable c = some 1 ∧ 32 ≤ c.toInt ∧ c.toInt ≤ 126) := by
  have e97 : (32 : Int32).toInt = 32 := rfl
  have e122 : (126 : Int32).toInt = 126 := rfl
  unfold f_isPrintable
  by_cases c1 : c < 32
  · rw [if_pos c1]; rw [ilt] at c1; exact Or.inl ⟨rfl, by omega⟩
  · by_cases c2 : 126 < c
    · rw [if_neg c1, if_pos c2]; rw [ilt] at c2; exact Or.inl ⟨rfl, by omega⟩
    · rw [if_neg c1, if_neg c2]; rw [ilt] at c1 c2; exact Or.inr ⟨rfl, by omega, by omega⟩
theorem own_pc (m : Int32) : ∃ c : Int32, f_popCount m = some c ∧ 0 ≤ c.toInt ∧ c.toInt ≤ 16 := by
  have e1 : (1 : Int32).toInt = 1 := rfl
  have e16 : (16 : Int32).toInt = 16 := rfl
  have key : ∀ (f : Nat) (v2 v3 : Int32), 0 ≤ v2.toInt → v2.toInt ≤ v3.toInt → v3.toInt ≤ 16 → 16 - v3.toInt < f → ∃ c : Int32, f_popCount_4 f m v2 v3 = some c ∧ 0 ≤ c.toInt ∧ c.toInt ≤ 16 := by
    intro f
    induction f with
    | zero => intro v2 v3 a b d c; exfalso; omega
    | succ f ih =>
      intro v2 v3 a b d c
      unfold f_popCount_4
      by_cases g : v3 < 16
      · rw [if_pos g]
        rw [ilt] at g
        have p3 := own_p1 (a := v3) (by omega)
        have p2 := own_p1 (a := v2) (by omega)
        by_cases q : (m >>> (v3 &&& 31)) &&& 1 = 0
        · rw [if_pos q]; exact ih _ _ a (by omega) (by omega) (by omega)
        · rw [if_neg q]; exact ih _ _ (by omega) (by omega) (by omega) (by omega)
      · rw [if_neg g]
        exact ⟨v2, rfl, a, by omega⟩
  unfold f_popCount
  exact key 100000 0 0 (by decide) (by decide) (by decide) (by decide)
theorem own_k8 {k : Int32} (k0 : 0 ≤ k.toInt) (k1 : k.toInt < 16) : (k * 8).toInt = k.toInt * 8 := by
  have e8 : (8 : Int32).toInt = 8 := rfl
  rw [imul_i (by rw [e8]; omega) (by rw [e8]; omega), e8]
theorem own_kx {k j : Int32} (k0 : 0 ≤ k.toInt) (k1 : k.toInt < 16) (j0 : 0 ≤ j.toInt) (j1 : j.toInt < 8) : (k * 8 + j).toInt = k.toInt * 8 + j.toInt := by
  rw [iadd_i (by rw [own_k8 k0 k1]; omega) (by rw [own_k8 k0 k1]; omega), own_k8 k0 k1]
def own_df (KC KL PD : List Int32) (pn k : Int32) : Prop := ¬ gI KL k = pn ∨ ∃ j : Int32, 0 ≤ j.toInt ∧ j.toInt < pn.toInt ∧ ¬ gI KC (k * 8 + j) = gI PD j
theorem own_pe {KC KL PD : List Int32} {pn k : Int32} (lC : KC.length = 128) (lL : KL.length = 16) (lP : PD.length = 8) (p0 : 0 ≤ pn.toInt) (p1 : pn.toInt ≤ 8) (k0 : 0 ≤ k.toInt) (k1 : k.toInt < 16) : (f_pendingEquals KC KL PD pn k = some 0 ∧ own_df KC KL PD pn k) ∨ (f_pendingEquals KC KL PD pn k = some 1 ∧ ¬ own_df KC KL PD pn k) := by
  have e8 : (8 : Int32).toInt = 8 := rfl
  unfold f_pendingEquals
  rw [rdg k0 (by omega), Option.bind_some]
  by_cases g : gI KL k = pn
  rotate_left
  · left
    rw [if_neg g]
    exact ⟨rfl, Or.inl g⟩
  rw [if_pos g]
  have key : ∀ (f : Nat) (v3 : Int32), 0 ≤ v3.toInt → v3.toInt ≤ pn.toInt → 8 - v3.toInt < f → (∀ j : Int32, 0 ≤ j.toInt → j.toInt < v3.toInt → gI KC (k * 8 + j) = gI PD j) → (f_pendingEquals_22 KC KL PD pn f (k * 8) v3 = some 0 ∧ own_df KC KL PD pn k) ∨ (f_pendingEquals_22 KC KL PD pn f (k * 8) v3 = some 1 ∧ ¬ own_df KC KL PD pn k) := by
    intro f
    induction f with
    | zero => intro v3 a b c; exfalso; omega
    | succ f ih =>
      intro v3 a b c h
      unfold f_pendingEquals_22
      by_cases g1 : v3 < pn
      · have g1' := ilt.mp g1
        have kx := own_kx (j := v3) k0 k1 a (by omega)
        have p3 := own_p1 (a := v3) (by omega)
        rw [if_pos g1, if_pos (by rw [ilt]; omega), rdg (by omega) (by omega), Option.bind_some, rdg a (by omega), Option.bind_some]
        by_cases q : gI KC (k * 8 + v3) = gI PD v3
        · rw [if_pos q]
          refine ih _ (by omega) (by omega) (by omega) (fun j j0 j1 => ?_)
          by_cases e : j = v3
          · rw [e]; exact q
          · rw [ieq] at e
            exact h j j0 (by omega)
        · rw [if_neg q]
          exact Or.inl ⟨rfl, Or.inr ⟨v3, a, g1', q⟩⟩
      · rw [if_neg g1]
        rw [ilt] at g1
        refine Or.inr ⟨rfl, ?_⟩
        rintro (z | ⟨j, j0, j1, z⟩)
        · exact z g
        · exact z (h j j0 (by omega))
  exact key 100000 0 (by decide) p0 (by decide) (fun j j0 j1 => by have e0 : (0 : Int32).toInt = 0 := rfl; omega)
theorem own_pd {KC KL PD : List Int32} {ct pn : Int32} (lC : KC.length = 128) (lL : KL.length = 16) (lP : PD.length = 8) (p0 : 0 ≤ pn.toInt) (p1 : pn.toInt ≤ 8) (c0 : 0 ≤ ct.toInt) (c1 : ct.toInt ≤ 16) : (f_pendingIsDuplicate KC KL PD ct pn = some 0 ∧ ∀ k : Int32, 0 ≤ k.toInt → k.toInt < ct.toInt → own_df KC KL PD pn k) ∨ (f_pendingIsDuplicate KC KL PD ct pn = some 1 ∧ ∃ k : Int32, 0 ≤ k.toInt ∧ k.toInt < ct.toInt ∧ ¬ own_df KC KL PD pn k) := by
  have e16 : (16 : Int32).toInt = 16 := rfl
  have e0 : (0 : Int32).toInt = 0 := rfl
  have key : ∀ (f : Nat) (v1 : Int32), 0 ≤ v1.toInt → v1.toInt ≤ ct.toInt → 16 - v1.toInt < f → (∀ k : Int32, 0 ≤ k.toInt → k.toInt < v1.toInt → own_df KC KL PD pn k) → (f_pendingIsDuplicate_2 KC KL PD ct pn f v1 = some 0 ∧ ∀ k : Int32, 0 ≤ k.toInt → k.toInt < ct.toInt → own_df KC KL PD pn k) ∨ (f_pendingIsDuplicate_2 KC KL PD ct pn f v1 = some 1 ∧ ∃ k : Int32, 0 ≤ k.toInt ∧ k.toInt < ct.toInt ∧ ¬ own_df KC KL PD pn k) := by
    intro f
    induction f with
    | zero => intro v1 a b c; exfalso; omega
    | succ f ih =>
      intro v1 a b c h
      unfold f_pendingIsDuplicate_2
      by_cases g1 : v1 < ct
      · have g1' := ilt.mp g1
        have p3 := own_p1 (a := v1) (by omega)
        rw [if_pos g1, if_pos (by rw [ilt]; omega)]
        rcases own_pe lC lL lP p0 p1 a (by omega) with ⟨q, q'⟩ | ⟨q, q'⟩
        · rw [q, Option.bind_some, if_pos rfl]
          refine ih _ (by omega) (by omega) (by omega) (fun j j0 j1 => ?_)
          by_cases e : j = v1
          · rw [e]; exact q'
          · rw [ieq] at e
            exact h j j0 (by omega)
        · rw [q, Option.bind_some, if_neg (by decide)]
          exact Or.inr ⟨rfl, v1, a, g1', q'⟩
      · rw [if_neg g1]
        rw [ilt] at g1
        exact Or.inl ⟨rfl, fun k k0 k1 => h k k0 (by omega)⟩
  exact key 100000 0 (by decide) c0 (by decide) (fun j j0 j1 => by omega)
theorem own_sp {PD KC KL KR : List Int32} {ct pn v : Int32} (lC : KC.length = 128) (lL : KL.length = 16) (lR : KR.length = 16) (lP : PD.length = 8) (p0 : 0 ≤ pn.toInt) (p1 : pn.toInt ≤ 8) (c0 : 0 ≤ ct.toInt) (c1 : ct.toInt < 16) : ∃ KC' : List Int32, f_storePending PD KC KL KR ct pn v = some (KC', KL.set ct.toInt.toNat pn, KR.set ct.toInt.toNat v, ct + 1, 0) ∧ KC'.length = 128 ∧ ∀ k j : Int32, 0 ≤ k.toInt → k.toInt < 16 → 0 ≤ j.toInt → j.toInt < 8 → gI KC' (k * 8 + j) = if k = ct ∧ j.toInt < pn.toInt then gI PD j else gI KC (k * 8 + j) := by
  have e8 : (8 : Int32).toInt = 8 := rfl
  have e0 : (0 : Int32).toInt = 0 := rfl
  have f44 : ∀ KC' : List Int32, f_storePending_44 PD KC' KL KR ct pn v = some (KC', KL.set ct.toInt.toNat pn, KR.set ct.toInt.toNat v, ct + 1, 0) := by
    intro KC'
    unfold f_storePending_44
    rw [wrA_in c0 (by omega), Option.bind_some, wrA_in c0 (by omega), Option.bind_some]
  have key : ∀ (f : Nat) (K : List Int32) (v3 : Int32), 0 ≤ v3.toInt → v3.toInt ≤ pn.toInt → 8 - v3.toInt < f → K.length = 128 → (∀ k j : Int32, 0 ≤ k.toInt → k.toInt < 16 → 0 ≤ j.toInt → j.toInt < 8 → gI K (k * 8 + j) = if k = ct ∧ j.toInt < v3.toInt then gI PD j else gI KC (k * 8 + j)) → ∃ KC' : List Int32, f_storePending_10 (f_storePending_44 PD) PD f K KL KR ct pn v (ct * 8) v3 = some (KC', KL.set ct.toInt.toNat pn, KR.set ct.toInt.toNat v, ct + 1, 0) ∧ KC'.length = 128 ∧ ∀ k j : Int32, 0 ≤ k.toInt → k.toInt < 16 → 0 ≤ j.toInt → j.toInt < 8 → gI KC' (k * 8 + j) = if k = ct ∧ j.toInt < pn.toInt then gI PD j else gI KC (k * 8 + j) := by
    intro f
    induction f with
    | zero => intro K v3 a b c; exfalso; omega
    | succ f ih =>
      intro K v3 a b c lK h
      unfold f_storePending_10
      by_cases g : v3 < pn
      · have g' := ilt.mp g
        have p3 := own_p1 (a := v3) (by omega)
        have kx := own_kx (j := v3) c0 c1 a (by omega)
        rw [if_pos g, if_pos (by rw [ilt]; omega), rdg a (by omega), Option.bind_some, wrA_in (by omega) (by omega), Option.bind_some]
        refine ih _ _ (by omega) (by omega) (by omega) (by rw [List.length_set]; exact lK) (fun k j k0 k1 j0 j1 => ?_)
        have kj := own_kx k0 k1 j0 j1
        rw [gset (by omega) (by omega) (by omega)]
        by_cases e : ct * 8 + v3 = k * 8 + j
        · rw [if_pos e]
          rw [ieq] at e
          have e1 : k = ct := by rw [ieq]; omega
          have e2 : j = v3 := by rw [ieq]; omega
          rw [if_pos ⟨e1, by rw [e2]; omega⟩, e2]
        · rw [if_neg e, h k j k0 k1 j0 j1]
          by_cases q : k = ct ∧ j.toInt < v3.toInt
          · rw [if_pos q, if_pos ⟨q.1, by omega⟩]
          · rw [if_neg q, if_neg]
            rintro ⟨q1, q2⟩
            apply e
            have : ¬ j.toInt < v3.toInt := fun z => q ⟨q1, z⟩
            rw [ieq, kx, kj, q1]
            omega
      · rw [if_neg g, f44]
        rw [ilt] at g
        have ev : v3.toInt = pn.toInt := by omega
        rw [ev] at h
        exact ⟨K, rfl, lK, h⟩
  unfold f_storePending
  exact key 100000 KC 0 (by decide) p0 (by decide) lC (fun k j _ _ j0 _ => by rw [if_neg (fun z => by omega)])
abbrev own_KW (KC KL KR : List Int32) (ct : Int32) : Prop := (KC.length = 128) ∧ (KL.length = 16) ∧ (KR.length = 16) ∧ (0 ≤ ct.toInt) ∧ (ct.toInt ≤ 4) ∧ (∀ k : Int32, 0 ≤ k.toInt → k.toInt < ct.toInt → 1 ≤ (gI KL k).toInt ∧ (gI KL k).toInt ≤ 3) ∧ (∀ k j : Int32, 0 ≤ k.toInt → k.toInt < ct.toInt → 0 ≤ j.toInt → j.toInt < (gI KL k).toInt → 97 ≤ (gI KC (k * 8 + j)).toInt ∧ (gI KC (k * 8 + j)).toInt ≤ 122) ∧ (∀ k : Int32, 0 ≤ k.toInt → k.toInt < ct.toInt → 32 ≤ (gI KR k).toInt ∧ (gI KR k).toInt ≤ 126) ∧ (∀ i k : Int32, 0 ≤ i.toInt → i.toInt < k.toInt → k.toInt < ct.toInt → ¬ gI KL i = gI KL k ∨ ∃ j : Int32, 0 ≤ j.toInt ∧ j.toInt < (gI KL k).toInt ∧ ¬ gI KC (i * 8 + j) = gI KC (k * 8 + j)) ∧ (∀ k : Int32, ct.toInt ≤ k.toInt → k.toInt < 16 → gI KL k = 0) ∧ (∀ k : Int32, ct.toInt ≤ k.toInt → k.toInt < 16 → gI KR k = 0) ∧ (∀ k j : Int32, 0 ≤ k.toInt → k.toInt < 16 → (gI KL k).toInt ≤ j.toInt → 0 ≤ j.toInt → j.toInt < 8 → gI KC (k * 8 + j) = 0)
theorem own_KW.lC {KC KL KR : List Int32} {ct : Int32} (self : own_KW KC KL KR ct) : KC.length = 128 := self.1
theorem own_KW.lL {KC KL KR : List Int32} {ct : Int32} (self : own_KW KC KL KR ct) : KL.length = 16 := self.2.1
theorem own_KW.lR {KC KL KR : List Int32} {ct : Int32} (self : own_KW KC KL KR ct) : KR.length = 16 := self.2.2.1
theorem own_KW.c0 {KC KL KR : List Int32} {ct : Int32} (self : own_KW KC KL KR ct) : 0 ≤ ct.toInt := self.2.2.2.1
theorem own_KW.c4 {KC KL KR : List Int32} {ct : Int32} (self : own_KW KC KL KR ct) : ct.toInt ≤ 4 := self.2.2.2.2.1
theorem own_KW.n {KC KL KR : List Int32} {ct : Int32} (self : own_KW KC KL KR ct) : ∀ k : Int32, 0 ≤ k.toInt → k.toInt < ct.toInt → 1 ≤ (gI KL k).toInt ∧ (gI KL k).toInt ≤ 3 := self.2.2.2.2.2.1
theorem own_KW.c {KC KL KR : List Int32} {ct : Int32} (self : own_KW KC KL KR ct) : ∀ k j : Int32, 0 ≤ k.toInt → k.toInt < ct.toInt → 0 ≤ j.toInt → j.toInt < (gI KL k).toInt → 97 ≤ (gI KC (k * 8 + j)).toInt ∧ (gI KC (k * 8 + j)).toInt ≤ 122 := self.2.2.2.2.2.2.1
theorem own_KW.r {KC KL KR : List Int32} {ct : Int32} (self : own_KW KC KL KR ct) : ∀ k : Int32, 0 ≤ k.toInt → k.toInt < ct.toInt → 32 ≤ (gI KR k).toInt ∧ (gI KR k).toInt ≤ 126 := self.2.2.2.2.2.2.2.1
theorem own_KW.d {KC KL KR : List Int32} {ct : Int32} (self : own_KW KC KL KR ct) : ∀ i k : Int32, 0 ≤ i.toInt → i.toInt < k.toInt → k.toInt < ct.toInt → ¬ gI KL i = gI KL k ∨ ∃ j : Int32, 0 ≤ j.toInt ∧ j.toInt < (gI KL k).toInt ∧ ¬ gI KC (i * 8 + j) = gI KC (k * 8 + j) := self.2.2.2.2.2.2.2.2.1
theorem own_KW.zL {KC KL KR : List Int32} {ct : Int32} (self : own_KW KC KL KR ct) : ∀ k : Int32, ct.toInt ≤ k.toInt → k.toInt < 16 → gI KL k = 0 := self.2.2.2.2.2.2.2.2.2.1
theorem own_KW.zR {KC KL KR : List Int32} {ct : Int32} (self : own_KW KC KL KR ct) : ∀ k : Int32, ct.toInt ≤ k.toInt → k.toInt < 16 → gI KR k = 0 := self.2.2.2.2.2.2.2.2.2.2.1
theorem own_KW.zC {KC KL KR : List Int32} {ct : Int32} (self : own_KW KC KL KR ct) : ∀ k j : Int32, 0 ≤ k.toInt → k.toInt < 16 → (gI KL k).toInt ≤ j.toInt → 0 ≤ j.toInt → j.toInt < 8 → gI KC (k * 8 + j) = 0 := self.2.2.2.2.2.2.2.2.2.2.2
theorem own_KW.vL {KC KL KR : List Int32} {ct : Int32} (h : own_KW KC KL KR ct) : own_V KL 16 0 8 := by
  refine ⟨h.lL, fun j j0 j1 => ?_⟩
  by_cases q : j.toInt < ct.toInt
  · have := h.n j j0 q
    omega
  · rw [h.zL j (by omega) (by omega)]
    decide
theorem own_ek {KC KL KR PD : List Int32} {ct pn v : Int32} (h : own_KW KC KL KR ct) (lP : PD.length = 8) (p0 : 0 ≤ pn.toInt) (p3 : pn.toInt ≤ 3) (pl : ∀ j : Int32, 0 ≤ j.toInt → j.toInt < pn.toInt → 97 ≤ (gI PD j).toInt ∧ (gI PD j).toInt ≤ 122) (pc : 0 < pn.toInt → ct.toInt < 4) :
    (∃ e : Int32, f_endKeyword PD 0 KC KL KR ct pn v = some (e, KC, KL, KR, ct, pn)) ∨ ∃ (e : Int32) (KC' KL' KR' : List Int32), f_endKeyword PD 0 KC KL KR ct pn v = some (e, KC', KL', KR', ct + 1, 0) ∧ own_KW KC' KL' KR' (ct + 1) := by
  obtain ⟨lC, lL, lR, c0, c4, hn, hc, hr, hd, zL, zR, zC⟩ := h
  have e16 : (16 : Int32).toInt = 16 := rfl
  have e0 : (0 : Int32).toInt = 0 := rfl
  unfold f_endKeyword
  rw [if_pos rfl]
  by_cases z : pn = 0
  · left
    rw [if_pos z]
    exact ⟨_, rfl⟩
  rw [if_neg z]
  have pp : 0 < pn.toInt := by rw [ieq] at z; omega
  have cl := pc pp
  rcases own_pri v with ⟨e, -⟩ | ⟨e, v0, v1⟩
  · left
    rw [e, Option.bind_some, if_pos rfl]
    exact ⟨_, rfl⟩
  rw [e, Option.bind_some, if_neg (by decide)]
  rcases own_pd lC lL lP p0 (by omega) c0 (by omega) with ⟨q, q'⟩ | ⟨q, -⟩
  rotate_left
  · left
    rw [q, Option.bind_some, if_neg (by decide)]
    exact ⟨_, rfl⟩
  right
  obtain ⟨KC', es, lC', hK⟩ := own_sp (v := v) lC lL lR lP p0 (by omega) c0 (by omega)
  rw [q, Option.bind_some, if_pos rfl, if_pos (by rw [ilt]; omega), es, Option.bind_some]
  have pc1 := own_p1 (a := ct) (by omega)
  have gL : ∀ k : Int32, 0 ≤ k.toInt → gI (KL.set ct.toInt.toNat pn) k = if ct = k then pn else gI KL k := fun k k0 => gset c0 (by omega) k0
  have gR : ∀ k : Int32, 0 ≤ k.toInt → gI (KR.set ct.toInt.toNat v) k = if ct = k then v else gI KR k := fun k k0 => gset c0 (by omega) k0
  have kne : ∀ k : Int32, k.toInt < ct.toInt → ¬ ct = k := fun k hk q => by rw [ieq] at q; omega
  have kne' : ∀ k : Int32, k.toInt < ct.toInt → ¬ k = ct := fun k hk q => by rw [ieq] at q; omega
  refine ⟨_, KC', _, _, rfl, lC', by rw [List.length_set]; exact lL, by rw [List.length_set]; exact lR, by omega, by omega, ?_, ?_, ?_, ?_, ?_, ?_, ?_⟩
  · intro k k0 k1
    rw [gL k k0]
    by_cases q : ct = k
    · rw [if_pos q]; omega
    · rw [if_neg q]; rw [ieq] at q; exact hn k k0 (by omega)
  · intro k j k0 k1 j0 j1
    rw [gL k k0] at j1
    by_cases q : ct = k
    · rw [if_pos q] at j1
      rw [hK k j k0 (by omega) j0 (by omega), if_pos ⟨q.symm, j1⟩]
      exact pl j j0 j1
    · rw [if_neg q] at j1
      have q2 : ¬ k = ct := fun w => q w.symm
      rw [ieq] at q
      have := hn k k0 (by omega)
      rw [hK k j k0 (by omega) j0 (by omega), if_neg (fun w => q2 w.1)]
      exact hc k j k0 (by omega) j0 j1
  · intro k k0 k1
    rw [gR k k0]
    by_cases q : ct = k
    · rw [if_pos q]; omega
    · rw [if_neg q]; rw [ieq] at q; exact hr k k0 (by omega)
  · intro i k i0 ik k1
    rw [gL i i0, gL k (by omega), if_neg (kne i (by omega))]
    by_cases w : ct = k
    · rw [if_pos w]
      rcases q' i i0 (by omega) with y | ⟨j, j0, j1, y⟩
      · exact Or.inl y
      · refine Or.inr ⟨j, j0, j1, ?_⟩
        rw [hK i j i0 (by omega) j0 (by omega), if_neg (fun u => kne' i (by omega) u.1), hK k j (by omega) (by omega) j0 (by omega), if_pos ⟨w.symm, j1⟩]
        exact y
    · rw [if_neg w]
      have w2 : ¬ k = ct := fun u => w u.symm
      rw [ieq] at w
      have b := hn k (by omega) (by omega)
      rcases hd i k i0 ik (by omega) with y | ⟨j, j0, j1, y⟩
      · exact Or.inl y
      · refine Or.inr ⟨j, j0, j1, ?_⟩
        rw [hK i j i0 (by omega) j0 (by omega), if_neg (fun u => kne' i (by omega) u.1), hK k j (by omega) (by omega) j0 (by omega), if_neg (fun u => w2 u.1)]
        exact y
  · intro k k0 k1
    rw [gL k (by omega), if_neg (fun w => by rw [ieq] at w; omega)]
    exact zL k (by omega) k1
  · intro k k0 k1
    rw [gR k (by omega), if_neg (fun w => by rw [ieq] at w; omega)]
    exact zR k (by omega) k1
  · intro k j k0 k1 jl j0 j1
    rw [gL k k0] at jl
    by_cases w : ct = k
    · rw [if_pos w] at jl
      rw [hK k j k0 k1 j0 j1, if_neg (fun u => by omega)]
      refine zC k j k0 k1 ?_ j0 j1
      rw [zL k (by rw [← w]; omega) k1]
      omega
    · rw [if_neg w] at jl
      rw [hK k j k0 k1 j0 j1, if_neg (fun u => w u.1.symm)]
      exact zC k j k0 k1 jl j0 j1
def own_nd (CH : List Int32) : List Int32 → Option Int32
  | [] => some 0
  | c :: w => (own_nd CH w).bind fun v => if gI CH (v * 26 + c) = 0 then none else some (gI CH (v * 26 + c))
def own_lt (w : List Int32) : Prop := ∀ c ∈ w, 0 ≤ c.toInt ∧ c.toInt < 26
theorem own_lt.tl {c : Int32} {w : List Int32} (h : own_lt (c :: w)) : own_lt w := fun d hd => h d (List.mem_cons_of_mem _ hd)
theorem own_lt.hd {c : Int32} {w : List Int32} (h : own_lt (c :: w)) : 0 ≤ c.toInt ∧ c.toInt < 26 := h c (List.mem_cons_self)
theorem own_lt.cons {c : Int32} {w : List Int32} (h : own_lt w) (h0 : 0 ≤ c.toInt) (h1 : c.toInt < 26) : own_lt (c :: w) := by
  intro d hd
  rcases List.mem_cons.mp hd with e | e
  · rw [e]; exact ⟨h0, h1⟩
  · exact h d e
theorem own_lt.take {w : List Int32} (h : own_lt w) (m : Nat) : own_lt (w.take m) := fun d hd => h d (List.mem_of_mem_take hd)
abbrev own_T (CH : List Int32) (nc : Int32) : Prop := (CH.length = 3354) ∧ (1 ≤ nc.toInt) ∧ (nc.toInt ≤ 129) ∧ (∀ v c : Int32, 0 ≤ v.toInt → v.toInt < 129 → 0 ≤ c.toInt → c.toInt < 26 → gI CH (v * 26 + c) = 0 ∨ (v.toInt < (gI CH (v * 26 + c)).toInt ∧ (gI CH (v * 26 + c)).toInt < nc.toInt)) ∧ (∀ v c v' c' : Int32, 0 ≤ v.toInt → v.toInt < 129 → 0 ≤ c.toInt → c.toInt < 26 → 0 ≤ v'.toInt → v'.toInt < 129 → 0 ≤ c'.toInt → c'.toInt < 26 → gI CH (v * 26 + c) = gI CH (v' * 26 + c') → ¬ gI CH (v * 26 + c) = 0 → v = v' ∧ c = c') ∧ (∀ u : Int32, 1 ≤ u.toInt → u.toInt < nc.toInt → ∃ v c : Int32, 0 ≤ v.toInt ∧ v.toInt < u.toInt ∧ 0 ≤ c.toInt ∧ c.toInt < 26 ∧ gI CH (v * 26 + c) = u)
theorem own_T.l {CH : List Int32} {nc : Int32} (self : own_T CH nc) : CH.length = 3354 := self.1
theorem own_T.n0 {CH : List Int32} {nc : Int32} (self : own_T CH nc) : 1 ≤ nc.toInt := self.2.1
theorem own_T.n1 {CH : List Int32} {nc : Int32} (self : own_T CH nc) : nc.toInt ≤ 129 := self.2.2.1
theorem own_T.b {CH : List Int32} {nc : Int32} (self : own_T CH nc) : ∀ v c : Int32, 0 ≤ v.toInt → v.toInt < 129 → 0 ≤ c.toInt → c.toInt < 26 → gI CH (v * 26 + c) = 0 ∨ (v.toInt < (gI CH (v * 26 + c)).toInt ∧ (gI CH (v * 26 + c)).toInt < nc.toInt) := self.2.2.2.1
theorem own_T.i {CH : List Int32} {nc : Int32} (self : own_T CH nc) : ∀ v c v' c' : Int32, 0 ≤ v.toInt → v.toInt < 129 → 0 ≤ c.toInt → c.toInt < 26 → 0 ≤ v'.toInt → v'.toInt < 129 → 0 ≤ c'.toInt → c'.toInt < 26 → gI CH (v * 26 + c) = gI CH (v' * 26 + c') → ¬ gI CH (v * 26 + c) = 0 → v = v' ∧ c = c' := self.2.2.2.2.1
theorem own_T.p {CH : List Int32} {nc : Int32} (self : own_T CH nc) : ∀ u : Int32, 1 ≤ u.toInt → u.toInt < nc.toInt → ∃ v c : Int32, 0 ≤ v.toInt ∧ v.toInt < u.toInt ∧ 0 ≤ c.toInt ∧ c.toInt < 26 ∧ gI CH (v * 26 + c) = u := self.2.2.2.2.2
theorem own_nd_c {CH : List Int32} {c : Int32} {w : List Int32} {u : Int32} : own_nd CH (c :: w) = some u ↔ ∃ v, own_nd CH w = some v ∧ gI CH (v * 26 + c) = u ∧ ¬ u = 0 := by
  rw [own_nd]
  rcases h : own_nd CH w with _ | v
  · simp
  · rw [Option.bind_some]
    by_cases z : gI CH (v * 26 + c) = 0
    · rw [if_pos z]
      constructor
      · intro q; exact absurd q (by simp)
      · rintro ⟨v', e, q1, q2⟩
        obtain rfl := Option.some.inj e
        exact absurd (q1.symm.trans z) q2
    · rw [if_neg z]
      constructor
      · intro q
        have q' := Option.some.inj q
        exact ⟨v, rfl, q', by rw [← q']; exact z⟩
      · rintro ⟨v', e, q1, q2⟩
        obtain rfl := Option.some.inj e
        rw [q1]
theorem own_nd_r {CH : List Int32} {nc : Int32} (T : own_T CH nc) : ∀ (w : List Int32) (v : Int32), own_lt w → own_nd CH w = some v → 0 ≤ v.toInt ∧ v.toInt < nc.toInt ∧ (¬ w = [] → 1 ≤ v.toInt) := by
  intro w
  have n0 := T.n0
  have n1 := T.n1
  induction w with
  | nil =>
    intro v _ h
    obtain rfl := Option.some.inj h
    have e0 : (0 : Int32).toInt = 0 := rfl
    exact ⟨by omega, by omega, fun q => absurd rfl q⟩
  | cons c w ih =>
    intro u hl h
    obtain ⟨v, hv, hu, nz⟩ := own_nd_c.mp h
    obtain ⟨r0, r1, -⟩ := ih v hl.tl hv
    obtain ⟨c0, c1⟩ := hl.hd
    rcases T.b v c r0 (by omega) c0 c1 with q | ⟨q1, q2⟩
    · rw [hu] at q; exact absurd q nz
    · rw [hu] at q1 q2
      exact ⟨by omega, q2, fun _ => by omega⟩
theorem own_nd_i {CH : List Int32} {nc : Int32} (T : own_T CH nc) : ∀ (w w' : List Int32) (v : Int32), own_lt w → own_lt w' → own_nd CH w = some v → own_nd CH w' = some v → w = w' := by
  intro w
  have n1 := T.n1
  have e0 : (0 : Int32).toInt = 0 := rfl
  induction w with
  | nil =>
    intro w' v _ hl' h h'
    obtain rfl := Option.some.inj h
    by_cases q : w' = []
    · exact q.symm
    · have := (own_nd_r T w' 0 hl' h').2.2 q
      omega
  | cons c w ih =>
    intro w' u hl hl' h h'
    obtain ⟨v, hv, hu, nz⟩ := own_nd_c.mp h
    rcases w' with _ | ⟨c', w'⟩
    · obtain rfl := Option.some.inj h'
      exact absurd rfl nz
    · obtain ⟨v', hv', hu', -⟩ := own_nd_c.mp h'
      obtain ⟨r0, r1, -⟩ := own_nd_r T w v hl.tl hv
      obtain ⟨r0', r1', -⟩ := own_nd_r T w' v' hl'.tl hv'
      obtain ⟨q1, q2⟩ := T.i v c v' c' r0 (by omega) hl.hd.1 hl.hd.2 r0' (by omega) hl'.hd.1 hl'.hd.2 (by rw [hu, hu']) (by rw [hu]; exact nz)
      subst q1 q2
      rw [ih w' v hl.tl hl'.tl hv hv']
theorem own_nd_e {CH : List Int32} {nc : Int32} (T : own_T CH nc) : ∀ (n : Nat) (v : Int32), v.toInt = n → v.toInt < nc.toInt → ∃ w, own_lt w ∧ own_nd CH w = some v := by
  intro n
  have n1 := T.n1
  have e0 : (0 : Int32).toInt = 0 := rfl
  induction n using Nat.strongRecOn with
  | _ n ih =>
    intro v hv hn
    by_cases z : v = 0
    · exact ⟨[], fun c hc => absurd hc (by simp), by rw [z]; rfl⟩
    · have v1 : 1 ≤ v.toInt := by rw [ieq] at z; omega
      obtain ⟨p, c, p0, p1, c0, c1, e⟩ := T.p v v1 hn
      obtain ⟨w, hl, hw⟩ := ih p.toInt.toNat (by omega) p (by omega) (by omega)
      exact ⟨c :: w, hl.cons c0 c1, own_nd_c.mpr ⟨p, hw, e, z⟩⟩
theorem own_T.add {CH : List Int32} {nc v c : Int32} (T : own_T CH nc) (hn : nc.toInt < 129) (v0 : 0 ≤ v.toInt) (v1 : v.toInt < nc.toInt) (c0 : 0 ≤ c.toInt) (c1 : c.toInt < 26) (z : gI CH (v * 26 + c) = 0) : own_T (CH.set (v * 26 + c).toInt.toNat nc) (nc + 1) ∧ (∀ (w : List Int32) (u : Int32), own_lt w → own_nd CH w = some u → own_nd (CH.set (v * 26 + c).toInt.toNat nc) w = some u) ∧ gI (CH.set (v * 26 + c).toInt.toNat nc) (v * 26 + c) = nc := by
  have l := T.l
  have n0 := T.n0
  have e0 : (0 : Int32).toInt = 0 := rfl
  have ix := own_ix26 v0 (by omega) c0 c1
  have p := own_p1 (a := nc) (by omega)
  have gs : ∀ v' c' : Int32, 0 ≤ v'.toInt → v'.toInt < 129 → 0 ≤ c'.toInt → c'.toInt < 26 → gI (CH.set (v * 26 + c).toInt.toNat nc) (v' * 26 + c') = if v = v' ∧ c = c' then nc else gI CH (v' * 26 + c') := by
    intro v' c' a0 a1 b0 b1
    have ix' := own_ix26 a0 (by omega) b0 b1
    rw [gset (by omega) (by omega) (by omega)]
    by_cases q : v = v' ∧ c = c'
    · rw [if_pos q, if_pos (by rw [q.1, q.2])]
    · rw [if_neg q, if_neg]
      intro e
      apply q
      rw [ieq] at e
      rw [ieq, ieq]
      omega
  have bd := T.b
  refine ⟨⟨by rw [List.length_set]; exact l, by omega, by omega, ?_, ?_, ?_⟩, ?_, ?_⟩
  · intro v' c' a0 a1 b0 b1
    rw [gs v' c' a0 a1 b0 b1]
    by_cases q : v = v' ∧ c = c'
    · rw [if_pos q, ← q.1]; exact Or.inr ⟨by omega, by omega⟩
    · rw [if_neg q]
      rcases bd v' c' a0 a1 b0 b1 with h | ⟨h1, h2⟩
      · exact Or.inl h
      · exact Or.inr ⟨h1, by omega⟩
  · intro a b a' b' a0 a1 b0 b1 a0' a1' b0' b1' e nz
    rw [gs a b a0 a1 b0 b1] at e nz
    rw [gs a' b' a0' a1' b0' b1'] at e
    by_cases q : v = a ∧ c = b
    · by_cases q' : v = a' ∧ c = b'
      · exact ⟨q.1.symm.trans q'.1, q.2.symm.trans q'.2⟩
      · exfalso
        rw [if_pos q, if_neg q'] at e
        rcases bd a' b' a0' a1' b0' b1' with h | ⟨-, h2⟩
        · rw [h] at e; rw [if_pos q] at nz; exact nz e
        · rw [← e] at h2; omega
    · by_cases q' : v = a' ∧ c = b'
      · exfalso
        rw [if_neg q, if_pos q'] at e
        rcases bd a b a0 a1 b0 b1 with h | ⟨-, h2⟩
        · rw [if_neg q] at nz; exact nz h
        · rw [e] at h2; omega
      · rw [if_neg q, if_neg q'] at e
        rw [if_neg q] at nz
        exact T.i a b a' b' a0 a1 b0 b1 a0' a1' b0' b1' e nz
  · intro u u1 u2
    by_cases q : u = nc
    · exact ⟨v, c, v0, by rw [q]; omega, c0, c1, by rw [gs v c v0 (by omega) c0 c1, if_pos ⟨rfl, rfl⟩, q]⟩
    · rw [ieq] at q
      obtain ⟨a, b, a0, a1, b0, b1, e⟩ := T.p u u1 (by omega)
      refine ⟨a, b, a0, a1, b0, b1, ?_⟩
      rw [gs a b a0 (by omega) b0 b1, if_neg]
      · exact e
      · rintro ⟨h1, h2⟩
        rw [h1, h2] at z
        rw [z] at e
        rw [← e] at u1
        omega
  · intro w
    induction w with
    | nil => intro u _ h; exact h
    | cons d w ih =>
      intro u hl h
      obtain ⟨x, hx, hu, nz⟩ := own_nd_c.mp h
      have rx := own_nd_r T w x hl.tl hx
      refine own_nd_c.mpr ⟨x, ih x hl.tl hx, ?_, nz⟩
      rw [gs x d rx.1 (by omega) hl.hd.1 hl.hd.2, if_neg]
      · exact hu
      · rintro ⟨h1, h2⟩
        rw [h1, h2] at z
        rw [z] at hu
        exact nz hu.symm
  · rw [gs v c v0 (by omega) c0 c1, if_pos ⟨rfl, rfl⟩]
def own_kp (KC : List Int32) (k : Int32) : Nat → List Int32
  | 0 => []
  | j + 1 => (gI KC (k * 8 + Int32.ofNat j) - 97) :: own_kp KC k j
theorem own_kp_len (KC : List Int32) (k : Int32) : ∀ j, (own_kp KC k j).length = j := by
  intro j
  induction j with
  | zero => rfl
  | succ j ih => rw [own_kp, List.length_cons, ih]
abbrev own_KG (KC KL : List Int32) (ct : Int32) : Prop := (KC.length = 128) ∧ (KL.length = 16) ∧ (0 ≤ ct.toInt) ∧ (ct.toInt ≤ 16) ∧ (∀ k : Int32, 0 ≤ k.toInt → k.toInt < ct.toInt → 1 ≤ (gI KL k).toInt ∧ (gI KL k).toInt ≤ 8) ∧ (∀ k j : Int32, 0 ≤ k.toInt → k.toInt < ct.toInt → 0 ≤ j.toInt → j.toInt < (gI KL k).toInt → 97 ≤ (gI KC (k * 8 + j)).toInt ∧ (gI KC (k * 8 + j)).toInt ≤ 122) ∧ (∀ i k : Int32, 0 ≤ i.toInt → i.toInt < k.toInt → k.toInt < ct.toInt → ¬ own_kp KC i (gI KL i).toInt.toNat = own_kp KC k (gI KL k).toInt.toNat)
theorem own_KG.lC {KC KL : List Int32} {ct : Int32} (self : own_KG KC KL ct) : KC.length = 128 := self.1
theorem own_KG.lL {KC KL : List Int32} {ct : Int32} (self : own_KG KC KL ct) : KL.length = 16 := self.2.1
theorem own_KG.c0 {KC KL : List Int32} {ct : Int32} (self : own_KG KC KL ct) : 0 ≤ ct.toInt := self.2.2.1
theorem own_KG.c1 {KC KL : List Int32} {ct : Int32} (self : own_KG KC KL ct) : ct.toInt ≤ 16 := self.2.2.2.1
theorem own_KG.n {KC KL : List Int32} {ct : Int32} (self : own_KG KC KL ct) : ∀ k : Int32, 0 ≤ k.toInt → k.toInt < ct.toInt → 1 ≤ (gI KL k).toInt ∧ (gI KL k).toInt ≤ 8 := self.2.2.2.2.1
theorem own_KG.c {KC KL : List Int32} {ct : Int32} (self : own_KG KC KL ct) : ∀ k j : Int32, 0 ≤ k.toInt → k.toInt < ct.toInt → 0 ≤ j.toInt → j.toInt < (gI KL k).toInt → 97 ≤ (gI KC (k * 8 + j)).toInt ∧ (gI KC (k * 8 + j)).toInt ≤ 122 := self.2.2.2.2.2.1
theorem own_KG.d {KC KL : List Int32} {ct : Int32} (self : own_KG KC KL ct) : ∀ i k : Int32, 0 ≤ i.toInt → i.toInt < k.toInt → k.toInt < ct.toInt → ¬ own_kp KC i (gI KL i).toInt.toNat = own_kp KC k (gI KL k).toInt.toNat := self.2.2.2.2.2.2
theorem own_KG.lt {KC KL : List Int32} {ct : Int32} (h : own_KG KC KL ct) {k : Int32} (k0 : 0 ≤ k.toInt) (k1 : k.toInt < ct.toInt) : ∀ j : Nat, (j : Int) ≤ (gI KL k).toInt → own_lt (own_kp KC k j) := by
  intro j
  have e97 : (97 : Int32).toInt = 97 := rfl
  induction j with
  | zero => intro _ c hc; exact absurd hc (by simp [own_kp])
  | succ j ih =>
    intro hj
    have n := h.n k k0 k1
    have ej : (Int32.ofNat j).toInt = j := Int32.toInt_ofNat_of_lt (by omega)
    have r := h.c k (Int32.ofNat j) k0 k1 (by omega) (by omega)
    have s : (gI KC (k * 8 + Int32.ofNat j) - 97).toInt = (gI KC (k * 8 + Int32.ofNat j)).toInt - 97 := by rw [isub_i (by omega) (by omega), e97]
    exact (ih (by omega)).cons (by omega) (by omega)
theorem own_insX {KC KL : List Int32} {ct : Int32} (h : own_KG KC KL ct) {k : Int32} (k0 : 0 ≤ k.toInt) (k1 : k.toInt < ct.toInt) {TM OM : List Int32} (lT : TM.length = 129) (lO : OM.length = 129) {CH0 : List Int32} :
    ∀ (f j : Nat) (CH DP : List Int32) (nc v2 v4 : Int32), v4.toInt = j → (j : Int) ≤ (gI KL k).toInt → 8 - j < f → DP.length = 129 → own_T CH nc → nc.toInt ≤ 1 + 8 * k.toInt + j → own_nd CH (own_kp KC k j) = some v2 → (∀ w u, own_lt w → own_nd CH0 w = some u → own_nd CH w = some u) →
    Tot (f_insertKeyword_10 (f_insertKeyword_137 KC KL) KC KL f CH DP TM OM nc k v2 (k * 8) v4) (fun (CH', DP', TM', OM', nc') => own_T CH' nc' ∧ nc'.toInt ≤ 1 + 8 * (k.toInt + 1) ∧ DP'.length = 129 ∧ (∀ w u, own_lt w → own_nd CH0 w = some u → own_nd CH' w = some u) ∧ ∃ v, own_nd CH' (own_kp KC k (gI KL k).toInt.toNat) = some v ∧ TM' = TM.set v.toInt.toNat k ∧ OM' = OM.set v.toInt.toNat (gI OM v ||| ((1 : Int32) <<< (k &&& 31)))) := by
  intro f
  have e8 : (8 : Int32).toInt = 8 := rfl
  have e0 : (0 : Int32).toInt = 0 := rfl
  have e26 : (26 : Int32).toInt = 26 := rfl
  have e97 : (97 : Int32).toInt = 97 := rfl
  have e129 : (129 : Int32).toInt = 129 := rfl
  have lL := h.lL
  have lC := h.lC
  have c1 := h.c1
  have n := h.n k k0 k1
  have b8 : (k * 8).toInt = k.toInt * 8 := by rw [imul_i (by rw [e8]; omega) (by rw [e8]; omega), e8]
  induction f with
  | zero => intro j CH DP nc v2 v4 _ a b; exfalso; omega
  | succ f ih =>
    intro j CH DP nc v2 v4 hj jl c lD T hn hv st
    have oj : Int32.ofNat j = v4 := by rw [ieq, hj, Int32.toInt_ofNat_of_lt (by omega)]
    have rv := own_nd_r T _ v2 (h.lt k0 k1 j jl) hv
    have tn1 := T.n1
    have lCH := T.l
    unfold f_insertKeyword_10
    rw [rdg k0 (by omega), Option.bind_some]
    refine own_iL (fun g1 => ?_) (fun g1 => ?_)
    rotate_left
    · -- the end
      have je : j = (gI KL k).toInt.toNat := by omega
      unfold f_insertKeyword_137
      rw [wrA_in rv.1 (by omega), Option.bind_some, rdg rv.1 (by omega), Option.bind_some, wrA_in rv.1 (by omega), Option.bind_some]
      exact Tot.mk ⟨T, by show nc.toInt ≤ _; omega, lD, st, v2, by rw [← je]; exact hv, rfl, rfl⟩
    · rw [if_pos (by rw [ilt]; omega)]
      have p4 := own_p1 (a := v4) (by omega)
      have ix : (k * 8 + v4).toInt = k.toInt * 8 + v4.toInt := by rw [iadd_i (by omega) (by omega), b8]
      have lt := h.c k v4 k0 k1 (by omega) g1
      have sc : (gI KC (k * 8 + v4) - 97).toInt = (gI KC (k * 8 + v4)).toInt - 97 := by rw [isub_i (by omega) (by omega), e97]
      rw [rdg (by omega) (by omega), Option.bind_some]
      have kp1 : own_kp KC k (j + 1) = (gI KC (k * 8 + v4) - 97) :: own_kp KC k j := by rw [own_kp, oj]
      generalize gI KC (k * 8 + v4) - 97 = ch at sc kp1
      rw [if_neg (by rw [ilt]; omega), if_pos (by rw [ilt]; omega)]
      have jx := own_ix26 (v := v2) (c := ch) rv.1 (by omega) (by omega) (by omega)
      rw [rdg (by omega) (by omega), Option.bind_some]
      refine own_iE (fun z => ?_) (fun z => ?_)
      · obtain ⟨T', st', gv⟩ := T.add (by omega) rv.1 rv.2.1 (by omega) (by omega) z
        have pn := own_p1 (a := nc) (by omega)
        have tn0 := T.n0
        rw [if_pos (by rw [ilt]; omega), wrA_in (by omega) (by omega), Option.bind_some, rdg rv.1 (by omega), Option.bind_some, wrA_in (by omega) (by omega), Option.bind_some]
        unfold f_insertKeyword_123
        rw [rdg (by omega) (by rw [List.length_set]; omega), Option.bind_some, gv]
        refine ih (j + 1) _ _ _ _ _ (by omega) (by omega) (by omega) (by rw [List.length_set]; exact lD) T' (by omega) ?_ (fun w u hl hw => st' w u hl (st w u hl hw))
        rw [kp1]
        exact own_nd_c.mpr ⟨v2, st' _ _ (h.lt k0 k1 j jl) hv, gv, by rw [ieq]; omega⟩
      · unfold f_insertKeyword_123
        rw [rdg (by omega) (by omega), Option.bind_some]
        refine ih (j + 1) _ _ _ _ _ (by omega) (by omega) (by omega) lD T (by omega) ?_ st
        rw [kp1]
        exact own_nd_c.mpr ⟨v2, hv, rfl, z⟩
def own_mb (w : Int32) (n : Nat) : Bool := w.toBitVec.getLsbD n
theorem own_shl_all : ∀ n : Fin 32, ((1 : Int32) <<< (Int32.ofNat n.val &&& 31)).toBitVec = 1#32 <<< n.val := by decide +kernel
theorem own_one {n k : Nat} (hn : n < 32) : (1#32 <<< k).getLsbD n = decide (n = k) := by
  rw [BitVec.getLsbD_shiftLeft]
  by_cases g : n = k
  · subst g
    simp [hn]
  · by_cases l : n < k
    · simp [g, l]
    · have e1 : (1#32).getLsbD (n - k) = false := by
        have q : ¬ n - k = 0 := by omega
        rw [BitVec.getLsbD_one]
        simp [q]
      simp [e1, g]
theorem own_mbo (a b : Int32) (n : Nat) : own_mb (a ||| b) n = (own_mb a n || own_mb b n) := by
  unfold own_mb
  rw [Int32.toBitVec_or, BitVec.getLsbD_or]
theorem own_mb1 {k : Int32} (k0 : 0 ≤ k.toInt) (k1 : k.toInt < 32) {n : Nat} (hn : n < 32) : own_mb ((1 : Int32) <<< (k &&& 31)) n = decide (n = k.toInt.toNat) := by
  have ok : Int32.ofNat k.toInt.toNat = k := by rw [ieq, Int32.toInt_ofNat_of_lt (by omega)]; omega
  have e := own_shl_all ⟨k.toInt.toNat, by omega⟩
  simp only at e
  rw [ok] at e
  unfold own_mb
  rw [e, own_one hn]
theorem own_mbz (n : Nat) : own_mb 0 n = false := by
  unfold own_mb
  show (0#32).getLsbD n = false
  exact BitVec.getLsbD_zero
def own_kw (KC KL : List Int32) (k : Int32) : List Int32 := own_kp KC k (gI KL k).toInt.toNat
abbrev own_TK (KC KL CH TM OM : List Int32) (nc k : Int32) : Prop := (own_T CH nc) ∧ (TM.length = 129) ∧ (OM.length = 129) ∧ (∀ i : Int32, 0 ≤ i.toInt → i.toInt < k.toInt → ∃ v, own_nd CH (own_kw KC KL i) = some v) ∧ (∀ w v, own_lt w → own_nd CH w = some v → ∀ b : Nat, b < 32 → (own_mb (gI OM v) b = true ↔ ∃ i : Int32, 0 ≤ i.toInt ∧ i.toInt < k.toInt ∧ i.toInt = b ∧ w = own_kw KC KL i)) ∧ (∀ v : Int32, nc.toInt ≤ v.toInt → v.toInt < 129 → gI OM v = 0) ∧ (∀ w v, own_lt w → own_nd CH w = some v → (gI TM v = -1 ∧ ∀ i : Int32, 0 ≤ i.toInt → i.toInt < k.toInt → ¬ w = own_kw KC KL i) ∨ ∃ i : Int32, 0 ≤ i.toInt ∧ i.toInt < k.toInt ∧ gI TM v = i ∧ w = own_kw KC KL i) ∧ (∀ v : Int32, nc.toInt ≤ v.toInt → v.toInt < 129 → gI TM v = -1)
theorem own_TK.T {KC KL CH TM OM : List Int32} {nc k : Int32} (self : own_TK KC KL CH TM OM nc k) : own_T CH nc := self.1
theorem own_TK.lT {KC KL CH TM OM : List Int32} {nc k : Int32} (self : own_TK KC KL CH TM OM nc k) : TM.length = 129 := self.2.1
theorem own_TK.lO {KC KL CH TM OM : List Int32} {nc k : Int32} (self : own_TK KC KL CH TM OM nc k) : OM.length = 129 := self.2.2.1
theorem own_TK.W {KC KL CH TM OM : List Int32} {nc k : Int32} (self : own_TK KC KL CH TM OM nc k) : ∀ i : Int32, 0 ≤ i.toInt → i.toInt < k.toInt → ∃ v, own_nd CH (own_kw KC KL i) = some v := self.2.2.2.1
theorem own_TK.O {KC KL CH TM OM : List Int32} {nc k : Int32} (self : own_TK KC KL CH TM OM nc k) : ∀ w v, own_lt w → own_nd CH w = some v → ∀ b : Nat, b < 32 → (own_mb (gI OM v) b = true ↔ ∃ i : Int32, 0 ≤ i.toInt ∧ i.toInt < k.toInt ∧ i.toInt = b ∧ w = own_kw KC KL i) := self.2.2.2.2.1
theorem own_TK.Oz {KC KL CH TM OM : List Int32} {nc k : Int32} (self : own_TK KC KL CH TM OM nc k) : ∀ v : Int32, nc.toInt ≤ v.toInt → v.toInt < 129 → gI OM v = 0 := self.2.2.2.2.2.1
theorem own_TK.M {KC KL CH TM OM : List Int32} {nc k : Int32} (self : own_TK KC KL CH TM OM nc k) : ∀ w v, own_lt w → own_nd CH w = some v → (gI TM v = -1 ∧ ∀ i : Int32, 0 ≤ i.toInt → i.toInt < k.toInt → ¬ w = own_kw KC KL i) ∨ ∃ i : Int32, 0 ≤ i.toInt ∧ i.toInt < k.toInt ∧ gI TM v = i ∧ w = own_kw KC KL i := self.2.2.2.2.2.2.1
theorem own_TK.Mz {KC KL CH TM OM : List Int32} {nc k : Int32} (self : own_TK KC KL CH TM OM nc k) : ∀ v : Int32, nc.toInt ≤ v.toInt → v.toInt < 129 → gI TM v = -1 := self.2.2.2.2.2.2.2
theorem own_KG.kl {KC KL : List Int32} {ct : Int32} (h : own_KG KC KL ct) {k : Int32} (k0 : 0 ≤ k.toInt) (k1 : k.toInt < ct.toInt) : own_lt (own_kw KC KL k) ∧ (own_kw KC KL k).length = (gI KL k).toInt.toNat ∧ ¬ own_kw KC KL k = [] := by
  have n := h.n k k0 k1
  have l := own_kp_len KC k (gI KL k).toInt.toNat
  refine ⟨h.lt k0 k1 _ (by omega), l, fun z => ?_⟩
  unfold own_kw at z
  rw [z, List.length_nil] at l
  omega
theorem own_btX {KC KL : List Int32} {ct : Int32} (h : own_KG KC KL ct) : ∀ (f : Nat) (CH DP TM OM : List Int32) (nc lk k : Int32), 0 ≤ k.toInt → k.toInt ≤ ct.toInt → 16 - k.toInt < f → DP.length = 129 → nc.toInt ≤ 1 + 8 * k.toInt → 1 ≤ lk.toInt → lk.toInt ≤ 8 → own_TK KC KL CH TM OM nc k → Tot (f_buildTrie_12 KC KL ct f CH DP TM OM nc lk k) (fun (CH', DP', TM', OM', nc', lk') => own_TK KC KL CH' TM' OM' nc' ct ∧ DP'.length = 129 ∧ 1 ≤ lk'.toInt ∧ lk'.toInt ≤ 8) := by
  intro f
  have e16 : (16 : Int32).toInt = 16 := rfl
  have e0 : (0 : Int32).toInt = 0 := rfl
  have c1 := h.c1
  have lL := h.lL
  induction f with
  | zero => intro CH DP TM OM nc lk k a b c; exfalso; omega
  | succ f ih =>
    intro CH DP TM OM nc lk k a b c lD hn l1 l2 K
    unfold f_buildTrie_12
    refine own_iL (fun g => ?_) (fun g => ?_)
    rotate_left
    · have kc : k = ct := by rw [ieq]; omega
      rw [← kc]
      exact Tot.mk ⟨K, lD, l1, l2⟩
    rw [if_pos (by rw [ilt]; omega)]
    have p := own_p1 (a := k) (by omega)
    have nl := h.n k a g
    unfold f_insertKeyword
    refine Tot.bind (own_insX (CH0 := CH) h a g K.lT K.lO 100000 0 CH DP nc 0 0 rfl (by omega) (by omega) lD K.T (by omega) rfl (fun _ _ _ q => q)) ?_
    rintro ⟨CH', DP', TM', OM', nc'⟩ ⟨T', hn', lD', st, v, hv, eT, eO⟩
    have T2 : own_T CH' nc' := T'
    have hn2 : nc'.toInt ≤ 1 + 8 * (k.toInt + 1) := hn'
    have st2 : ∀ w u, own_lt w → own_nd CH w = some u → own_nd CH' w = some u := st
    have hv2 : own_nd CH' (own_kw KC KL k) = some v := hv
    have eT2 : TM' = TM.set v.toInt.toNat k := eT
    have eO2 : OM' = OM.set v.toInt.toNat (gI OM v ||| ((1 : Int32) <<< (k &&& 31))) := eO
    have lT := K.lT
    have lO := K.lO
    have t1 := T2.n1
    have t0 := K.T.n0
    obtain ⟨klt, -, -⟩ := h.kl a g
    have rv := own_nd_r T2 _ v klt hv2
    have gO : ∀ x : Int32, 0 ≤ x.toInt → gI OM' x = if v = x then gI OM v ||| ((1 : Int32) <<< (k &&& 31)) else gI OM x := fun x x0 => by rw [eO2]; exact gset rv.1 (by omega) x0
    have gT : ∀ x : Int32, 0 ≤ x.toInt → gI TM' x = if v = x then k else gI TM x := fun x x0 => by rw [eT2]; exact gset rv.1 (by omega) x0
    have old : ∀ w x, own_lt w → own_nd CH' w = some x → x.toInt < nc.toInt → own_nd CH w = some x := by
      intro w x hl hw hx
      have rx := own_nd_r T2 w x hl hw
      obtain ⟨w0, hl0, hw0⟩ := own_nd_e K.T x.toInt.toNat x (by omega) hx
      rw [own_nd_i T2 w w0 x hl hl0 hw (st2 w0 x hl0 hw0)]
      exact hw0
    have new : ∀ w x, own_lt w → own_nd CH' w = some x → ¬ x.toInt < nc.toInt → ∀ i : Int32, 0 ≤ i.toInt → i.toInt < k.toInt → ¬ w = own_kw KC KL i := by
      intro w x hl hw hx i i0 i1 e
      obtain ⟨u, hu⟩ := K.W i i0 i1
      have hil := (h.kl i0 (by omega)).1
      have ru := own_nd_r K.T _ u hil hu
      have := st2 _ u hil hu
      rw [← e, hw] at this
      rw [Option.some.inj this] at hx
      exact hx ru.2.1
    have vx : ∀ w x, own_lt w → own_nd CH' w = some x → (v = x ↔ w = own_kw KC KL k) := by
      intro w x hl hw
      constructor
      · intro e
        rw [← e] at hw
        exact own_nd_i T2 w _ v hl klt hw hv2
      · intro e
        rw [e, hv2] at hw
        exact Option.some.inj hw
    have K2 : own_TK KC KL CH' TM' OM' nc' (k + 1) := by
      refine ⟨T2, by rw [eT2, List.length_set]; exact lT, by rw [eO2, List.length_set]; exact lO, ?_, ?_, ?_, ?_, ?_⟩
      · intro i i0 i1
        by_cases q : i = k
        · rw [q]; exact ⟨v, hv2⟩
        · rw [ieq] at q
          obtain ⟨u, hu⟩ := K.W i i0 (by omega)
          exact ⟨u, st2 _ u (h.kl i0 (by omega)).1 hu⟩
      · intro w x hl hw b hb
        have rx := own_nd_r T2 w x hl hw
        have base : own_mb (gI OM x) b = true ↔ ∃ i : Int32, 0 ≤ i.toInt ∧ i.toInt < k.toInt ∧ i.toInt = b ∧ w = own_kw KC KL i := by
          by_cases q : x.toInt < nc.toInt
          · exact K.O w x hl (old w x hl hw q) b hb
          · rw [K.Oz x (by omega) (by omega), own_mbz]
            constructor
            · intro z; exact absurd z (by simp)
            · rintro ⟨i, i0, i1, -, e⟩
              exact absurd e (new w x hl hw q i i0 i1)
        rw [gO x rx.1]
        by_cases q : v = x
        · have wk := (vx w x hl hw).mp q
          rw [if_pos q, q, own_mbo, own_mb1 a (by omega) hb, Bool.or_eq_true, base, decide_eq_true_eq]
          constructor
          · rintro (⟨i, i0, i1, i2, i3⟩ | e)
            · exact ⟨i, i0, by omega, i2, i3⟩
            · exact ⟨k, a, by omega, by omega, wk⟩
          · rintro ⟨i, i0, i1, i2, i3⟩
            by_cases z : i = k
            · right; rw [ieq] at z; omega
            · left; rw [ieq] at z; exact ⟨i, i0, by omega, i2, i3⟩
        · rw [if_neg q, base]
          constructor
          · rintro ⟨i, i0, i1, i2, i3⟩
            exact ⟨i, i0, by omega, i2, i3⟩
          · rintro ⟨i, i0, i1, i2, i3⟩
            by_cases z : i = k
            · rw [z] at i3; exact absurd ((vx w x hl hw).mpr i3) q
            · rw [ieq] at z; exact ⟨i, i0, by omega, i2, i3⟩
      · intro x x0 x1
        have m1 : nc.toInt ≤ nc'.toInt := by
          by_cases q : nc.toInt ≤ nc'.toInt
          · exact q
          · exfalso
            -- an old node is a node still
            obtain ⟨w0, hl0, hw0⟩ := own_nd_e K.T (nc.toInt - 1).toNat (nc - 1) (by have e1 : (1 : Int32).toInt = 1 := rfl; rw [isub_i (by omega) (by omega), e1]; omega) (by have e1 : (1 : Int32).toInt = 1 := rfl; rw [isub_i (by omega) (by omega), e1]; omega)
            have := (own_nd_r T2 w0 _ hl0 (st2 w0 _ hl0 hw0)).2.1
            have e1 : (1 : Int32).toInt = 1 := rfl
            rw [isub_i (by omega) (by omega), e1] at this
            omega
        have nv : ¬ v = x := fun e => by rw [← e] at x0; omega
        rw [gO x (by omega), if_neg nv]
        exact K.Oz x (by omega) x1
      · intro w x hl hw
        have rx := own_nd_r T2 w x hl hw
        rw [gT x rx.1]
        by_cases q : v = x
        · have wk := (vx w x hl hw).mp q
          rw [if_pos q]
          exact Or.inr ⟨k, a, by omega, rfl, wk⟩
        · rw [if_neg q]
          have nk : ¬ w = own_kw KC KL k := fun e => q ((vx w x hl hw).mpr e)
          by_cases z : x.toInt < nc.toInt
          · rcases K.M w x hl (old w x hl hw z) with ⟨m1, m2⟩ | ⟨i, i0, i1, m1, m2⟩
            · refine Or.inl ⟨m1, fun i i0 i1 => ?_⟩
              by_cases y : i = k
              · rw [y]; exact nk
              · rw [ieq] at y; exact m2 i i0 (by omega)
            · exact Or.inr ⟨i, i0, by omega, m1, m2⟩
          · refine Or.inl ⟨K.Mz x (by omega) (by omega), fun i i0 i1 => ?_⟩
            by_cases y : i = k
            · rw [y]; exact nk
            · rw [ieq] at y; exact new w x hl hw z i i0 (by omega)
      · intro x x0 x1
        have m1 : nc.toInt ≤ nc'.toInt := by
          by_cases q : nc.toInt ≤ nc'.toInt
          · exact q
          · exfalso
            obtain ⟨w0, hl0, hw0⟩ := own_nd_e K.T (nc.toInt - 1).toNat (nc - 1) (by have e1 : (1 : Int32).toInt = 1 := rfl; rw [isub_i (by omega) (by omega), e1]; omega) (by have e1 : (1 : Int32).toInt = 1 := rfl; rw [isub_i (by omega) (by omega), e1]; omega)
            have := (own_nd_r T2 w0 _ hl0 (st2 w0 _ hl0 hw0)).2.1
            have e1 : (1 : Int32).toInt = 1 := rfl
            rw [isub_i (by omega) (by omega), e1] at this
            omega
        have nv : ¬ v = x := fun e => by rw [← e] at x0; omega
        rw [gT x (by omega), if_neg nv]
        exact K.Mz x (by omega) x1
    show Tot ((rdA KL k).bind _) _
    rw [rdg a (by omega), Option.bind_some]
    refine own_iL (fun c3 => ?_) (fun c3 => ?_)
    · rw [Option.bind_some]
      exact ih _ _ _ _ _ _ _ (by omega) (by omega) (by omega) lD' (by omega) (by omega) (by omega) K2
    · exact ih _ _ _ _ _ _ _ (by omega) (by omega) (by omega) lD' (by omega) l1 l2 K2
theorem own_T0 {CH TM OM : List Int32} (KC KL : List Int32) (hC : own_V CH 3354 0 0) (hT : own_V TM 129 (-1) (-1)) (hO : own_V OM 129 0 0) : own_TK KC KL CH TM OM 1 0 := by
  have e0 : (0 : Int32).toInt = 0 := rfl
  have e1 : (1 : Int32).toInt = 1 := rfl
  have em : (-1 : Int32).toInt = -1 := rfl
  have zC : ∀ v c : Int32, 0 ≤ v.toInt → v.toInt < 129 → 0 ≤ c.toInt → c.toInt < 26 → gI CH (v * 26 + c) = 0 := by
    intro v c v0 v1 c0 c1
    have ix := own_ix26 v0 (by omega) c0 c1
    have := hC.2 (v * 26 + c) (by omega) (by omega)
    rw [ieq]; omega
  have zO : ∀ v : Int32, 0 ≤ v.toInt → v.toInt < 129 → gI OM v = 0 := by
    intro v v0 v1
    have := hO.2 v v0 v1
    rw [ieq]; omega
  have zT : ∀ v : Int32, 0 ≤ v.toInt → v.toInt < 129 → gI TM v = -1 := by
    intro v v0 v1
    have := hT.2 v v0 v1
    rw [ieq]; omega
  have T : own_T CH 1 := ⟨hC.1, by decide, by decide, fun v c v0 v1 c0 c1 => Or.inl (zC v c v0 v1 c0 c1), fun v c v' c' v0 v1 c0 c1 _ _ _ _ _ nz => absurd (zC v c v0 v1 c0 c1) nz, fun u u1 u2 => by omega⟩
  refine ⟨T, hT.1, hO.1, fun i i0 i1 => by omega, fun w v hl hw b hb => ?_, fun v v0 v1 => zO v (by omega) v1, fun w v hl hw => Or.inl ⟨?_, fun i i0 i1 => by omega⟩, fun v v0 v1 => zT v (by omega) v1⟩
  · have r := own_nd_r T w v hl hw
    rw [zO v r.1 (by omega), own_mbz]
    constructor
    · intro z; exact absurd z (by simp)
    · rintro ⟨i, i0, i1, -⟩; omega
  · have r := own_nd_r T w v hl hw
    exact zT v r.1 (by omega)
theorem own_pig : ∀ (M n : Nat) (g : Nat → Nat), (∀ i, i < n → g i < M) → (∀ i j, i < j → j < n → g i ≠ g j) → n ≤ M := by
  intro M
  induction M with
  | zero =>
    intro n g h _
    by_cases z : n = 0
    · omega
    · exact absurd (h 0 (by omega)) (by omega)
  | succ M ih =>
    intro n g h d
    by_cases q : ∃ i, i < n ∧ g i = M
    · obtain ⟨i0, hi, e⟩ := q
      have := ih (n - 1) (fun i => if i < i0 then g i else g (i + 1)) (by
        intro i hi'
        try dsimp only
        by_cases c : i < i0
        · rw [if_pos c]
          have a := h i (by omega)
          have b := d i i0 c hi
          omega
        · rw [if_neg c]
          have a := h (i + 1) (by omega)
          have b := d i0 (i + 1) (by omega) (by omega)
          omega) (by
        intro i j ij hj
        try dsimp only
        by_cases c : i < i0
        · by_cases c' : j < i0
          · rw [if_pos c, if_pos c']; exact d i j ij (by omega)
          · rw [if_pos c, if_neg c']; exact d i (j + 1) (by omega) (by omega)
        · rw [if_neg c, if_neg (by omega)]; exact d (i + 1) (j + 1) (by omega) (by omega))
      omega
    · have := ih n g (fun i hi => by
        have a := h i hi
        have b : g i ≠ M := fun e => q ⟨i, hi, e⟩
        omega) d
      omega
def own_isn (CH w : List Int32) : Prop := ∃ v, own_nd CH w = some v
def own_M (CH t : List Int32) (m : Nat) : Prop := m ≤ t.length ∧ own_isn CH (t.take m) ∧ ∀ m', m' ≤ t.length → own_isn CH (t.take m') → m' ≤ m
def own_Fl (CH t : List Int32) (m : Nat) : Prop := m < t.length ∧ own_isn CH (t.take m) ∧ ∀ m', m' < t.length → own_isn CH (t.take m') → m' ≤ m
theorem own_isn_tl {CH : List Int32} {c : Int32} {w : List Int32} (h : own_isn CH (c :: w)) : own_isn CH w := by
  obtain ⟨u, hu⟩ := h
  obtain ⟨v, hv, -⟩ := own_nd_c.mp hu
  exact ⟨v, hv⟩
theorem own_isn_nil (CH : List Int32) : own_isn CH [] := ⟨0, rfl⟩
theorem own_tk {c : Int32} {w : List Int32} {m k : Nat} (h : k ≤ m + 1) : (c :: w.take m).take k = (c :: w).take k := by
  rcases k with _ | k
  · rfl
  · rw [List.take_succ_cons, List.take_succ_cons, List.take_take, Nat.min_eq_left (by omega)]
theorem own_M_step {CH t : List Int32} {c : Int32} {m m2 : Nat} (h : own_M CH t m) (h2 : own_M CH (c :: t.take m) m2) : own_M CH (c :: t) m2 := by
  obtain ⟨a1, a2, a3⟩ := h
  obtain ⟨b1, b2, b3⟩ := h2
  have ll : (c :: t.take m).length = m + 1 := by rw [List.length_cons, List.length_take, Nat.min_eq_left a1]
  rw [ll] at b1 b3
  refine ⟨by rw [List.length_cons]; omega, by rw [← own_tk b1]; exact b2, fun m' h1 h3 => ?_⟩
  rcases m' with _ | k
  · omega
  · rw [List.take_succ_cons] at h3
    rw [List.length_cons] at h1
    have := a3 k (by omega) (own_isn_tl h3)
    refine b3 (k + 1) (by omega) ?_
    rw [own_tk (by omega), List.take_succ_cons]
    exact h3
theorem own_Fl_step {CH t : List Int32} {c : Int32} {m m2 : Nat} (h : own_Fl CH t m) (h2 : own_M CH (c :: t.take m) m2) : own_Fl CH (c :: t) m2 := by
  obtain ⟨a1, a2, a3⟩ := h
  obtain ⟨b1, b2, b3⟩ := h2
  have ll : (c :: t.take m).length = m + 1 := by rw [List.length_cons, List.length_take, Nat.min_eq_left (by omega)]
  rw [ll] at b1 b3
  refine ⟨by rw [List.length_cons]; omega, by rw [← own_tk b1]; exact b2, fun m' h1 h3 => ?_⟩
  rcases m' with _ | k
  · omega
  · rw [List.take_succ_cons] at h3
    rw [List.length_cons] at h1
    have := a3 k (by omega) (own_isn_tl h3)
    refine b3 (k + 1) (by omega) ?_
    rw [own_tk (by omega), List.take_succ_cons]
    exact h3
theorem own_M_full {CH t : List Int32} (h : own_isn CH t) : own_M CH t t.length := ⟨Nat.le_refl _, by rw [List.take_length]; exact h, fun m' h1 _ => h1⟩
theorem own_M_of {CH t : List Int32} {m : Nat} (h : own_Fl CH t m) (n : ¬ own_isn CH t) : own_M CH t m := by
  obtain ⟨a1, a2, a3⟩ := h
  refine ⟨by omega, a2, fun m' h1 h2 => ?_⟩
  by_cases q : m' = t.length
  · rw [q, List.take_length] at h2; exact absurd h2 n
  · exact a3 m' (by omega) h2
def own_omf (KC KL : List Int32) (ct m : Int32) (w : List Int32) : Prop := ∀ b : Nat, b < 32 → (own_mb m b = true ↔ ∃ i : Int32, 0 ≤ i.toInt ∧ i.toInt < ct.toInt ∧ i.toInt = b ∧ ∃ q, q ≤ w.length ∧ w.take q = own_kw KC KL i)
abbrev own_BG (KC KL CH OM0 DE FA OM QU : List Int32) (nc ct : Int32) (D : List Int32 → Prop) (cw : List Int32) (c : Int) (tl : Int32) : Prop := (own_V DE 3354 0 128) ∧ (own_V FA 129 0 128) ∧ (own_V QU 129 0 128) ∧ (OM.length = 129) ∧ (0 ≤ tl.toInt) ∧ (tl.toInt ≤ 128) ∧ (∀ i : Int32, 0 ≤ i.toInt → i.toInt < tl.toInt → ∃ w, own_lt w ∧ ¬ w = [] ∧ own_nd CH w = some (gI QU i) ∧ ∃ m, own_Fl CH w m ∧ own_nd CH (w.take m) = some (gI FA (gI QU i))) ∧ (∀ i j : Int32, 0 ≤ i.toInt → i.toInt < tl.toInt → 0 ≤ j.toInt → j.toInt < tl.toInt → gI QU i = gI QU j → i = j) ∧ (∀ i : Int32, 0 ≤ i.toInt → i.toInt < tl.toInt → gI FA (gI QU i) = 0 ∨ ∃ j : Int32, 0 ≤ j.toInt ∧ j.toInt < i.toInt ∧ gI QU j = gI FA (gI QU i)) ∧ (∀ w v, own_lt w → D w → own_nd CH w = some v → ∀ c' : Int32, 0 ≤ c'.toInt → c'.toInt < 26 → ∃ m, own_M CH (c' :: w) m ∧ own_nd CH ((c' :: w).take m) = some (gI DE (v * 26 + c'))) ∧ (∀ w v, own_lt w → (D w ∨ w = cw) → own_nd CH w = some v → own_omf KC KL ct (gI OM v) w) ∧ (∀ w v, own_lt w → ¬ D w → ¬ w = cw → own_nd CH w = some v → gI OM v = gI OM0 v) ∧ (∀ v, own_nd CH cw = some v → ∀ c' : Int32, 0 ≤ c'.toInt → c'.toInt < c → ∃ m, own_M CH (c' :: cw) m ∧ own_nd CH ((c' :: cw).take m) = some (gI DE (v * 26 + c'))) ∧ (∀ w (c' : Int32) u, own_lt (c' :: w) → own_nd CH (c' :: w) = some u → (D w ∨ (w = cw ∧ c'.toInt < c)) → ∃ i : Int32, 0 ≤ i.toInt ∧ i.toInt < tl.toInt ∧ gI QU i = u) ∧ (∀ i : Int32, 0 ≤ i.toInt → i.toInt < tl.toInt → ∀ w (c' : Int32), own_lt (c' :: w) → own_nd CH (c' :: w) = some (gI QU i) → (D w ∨ (w = cw ∧ c'.toInt < c))) ∧ (¬ D cw)
theorem own_BG.vD {KC KL CH OM0 DE FA OM QU : List Int32} {nc ct : Int32} {D : List Int32 → Prop} {cw : List Int32} {c : Int} {tl : Int32} (self : own_BG KC KL CH OM0 DE FA OM QU nc ct D cw c tl) : own_V DE 3354 0 128 := self.1
theorem own_BG.vF {KC KL CH OM0 DE FA OM QU : List Int32} {nc ct : Int32} {D : List Int32 → Prop} {cw : List Int32} {c : Int} {tl : Int32} (self : own_BG KC KL CH OM0 DE FA OM QU nc ct D cw c tl) : own_V FA 129 0 128 := self.2.1
theorem own_BG.vQ {KC KL CH OM0 DE FA OM QU : List Int32} {nc ct : Int32} {D : List Int32 → Prop} {cw : List Int32} {c : Int} {tl : Int32} (self : own_BG KC KL CH OM0 DE FA OM QU nc ct D cw c tl) : own_V QU 129 0 128 := self.2.2.1
theorem own_BG.lO {KC KL CH OM0 DE FA OM QU : List Int32} {nc ct : Int32} {D : List Int32 → Prop} {cw : List Int32} {c : Int} {tl : Int32} (self : own_BG KC KL CH OM0 DE FA OM QU nc ct D cw c tl) : OM.length = 129 := self.2.2.2.1
theorem own_BG.t0 {KC KL CH OM0 DE FA OM QU : List Int32} {nc ct : Int32} {D : List Int32 → Prop} {cw : List Int32} {c : Int} {tl : Int32} (self : own_BG KC KL CH OM0 DE FA OM QU nc ct D cw c tl) : 0 ≤ tl.toInt := self.2.2.2.2.1
theorem own_BG.t1 {KC KL CH OM0 DE FA OM QU : List Int32} {nc ct : Int32} {D : List Int32 → Prop} {cw : List Int32} {c : Int} {tl : Int32} (self : own_BG KC KL CH OM0 DE FA OM QU nc ct D cw c tl) : tl.toInt ≤ 128 := self.2.2.2.2.2.1
theorem own_BG.a {KC KL CH OM0 DE FA OM QU : List Int32} {nc ct : Int32} {D : List Int32 → Prop} {cw : List Int32} {c : Int} {tl : Int32} (self : own_BG KC KL CH OM0 DE FA OM QU nc ct D cw c tl) : ∀ i : Int32, 0 ≤ i.toInt → i.toInt < tl.toInt → ∃ w, own_lt w ∧ ¬ w = [] ∧ own_nd CH w = some (gI QU i) ∧ ∃ m, own_Fl CH w m ∧ own_nd CH (w.take m) = some (gI FA (gI QU i)) := self.2.2.2.2.2.2.1
theorem own_BG.d {KC KL CH OM0 DE FA OM QU : List Int32} {nc ct : Int32} {D : List Int32 → Prop} {cw : List Int32} {c : Int} {tl : Int32} (self : own_BG KC KL CH OM0 DE FA OM QU nc ct D cw c tl) : ∀ i j : Int32, 0 ≤ i.toInt → i.toInt < tl.toInt → 0 ≤ j.toInt → j.toInt < tl.toInt → gI QU i = gI QU j → i = j := self.2.2.2.2.2.2.2.1
theorem own_BG.e {KC KL CH OM0 DE FA OM QU : List Int32} {nc ct : Int32} {D : List Int32 → Prop} {cw : List Int32} {c : Int} {tl : Int32} (self : own_BG KC KL CH OM0 DE FA OM QU nc ct D cw c tl) : ∀ i : Int32, 0 ≤ i.toInt → i.toInt < tl.toInt → gI FA (gI QU i) = 0 ∨ ∃ j : Int32, 0 ≤ j.toInt ∧ j.toInt < i.toInt ∧ gI QU j = gI FA (gI QU i) := self.2.2.2.2.2.2.2.2.1
theorem own_BG.dn {KC KL CH OM0 DE FA OM QU : List Int32} {nc ct : Int32} {D : List Int32 → Prop} {cw : List Int32} {c : Int} {tl : Int32} (self : own_BG KC KL CH OM0 DE FA OM QU nc ct D cw c tl) : ∀ w v, own_lt w → D w → own_nd CH w = some v → ∀ c' : Int32, 0 ≤ c'.toInt → c'.toInt < 26 → ∃ m, own_M CH (c' :: w) m ∧ own_nd CH ((c' :: w).take m) = some (gI DE (v * 26 + c')) := self.2.2.2.2.2.2.2.2.2.1
theorem own_BG.om {KC KL CH OM0 DE FA OM QU : List Int32} {nc ct : Int32} {D : List Int32 → Prop} {cw : List Int32} {c : Int} {tl : Int32} (self : own_BG KC KL CH OM0 DE FA OM QU nc ct D cw c tl) : ∀ w v, own_lt w → (D w ∨ w = cw) → own_nd CH w = some v → own_omf KC KL ct (gI OM v) w := self.2.2.2.2.2.2.2.2.2.2.1
theorem own_BG.un {KC KL CH OM0 DE FA OM QU : List Int32} {nc ct : Int32} {D : List Int32 → Prop} {cw : List Int32} {c : Int} {tl : Int32} (self : own_BG KC KL CH OM0 DE FA OM QU nc ct D cw c tl) : ∀ w v, own_lt w → ¬ D w → ¬ w = cw → own_nd CH w = some v → gI OM v = gI OM0 v := self.2.2.2.2.2.2.2.2.2.2.2.1
theorem own_BG.row {KC KL CH OM0 DE FA OM QU : List Int32} {nc ct : Int32} {D : List Int32 → Prop} {cw : List Int32} {c : Int} {tl : Int32} (self : own_BG KC KL CH OM0 DE FA OM QU nc ct D cw c tl) : ∀ v, own_nd CH cw = some v → ∀ c' : Int32, 0 ≤ c'.toInt → c'.toInt < c → ∃ m, own_M CH (c' :: cw) m ∧ own_nd CH ((c' :: cw).take m) = some (gI DE (v * 26 + c')) := self.2.2.2.2.2.2.2.2.2.2.2.2.1
theorem own_BG.ch {KC KL CH OM0 DE FA OM QU : List Int32} {nc ct : Int32} {D : List Int32 → Prop} {cw : List Int32} {c : Int} {tl : Int32} (self : own_BG KC KL CH OM0 DE FA OM QU nc ct D cw c tl) : ∀ w (c' : Int32) u, own_lt (c' :: w) → own_nd CH (c' :: w) = some u → (D w ∨ (w = cw ∧ c'.toInt < c)) → ∃ i : Int32, 0 ≤ i.toInt ∧ i.toInt < tl.toInt ∧ gI QU i = u := self.2.2.2.2.2.2.2.2.2.2.2.2.2.1
theorem own_BG.pa {KC KL CH OM0 DE FA OM QU : List Int32} {nc ct : Int32} {D : List Int32 → Prop} {cw : List Int32} {c : Int} {tl : Int32} (self : own_BG KC KL CH OM0 DE FA OM QU nc ct D cw c tl) : ∀ i : Int32, 0 ≤ i.toInt → i.toInt < tl.toInt → ∀ w (c' : Int32), own_lt (c' :: w) → own_nd CH (c' :: w) = some (gI QU i) → (D w ∨ (w = cw ∧ c'.toInt < c)) := self.2.2.2.2.2.2.2.2.2.2.2.2.2.2.1
theorem own_BG.nD {KC KL CH OM0 DE FA OM QU : List Int32} {nc ct : Int32} {D : List Int32 → Prop} {cw : List Int32} {c : Int} {tl : Int32} (self : own_BG KC KL CH OM0 DE FA OM QU nc ct D cw c tl) : ¬ D cw := self.2.2.2.2.2.2.2.2.2.2.2.2.2.2.2
theorem own_step {KC KL CH OM0 DE FA OM QU : List Int32} {nc ct : Int32} {D : List Int32 → Prop} {cw : List Int32} {c tl v g : Int32} (T : own_T CH nc) (B : own_BG KC KL CH OM0 DE FA OM QU nc ct D cw c.toInt tl) (hl : own_lt cw) (hv : own_nd CH cw = some v) (c0 : 0 ≤ c.toInt) (c1 : c.toInt < 26) (g0 : 0 ≤ g.toInt) (g1 : g.toInt ≤ 128) (Gp : ∃ m, own_Fl CH (c :: cw) m ∧ own_nd CH ((c :: cw).take m) = some g) (Ge : g = 0 ∨ ∃ j : Int32, 0 ≤ j.toInt ∧ j.toInt < tl.toInt ∧ gI QU j = g) :
    (gI CH (v * 26 + c) = 0 → own_BG KC KL CH OM0 (DE.set (v * 26 + c).toInt.toNat g) FA OM QU nc ct D cw (c + 1).toInt tl) ∧ (¬ gI CH (v * 26 + c) = 0 → 0 ≤ (gI CH (v * 26 + c)).toInt ∧ (gI CH (v * 26 + c)).toInt ≤ 128 ∧ own_BG KC KL CH OM0 (DE.set (v * 26 + c).toInt.toNat (gI CH (v * 26 + c))) (FA.set (gI CH (v * 26 + c)).toInt.toNat g) OM (QU.set tl.toInt.toNat (gI CH (v * 26 + c))) nc ct D cw (c + 1).toInt (tl + 1)) := by
  obtain ⟨vD, vF, vQ, lO, t0, t1, a, d, e, dn, om, un, row, ch, pa, nD⟩ := B
  have n1 := T.n1
  have rv := own_nd_r T cw v hl hv
  have ix := own_ix26 rv.1 (by omega) c0 c1
  have pc := own_p1 (a := c) (by omega)
  have lD := vD.1
  have lF := vF.1
  have lQ := vQ.1
  have e0 : (0 : Int32).toInt = 0 := rfl
  have gD : ∀ (y v' c' : Int32), 0 ≤ v'.toInt → v'.toInt < 129 → 0 ≤ c'.toInt → c'.toInt < 26 → gI (DE.set (v * 26 + c).toInt.toNat y) (v' * 26 + c') = if v = v' ∧ c = c' then y else gI DE (v' * 26 + c') := by
    intro y v' c' a0 a1 b0 b1
    have ix' := own_ix26 a0 (by omega) b0 b1
    rw [gset (by omega) (by omega) (by omega)]
    by_cases q : v = v' ∧ c = c'
    · rw [if_pos q, if_pos (by rw [q.1, q.2])]
    · rw [if_neg q, if_neg]
      intro e
      apply q
      rw [ieq] at e
      rw [ieq, ieq]
      omega
  have dn' : ∀ y : Int32, ∀ w v', own_lt w → D w → own_nd CH w = some v' → ∀ c' : Int32, 0 ≤ c'.toInt → c'.toInt < 26 → ∃ m, own_M CH (c' :: w) m ∧ own_nd CH ((c' :: w).take m) = some (gI (DE.set (v * 26 + c).toInt.toNat y) (v' * 26 + c')) := by
    intro y w v' hw Dw hv' c' b0 b1
    have rv' := own_nd_r T w v' hw hv'
    have ne : ¬ (v = v' ∧ c = c') := by
      rintro ⟨q, -⟩
      rw [← q] at hv'
      have := own_nd_i T w cw v hw hl hv' hv
      rw [this] at Dw
      exact nD Dw
    rw [gD y v' c' rv'.1 (by omega) b0 b1, if_neg ne]
    exact dn w v' hw Dw hv' c' b0 b1
  have row' : ∀ y : Int32, (∃ m, own_M CH (c :: cw) m ∧ own_nd CH ((c :: cw).take m) = some y) → ∀ v', own_nd CH cw = some v' → ∀ c' : Int32, 0 ≤ c'.toInt → c'.toInt < (c + 1).toInt → ∃ m, own_M CH (c' :: cw) m ∧ own_nd CH ((c' :: cw).take m) = some (gI (DE.set (v * 26 + c).toInt.toNat y) (v' * 26 + c')) := by
    intro y hy v' hv' c' b0 b1
    rw [hv] at hv'
    obtain rfl := Option.some.inj hv'
    rw [gD y v c' rv.1 (by omega) b0 (by omega)]
    by_cases q : c = c'
    · rw [if_pos ⟨rfl, q⟩, ← q]; exact hy
    · rw [if_neg (fun z => q z.2)]
      rw [ieq] at q
      exact row v hv c' b0 (by omega)
  constructor
  · intro z
    have nin : ¬ own_isn CH (c :: cw) := by
      rintro ⟨u, hu⟩
      obtain ⟨x, hx, hu2, nz⟩ := own_nd_c.mp hu
      rw [hv] at hx
      obtain rfl := Option.some.inj hx
      exact nz (hu2.symm.trans z)
    obtain ⟨m, f1, f2⟩ := Gp
    refine ⟨vD.put (by omega) (by omega) g0 g1, vF, vQ, lO, t0, t1, a, d, e, dn' g, om, un, row' g ⟨m, own_M_of f1 nin, f2⟩, ?_, ?_, nD⟩
    · rintro w c' u hw hu (q | ⟨q1, q2⟩)
      · exact ch w c' u hw hu (Or.inl q)
      · by_cases y : c' = c
        · rw [y, q1] at hu
          exact absurd ⟨u, hu⟩ nin
        · rw [ieq] at y
          exact ch w c' u hw hu (Or.inr ⟨q1, by omega⟩)
    · intro i i0 i1 w c' hw hu
      rcases pa i i0 i1 w c' hw hu with q | ⟨q1, q2⟩
      · exact Or.inl q
      · exact Or.inr ⟨q1, by omega⟩
  · intro z
    have hu : own_nd CH (c :: cw) = some (gI CH (v * 26 + c)) := own_nd_c.mpr ⟨v, hv, rfl, z⟩
    have hlc := hl.cons c0 c1
    generalize gI CH (v * 26 + c) = u at *
    have ru := own_nd_r T (c :: cw) u hlc hu
    have u1 := ru.2.2 (by simp)
    refine ⟨ru.1, by omega, ?_⟩
    have fresh : ∀ i : Int32, 0 ≤ i.toInt → i.toInt < tl.toInt → ¬ gI QU i = u := by
      intro i i0 i1 q
      rcases pa i i0 i1 cw c hlc (by rw [q]; exact hu) with y | ⟨-, y⟩
      · exact nD y
      · omega
    have gQ : ∀ i : Int32, 0 ≤ i.toInt → gI (QU.set tl.toInt.toNat u) i = if tl = i then u else gI QU i := fun i i0 => gset t0 (by omega) i0
    have gF : ∀ x : Int32, 0 ≤ x.toInt → gI (FA.set u.toInt.toNat g) x = if u = x then g else gI FA x := fun x x0 => gset ru.1 (by omega) x0
    have pt := own_p1 (a := tl) (by omega)
    have split : ∀ i : Int32, i.toInt < (tl + 1).toInt → tl = i ∨ (¬ tl = i ∧ i.toInt < tl.toInt) := by
      intro i hi
      by_cases q : tl = i
      · exact Or.inl q
      · have q' := q
        rw [ieq] at q'
        exact Or.inr ⟨q, by omega⟩
    have qn : ∀ i : Int32, 0 ≤ i.toInt → i.toInt < tl.toInt → 1 ≤ (gI QU i).toInt ∧ (gI QU i).toInt ≤ 128 := by
      intro i i0 i1
      obtain ⟨w, hw, ne, hn, -⟩ := a i i0 i1
      have r := own_nd_r T w _ hw hn
      exact ⟨r.2.2 ne, by omega⟩
    have fq : ∀ i : Int32, 0 ≤ i.toInt → i.toInt < tl.toInt → gI (FA.set u.toInt.toNat g) (gI QU i) = gI FA (gI QU i) := by
      intro i i0 i1
      have q := qn i i0 i1
      rw [gF _ (by omega), if_neg (fun y => fresh i i0 i1 y.symm)]
    have t2 : (tl + 1).toInt ≤ 128 := by
      have pg := own_pig 128 (tl.toInt.toNat + 1) (fun i => if i = tl.toInt.toNat then (u.toInt - 1).toNat else ((gI QU (Int32.ofNat i)).toInt - 1).toNat) (by
        intro i hi
        try dsimp only
        by_cases q : i = tl.toInt.toNat
        · rw [if_pos q]; omega
        · rw [if_neg q]
          have ei : (Int32.ofNat i).toInt = i := Int32.toInt_ofNat_of_lt (by omega)
          have := qn (Int32.ofNat i) (by omega) (by omega)
          omega) (by
        intro i j ij hj
        try dsimp only
        have ei : (Int32.ofNat i).toInt = i := Int32.toInt_ofNat_of_lt (by omega)
        have qi := qn (Int32.ofNat i) (by omega) (by omega)
        rw [if_neg (by omega)]
        by_cases q : j = tl.toInt.toNat
        · rw [if_pos q]
          have fr := fresh (Int32.ofNat i) (by omega) (by omega)
          rw [ieq] at fr
          omega
        · rw [if_neg q]
          have ej : (Int32.ofNat j).toInt = j := Int32.toInt_ofNat_of_lt (by omega)
          have qj := qn (Int32.ofNat j) (by omega) (by omega)
          intro eq
          have : gI QU (Int32.ofNat i) = gI QU (Int32.ofNat j) := by rw [ieq]; omega
          have := d (Int32.ofNat i) (Int32.ofNat j) (by omega) (by omega) (by omega) (by omega) this
          rw [ieq] at this
          omega)
      omega
    refine ⟨vD.put (by omega) (by omega) ru.1 (by omega), vF.put ru.1 (by omega) g0 g1, vQ.put t0 (by omega) ru.1 (by omega), lO, by omega, t2, ?_, ?_, ?_, dn' u, om, un, row' u ⟨_, own_M_full ⟨u, hu⟩, by rw [List.take_length]; exact hu⟩, ?_, ?_, nD⟩
    · intro i i0 i1
      rw [gQ i i0]
      rcases split i i1 with q | ⟨q, q'⟩
      · rw [if_pos q]
        obtain ⟨m, f1, f2⟩ := Gp
        exact ⟨c :: cw, hlc, by simp, hu, m, f1, by rw [gF u ru.1, if_pos rfl]; exact f2⟩
      · rw [if_neg q, fq i i0 q']
        exact a i i0 q'
    · intro i j i0 i1 j0 j1 q
      rw [gQ i i0, gQ j j0] at q
      rcases split i i1 with y | ⟨y, y'⟩ <;> rcases split j j1 with x | ⟨x, x'⟩
      · rw [← y, ← x]
      · rw [if_pos y, if_neg x] at q
        exact absurd q.symm (fresh j j0 x')
      · rw [if_neg y, if_pos x] at q
        exact absurd q (fresh i i0 y')
      · rw [if_neg y, if_neg x] at q
        exact d i j i0 y' j0 x' q
    · intro i i0 i1
      rw [gQ i i0]
      rcases split i i1 with q | ⟨q, q'⟩
      · rw [if_pos q, gF u ru.1, if_pos rfl]
        rcases Ge with y | ⟨j, j0, j1, y⟩
        · exact Or.inl y
        · refine Or.inr ⟨j, j0, by rw [← q]; exact j1, ?_⟩
          rw [gQ j j0, if_neg (fun w => by rw [ieq] at w; omega)]
          exact y
      · rw [if_neg q, fq i i0 q']
        rcases e i i0 q' with y | ⟨j, j0, j1, y⟩
        · exact Or.inl y
        · refine Or.inr ⟨j, j0, j1, ?_⟩
          rw [gQ j j0, if_neg (fun w => by rw [ieq] at w; omega)]
          exact y
    · rintro w c' u' hw hu' q
      by_cases y : w = cw ∧ c' = c
      · refine ⟨tl, t0, by omega, ?_⟩
        rw [gQ tl t0, if_pos rfl]
        rw [y.1, y.2, hu] at hu'
        exact Option.some.inj hu'
      · have old : D w ∨ (w = cw ∧ c'.toInt < c.toInt) := by
          rcases q with q | ⟨q1, q2⟩
          · exact Or.inl q
          · refine Or.inr ⟨q1, ?_⟩
            have : ¬ c' = c := fun x => y ⟨q1, x⟩
            rw [ieq] at this
            omega
        obtain ⟨i, i0, i1, ei⟩ := ch w c' u' hw hu' old
        refine ⟨i, i0, by omega, ?_⟩
        rw [gQ i i0, if_neg (fun w => by rw [ieq] at w; omega)]
        exact ei
    · intro i i0 i1 w c' hw hu'
      rw [gQ i i0] at hu'
      rcases split i i1 with q | ⟨q, q'⟩
      · rw [if_pos q] at hu'
        have := own_nd_i T (c' :: w) (c :: cw) u hw hlc hu' hu
        injection this with x1 x2
        exact Or.inr ⟨x2, by rw [x1]; omega⟩
      · rw [if_neg q] at hu'
        rcases pa i i0 q' w c' hw hu' with y | ⟨y1, y2⟩
        · exact Or.inl y
        · exact Or.inr ⟨y1, by omega⟩
theorem own_E {KC KL CH OM0 DE FA OM QU : List Int32} {nc ct : Int32} {D : List Int32 → Prop} {cw : List Int32} {c : Int} {tl : Int32} (T : own_T CH nc) (B : own_BG KC KL CH OM0 DE FA OM QU nc ct D cw c tl) : ∀ (n : Nat) (i : Int32) (w : List Int32), i.toInt = n → i.toInt < tl.toInt → own_lt w → own_nd CH w = some (gI QU i) → ∀ k, k < w.length → own_isn CH (w.take k) → w.take k = [] ∨ ∃ j : Int32, 0 ≤ j.toInt ∧ j.toInt < i.toInt ∧ own_nd CH (w.take k) = some (gI QU j) := by
  intro n
  induction n using Nat.strongRecOn with
  | _ n ih =>
    intro i w hi i1 hw hn k hk hin
    obtain ⟨w', hw', ne, hn', m, fl, hf⟩ := B.a i (by omega) i1
    have ww := own_nd_i T w w' _ hw hw' hn hn'
    subst ww
    obtain ⟨f1, f2, f3⟩ := fl
    have km := f3 k hk hin
    rcases B.e i (by omega) i1 with z | ⟨j, j0, j1, ej⟩
    · rw [z] at hf
      have wm := own_nd_i T (w.take m) [] 0 (hw.take m) (fun d hd => absurd hd (by simp)) hf rfl
      left
      have l := congrArg List.length wm
      rw [List.length_take, Nat.min_eq_left (by omega), List.length_nil] at l
      have : k = 0 := by omega
      rw [this]
      rfl
    · by_cases q : k = m
      · right
        exact ⟨j, j0, j1, by rw [q, hf, ej]⟩
      · have tt2 : (w.take m).take k = w.take k := by rw [List.take_take, Nat.min_eq_left (by omega)]
        rw [← ej] at hf
        rcases ih j.toInt.toNat (by omega) j (w.take m) (by omega) (by omega) (hw.take m) hf k (by rw [List.length_take, Nat.min_eq_left (by omega)]; omega) (by rw [tt2]; exact hin) with y | ⟨j', j0', j1', y⟩
        · left; rw [← tt2]; exact y
        · right
          exact ⟨j', j0', by omega, by rw [← tt2]; exact y⟩
theorem own_58X {KC KL CH OM0 OM QU0 : List Int32} {nc ct f v tl0 : Int32} {D : List Int32 → Prop} {cw : List Int32} {m : Nat} (T : own_T CH nc) (hl : own_lt cw) (hv : own_nd CH cw = some v) (fl : own_Fl CH cw m) (hf : own_nd CH (cw.take m) = some f) (dE : ∀ k, k < cw.length → own_isn CH (cw.take k) → D (cw.take k)) : ∀ (n : Nat) (DE FA QU : List Int32) (t c : Int32), 0 ≤ c.toInt → c.toInt ≤ 26 → 26 - c.toInt < n → own_BG KC KL CH OM0 DE FA OM QU nc ct D cw c.toInt t → tl0.toInt ≤ t.toInt → (∀ i : Int32, 0 ≤ i.toInt → i.toInt < tl0.toInt → gI QU i = gI QU0 i) →
    Tot (f_expandNode_58 CH n DE FA OM QU v f t c) (fun (r, DE', FA', OM', QU') => OM' = OM ∧ own_BG KC KL CH OM0 DE' FA' OM QU' nc ct D cw 26 r ∧ tl0.toInt ≤ r.toInt ∧ (∀ i : Int32, 0 ≤ i.toInt → i.toInt < tl0.toInt → gI QU' i = gI QU0 i)) := by
  intro n
  have e26 : (26 : Int32).toInt = 26 := rfl
  have e129 : (129 : Int32).toInt = 129 := rfl
  have n1 := T.n1
  have lCH := T.l
  have rv := own_nd_r T cw v hl hv
  have rf := own_nd_r T _ f (hl.take m) hf
  induction n with
  | zero => intro DE FA QU t c a b d; exfalso; omega
  | succ n ih =>
    intro DE FA QU t c c0 c1 hn B ht hq
    unfold f_expandNode_58
    have lD := B.vD.1
    have lF := B.vF.1
    have lQ := B.vQ.1
    have t0 := B.t0
    have t1 := B.t1
    by_cases g : c < 26
    rotate_left
    · rw [if_neg g]
      rw [ilt] at g
      have c26 : c.toInt = 26 := by omega
      rw [c26] at B
      exact Tot.mk ⟨rfl, B, ht, hq⟩
    rw [if_pos g]
    rw [ilt] at g
    have pc := own_p1 (a := c) (by omega)
    have jv := own_ix26 (v := v) (c := c) rv.1 (by omega) c0 (by omega)
    have jf := own_ix26 (v := f) (c := c) rf.1 (by omega) c0 (by omega)
    rw [rdg (by omega) (by omega), Option.bind_some, rdg (by omega) (by omega), Option.bind_some]
    have ml := fl.1
    have Dw : D (cw.take m) := dE m ml ⟨f, hf⟩
    obtain ⟨m2, M2, hg⟩ := B.dn _ f (hl.take m) Dw hf c c0 (by omega)
    have ll : (c :: cw.take m).length = m + 1 := by rw [List.length_cons, List.length_take, Nat.min_eq_left (by omega)]
    have m2l : m2 ≤ m + 1 := by have := M2.1; omega
    have Fs := own_Fl_step fl M2
    have hg2 : own_nd CH ((c :: cw).take m2) = some (gI DE (f * 26 + c)) := by rw [← own_tk m2l]; exact hg
    have rg := own_nd_r T _ _ ((hl.cons c0 (by omega)).take m2) hg2
    have Ge : gI DE (f * 26 + c) = 0 ∨ ∃ j : Int32, 0 ≤ j.toInt ∧ j.toInt < t.toInt ∧ gI QU j = gI DE (f * 26 + c) := by
      rcases m2 with _ | k
      · left
        rw [List.take_zero] at hg2
        exact (Option.some.inj hg2).symm
      · right
        rw [List.take_succ_cons] at hg2
        refine B.ch (cw.take k) c _ ((hl.take k).cons c0 (by omega)) hg2 (Or.inl (dE k (by omega) (own_isn_tl ⟨_, hg2⟩)))
    obtain ⟨s1, s2⟩ := own_step (g := gI DE (f * 26 + c)) T B hl hv c0 (by omega) rg.1 (by omega) ⟨m2, Fs, hg2⟩ Ge
    refine own_iE (fun z => ?_) (fun z => ?_)
    · rw [wrA_in (by omega) (by omega), Option.bind_some]
      exact ih _ _ _ _ _ (by omega) (by omega) (by omega) (s1 z) ht hq
    · obtain ⟨u0, u1, B2⟩ := s2 z
      have pt := own_p1 (a := t) (by omega)
      rw [wrA_in u0 (by omega), Option.bind_some, wrA_in (by omega) (by omega), Option.bind_some, if_pos (by rw [ilt]; omega), wrA_in t0 (by omega), Option.bind_some]
      refine ih _ _ _ _ _ (by omega) (by omega) (by omega) B2 (by omega) (fun i i0 i1 => ?_)
      rw [gset t0 (by omega) i0, if_neg (fun y => by rw [ieq] at y; omega)]
      exact hq i i0 i1
theorem own_nextBG {KC KL CH TM OM0 DE FA OM QU : List Int32} {nc ct tl v f : Int32} {D : List Int32 → Prop} {cw cw' : List Int32} {m : Nat} (h : own_KG KC KL ct) (K : own_TK KC KL CH TM OM0 nc ct) (B : own_BG KC KL CH OM0 DE FA OM QU nc ct D cw 26 tl) (hl : own_lt cw') (hv : own_nd CH cw' = some v) (nd1 : ¬ (D cw' ∨ cw' = cw)) (fl : own_Fl CH cw' m) (hf : own_nd CH (cw'.take m) = some f) (Df : D (cw'.take m) ∨ cw'.take m = cw) : own_BG KC KL CH OM0 DE FA (OM.set v.toInt.toNat (gI OM v ||| gI OM f)) QU nc ct (fun w => D w ∨ w = cw) cw' 0 tl := by
  obtain ⟨vD, vF, vQ, lO, t0, t1, a, d, e, dn, om, un, row, ch, pa, nD⟩ := B
  have T := K.T
  have n1 := T.n1
  have rv := own_nd_r T cw' v hl hv
  have gO : ∀ x : Int32, 0 ≤ x.toInt → gI (OM.set v.toInt.toNat (gI OM v ||| gI OM f)) x = if v = x then gI OM v ||| gI OM f else gI OM x := fun x x0 => gset rv.1 (by omega) x0
  have other : ∀ w x, own_lt w → own_nd CH w = some x → ¬ w = cw' → ¬ v = x := by
    intro w x hw hx ne q
    rw [← q] at hx
    exact ne (own_nd_i T w cw' v hw hl hx hv)
  refine ⟨vD, vF, vQ, by rw [List.length_set]; exact lO, t0, t1, a, d, e, ?_, ?_, ?_, fun _ _ c' b0 b1 => by omega, ?_, ?_, nd1⟩
  · rintro w x hw (q | q) hx c' b0 b1
    · exact dn w x hw q hx c' b0 b1
    · subst q
      exact row x hx c' b0 b1
  · rintro w x hw q hx
    have rx := own_nd_r T w x hw hx
    rw [gO x rx.1]
    by_cases z : w = cw'
    · subst z
      have vx : v = x := by rw [hv] at hx; exact Option.some.inj hx
      rw [if_pos vx]
      have o1 := un w v hw (fun y => nd1 (Or.inl y)) (fun y => nd1 (Or.inr y)) hv
      have o2 := om _ f (hl.take m) Df hf
      intro b hb
      rw [own_mbo, Bool.or_eq_true, o1, K.O w v hw hv b hb, o2 b hb]
      constructor
      · rintro (⟨i, i0, i1, i2, i3⟩ | ⟨i, i0, i1, i2, k, k0, k1⟩)
        · exact ⟨i, i0, i1, i2, w.length, Nat.le_refl _, by rw [List.take_length]; exact i3⟩
        · rw [List.length_take, Nat.min_eq_left (by have := fl.1; omega)] at k0
          rw [List.take_take, Nat.min_eq_left k0] at k1
          exact ⟨i, i0, i1, i2, k, by have := fl.1; omega, k1⟩
      · rintro ⟨i, i0, i1, i2, k, k0, k1⟩
        by_cases y : k = w.length
        · left
          rw [y, List.take_length] at k1
          exact ⟨i, i0, i1, i2, k1⟩
        · right
          have hin : own_isn CH (w.take k) := by
            obtain ⟨u, hu⟩ := K.W i i0 i1
            exact ⟨u, by rw [k1]; exact hu⟩
          have km := fl.2.2 k (by omega) hin
          exact ⟨i, i0, i1, i2, k, by rw [List.length_take, Nat.min_eq_left (by have := fl.1; omega)]; exact km, by rw [List.take_take, Nat.min_eq_left km]; exact k1⟩
    · rw [if_neg (other w x hw hx z)]
      rcases q with q | q
      · exact om w x hw q hx
      · exact absurd q z
  · intro w x hw q z hx
    have rx := own_nd_r T w x hw hx
    rw [gO x rx.1, if_neg (other w x hw hx z)]
    exact un w x hw (fun y => q (Or.inl y)) (fun y => q (Or.inr y)) hx
  · rintro w c' u hw hu (q | ⟨-, q⟩)
    · refine ch w c' u hw hu ?_
      rcases q with q | q
      · exact Or.inl q
      · exact Or.inr ⟨q, hw.hd.2⟩
    · exact absurd hw.hd.1 (by omega)
  · intro i i0 i1 w c' hw hu
    rcases pa i i0 i1 w c' hw hu with q | ⟨q, -⟩
    · exact Or.inl (Or.inl q)
    · exact Or.inl (Or.inr q)
def own_AC (KC KL CH DE OM : List Int32) (ct : Int32) : Prop := ∀ w v, own_lt w → own_nd CH w = some v → (∀ c' : Int32, 0 ≤ c'.toInt → c'.toInt < 26 → ∃ m, own_M CH (c' :: w) m ∧ own_nd CH ((c' :: w).take m) = some (gI DE (v * 26 + c'))) ∧ own_omf KC KL ct (gI OM v) w
theorem own_74X {KC KL CH TM OM0 : List Int32} {nc ct : Int32} (h : own_KG KC KL ct) (K : own_TK KC KL CH TM OM0 nc ct) : ∀ (n : Nat) (DE FA OM QU : List Int32) (hd tl : Int32) (D : List Int32 → Prop) (cw : List Int32), 0 ≤ hd.toInt → hd.toInt ≤ tl.toInt → 129 - hd.toInt < n → own_BG KC KL CH OM0 DE FA OM QU nc ct D cw 26 tl → (∀ w, own_lt w → own_isn CH w → ((D w ∨ w = cw) ↔ (w = [] ∨ ∃ i : Int32, 0 ≤ i.toInt ∧ i.toInt < hd.toInt ∧ own_nd CH w = some (gI QU i)))) →
    Tot (f_computeLinks_74 CH n DE FA OM QU hd tl hd) (fun (DE', FA', OM', QU') => own_V DE' 3354 0 128 ∧ OM'.length = 129 ∧ own_AC KC KL CH DE' OM' ct) := by
  intro n
  have T := K.T
  have n1 := T.n1
  have e0 : (0 : Int32).toInt = 0 := rfl
  have e129 : (129 : Int32).toInt = 129 := rfl
  induction n with
  | zero => intro DE FA OM QU hd tl D cw a b c B; have := B.t1; exfalso; omega
  | succ n ih =>
    intro DE FA OM QU hd tl D cw h0 h1 hn B lk
    have t1 := B.t1
    have lQ := B.vQ.1
    have lF := B.vF.1
    have lO := B.lO
    unfold f_computeLinks_74
    rw [if_pos (by rw [ilt]; omega)]
    by_cases g : hd < tl
    rotate_left
    · rw [if_neg g]
      rw [ilt] at g
      have all : ∀ w, own_lt w → own_isn CH w → (D w ∨ w = cw) := by
        intro w
        induction w with
        | nil => intro hl hi; exact (lk [] hl hi).mpr (Or.inl rfl)
        | cons c w ihw =>
          intro hl hi
          obtain ⟨u, hu⟩ := hi
          have q := ihw hl.tl (own_isn_tl ⟨u, hu⟩)
          obtain ⟨i, i0, i1, ei⟩ := B.ch w c u hl hu (by
            rcases q with q | q
            · exact Or.inl q
            · exact Or.inr ⟨q, hl.hd.2⟩)
          exact (lk _ hl ⟨u, hu⟩).mpr (Or.inr ⟨i, i0, by omega, by rw [hu, ei]⟩)
      refine Tot.mk ⟨B.vD, lO, fun w v hl hv => ⟨fun c' b0 b1 => ?_, B.om w v hl (all w hl ⟨v, hv⟩) hv⟩⟩
      rcases all w hl ⟨v, hv⟩ with q | q
      · exact B.dn w v hl q hv c' b0 b1
      · subst q
        exact B.row v hv c' b0 b1
    rw [if_pos g]
    rw [ilt] at g
    have ph := own_p1 (a := hd) (by omega)
    rw [rdg h0 (by omega), Option.bind_some]
    obtain ⟨cw', hl, ne, hv, m, fl, hf⟩ := B.a hd h0 g
    have rv := own_nd_r T cw' _ hl hv
    have v1 := rv.2.2 ne
    have rf := own_nd_r T _ _ (hl.take m) hf
    have nd1 : ¬ (D cw' ∨ cw' = cw) := by
      intro q
      rcases (lk cw' hl ⟨_, hv⟩).mp q with y | ⟨i, i0, i1, y⟩
      · exact ne y
      · rw [hv] at y
        have := B.d i hd i0 (by omega) h0 g (Option.some.inj y).symm
        rw [ieq] at this
        omega
    have dE : ∀ k, k < cw'.length → own_isn CH (cw'.take k) → (D (cw'.take k) ∨ cw'.take k = cw) := by
      intro k hk hin
      refine (lk _ (hl.take k) hin).mpr ?_
      exact own_E T B hd.toInt.toNat hd cw' (by omega) g hl hv k hk hin
    have B2 := own_nextBG h K B hl hv nd1 fl hf (dE m fl.1 fl.2.1)
    have fe : (if gI FA (gI QU hd) < 0 then (0 : Int32) else (if gI FA (gI QU hd) < 129 then gI FA (gI QU hd) else 0)) = gI FA (gI QU hd) := by
      rw [if_neg (by rw [ilt]; omega), if_pos (by rw [ilt]; omega)]
    have ex : Tot (f_expandNode CH DE FA OM QU (gI QU hd) tl) (fun (r, DE', FA', OM', QU') => OM' = OM.set (gI QU hd).toInt.toNat (gI OM (gI QU hd) ||| gI OM (gI FA (gI QU hd))) ∧ own_BG KC KL CH OM0 DE' FA' (OM.set (gI QU hd).toInt.toNat (gI OM (gI QU hd) ||| gI OM (gI FA (gI QU hd)))) QU' nc ct (fun w => D w ∨ w = cw) cw' 26 r ∧ tl.toInt ≤ r.toInt ∧ (∀ i : Int32, 0 ≤ i.toInt → i.toInt < tl.toInt → gI QU' i = gI QU i)) := by
      unfold f_expandNode
      rw [if_pos (by rw [ilt]; omega), if_pos (by rw [ilt]; omega), rdg rv.1 (by omega), Option.bind_some, fe]
      unfold f_expandNode_33
      rw [rdg rv.1 (by omega), Option.bind_some, rdg rf.1 (by omega), Option.bind_some, wrA_in rv.1 (by omega), Option.bind_some]
      exact own_58X T hl hv fl hf dE 100000 DE FA QU tl 0 (by decide) (by decide) (by decide) B2 (Int.le_refl _) (fun i _ _ => rfl)
    refine Tot.bind ex ?_
    rintro ⟨r, DE', FA', OM', QU'⟩ ⟨eO, B3, r1, hq⟩
    have eO2 : OM' = OM.set (gI QU hd).toInt.toNat (gI OM (gI QU hd) ||| gI OM (gI FA (gI QU hd))) := eO
    have B4 : own_BG KC KL CH OM0 DE' FA' OM' QU' nc ct (fun w => D w ∨ w = cw) cw' 26 r := by rw [eO2]; exact B3
    have r2 : tl.toInt ≤ r.toInt := r1
    have hq2 : ∀ i : Int32, 0 ≤ i.toInt → i.toInt < tl.toInt → gI QU' i = gI QU i := hq
    refine ih DE' FA' OM' QU' (hd + 1) r _ cw' (by omega) (by omega) (by omega) B4 ?_
    intro w hw hin
    constructor
    · rintro (q | q)
      · rcases (lk w hw hin).mp q with y | ⟨i, i0, i1, y⟩
        · exact Or.inl y
        · exact Or.inr ⟨i, i0, by omega, by rw [hq2 i i0 (by omega)]; exact y⟩
      · exact Or.inr ⟨hd, h0, by omega, by rw [hq2 hd h0 g, q]; exact hv⟩
    · rintro (q | ⟨i, i0, i1, y⟩)
      · exact Or.inl ((lk w hw hin).mpr (Or.inl q))
      · rw [hq2 i i0 (by omega)] at y
        by_cases z : i = hd
        · right
          rw [z] at y
          exact own_nd_i T w cw' _ hw hl y hv
        · rw [ieq] at z
          exact Or.inl ((lk w hw hin).mpr (Or.inr ⟨i, i0, by omega, y⟩))
theorem own_13X {KC KL CH TM OM0 : List Int32} {nc ct : Int32} (h : own_KG KC KL ct) (K : own_TK KC KL CH TM OM0 nc ct) : ∀ (n : Nat) (DE FA QU : List Int32) (tl c : Int32), 0 ≤ c.toInt → c.toInt ≤ 26 → 26 - c.toInt < n → own_BG KC KL CH OM0 DE FA OM0 QU nc ct (fun _ => False) [] c.toInt tl →
    Tot (f_computeLinks_13 (f_computeLinks_74 CH 100000) CH n DE FA OM0 QU 0 tl c) (fun (DE', FA', OM', QU') => own_V DE' 3354 0 128 ∧ OM'.length = 129 ∧ own_AC KC KL CH DE' OM' ct) := by
  intro n
  have T := K.T
  have n1 := T.n1
  have lCH := T.l
  have e0 : (0 : Int32).toInt = 0 := rfl
  have e26 : (26 : Int32).toInt = 26 := rfl
  have e129 : (129 : Int32).toInt = 129 := rfl
  have ln : own_lt [] := fun d hd => absurd hd (by simp)
  induction n with
  | zero => intro DE FA QU tl c a b d; exfalso; omega
  | succ n ih =>
    intro DE FA QU tl c c0 c1 hn B
    have t0 := B.t0
    have t1 := B.t1
    have lD := B.vD.1
    have lF := B.vF.1
    have lQ := B.vQ.1
    unfold f_computeLinks_13
    by_cases g : c < 26
    rotate_left
    · rw [if_neg g]
      rw [ilt] at g
      have c26 : c.toInt = 26 := by omega
      rw [c26] at B
      refine own_74X h K 100000 DE FA OM0 QU 0 tl _ [] (by decide) t0 (by decide) B (fun w hw hin => ?_)
      constructor
      · rintro (q | q)
        · exact absurd q (by simp)
        · exact Or.inl q
      · rintro (q | ⟨i, i0, i1, -⟩)
        · exact Or.inr q
        · omega
    rw [if_pos g]
    rw [ilt] at g
    have pc := own_p1 (a := c) (by omega)
    have zc : (0 : Int32) * 26 + c = c := by rw [Int32.zero_mul, Int32.zero_add]
    have Gp : ∃ m, own_Fl CH [c] m ∧ own_nd CH (([c] : List Int32).take m) = some 0 := ⟨0, ⟨by simp, own_isn_nil CH, fun m' hm _ => by simp at hm; omega⟩, rfl⟩
    obtain ⟨s1, s2⟩ := own_step (g := 0) T B ln rfl c0 (by omega) (by decide) (by decide) Gp (Or.inl rfl)
    rw [zc] at s1 s2
    rw [rdg c0 (by omega), Option.bind_some, wrA_in c0 (by omega), Option.bind_some]
    refine own_iE (fun z => ?_) (fun z => ?_)
    · rw [z]
      exact ih _ _ _ _ _ (by omega) (by omega) (by omega) (s1 z)
    · obtain ⟨u0, u1, B2⟩ := s2 z
      have pt := own_p1 (a := tl) (by omega)
      rw [if_pos (by rw [ilt]; omega), wrA_in u0 (by omega), Option.bind_some, wrA_in t0 (by omega), Option.bind_some]
      exact ih _ _ _ _ _ (by omega) (by omega) (by omega) B2
theorem own_clX {KC KL CH TM OM0 DE FA QU : List Int32} {nc ct : Int32} (h : own_KG KC KL ct) (K : own_TK KC KL CH TM OM0 nc ct) (vD : own_V DE 3354 0 128) (vF : own_V FA 129 0 128) (vQ : own_V QU 129 0 128) : Tot (f_computeLinks CH DE FA OM0 QU) (fun (DE', FA', OM', QU') => own_V DE' 3354 0 128 ∧ OM'.length = 129 ∧ own_AC KC KL CH DE' OM' ct) := by
  have lF := vF.1
  have e0 : (0 : Int32).toInt = 0 := rfl
  unfold f_computeLinks
  rw [wrA_in (by decide) (by rw [lF]; decide), Option.bind_some]
  refine own_13X h K 100000 DE _ QU 0 0 (by decide) (by decide) (by decide) ⟨vD, vF.put (by decide) (by decide) (by decide) (by decide), vQ, K.lO, by decide, by decide, fun i i0 i1 => by omega, fun i j i0 i1 => by omega, fun i i0 i1 => by omega, fun w v _ q => absurd q (by simp), ?_, fun w v _ _ _ _ => rfl, fun v _ c' b0 b1 => by omega, ?_, fun i i0 i1 => by omega, by simp⟩
  · rintro w v hl (q | q) hv
    · exact absurd q (by simp)
    · subst q
      intro b hb
      rw [K.O [] v hl hv b hb]
      constructor
      · rintro ⟨i, i0, i1, i2, i3⟩
        exact absurd i3.symm (h.kl i0 i1).2.2
      · rintro ⟨i, i0, i1, i2, k, k0, k1⟩
        rw [List.take_nil] at k1
        exact absurd k1.symm (h.kl i0 i1).2.2
  · rintro w c' u hl hu (q | ⟨-, q⟩)
    · exact absurd q (by simp)
    · exact absurd hl.hd.1 (by omega)
theorem own_ACs {KC KL CH TM OM0 DE OM : List Int32} {nc ct st : Int32} (K : own_TK KC KL CH TM OM0 nc ct) (A : own_AC KC KL CH DE OM ct) {t : List Int32} (hl : own_lt t) {m : Nat} (hm : own_M CH t m) (hs : own_nd CH (t.take m) = some st) :
    (∀ c : Int32, 0 ≤ c.toInt → c.toInt < 26 → ∃ m', own_M CH (c :: t) m' ∧ own_nd CH ((c :: t).take m') = some (gI DE (st * 26 + c))) ∧ ∀ b : Nat, b < 32 → (own_mb (gI OM st) b = true ↔ ∃ i : Int32, 0 ≤ i.toInt ∧ i.toInt < ct.toInt ∧ i.toInt = b ∧ ∃ q, q ≤ t.length ∧ t.take q = own_kw KC KL i) := by
  obtain ⟨a1, a2⟩ := A _ st (hl.take m) hs
  refine ⟨fun c c0 c1 => ?_, fun b hb => ?_⟩
  · obtain ⟨m2, M2, h2⟩ := a1 c c0 c1
    have ml := hm.1
    have ll : (c :: t.take m).length = m + 1 := by rw [List.length_cons, List.length_take, Nat.min_eq_left ml]
    have m2l : m2 ≤ m + 1 := by have := M2.1; omega
    exact ⟨m2, own_M_step hm M2, by rw [← own_tk m2l]; exact h2⟩
  · rw [a2 b hb]
    have ml := hm.1
    constructor
    · rintro ⟨i, i0, i1, i2, q, q0, q1⟩
      rw [List.length_take, Nat.min_eq_left ml] at q0
      rw [List.take_take, Nat.min_eq_left q0] at q1
      exact ⟨i, i0, i1, i2, q, by omega, q1⟩
    · rintro ⟨i, i0, i1, i2, q, q0, q1⟩
      have hin : own_isn CH (t.take q) := by
        obtain ⟨u, hu⟩ := K.W i i0 i1
        exact ⟨u, by rw [q1]; exact hu⟩
      have qm := hm.2.2 q q0 hin
      exact ⟨i, i0, i1, i2, q, by rw [List.length_take, Nat.min_eq_left ml]; exact qm, by rw [List.take_take, Nat.min_eq_left qm]; exact q1⟩
theorem own_T.vC {CH : List Int32} {nc : Int32} (T : own_T CH nc) : own_V CH 3354 0 128 := by
  have n1 := T.n1
  refine ⟨T.l, fun x x0 x1 => ?_⟩
  have i1 : (Int32.ofNat (x.toInt.toNat / 26)).toInt = ((x.toInt.toNat / 26 : Nat) : Int) := Int32.toInt_ofNat_of_lt (by omega)
  have j1 : (Int32.ofNat (x.toInt.toNat % 26)).toInt = ((x.toInt.toNat % 26 : Nat) : Int) := Int32.toInt_ofNat_of_lt (by omega)
  generalize Int32.ofNat (x.toInt.toNat / 26) = i at i1
  generalize Int32.ofNat (x.toInt.toNat % 26) = j at j1
  have kx := own_ix26 (v := i) (c := j) (by omega) (by omega) (by omega) (by omega)
  have ex : x = i * 26 + j := by rw [ieq, kx, i1, j1]; omega
  rw [ex]
  rcases T.b i j (by omega) (by omega) (by omega) (by omega) with q | ⟨q1, q2⟩
  · rw [q]; decide
  · omega
theorem own_TK.vT {KC KL CH TM OM0 : List Int32} {nc ct : Int32} (K : own_TK KC KL CH TM OM0 nc ct) (c1 : ct.toInt ≤ 16) : own_V TM 129 (-1) 15 := by
  refine ⟨K.lT, fun x x0 x1 => ?_⟩
  by_cases q : x.toInt < nc.toInt
  · obtain ⟨w, hl, hw⟩ := own_nd_e K.T x.toInt.toNat x (by omega) q
    rcases K.M w x hl hw with ⟨e, -⟩ | ⟨i, i0, i1, e, -⟩
    · rw [e]; decide
    · rw [e]; omega
  · rw [K.Mz x (by omega) (by omega)]; decide
theorem own_la2 {KC KL CH TM OM0 TX : List Int32} {nc ct n i : Int32} (h : own_KG KC KL ct) (K : own_TK KC KL CH TM OM0 nc ct) (lX : TX.length = 240) (n1 : n.toInt ≤ 240) (i0 : 0 ≤ i.toInt) (i1 : i.toInt ≤ 300) : ∃ k : Int32, f_longestAt CH TM TX n i = some k ∧ (k = -1 ∨ (0 ≤ k.toInt ∧ k.toInt < ct.toInt ∧ i.toInt + (gI KL k).toInt ≤ n.toInt)) := by
  have e0 : (0 : Int32).toInt = 0 := rfl
  have e8 : (8 : Int32).toInt = 8 := rfl
  have e97 : (97 : Int32).toInt = 97 := rfl
  have T := K.T
  have t1 := T.n1
  have lC := T.l
  have lT := K.lT
  have key : ∀ (f j : Nat) (v2 v3 v4 : Int32) (w : List Int32), v4.toInt = j → j ≤ 8 → 8 - j < f → own_lt w → w.length = j → own_nd CH w = some v3 → (v2 = -1 ∨ (0 ≤ v2.toInt ∧ v2.toInt < ct.toInt ∧ i.toInt + (gI KL v2).toInt ≤ n.toInt)) → ∃ k : Int32, f_longestAt_7 CH TM TX n f i v2 v3 v4 = some k ∧ (k = -1 ∨ (0 ≤ k.toInt ∧ k.toInt < ct.toInt ∧ i.toInt + (gI KL k).toInt ≤ n.toInt)) := by
    intro f
    induction f with
    | zero => intro j v2 v3 v4 w a b c; exfalso; omega
    | succ f ih =>
      intro j v2 v3 v4 w hj j8 c hl hw hn hv
      have r3 := own_nd_r T w v3 hl hn
      unfold f_longestAt_7
      by_cases g : v4 < 8
      rotate_left
      · rw [if_neg g]; exact ⟨v2, rfl, hv⟩
      rw [if_pos g]
      rw [ilt] at g
      have p4 := own_p1 (a := v4) (by omega)
      have iv : (i + v4).toInt = i.toInt + v4.toInt := iadd_i (by omega) (by omega)
      rw [if_neg (by rw [ilt]; omega)]
      by_cases g2 : i + v4 < n
      rotate_left
      · rw [if_neg g2]; exact ⟨v2, rfl, hv⟩
      rw [if_pos g2]
      rw [ilt] at g2
      rw [rdg (by omega) (by omega), Option.bind_some]
      generalize gI TX (i + v4) = x
      rcases own_let x with ⟨e, -⟩ | ⟨e, h1, h2⟩
      · rw [e, Option.bind_some, if_pos rfl]; exact ⟨v2, rfl, hv⟩
      · rw [e, Option.bind_some, if_neg (by decide)]
        have sc : (x - 97).toInt = x.toInt - 97 := by rw [isub_i (by omega) (by omega), e97]
        have jx := own_ix26 (v := v3) (c := x - 97) r3.1 (by omega) (by omega) (by omega)
        rw [rdg (by omega) (by omega), Option.bind_some]
        by_cases z : gI CH (v3 * 26 + (x - 97)) = 0
        · rw [if_pos z]; exact ⟨v2, rfl, hv⟩
        · rw [if_neg z]
          have hl2 := hl.cons (c := x - 97) (by omega) (by omega)
          have hn2 : own_nd CH ((x - 97) :: w) = some (gI CH (v3 * 26 + (x - 97))) := own_nd_c.mpr ⟨v3, hn, rfl, z⟩
          have r4 := own_nd_r T _ _ hl2 hn2
          have l2 : ((x - 97) :: w).length = j + 1 := by rw [List.length_cons, hw]
          rw [rdg r4.1 (by omega)]
          simp only [Option.bind_some]
          rcases K.M _ _ hl2 hn2 with ⟨m1, -⟩ | ⟨q, q0, q1, m1, m2⟩
          · rw [m1, if_pos (by decide)]
            exact ih (j + 1) _ _ _ _ (by omega) (by omega) (by omega) hl2 l2 hn2 hv
          · rw [m1, if_neg (by rw [ilt]; omega)]
            refine ih (j + 1) _ _ _ _ (by omega) (by omega) (by omega) hl2 l2 hn2 (Or.inr ⟨q0, q1, ?_⟩)
            have kl := (h.kl q0 q1).2.1
            have nl := h.n q q0 q1
            rw [← m2, l2] at kl
            omega
  unfold f_longestAt
  exact key 100000 0 (-1) 0 0 [] rfl (by omega) (by omega) (fun d hd => absurd hd (by simp)) rfl rfl (Or.inl rfl)
theorem own_cr2 {KC KL KR CH TM OM0 TX : List Int32} {nc ct lk n : Int32} (h : own_KG KC KL ct) (K : own_TK KC KL CH TM OM0 nc ct) (lR : KR.length = 16) (lX : TX.length = 240) (n1 : n.toInt ≤ 240) : ∀ (f : Nat) (OU : List Int32) (ol cp v1 : Int32), OU.length = 240 → 0 ≤ ol.toInt → ol.toInt ≤ cp.toInt → cp.toInt ≤ n.toInt → 0 ≤ v1.toInt → v1.toInt ≤ 240 → 240 - v1.toInt < f → ∃ (OU' : List Int32) (ol' cp' : Int32), f_commitReady_2 KL KR CH TM TX lk n f OU ol cp v1 = some (OU', ol', cp') ∧ OU'.length = 240 ∧ 0 ≤ ol'.toInt ∧ ol'.toInt ≤ cp'.toInt ∧ cp'.toInt ≤ n.toInt := by
  intro f
  have e0 : (0 : Int32).toInt = 0 := rfl
  have e240 : (240 : Int32).toInt = 240 := rfl
  have em : (-1 : Int32).toInt = -1 := rfl
  have lL := h.lL
  have c16 := h.c1
  induction f with
  | zero => intro OU ol cp v1 _ _ _ _ a b c; exfalso; omega
  | succ f ih =>
    intro OU ol cp v1 l1 o0 o1 c1 d0 d1 c
    have stop : ∃ (OU' : List Int32) (ol' cp' : Int32), some (OU, ol, cp) = some (OU', ol', cp') ∧ OU'.length = 240 ∧ 0 ≤ ol'.toInt ∧ ol'.toInt ≤ cp'.toInt ∧ cp'.toInt ≤ n.toInt := ⟨OU, ol, cp, rfl, l1, o0, o1, c1⟩
    unfold f_commitReady_2
    by_cases g : v1 < 240
    rotate_left
    · rw [if_neg g]; exact stop
    rw [if_pos g]
    rw [ilt] at g
    have p1 := own_p1 (a := v1) (by omega)
    rw [if_neg (by rw [ilt]; omega)]
    by_cases g2 : cp < n
    rotate_left
    · rw [if_neg g2]; exact stop
    rw [if_pos g2]
    rw [ilt] at g2
    by_cases g3 : n < cp + lk
    · rw [if_pos g3]; exact stop
    rw [if_neg g3]
    by_cases g4 : ol < 240
    rotate_left
    · rw [if_neg g4]; exact stop
    rw [if_pos g4]
    rw [ilt] at g4
    have po := own_p1 (a := ol) (by omega)
    have pc := own_p1 (a := cp) (by omega)
    obtain ⟨k, k1, k2⟩ := own_la2 (i := cp) h K lX n1 (by omega) (by omega)
    unfold f_commitOne f_commitOne_74
    rw [k1, Option.bind_some]
    rcases k2 with q | ⟨q0, q1, q2⟩
    · rw [q, if_pos (by decide), rdg (by omega) (by omega), Option.bind_some, wrA_in o0 (by omega), Option.bind_some, Option.bind_some]
      exact ih _ _ _ _ (by rw [List.length_set]; exact l1) (by omega) (by omega) (by omega) (by omega) (by omega) (by omega)
    · have nl := h.n k q0 q1
      have ak : (cp + gI KL k).toInt = cp.toInt + (gI KL k).toInt := iadd_i (by omega) (by omega)
      rw [if_neg (by rw [ilt]; omega), rdg q0 (by omega), Option.bind_some, wrA_in o0 (by omega), Option.bind_some, rdg q0 (by omega), Option.bind_some, Option.bind_some]
      exact ih _ _ _ _ (by rw [List.length_set]; exact l1) (by omega) (by omega) (by omega) (by omega) (by omega) (by omega)
theorem own_rt2 {KC KL KR CH TM OM0 TX : List Int32} {nc ct n cp : Int32} (h : own_KG KC KL ct) (K : own_TK KC KL CH TM OM0 nc ct) (lR : KR.length = 16) (lX : TX.length = 240) (n1 : n.toInt ≤ 240) (c0 : 0 ≤ cp.toInt) : ∀ (f : Nat) (TL : List Int32) (tn v1 v2 : Int32), TL.length = 8 → 0 ≤ tn.toInt → tn.toInt ≤ v1.toInt - cp.toInt → v1.toInt ≤ n.toInt → 0 ≤ v2.toInt → v2.toInt ≤ 8 → 8 - v2.toInt < f → ∃ (TL' : List Int32) (tn' : Int32), f_rebuildTail_12 KL KR CH TM TX n cp f TL tn v1 v2 = some (TL', tn') ∧ TL'.length = 8 ∧ 0 ≤ tn'.toInt ∧ tn'.toInt ≤ n.toInt - cp.toInt := by
  intro f
  have e0 : (0 : Int32).toInt = 0 := rfl
  have e8 : (8 : Int32).toInt = 8 := rfl
  have em : (-1 : Int32).toInt = -1 := rfl
  have lL := h.lL
  have c16 := h.c1
  induction f with
  | zero => intro TL tn v1 v2 _ _ _ _ a b c; exfalso; omega
  | succ f ih =>
    intro TL tn v1 v2 l1 o0 o1 c1 d0 d1 c
    have stop : ∃ (TL' : List Int32) (tn' : Int32), some (TL, tn) = some (TL', tn') ∧ TL'.length = 8 ∧ 0 ≤ tn'.toInt ∧ tn'.toInt ≤ n.toInt - cp.toInt := ⟨TL, tn, rfl, l1, o0, by omega⟩
    unfold f_rebuildTail_12
    by_cases g : v2 < 8
    rotate_left
    · rw [if_neg g]; exact stop
    rw [if_pos g]
    rw [ilt] at g
    have p2 := own_p1 (a := v2) (by omega)
    have p1 := own_p1 (a := v1) (by omega)
    rw [if_neg (by rw [ilt]; omega)]
    by_cases g2 : v1 < n
    rotate_left
    · rw [if_neg g2]; exact stop
    rw [if_pos g2]
    rw [ilt] at g2
    by_cases g4 : tn < 8
    rotate_left
    · rw [if_neg g4]; exact stop
    rw [if_pos g4]
    rw [ilt] at g4
    have po := own_p1 (a := tn) (by omega)
    obtain ⟨k, k1, k2⟩ := own_la2 (i := v1) h K lX n1 (by omega) (by omega)
    rw [k1, Option.bind_some]
    unfold f_rebuildTail_95
    rcases k2 with q | ⟨q0, q1, q2⟩
    · rw [q, if_pos (by decide), rdg (by omega) (by omega), Option.bind_some, wrA_in o0 (by omega), Option.bind_some]
      exact ih _ _ _ _ (by rw [List.length_set]; exact l1) (by omega) (by omega) (by omega) (by omega) (by omega) (by omega)
    · have nl := h.n k q0 q1
      have ak : (v1 + gI KL k).toInt = v1.toInt + (gI KL k).toInt := iadd_i (by omega) (by omega)
      rw [if_neg (by rw [ilt]; omega), rdg q0 (by omega), Option.bind_some, wrA_in o0 (by omega), Option.bind_some, rdg q0 (by omega), Option.bind_some]
      exact ih _ _ _ _ (by rw [List.length_set]; exact l1) (by omega) (by omega) (by omega) (by omega) (by omega) (by omega)
theorem own_feedX {KC KL KR CH DE TM OM OM0 TX MS OU TL : List Int32} {nc ct lk n st to ol cp tn v s' : Int32} (h : own_KG KC KL ct) (K : own_TK KC KL CH TM OM0 nc ct) (lR : KR.length = 16) (lO : OM.length = 129) (lX : TX.length = 240) (lM : MS.length = 240) (lU : OU.length = 240) (lT : TL.length = 8) (n0 : 0 ≤ n.toInt) (n1 : n.toInt < 240) (o0 : 0 ≤ ol.toInt) (o1 : ol.toInt ≤ cp.toInt) (c1 : cp.toInt ≤ n.toInt) (v0 : 32 ≤ v.toInt) (v1 : v.toInt ≤ 126) (es : f_nextState DE st v = some s') (s0 : 0 ≤ s'.toInt) (s1 : s'.toInt ≤ 128) :
    ∃ (r : Int32) (OU' TL' : List Int32) (ol' cp' tn' : Int32), f_popCount (gI OM s') = some r ∧ f_feed KL KR CH DE TM OM 1 lk TX MS OU TL n st to ol cp tn v = some (r, TX.set n.toInt.toNat v, MS.set n.toInt.toNat (gI OM s'), OU', TL', n + 1, s', to + r, ol', cp', tn') ∧ OU'.length = 240 ∧ TL'.length = 8 ∧ 0 ≤ ol'.toInt ∧ ol'.toInt ≤ cp'.toInt ∧ cp'.toInt ≤ n.toInt + 1 ∧ 0 ≤ tn'.toInt ∧ tn'.toInt ≤ n.toInt + 1 - cp'.toInt := by
  have e240 : (240 : Int32).toInt = 240 := rfl
  have pn := own_p1 (a := n) (by omega)
  obtain ⟨r, er, -⟩ := own_pc (gI OM s')
  have lX' : (TX.set n.toInt.toNat v).length = 240 := by rw [List.length_set]; exact lX
  obtain ⟨OU', ol', cp', x1, x2, x3, x4, x5⟩ := own_cr2 (KR := KR) (lk := lk) (n := n + 1) h K lR lX' (by omega) 100000 OU ol cp 0 lU o0 o1 (by omega) (by decide) (by decide) (by decide)
  obtain ⟨TL', tn', y1, y2, y3, y4⟩ := own_rt2 (KR := KR) (n := n + 1) (cp := cp') h K lR lX' (by omega) (by omega) 100000 TL 0 cp' 0 lT (by decide) (by have e0 : (0 : Int32).toInt = 0 := rfl; omega) x5 (by decide) (by decide) (by decide)
  refine ⟨r, OU', TL', ol', cp', tn', er, ?_, x2, y2, x3, x4, by omega, y3, by omega⟩
  rcases own_pri v with ⟨-, q⟩ | ⟨q, -⟩
  · exact absurd ⟨v0, v1⟩ q
  unfold f_feed f_commitReady f_rebuildTail
  rw [if_pos rfl, q, Option.bind_some, if_neg (by decide), if_pos (by rw [ilt]; omega), es, Option.bind_some, rdg s0 (by omega), Option.bind_some, wrA_in n0 (by omega), Option.bind_some, wrA_in n0 (by omega), Option.bind_some, er, Option.bind_some, x1, Option.bind_some]
  show Option.bind (f_rebuildTail_12 KL KR CH TM (TX.set n.toInt.toNat v) (n + 1) cp' 100000 TL 0 cp' 0) _ = _
  rw [y1, Option.bind_some]
theorem own_nxt {KC KL CH TM OM0 DE OM : List Int32} {nc ct st v : Int32} (K : own_TK KC KL CH TM OM0 nc ct) (A : own_AC KC KL CH DE OM ct) (vD : own_V DE 3354 0 128) {t : List Int32} (hl : own_lt t) {m : Nat} (hm : own_M CH t m) (hs : own_nd CH (t.take m) = some st) (v0 : 97 ≤ v.toInt) (v1 : v.toInt ≤ 122) : ∃ s' m', f_nextState DE st v = some s' ∧ 0 ≤ s'.toInt ∧ s'.toInt ≤ 128 ∧ own_lt ((v - 97) :: t) ∧ own_M CH ((v - 97) :: t) m' ∧ own_nd CH (((v - 97) :: t).take m') = some s' := by
  have e0 : (0 : Int32).toInt = 0 := rfl
  have e97 : (97 : Int32).toInt = 97 := rfl
  have e129 : (129 : Int32).toInt = 129 := rfl
  have n1 := K.T.n1
  have lD := vD.1
  have rs := own_nd_r K.T _ st (hl.take m) hs
  have sc : (v - 97).toInt = v.toInt - 97 := by rw [isub_i (by omega) (by omega), e97]
  have jx := own_ix26 (v := st) (c := v - 97) rs.1 (by omega) (by omega) (by omega)
  obtain ⟨m', M', h'⟩ := (own_ACs K A hl hm hs).1 (v - 97) (by omega) (by omega)
  have hl2 := hl.cons (c := v - 97) (by omega) (by omega)
  have r2 := own_nd_r K.T _ _ (hl2.take m') h'
  refine ⟨_, m', ?_, r2.1, by omega, hl2, M', h'⟩
  unfold f_nextState
  rcases own_let v with ⟨-, q⟩ | ⟨q, -⟩
  · exact absurd ⟨v0, v1⟩ q
  rw [q, Option.bind_some, if_neg (by decide), if_neg (by rw [ilt]; omega), if_pos (by rw [ilt]; omega), rdg (by omega) (by omega), Option.bind_some]
def own_cd : List Int32 → Int
  | [] => 0
  | c :: w => own_cd w * 16 + (c.toInt + 1)
def own_dg (w : List Int32) : Prop := ∀ c ∈ w, 0 ≤ c.toInt ∧ c.toInt < 15
theorem own_dg.tl {c : Int32} {w : List Int32} (h : own_dg (c :: w)) : own_dg w := fun d hd => h d (List.mem_cons_of_mem _ hd)
theorem own_dg.hd {c : Int32} {w : List Int32} (h : own_dg (c :: w)) : 0 ≤ c.toInt ∧ c.toInt < 15 := h c (List.mem_cons_self)
theorem own_dg.cons {c : Int32} {w : List Int32} (h : own_dg w) (h0 : 0 ≤ c.toInt) (h1 : c.toInt < 15) : own_dg (c :: w) := by
  intro d hd
  rcases List.mem_cons.mp hd with e | e
  · rw [e]; exact ⟨h0, h1⟩
  · exact h d e
theorem own_cd0 : ∀ w : List Int32, own_dg w → 0 ≤ own_cd w := by
  intro w
  induction w with
  | nil => intro _; exact Int.le_refl _
  | cons c w ih =>
    intro h
    have a := ih h.tl
    have b := h.hd
    rw [own_cd]
    omega
theorem own_cdi : ∀ w w' : List Int32, own_dg w → own_dg w' → own_cd w = own_cd w' → w = w' := by
  intro w
  induction w with
  | nil =>
    intro w' _ h' e
    rcases w' with _ | ⟨c, w'⟩
    · rfl
    · have a := own_cd0 w' h'.tl
      have b := h'.hd
      rw [own_cd, own_cd] at e
      omega
  | cons c w ih =>
    intro w' h h' e
    have a1 := own_cd0 w h.tl
    have b1 := h.hd
    rcases w' with _ | ⟨c', w'⟩
    · rw [own_cd, own_cd] at e
      omega
    · have a := own_cd0 w' h'.tl
      have b := h'.hd
      rw [own_cd, own_cd] at e
      have e1 : c = c' := by rw [ieq]; omega
      have e2 : own_cd w = own_cd w' := by omega
      rw [e1, ih w' h.tl h'.tl e2]
theorem own_cds : ∀ (K t : List Int32) (M : Int), own_dg K → own_dg t → M = 16 ^ K.length → 0 < M ∧ (own_cd t % M = own_cd K ↔ K.length ≤ t.length ∧ t.take K.length = K) ∧ own_cd K < M ∧ (¬ K = [] → M ≤ 16 * own_cd K) := by
  intro K
  induction K with
  | nil =>
    intro t M _ _ hM
    have : M = 1 := by rw [hM]; rfl
    rw [this]
    refine ⟨by omega, ⟨fun _ => ⟨Nat.zero_le _, rfl⟩, fun _ => ?_⟩, by decide, fun q => absurd rfl q⟩
    rw [own_cd]
    omega
  | cons c K ih =>
    intro t M hK ht hM
    have b := hK.hd
    have a := own_cd0 K hK.tl
    have eM : M = 16 ^ K.length * 16 := by rw [hM, List.length_cons, Int.pow_succ]
    have i0 := ih [] (16 ^ K.length) hK.tl (fun d hd => absurd hd (by simp)) rfl
    obtain ⟨p0, -, q1, q2⟩ := i0
    have up : own_cd (c :: K) < M := by rw [own_cd, eM]; omega
    have lo : M ≤ 16 * own_cd (c :: K) := by
      rw [own_cd, eM]
      by_cases z : K = []
      · rw [z, own_cd]
        show (1 : Int) * 16 ≤ _
        omega
      · have := q2 z
        omega
    refine ⟨by omega, ?_, up, fun _ => lo⟩
    rcases t with _ | ⟨d, t⟩
    · rw [own_cd, Int.zero_emod]
      constructor
      · intro e
        rw [own_cd] at e
        omega
      · rintro ⟨h, -⟩
        simp at h
    · obtain ⟨-, iff, -, -⟩ := ih t (16 ^ K.length) hK.tl ht.tl rfl
      have bt := ht.hd
      have at' := own_cd0 t ht.tl
      have dm := Int.emod_add_mul_ediv (own_cd t) (16 ^ K.length)
      have m0 := Int.emod_nonneg (own_cd t) (show (16 ^ K.length : Int) ≠ 0 by omega)
      have m1 := Int.emod_lt_of_pos (own_cd t) p0
      have key : own_cd (d :: t) % M = (own_cd t % 16 ^ K.length) * 16 + (d.toInt + 1) := by
        have e : own_cd (d :: t) = ((own_cd t % 16 ^ K.length) * 16 + (d.toInt + 1)) + M * (own_cd t / 16 ^ K.length) := by
          rw [own_cd, eM]
          have : (16 : Int) ^ K.length * 16 * (own_cd t / 16 ^ K.length) = 16 * (16 ^ K.length * (own_cd t / 16 ^ K.length)) := by rw [Int.mul_comm (16 ^ K.length) 16, Int.mul_assoc]
          rw [this]
          omega
        rw [e, Int.add_mul_emod_self_left]
        exact Int.emod_eq_of_lt (by omega) (by omega)
      rw [key]
      show (_ = own_cd K * 16 + (c.toInt + 1)) ↔ _
      rw [List.length_cons, List.length_cons, List.take_succ_cons]
      constructor
      · intro e
        have e1 : d = c := by rw [ieq]; omega
        have e2 := iff.mp (by omega)
        exact ⟨by omega, by rw [e1, e2.2]⟩
      · rintro ⟨h1, h2⟩
        injection h2 with h3 h4
        have e2 := iff.mpr ⟨by omega, h4⟩
        rw [e2, h3]
theorem own_and {s m : Int32} {k : Nat} (s0 : 0 ≤ s.toInt) (hm : m.toBitVec.toNat = 2 ^ k - 1) (hk : k < 31) : (s &&& m).toInt = s.toInt % 2 ^ k := by
  have nn : ∀ x : Int32, 0 ≤ x.toInt → x.toInt = x.toBitVec.toNat := by
    intro x hx
    have h : x.toInt = x.toBitVec.toInt := rfl
    rw [h, BitVec.toInt_eq_toNat_cond] at hx ⊢
    split
    · rfl
    · rename_i q
      rw [if_neg q] at hx
      have := x.toBitVec.isLt
      omega
  have e : (s &&& m).toBitVec.toNat = s.toBitVec.toNat % 2 ^ k := by
    rw [Int32.toBitVec_and, BitVec.toNat_and, hm, Nat.and_two_pow_sub_one_eq_mod]
  have p : 0 ≤ (s &&& m).toInt := by
    have h : (s &&& m).toInt = (s &&& m).toBitVec.toInt := rfl
    rw [h, BitVec.toInt_eq_toNat_cond, e]
    have l1 : s.toBitVec.toNat % 2 ^ k < 2 ^ k := Nat.mod_lt _ (Nat.two_pow_pos k)
    have l2 : 2 ^ k ≤ 2 ^ 30 := Nat.pow_le_pow_right (by omega) (by omega)
    rw [if_pos (by omega)]
    omega
  rw [nn _ p, e, nn s s0]
  rfl
theorem own_hit {kc j w s : Int32} {K t : List Int32} (hj : j < kc) (hK : own_dg K) (ht : own_dg t) (k1 : 1 ≤ K.length) (k3 : K.length ≤ 3) (hw : w.toInt = own_cd K) (hs : s.toInt = own_cd t % 4096) : ∃ r : Int32, f_L_hit kc j w s = some r ∧ ((r = 1 ∧ K.length ≤ t.length ∧ t.take K.length = K) ∨ (r = 0 ∧ ¬ (K.length ≤ t.length ∧ t.take K.length = K))) := by
  have e15 : (15 : Int32).toBitVec.toNat = 2 ^ 4 - 1 := rfl
  have e255 : (255 : Int32).toBitVec.toNat = 2 ^ 8 - 1 := rfl
  have e4095 : (4095 : Int32).toBitVec.toNat = 2 ^ 12 - 1 := rfl
  have e16 : (16 : Int32).toInt = 16 := rfl
  have e256 : (256 : Int32).toInt = 256 := rfl
  have nk : ¬ K = [] := fun z => by rw [z] at k1; simp at k1
  have c0 := own_cd0 t ht
  have s0 : 0 ≤ s.toInt := by rw [hs]; omega
  unfold f_L_hit
  rw [if_pos hj]
  have fin1 : ∀ (M : Int) (a : Int32), M = 16 ^ K.length → (s &&& a).toInt = s.toInt % M → own_cd t % 4096 % M = own_cd t % M → (if w < 16 then (15 : Int32) else (if w < 256 then 255 else 4095)) = a → ∃ r : Int32, f_L_hit_34 w s (if w < 16 then (15 : Int32) else (if w < 256 then 255 else 4095)) = some r ∧ ((r = 1 ∧ K.length ≤ t.length ∧ t.take K.length = K) ∨ (r = 0 ∧ ¬ (K.length ≤ t.length ∧ t.take K.length = K))) := by
    intro M a hM ha hmm hA
    obtain ⟨-, iff, -, -⟩ := own_cds K t M hK ht hM
    rw [hA]
    unfold f_L_hit_34
    refine ⟨_, rfl, ?_⟩
    have eq : (s &&& a) = w ↔ (K.length ≤ t.length ∧ t.take K.length = K) := by rw [ieq, ha, hs, hmm, hw]; exact iff
    by_cases q : s &&& a = w
    · rw [if_pos q]; exact Or.inl ⟨rfl, eq.mp q⟩
    · rw [if_neg q]; exact Or.inr ⟨rfl, fun z => q (eq.mpr z)⟩
  have h3 : K.length = 1 ∨ K.length = 2 ∨ K.length = 3 := by omega
  rcases h3 with q | q | q
  · obtain ⟨-, -, u1, u2⟩ := own_cds K t 16 hK ht (by rw [q]; rfl)
    exact fin1 16 15 (by rw [q]; rfl) (by rw [own_and s0 e15 (by omega)]; rfl) (by omega) (by rw [if_pos (by rw [ilt]; omega)])
  · obtain ⟨-, -, u1, u2⟩ := own_cds K t 256 hK ht (by rw [q]; rfl)
    have := u2 nk
    exact fin1 256 255 (by rw [q]; rfl) (by rw [own_and s0 e255 (by omega)]; rfl) (by omega) (by rw [if_neg (by rw [ilt]; omega), if_pos (by rw [ilt]; omega)])
  · obtain ⟨-, -, u1, u2⟩ := own_cds K t 4096 hK ht (by rw [q]; rfl)
    have := u2 nk
    exact fin1 4096 4095 (by rw [q]; rfl) (by rw [own_and s0 e4095 (by omega)]; rfl) (by omega) (by rw [if_neg (by rw [ilt]; omega), if_neg (by rw [ilt]; omega)])
def own_c4 (a b c d : Bool) : Int32 := (((if a then 1 else 0) + 2 * (if b then 1 else 0)) + 4 * (if c then 1 else 0)) + 8 * (if d then 1 else 0)
theorem own_c4b : ∀ a b c d : Bool, ∀ n : Fin 32, own_mb (own_c4 a b c d) n.val = ((decide (n.val = 0) && a) || (decide (n.val = 1) && b) || (decide (n.val = 2) && c) || (decide (n.val = 3) && d)) := by decide +kernel
theorem own_m4 {m : Int32} {a b c d : Bool} (h : ∀ n : Nat, n < 32 → own_mb m n = ((decide (n = 0) && a) || (decide (n = 1) && b) || (decide (n = 2) && c) || (decide (n = 3) && d))) : m = own_c4 a b c d := by
  rw [← Int32.toBitVec_inj]
  apply BitVec.eq_of_getLsbD_eq
  intro n hn
  have q := h n hn
  have r := own_c4b a b c d ⟨n, hn⟩
  simp only at r
  unfold own_mb at q r
  rw [q, r]
theorem own_p4 : ∀ a b c d : Bool, f_popCount (own_c4 a b c d) = some ((((if a then 1 else 0) + (if b then 1 else 0)) + (if c then 1 else 0)) + (if d then 1 else 0)) := by
  intro a b c d
  cases a <;> cases b <;> cases c <;> cases d <;> rfl
def own_pw (PD : List Int32) : Nat → List Int32
  | 0 => []
  | j + 1 => (gI PD (Int32.ofNat j) - 97) :: own_pw PD j
theorem own_s97 {a b : Int32} (h : a - 97 = b - 97) : a = b := by
  have := congrArg (· + (97 : Int32)) h
  simpa using this
theorem own_kpp {KC PD : List Int32} {k : Int32} : ∀ L : Nat, L ≤ 8 → (own_kp KC k L = own_pw PD L ↔ ∀ j : Int32, 0 ≤ j.toInt → j.toInt < L → gI KC (k * 8 + j) = gI PD j) := by
  intro L
  induction L with
  | zero => intro _; exact ⟨fun _ j j0 j1 => by omega, fun _ => rfl⟩
  | succ L ih =>
    intro hL
    have i := ih (by omega)
    have e : (Int32.ofNat L).toInt = L := Int32.toInt_ofNat_of_lt (by omega)
    rw [own_kp, own_pw]
    constructor
    · intro h j j0 j1
      injection h with h1 h2
      by_cases q : j = Int32.ofNat L
      · rw [q]; exact own_s97 h1
      · rw [ieq] at q
        exact i.mp h2 j j0 (by omega)
    · intro h
      rw [h (Int32.ofNat L) (by omega) (by omega), i.mpr (fun j j0 j1 => h j j0 (by omega))]
theorem own_kpk {KC KC' : List Int32} {k k' : Int32} : ∀ L : Nat, L ≤ 8 → (own_kp KC k L = own_kp KC' k' L ↔ ∀ j : Int32, 0 ≤ j.toInt → j.toInt < L → gI KC (k * 8 + j) = gI KC' (k' * 8 + j)) := by
  intro L
  induction L with
  | zero => intro _; exact ⟨fun _ j j0 j1 => by omega, fun _ => rfl⟩
  | succ L ih =>
    intro hL
    have i := ih (by omega)
    have e : (Int32.ofNat L).toInt = L := Int32.toInt_ofNat_of_lt (by omega)
    rw [own_kp, own_kp]
    constructor
    · intro h j j0 j1
      injection h with h1 h2
      by_cases q : j = Int32.ofNat L
      · rw [q]; exact own_s97 h1
      · rw [ieq] at q
        exact i.mp h2 j j0 (by omega)
    · intro h
      rw [h (Int32.ofNat L) (by omega) (by omega), i.mpr (fun j j0 j1 => h j j0 (by omega))]
theorem own_pwl (PD : List Int32) : ∀ j, (own_pw PD j).length = j := by
  intro j
  induction j with
  | zero => rfl
  | succ j ih => rw [own_pw, List.length_cons, ih]
theorem own_KW.kg {KC KL KR : List Int32} {ct : Int32} (h : own_KW KC KL KR ct) : own_KG KC KL ct := by
  have c4 := h.c4
  refine ⟨h.lC, h.lL, h.c0, by omega, fun k k0 k1 => by have := h.n k k0 k1; omega, h.c, fun i k i0 ik k1 e => ?_⟩
  have n1 := h.n i i0 (by omega)
  have n2 := h.n k (by omega) k1
  have l := congrArg List.length e
  rw [own_kp_len, own_kp_len] at l
  have el : gI KL i = gI KL k := by rw [ieq]; omega
  rw [el] at e
  have all := (own_kpk _ (by omega)).mp e
  rcases h.d i k i0 ik k1 with q | ⟨j, j0, j1, q⟩
  · exact q el
  · exact q (all j j0 (by omega))
theorem own_dfk {KC KL PD : List Int32} {pn k : Int32} (p0 : 0 ≤ pn.toInt) (p8 : pn.toInt ≤ 8) (l0 : 0 ≤ (gI KL k).toInt) : ¬ own_df KC KL PD pn k ↔ own_kw KC KL k = own_pw PD pn.toInt.toNat := by
  unfold own_df own_kw
  constructor
  · intro h
    have e : gI KL k = pn := by
      by_cases q : gI KL k = pn
      · exact q
      · exact absurd (Or.inl q) h
    rw [e]
    refine (own_kpp _ (by omega)).mpr (fun j j0 j1 => ?_)
    by_cases q : gI KC (k * 8 + j) = gI PD j
    · exact q
    · exact absurd (Or.inr ⟨j, j0, by omega, q⟩) h
  · intro h z
    have l := congrArg List.length h
    rw [own_kp_len, own_pwl] at l
    have e : gI KL k = pn := by rw [ieq]; omega
    rw [e] at h
    have all := (own_kpp _ (by omega)).mp h
    rcases z with q | ⟨j, j0, j1, q⟩
    · exact q e
    · exact q (all j j0 (by omega))
theorem own_pwd {PD : List Int32} {pn : Int32} (hp : ∀ j : Int32, 0 ≤ j.toInt → j.toInt < pn.toInt → 97 ≤ (gI PD j).toInt ∧ (gI PD j).toInt ≤ 103) : ∀ L : Nat, L ≤ 8 → (L : Int) ≤ pn.toInt → own_dg (own_pw PD L) := by
  intro L
  have e97 : (97 : Int32).toInt = 97 := rfl
  induction L with
  | zero => intro _ _ c hc; exact absurd hc (by simp [own_pw])
  | succ L ih =>
    intro h8 hL
    have e : (Int32.ofNat L).toInt = L := Int32.toInt_ofNat_of_lt (by omega)
    have r := hp (Int32.ofNat L) (by omega) (by omega)
    have s : (gI PD (Int32.ofNat L) - 97).toInt = (gI PD (Int32.ofNat L)).toInt - 97 := by rw [isub_i (by omega) (by omega), e97]
    exact (ih (by omega) (by omega)).cons (by omega) (by omega)
theorem own_kwd {KC KL : List Int32} {k : Int32} (l8 : (gI KL k).toInt ≤ 8) (hc : ∀ j : Int32, 0 ≤ j.toInt → j.toInt < (gI KL k).toInt → 97 ≤ (gI KC (k * 8 + j)).toInt ∧ (gI KC (k * 8 + j)).toInt ≤ 103) : own_dg (own_kw KC KL k) := by
  have e97 : (97 : Int32).toInt = 97 := rfl
  have key : ∀ L : Nat, (L : Int) ≤ (gI KL k).toInt → own_dg (own_kp KC k L) := by
    intro L
    induction L with
    | zero => intro _ c hc; exact absurd hc (by simp [own_kp])
    | succ L ih =>
      intro hL
      have e : (Int32.ofNat L).toInt = L := Int32.toInt_ofNat_of_lt (by omega)
      have r := hc (Int32.ofNat L) (by omega) (by omega)
      have s : (gI KC (k * 8 + Int32.ofNat L) - 97).toInt = (gI KC (k * 8 + Int32.ofNat L)).toInt - 97 := by rw [isub_i (by omega) (by omega), e97]
      exact (ih (by omega)).cons (by omega) (by omega)
  unfold own_kw
  by_cases q : 0 ≤ (gI KL k).toInt
  · exact key _ (by omega)
  · have : (gI KL k).toInt.toNat = 0 := by omega
    rw [this]
    exact fun c hc => absurd hc (by simp [own_kp])
abbrev own_I8 (KC KL KR PD CH DE FA DP TM OM QU TX MS OU TL : List Int32) (ph ct pn n st ol cp tn v5 v7 v9 v10 v11 v12 : Int32) : Prop := (own_KW KC KL KR ct) ∧ (∀ k j : Int32, 0 ≤ k.toInt → k.toInt < ct.toInt → 0 ≤ j.toInt → j.toInt < (gI KL k).toInt → (gI KC (k * 8 + j)).toInt ≤ 103) ∧ (PD.length = 8) ∧ (TX.length = 240) ∧ (MS.length = 240) ∧ (OU.length = 240) ∧ (TL.length = 8) ∧ (∀ k : Int32, 0 ≤ k.toInt → k.toInt < 4 → (k.toInt < ct.toInt → (gI [v9, v10, v11, v12] k).toInt = own_cd (own_kw KC KL k)) ∧ (ct.toInt ≤ k.toInt → gI [v9, v10, v11, v12] k = -1)) ∧ (0 ≤ ol.toInt ∧ ol.toInt ≤ cp.toInt ∧ cp.toInt ≤ n.toInt ∧ 0 ≤ tn.toInt ∧ tn.toInt ≤ n.toInt - cp.toInt ∧ n.toInt ≤ 240) ∧ ((ph = 0 ∧ 0 ≤ pn.toInt ∧ pn.toInt ≤ 3 ∧ (∀ j : Int32, 0 ≤ j.toInt → j.toInt < pn.toInt → 97 ≤ (gI PD j).toInt ∧ (gI PD j).toInt ≤ 103) ∧ (0 < pn.toInt → ct.toInt < 4) ∧ v5.toInt = own_cd (own_pw PD pn.toInt.toNat) ∧ own_V CH 3354 0 0 ∧ own_V DE 3354 0 128 ∧ own_V FA 129 0 128 ∧ DP.length = 129 ∧ own_V TM 129 (-1) (-1) ∧ own_V OM 129 0 0 ∧ own_V QU 129 0 128) ∨ (ph = 1 ∧ pn = 0 ∧ v5 = 0 ∧ ∃ OM0 nc', own_TK KC KL CH TM OM0 nc' ct ∧ own_AC KC KL CH DE OM ct ∧ own_V DE 3354 0 128 ∧ OM.length = 129 ∧ ∃ t m, own_lt t ∧ own_dg t ∧ (t.length : Int) = n.toInt ∧ own_M CH t m ∧ own_nd CH (t.take m) = some st ∧ v7.toInt = own_cd t % 4096))
theorem own_I8.w {KC KL KR PD CH DE FA DP TM OM QU TX MS OU TL : List Int32} {ph ct pn n st ol cp tn v5 v7 v9 v10 v11 v12 : Int32} (self : own_I8 KC KL KR PD CH DE FA DP TM OM QU TX MS OU TL ph ct pn n st ol cp tn v5 v7 v9 v10 v11 v12) : own_KW KC KL KR ct := self.1
theorem own_I8.kd {KC KL KR PD CH DE FA DP TM OM QU TX MS OU TL : List Int32} {ph ct pn n st ol cp tn v5 v7 v9 v10 v11 v12 : Int32} (self : own_I8 KC KL KR PD CH DE FA DP TM OM QU TX MS OU TL ph ct pn n st ol cp tn v5 v7 v9 v10 v11 v12) : ∀ k j : Int32, 0 ≤ k.toInt → k.toInt < ct.toInt → 0 ≤ j.toInt → j.toInt < (gI KL k).toInt → (gI KC (k * 8 + j)).toInt ≤ 103 := self.2.1
theorem own_I8.lP {KC KL KR PD CH DE FA DP TM OM QU TX MS OU TL : List Int32} {ph ct pn n st ol cp tn v5 v7 v9 v10 v11 v12 : Int32} (self : own_I8 KC KL KR PD CH DE FA DP TM OM QU TX MS OU TL ph ct pn n st ol cp tn v5 v7 v9 v10 v11 v12) : PD.length = 8 := self.2.2.1
theorem own_I8.l1 {KC KL KR PD CH DE FA DP TM OM QU TX MS OU TL : List Int32} {ph ct pn n st ol cp tn v5 v7 v9 v10 v11 v12 : Int32} (self : own_I8 KC KL KR PD CH DE FA DP TM OM QU TX MS OU TL ph ct pn n st ol cp tn v5 v7 v9 v10 v11 v12) : TX.length = 240 := self.2.2.2.1
theorem own_I8.l2 {KC KL KR PD CH DE FA DP TM OM QU TX MS OU TL : List Int32} {ph ct pn n st ol cp tn v5 v7 v9 v10 v11 v12 : Int32} (self : own_I8 KC KL KR PD CH DE FA DP TM OM QU TX MS OU TL ph ct pn n st ol cp tn v5 v7 v9 v10 v11 v12) : MS.length = 240 := self.2.2.2.2.1
theorem own_I8.l3 {KC KL KR PD CH DE FA DP TM OM QU TX MS OU TL : List Int32} {ph ct pn n st ol cp tn v5 v7 v9 v10 v11 v12 : Int32} (self : own_I8 KC KL KR PD CH DE FA DP TM OM QU TX MS OU TL ph ct pn n st ol cp tn v5 v7 v9 v10 v11 v12) : OU.length = 240 := self.2.2.2.2.2.1
theorem own_I8.l4 {KC KL KR PD CH DE FA DP TM OM QU TX MS OU TL : List Int32} {ph ct pn n st ol cp tn v5 v7 v9 v10 v11 v12 : Int32} (self : own_I8 KC KL KR PD CH DE FA DP TM OM QU TX MS OU TL ph ct pn n st ol cp tn v5 v7 v9 v10 v11 v12) : TL.length = 8 := self.2.2.2.2.2.2.1
theorem own_I8.wl {KC KL KR PD CH DE FA DP TM OM QU TX MS OU TL : List Int32} {ph ct pn n st ol cp tn v5 v7 v9 v10 v11 v12 : Int32} (self : own_I8 KC KL KR PD CH DE FA DP TM OM QU TX MS OU TL ph ct pn n st ol cp tn v5 v7 v9 v10 v11 v12) : ∀ k : Int32, 0 ≤ k.toInt → k.toInt < 4 → (k.toInt < ct.toInt → (gI [v9, v10, v11, v12] k).toInt = own_cd (own_kw KC KL k)) ∧ (ct.toInt ≤ k.toInt → gI [v9, v10, v11, v12] k = -1) := self.2.2.2.2.2.2.2.1
theorem own_I8.nn {KC KL KR PD CH DE FA DP TM OM QU TX MS OU TL : List Int32} {ph ct pn n st ol cp tn v5 v7 v9 v10 v11 v12 : Int32} (self : own_I8 KC KL KR PD CH DE FA DP TM OM QU TX MS OU TL ph ct pn n st ol cp tn v5 v7 v9 v10 v11 v12) : 0 ≤ ol.toInt ∧ ol.toInt ≤ cp.toInt ∧ cp.toInt ≤ n.toInt ∧ 0 ≤ tn.toInt ∧ tn.toInt ≤ n.toInt - cp.toInt ∧ n.toInt ≤ 240 := self.2.2.2.2.2.2.2.2.1
theorem own_I8.p {KC KL KR PD CH DE FA DP TM OM QU TX MS OU TL : List Int32} {ph ct pn n st ol cp tn v5 v7 v9 v10 v11 v12 : Int32} (self : own_I8 KC KL KR PD CH DE FA DP TM OM QU TX MS OU TL ph ct pn n st ol cp tn v5 v7 v9 v10 v11 v12) : (ph = 0 ∧ 0 ≤ pn.toInt ∧ pn.toInt ≤ 3 ∧ (∀ j : Int32, 0 ≤ j.toInt → j.toInt < pn.toInt → 97 ≤ (gI PD j).toInt ∧ (gI PD j).toInt ≤ 103) ∧ (0 < pn.toInt → ct.toInt < 4) ∧ v5.toInt = own_cd (own_pw PD pn.toInt.toNat) ∧ own_V CH 3354 0 0 ∧ own_V DE 3354 0 128 ∧ own_V FA 129 0 128 ∧ DP.length = 129 ∧ own_V TM 129 (-1) (-1) ∧ own_V OM 129 0 0 ∧ own_V QU 129 0 128) ∨ (ph = 1 ∧ pn = 0 ∧ v5 = 0 ∧ ∃ OM0 nc', own_TK KC KL CH TM OM0 nc' ct ∧ own_AC KC KL CH DE OM ct ∧ own_V DE 3354 0 128 ∧ OM.length = 129 ∧ ∃ t m, own_lt t ∧ own_dg t ∧ (t.length : Int) = n.toInt ∧ own_M CH t m ∧ own_nd CH (t.take m) = some st ∧ v7.toInt = own_cd t % 4096) := self.2.2.2.2.2.2.2.2.2
theorem own_611 {scr KC KL KR PD CH DE FA DP TM OM QU TX MS OU TL : List Int32} {ph ct pn nc lk n st to ol cp tn v5 v7 v9 v10 v11 v12 v13 e : Int32} (c0 : 0 ≤ ct.toInt) (nn : 0 ≤ ol.toInt ∧ ol.toInt ≤ cp.toInt ∧ cp.toInt ≤ n.toInt ∧ 0 ≤ tn.toInt ∧ tn.toInt ≤ n.toInt - cp.toInt ∧ n.toInt ≤ 240) {kb : List Int32 → List Int32 → List Int32 → List Int32 → List Int32 → List Int32 → List Int32 → List Int32 → List Int32 → List Int32 → List Int32 → List Int32 → List Int32 → List Int32 → List Int32 → Int32 → Int32 → Int32 → Int32 → Int32 → Int32 → Int32 → Int32 → Int32 → Int32 → Int32 → Int32 → Int32 → Int32 → Int32 → Int32 → Int32 → Int32 → Int32 → Int32 → Int32 → Int32 → Int32 → Int32 → Int32 → Option Int32}
    (hk : kb KC KL KR PD CH DE FA DP TM OM QU TX MS OU TL 4 3 ph ct pn nc lk n st to ol cp tn ph ct pn v5 n v7 to v9 v10 v11 v12 (v13 + 2) = some 1) : f_L_law_611 kb scr KC KL KR PD CH DE FA DP TM OM QU TX MS OU TL 4 3 ph ct pn nc lk n st to ol cp tn ph ct pn v5 n v7 to v9 v10 v11 v12 v13 e e = some 1 := by
  have e0 : (0 : Int32).toInt = 0 := rfl
  have kl : f_keywordLength KL ct pn ct = some pn := by
    unfold f_keywordLength f_keywordLength_19
    rw [if_neg (by rw [ilt]; omega), if_neg (by rw [ilt]; omega), if_pos rfl]
  have s : (ol + tn).toInt = ol.toInt + tn.toInt := iadd_i (by omega) (by omega)
  unfold f_L_law_611 f_phase f_keywordCount f_textLength f_totalOccurrences f_outLength
  rw [if_pos rfl, Option.bind_some, if_pos rfl, Option.bind_some, if_pos rfl, kl, Option.bind_some, if_pos rfl, Option.bind_some, if_pos rfl, Option.bind_some, if_pos rfl, Option.bind_some, if_neg (by rw [ilt]; omega), if_neg (by rw [ilt]; omega)]
  exact hk
theorem own_ekX {KC KL KR PD : List Int32} {ct pn v : Int32} (h : own_KW KC KL KR ct) (lP : PD.length = 8) (p0 : 0 < pn.toInt) (p3 : pn.toInt ≤ 3) (pl : ∀ j : Int32, 0 ≤ j.toInt → j.toInt < pn.toInt → 97 ≤ (gI PD j).toInt ∧ (gI PD j).toInt ≤ 103) (pc : ct.toInt < 4) (v0 : 32 ≤ v.toInt) (v1 : v.toInt ≤ 126) :
    (f_endKeyword PD 0 KC KL KR ct pn v = some (-5, KC, KL, KR, ct, pn) ∧ ∃ k : Int32, 0 ≤ k.toInt ∧ k.toInt < ct.toInt ∧ own_kw KC KL k = own_pw PD pn.toInt.toNat) ∨ ∃ (KC' KL' KR' : List Int32), f_endKeyword PD 0 KC KL KR ct pn v = some (ct, KC', KL', KR', ct + 1, 0) ∧ own_KW KC' KL' KR' (ct + 1) ∧ (∀ k : Int32, 0 ≤ k.toInt → k.toInt < ct.toInt → ¬ own_kw KC KL k = own_pw PD pn.toInt.toNat ∧ own_kw KC' KL' k = own_kw KC KL k) ∧ own_kw KC' KL' ct = own_pw PD pn.toInt.toNat ∧ (∀ k j : Int32, 0 ≤ k.toInt → k.toInt < ct.toInt + 1 → 0 ≤ j.toInt → j.toInt < (gI KL' k).toInt → (k.toInt < ct.toInt ∧ j.toInt < (gI KL k).toInt ∧ gI KC' (k * 8 + j) = gI KC (k * 8 + j)) ∨ (j.toInt < pn.toInt ∧ gI KC' (k * 8 + j) = gI PD j)) := by
  have c0 := h.c0
  have e0 : (0 : Int32).toInt = 0 := rfl
  have e1 : (1 : Int32).toInt = 1 := rfl
  have e16 : (16 : Int32).toInt = 16 := rfl
  have p1 := own_p1 (a := ct) (by omega)
  have m1 : (ct + 1) - 1 = ct := by rw [ieq, isub_i (by omega) (by omega), p1, e1]; omega
  have pz : ¬ pn = 0 := by rw [ieq]; omega
  have pr : f_isPrintable v = some 1 := by
    rcases own_pri v with ⟨-, q⟩ | ⟨q, -⟩
    · exact absurd ⟨v0, v1⟩ q
    · exact q
  rcases own_pd (ct := ct) (pn := pn) h.lC h.lL lP (by omega) (by omega) c0 (by omega) with ⟨q, q'⟩ | ⟨q, k, k0, k1, k2⟩
  · right
    obtain ⟨KC', es, lC', hK⟩ := own_sp (ct := ct) (pn := pn) (v := v) h.lC h.lL h.lR lP (by omega) (by omega) c0 (by omega)
    have ee : f_endKeyword PD 0 KC KL KR ct pn v = some (ct, KC', KL.set ct.toInt.toNat pn, KR.set ct.toInt.toNat v, ct + 1, 0) := by
      unfold f_endKeyword
      rw [if_pos rfl, if_neg pz, pr, Option.bind_some, if_neg (by decide), q, Option.bind_some, if_pos rfl, if_pos (by rw [ilt]; omega), es, Option.bind_some]
      show some ((ct + 1) - 1, KC', _) = _
      rw [m1]
    have lL := h.lL
    have gL : ∀ k : Int32, 0 ≤ k.toInt → gI (KL.set ct.toInt.toNat pn) k = if ct = k then pn else gI KL k := fun k k0 => gset c0 (by omega) k0
    refine ⟨KC', KL.set ct.toInt.toNat pn, KR.set ct.toInt.toNat v, ee, ?_, fun k k0 k1 => ⟨?_, ?_⟩, ?_, ?_⟩
    · rcases own_ek (v := v) h lP (by omega) p3 (fun j j0 j1 => by have := pl j j0 j1; omega) (fun _ => pc) with ⟨e, x⟩ | ⟨e, A, B, C, x, w'⟩
      · rw [ee] at x
        have y := Option.some.inj x
        injection y with y1 y2
        injection y2 with y3 y4
        injection y4 with y5 y6
        injection y6 with y7 y8
        injection y8 with y9 y10
        exact absurd y10.symm pz
      · rw [ee] at x
        have y := Option.some.inj x
        injection y with y1 y2
        injection y2 with y3 y4
        injection y4 with y5 y6
        injection y6 with y7 y8
        rw [y3, y5, y7]
        exact w'
    · intro z
      have nl := h.n k k0 k1
      exact (own_dfk (by omega) (by omega) (by omega)).mpr z (q' k k0 k1)
    · have nl := h.n k k0 k1
      have ne : ¬ ct = k := fun z => by rw [ieq] at z; omega
      have ne' : ¬ k = ct := fun z => ne z.symm
      unfold own_kw
      rw [gL k k0, if_neg ne]
      refine (own_kpk _ (by omega)).mpr (fun j j0 j1 => ?_)
      rw [hK k j k0 (by omega) j0 (by omega), if_neg (fun z => ne' z.1)]
    · unfold own_kw
      rw [gL ct c0, if_pos rfl]
      refine (own_kpp _ (by omega)).mpr (fun j j0 j1 => ?_)
      rw [hK ct j c0 (by omega) j0 (by omega), if_pos ⟨rfl, by omega⟩]
    · intro k j k0 k1 j0 j1
      rw [gL k k0] at j1
      by_cases z : ct = k
      · rw [if_pos z] at j1
        right
        rw [hK k j k0 (by omega) j0 (by omega), if_pos ⟨z.symm, j1⟩]
        exact ⟨j1, rfl⟩
      · rw [if_neg z] at j1
        have z' : ¬ k = ct := fun y => z y.symm
        rw [ieq] at z
        have nl := h.n k k0 (by omega)
        left
        rw [hK k j k0 (by omega) j0 (by omega), if_neg (fun y => z' y.1)]
        exact ⟨by omega, j1, rfl⟩
  · left
    have nl := h.n k k0 k1
    refine ⟨?_, k, k0, k1, (own_dfk (by omega) (by omega) (by omega)).mp k2⟩
    unfold f_endKeyword
    rw [if_pos rfl, if_neg pz, pr, Option.bind_some, if_neg (by decide), q, Option.bind_some, if_neg (by decide)]
theorem own_adc2 {PD : List Int32} {ct pn v : Int32} (l : PD.length = 8) (p0 : 0 ≤ pn.toInt) (p3 : pn.toInt < 3) (c4 : ct.toInt < 4) (h1 : 97 ≤ v.toInt) (h2 : v.toInt ≤ 122) : f_addChar 4 3 0 ct PD pn v = some (pn + 1, PD.set pn.toInt.toNat v, pn + 1) := by
  have e8 : (8 : Int32).toInt = 8 := rfl
  have e4 : (4 : Int32).toInt = 4 := rfl
  have e3 : (3 : Int32).toInt = 3 := rfl
  unfold f_addChar
  rcases own_let v with ⟨-, n⟩ | ⟨e, -⟩
  · exact absurd ⟨h1, h2⟩ n
  · rw [if_pos rfl, e, Option.bind_some, if_neg (by decide), if_pos (by rw [ilt]; omega), if_pos (by rw [ilt]; omega), if_pos (by rw [ilt]; omega), wrA_in p0 (by omega), Option.bind_some]
theorem own_gt8 {PD : List Int32} {pn v : Int32} (l : PD.length = 8) (p0 : 0 ≤ pn.toInt) (p3 : pn.toInt < 8) : gI (PD.set pn.toInt.toNat v) pn = v := by
  rw [gset p0 (by omega) p0, if_pos rfl]
theorem own_feed8 {KC KL KR CH DE TM OM OM0 TX MS OU TL t : List Int32} {nc ct lk n st to ol cp tn v v7 v9 v10 v11 v12 : Int32} {m : Nat} (w : own_KW KC KL KR ct) (kd : ∀ k j : Int32, 0 ≤ k.toInt → k.toInt < ct.toInt → 0 ≤ j.toInt → j.toInt < (gI KL k).toInt → (gI KC (k * 8 + j)).toInt ≤ 103) (wl : ∀ k : Int32, 0 ≤ k.toInt → k.toInt < 4 → (k.toInt < ct.toInt → (gI [v9, v10, v11, v12] k).toInt = own_cd (own_kw KC KL k)) ∧ (ct.toInt ≤ k.toInt → gI [v9, v10, v11, v12] k = -1)) (nn : 0 ≤ ol.toInt ∧ ol.toInt ≤ cp.toInt ∧ cp.toInt ≤ n.toInt ∧ 0 ≤ tn.toInt ∧ tn.toInt ≤ n.toInt - cp.toInt ∧ n.toInt ≤ 240) (n240 : n.toInt < 240) (l1 : TX.length = 240) (l2 : MS.length = 240) (l3 : OU.length = 240) (l4 : TL.length = 8) (K : own_TK KC KL CH TM OM0 nc ct) (A : own_AC KC KL CH DE OM ct) (vD : own_V DE 3354 0 128) (lO : OM.length = 129) (hl : own_lt t) (hd : own_dg t) (hm : own_M CH t m) (hs : own_nd CH (t.take m) = some st) (h7 : v7.toInt = own_cd t % 4096) (v0 : 97 ≤ v.toInt) (v1 : v.toInt ≤ 104) :
    ∃ (h0 h1 h2 h3 mk : Int32) (OU' TL' : List Int32) (st' ol' cp' tn' : Int32) (m' : Nat), f_L_hit ct 0 v9 (((v7 * 16) + (v - 96)) &&& 4095) = some h0 ∧ f_L_hit ct 1 v10 (((v7 * 16) + (v - 96)) &&& 4095) = some h1 ∧ f_L_hit ct 2 v11 (((v7 * 16) + (v - 96)) &&& 4095) = some h2 ∧ f_L_hit ct 3 v12 (((v7 * 16) + (v - 96)) &&& 4095) = some h3 ∧ mk = (((h0 + 2 * h1) + 4 * h2) + 8 * h3) ∧ f_feed KL KR CH DE TM OM 1 lk TX MS OU TL n st to ol cp tn v = some (((h0 + h1) + h2) + h3, TX.set n.toInt.toNat v, MS.set n.toInt.toNat mk, OU', TL', n + 1, st', to + (((h0 + h1) + h2) + h3), ol', cp', tn') ∧ OU'.length = 240 ∧ TL'.length = 8 ∧ (0 ≤ ol'.toInt ∧ ol'.toInt ≤ cp'.toInt ∧ cp'.toInt ≤ (n + 1).toInt ∧ 0 ≤ tn'.toInt ∧ tn'.toInt ≤ (n + 1).toInt - cp'.toInt ∧ (n + 1).toInt ≤ 240) ∧ own_lt ((v - 97) :: t) ∧ own_dg ((v - 97) :: t) ∧ own_M CH ((v - 97) :: t) m' ∧ own_nd CH (((v - 97) :: t).take m') = some st' ∧ (((v7 * 16) + (v - 96)) &&& 4095).toInt = own_cd ((v - 97) :: t) % 4096 := by
  have e0 : (0 : Int32).toInt = 0 := rfl
  have e1 : (1 : Int32).toInt = 1 := rfl
  have e2 : (2 : Int32).toInt = 2 := rfl
  have e3 : (3 : Int32).toInt = 3 := rfl
  have e16 : (16 : Int32).toInt = 16 := rfl
  have e96 : (96 : Int32).toInt = 96 := rfl
  have e97 : (97 : Int32).toInt = 97 := rfl
  have kg := w.kg
  have c4 := w.c4
  have c00 := w.c0
  have cn := own_cd0 t hd
  have pn := own_p1 (a := n) (by omega)
  obtain ⟨st', m', es, s0, s1, hl2, hm2, hs2⟩ := own_nxt (v := v) K A vD hl hm hs v0 (by omega)
  obtain ⟨r, OU', TL', ol', cp', tn', er, ef, x1, x2, x3, x4, x5, x6, x7⟩ := own_feedX (lk := lk) (to := to) (tn := tn) kg K w.lR lO l1 l2 l3 l4 (by omega) n240 nn.1 nn.2.1 nn.2.2.1 (by omega) (by omega) es s0 s1
  have sc : (v - 97).toInt = v.toInt - 97 := by rw [isub_i (by omega) (by omega), e97]
  have sd : (v - 96).toInt = v.toInt - 96 := by rw [isub_i (by omega) (by omega), e96]
  have hd2 := hd.cons (c := v - 97) (by omega) (by omega)
  have mm : (v7 * 16).toInt = v7.toInt * 16 := by rw [imul_i (by rw [e16]; omega) (by rw [e16]; omega), e16]
  have aa : (v7 * 16 + (v - 96)).toInt = v7.toInt * 16 + (v.toInt - 96) := by rw [iadd_i (by omega) (by omega), mm, sd]
  have hs' : (((v7 * 16) + (v - 96)) &&& 4095).toInt = own_cd ((v - 97) :: t) % 4096 := by
    rw [own_and (k := 12) (by omega) rfl (by omega), aa, h7, own_cd, sc]
    show (own_cd t % 4096 * 16 + (v.toInt - 96)) % 4096 = _
    omega
  generalize ((v7 * 16) + (v - 96)) &&& 4095 = s at hs'
  -- the hits
  have hit : ∀ (k x : Int32), 0 ≤ k.toInt → k.toInt < 4 → gI [v9, v10, v11, v12] k = x → ∃ b : Bool, f_L_hit ct k x s = some (if b then 1 else 0) ∧ (b = true ↔ (k.toInt < ct.toInt ∧ ∃ q, q ≤ ((v - 97) :: t).length ∧ ((v - 97) :: t).take q = own_kw KC KL k)) := by
    intro k x k0 k3 hx
    by_cases g : k.toInt < ct.toInt
    · have cw := (wl k k0 k3).1 g
      rw [hx] at cw
      have nl := w.n k k0 g
      have kl := (kg.kl k0 g).2.1
      have dk := own_kwd (KC := KC) (KL := KL) (k := k) (by omega) (fun j j0 j1 => ⟨(w.c k j k0 g j0 j1).1, kd k j k0 g j0 j1⟩)
      obtain ⟨r, hr, hc⟩ := own_hit (kc := ct) (j := k) (by rw [ilt]; exact g) dk hd2 (by omega) (by omega) cw hs'
      rcases hc with ⟨h1, h2, h3⟩ | ⟨h1, h2⟩
      · refine ⟨true, by rw [hr, h1]; rfl, ⟨fun _ => ⟨g, _, h2, h3⟩, fun _ => rfl⟩⟩
      · refine ⟨false, by rw [hr, h1]; rfl, ⟨fun z => absurd z (by simp), fun z => ?_⟩⟩
        obtain ⟨-, q, q0, q1⟩ := z
        exfalso
        apply h2
        have l := congrArg List.length q1
        rw [List.length_take, Nat.min_eq_left q0] at l
        rw [← l]
        exact ⟨q0, q1⟩
    · refine ⟨false, ?_, ⟨fun z => absurd z (by simp), fun z => absurd z.1 g⟩⟩
      unfold f_L_hit
      rw [if_neg (by rw [ilt]; exact g)]
      rfl
  obtain ⟨b0, hb0, ib0⟩ := hit 0 v9 (by decide) (by decide) rfl
  obtain ⟨b1, hb1, ib1⟩ := hit 1 v10 (by decide) (by decide) rfl
  obtain ⟨b2, hb2, ib2⟩ := hit 2 v11 (by decide) (by decide) rfl
  obtain ⟨b3, hb3, ib3⟩ := hit 3 v12 (by decide) (by decide) rfl
  have bits := (own_ACs K A hl2 hm2 hs2).2
  have mk : gI OM st' = own_c4 b0 b1 b2 b3 := by
    refine own_m4 (fun n hn => ?_)
    have one : ∀ (k : Int32) (b : Bool), k.toInt = n → 0 ≤ k.toInt → k.toInt < 4 → (b = true ↔ (k.toInt < ct.toInt ∧ ∃ q, q ≤ ((v - 97) :: t).length ∧ ((v - 97) :: t).take q = own_kw KC KL k)) → own_mb (gI OM st') n = b := by
      intro k b kn k0 k4 hb
      rw [Bool.eq_iff_iff, bits n hn, hb]
      constructor
      · rintro ⟨i, i0, i1, i2, q⟩
        have ik : i = k := by rw [ieq]; omega
        rw [ik] at i1 q
        exact ⟨i1, q⟩
      · rintro ⟨h1, q⟩
        exact ⟨k, k0, h1, kn, q⟩
    by_cases z0 : n = 0
    · subst z0; rw [one 0 b0 rfl (by decide) (by decide) ib0]; simp
    by_cases z1 : n = 1
    · subst z1; rw [one 1 b1 rfl (by decide) (by decide) ib1]; simp
    by_cases z2 : n = 2
    · subst z2; rw [one 2 b2 rfl (by decide) (by decide) ib2]; simp
    by_cases z3 : n = 3
    · subst z3; rw [one 3 b3 rfl (by decide) (by decide) ib3]; simp
    have fl : own_mb (gI OM st') n = false := by
      rw [Bool.eq_false_iff]
      intro z
      obtain ⟨i, i0, i1, i2, -⟩ := (bits n hn).mp z
      omega
    rw [fl]
    simp [z0, z1, z2, z3]
  rw [mk, own_p4] at er
  have er' := (Option.some.inj er).symm
  rw [mk, er'] at ef
  refine ⟨_, _, _, _, own_c4 b0 b1 b2 b3, OU', TL', st', ol', cp', tn', m', hb0, hb1, hb2, hb3, rfl, ef, x1, x2, ⟨x3, x4, by omega, x6, by omega, by omega⟩, hl2, hd2, hm2, hs2, hs'⟩
theorem own_44 (scr : List Int32) (hs : scr.length ≤ 260) : ∀ (f : Nat) (KC KL KR PD CH DE FA DP TM OM QU TX MS OU TL : List Int32) (ph ct pn nc lk n st to ol cp tn v5 v7 v9 v10 v11 v12 v13 : Int32), own_I8 KC KL KR PD CH DE FA DP TM OM QU TX MS OU TL ph ct pn n st ol cp tn v5 v7 v9 v10 v11 v12 → 0 ≤ v13.toInt → v13.toInt ≤ 300 → 310 - v13.toInt ≤ f → f_L_law_44 scr f KC KL KR PD CH DE FA DP TM OM QU TX MS OU TL 4 3 ph ct pn nc lk n st to ol cp tn ph ct pn v5 n v7 to v9 v10 v11 v12 v13 = some 1 := by
  intro f
  have hll := iscr hs
  have e0 : (0 : Int32).toInt = 0 := rfl
  have e1 : (1 : Int32).toInt = 1 := rfl
  have e2 : (2 : Int32).toInt = 2 := rfl
  have e3 : (3 : Int32).toInt = 3 := rfl
  have e4 : (4 : Int32).toInt = 4 := rfl
  have e7 : (7 : Int32).toInt = 7 := rfl
  have e16 : (16 : Int32).toInt = 16 := rfl
  have e31 : (31 : Int32).toInt = 31 := rfl
  have e32 : (32 : Int32).toInt = 32 := rfl
  have e63 : (63 : Int32).toInt = 63 := rfl
  have e96 : (96 : Int32).toInt = 96 := rfl
  have e97 : (97 : Int32).toInt = 97 := rfl
  have e240 : (240 : Int32).toInt = 240 := rfl
  induction f with
  | zero => intro KC KL KR PD CH DE FA DP TM OM QU TX MS OU TL ph ct pn nc lk n st to ol cp tn v5 v7 v9 v10 v11 v12 v13 I a b c; exfalso; omega
  | succ f ih =>
    intro KC KL KR PD CH DE FA DP TM OM QU TX MS OU TL ph ct pn nc lk n st to ol cp tn v5 v7 v9 v10 v11 v12 v13 I a b c
    unfold f_L_law_44
    have p1 := own_p1 (a := v13) (by omega)
    have p2 : (v13 + 2).toInt = v13.toInt + 2 := by rw [iadd_i (by omega) (by omega), e2]
    by_cases g : v13 + 1 < scr.length.toInt32
    rotate_left
    · rw [if_neg g]
    have g' := ilt.mp g
    rw [hll] at g'
    rw [if_pos g, rdg a (by omega), Option.bind_some, rdg (by omega) (by omega), Option.bind_some]
    have next : ∀ (KC KL KR PD CH DE FA DP TM OM QU TX MS OU TL : List Int32) (ph ct pn nc lk n st to ol cp tn v5 v7 v9 v10 v11 v12 e : Int32), own_I8 KC KL KR PD CH DE FA DP TM OM QU TX MS OU TL ph ct pn n st ol cp tn v5 v7 v9 v10 v11 v12 → f_L_law_611 (f_L_law_44 scr f) scr KC KL KR PD CH DE FA DP TM OM QU TX MS OU TL 4 3 ph ct pn nc lk n st to ol cp tn ph ct pn v5 n v7 to v9 v10 v11 v12 v13 e e = some 1 := by
      intro KC KL KR PD CH DE FA DP TM OM QU TX MS OU TL ph ct pn nc lk n st to ol cp tn v5 v7 v9 v10 v11 v12 e q
      exact own_611 q.w.c0 q.nn (ih _ _ _ _ _ _ _ _ _ _ _ _ _ _ _ _ _ _ _ _ _ _ _ _ _ _ _ _ _ _ _ _ _ q (by omega) (by omega) (by omega))
    have same : ∀ e : Int32, f_L_law_611 (f_L_law_44 scr f) scr KC KL KR PD CH DE FA DP TM OM QU TX MS OU TL 4 3 ph ct pn nc lk n st to ol cp tn ph ct pn v5 n v7 to v9 v10 v11 v12 v13 e e = some 1 := fun e => next _ _ _ _ _ _ _ _ _ _ _ _ _ _ _ _ _ _ nc lk _ _ to _ _ _ _ _ _ _ _ _ e I
    generalize gI scr v13 &&& 7 = op
    generalize gI scr (v13 + 1) = x
    obtain ⟨w, kd, lP, l1, l2, l3, l4, wl, nn, hp⟩ := id I
    have c4 := w.c4
    have c00 := w.c0
    by_cases o1 : 1 < op
    rotate_left
    · -- a letter
      rw [if_neg o1]
      have rx := iand_rng x 7 (by decide)
      rw [e7] at rx
      have sv : (96 + (x &&& 7)).toInt = 96 + (x &&& 7).toInt := by rw [iadd_i (by omega) (by omega), e96]
      generalize 96 + (x &&& 7) = v at sv
      rcases hp with ⟨rfl, q0, q1, ql, qc, qv, qr⟩ | ⟨rfl, rfl, qr⟩
      · rw [if_pos rfl, if_pos rfl, if_pos rfl]
        have pp := own_p1 (a := pn) (by omega)
        by_cases c1 : v < 97
        · have ee : f_addChar 4 3 0 ct PD pn v = some (-2, PD, pn) := by
            unfold f_addChar
            rcases own_let v with ⟨e, -⟩ | ⟨-, h1, -⟩
            · rw [if_pos rfl, e, Option.bind_some, if_pos rfl]
            · rw [ilt] at c1; omega
          rw [ee, Option.bind_some, if_pos c1, if_pos c1, if_pos c1]
          exact same _
        rw [if_neg c1, if_neg c1, if_neg c1]
        rw [ilt] at c1
        have el : f_isLetter v = some 1 := by
          rcases own_let v with ⟨-, h1⟩ | ⟨e, -⟩
          · exact absurd ⟨by omega, by omega⟩ h1
          · exact e
        by_cases c2 : ct = 4
        · have ee : f_addChar 4 3 0 ct PD pn v = some (-3, PD, pn) := by
            unfold f_addChar
            rw [if_pos rfl, el, Option.bind_some, if_neg (by decide), if_neg (by rw [c2]; decide)]
          rw [ee, Option.bind_some, if_pos c2, if_pos c2, if_pos c2]
          exact same _
        rw [if_neg c2, if_neg c2, if_neg c2]
        have c2' : ct.toInt < 4 := by rw [ieq] at c2; omega
        by_cases c3 : pn = 3
        · have ee : f_addChar 4 3 0 ct PD pn v = some (-3, PD, pn) := by
            unfold f_addChar
            rw [if_pos rfl, el, Option.bind_some, if_neg (by decide), if_pos (by rw [ilt]; omega), if_neg (by rw [c3]; decide)]
          rw [ee, Option.bind_some, if_pos c3, if_pos c3, if_pos c3]
          exact same _
        rw [if_neg c3, if_neg c3, if_neg c3]
        have c3' : pn.toInt < 3 := by rw [ieq] at c3; omega
        have ee := own_adc2 (PD := PD) (ct := ct) (pn := pn) (v := v) lP q0 c3' c2' (by omega) (by omega)
        rw [ee, Option.bind_some]
        have lets : ∀ j : Int32, 0 ≤ j.toInt → j.toInt < (pn + 1).toInt → 97 ≤ (gI (PD.set pn.toInt.toNat v) j).toInt ∧ (gI (PD.set pn.toInt.toNat v) j).toInt ≤ 103 := by
          intro j j0 j1
          rw [gset q0 (by omega) j0]
          by_cases z : pn = j
          · rw [if_pos z]; omega
          · rw [if_neg z]
            rw [ieq] at z
            exact ql j j0 (by omega)
        have pwe : ∀ L : Nat, (L : Int) ≤ pn.toInt → own_pw (PD.set pn.toInt.toNat v) L = own_pw PD L := by
          intro L
          induction L with
          | zero => intro _; rfl
          | succ L ihL =>
            intro hL
            have e : (Int32.ofNat L).toInt = L := Int32.toInt_ofNat_of_lt (by omega)
            rw [own_pw, own_pw, ihL (by omega), gset q0 (by omega) (by omega), if_neg (fun z => by rw [ieq] at z; omega)]
        have on : Int32.ofNat pn.toInt.toNat = pn := by rw [ieq, Int32.toInt_ofNat_of_lt (by omega)]; omega
        have pn1 : (pn + 1).toInt.toNat = pn.toInt.toNat + 1 := by omega
        have dg := own_pwd (PD := PD) (pn := pn) ql pn.toInt.toNat (by omega) (by omega)
        have cdb := (own_cds (own_pw PD pn.toInt.toNat) [] (16 ^ (own_pw PD pn.toInt.toNat).length) dg (fun d hd => absurd hd (by simp)) rfl).2.2.1
        have cd0 := own_cd0 _ dg
        have bnd : own_cd (own_pw PD pn.toInt.toNat) < 256 := by
          rw [own_pwl] at cdb
          have h3 : pn.toInt.toNat = 0 ∨ pn.toInt.toNat = 1 ∨ pn.toInt.toNat = 2 := by omega
          rcases h3 with z | z | z <;> rw [z] at cdb ⊢ <;> omega
        have s96 : (v - 96).toInt = v.toInt - 96 := by rw [isub_i (by omega) (by omega), e96]
        have s97 : (v - 97).toInt = v.toInt - 97 := by rw [isub_i (by omega) (by omega), e97]
        have m16 : (v5 * 16).toInt = v5.toInt * 16 := by rw [imul_i (by rw [e16]; omega) (by rw [e16]; omega), e16]
        refine next _ _ _ _ _ _ _ _ _ _ _ _ _ _ _ _ _ _ nc lk _ _ to _ _ _ _ _ _ _ _ _ _ ⟨w, kd, by rw [List.length_set]; exact lP, l1, l2, l3, l4, wl, nn, Or.inl ⟨rfl, by omega, by omega, lets, fun _ => c2', ?_, qr⟩⟩
        rw [pn1, own_pw, own_cd, pwe _ (by omega), on, own_gt8 lP q0 (by omega), s97, iadd_i (by omega) (by omega), m16, s96, qv]
        omega
      · have n10 : ¬ (1 : Int32) = 0 := by decide
        have ee : f_addChar 4 3 1 ct PD 0 v = some (-1, PD, 0) := by
          unfold f_addChar
          rw [if_neg (by decide)]
        rw [ee, Option.bind_some, if_neg n10, if_neg n10, if_neg n10]
        exact same _
    rw [if_pos o1]
    by_cases o2 : op = 2
    · -- a keyword's end
      rw [if_pos o2]
      have rx := iand_rng x 63 (by decide)
      rw [e63] at rx
      have sv : (31 + (x &&& 63)).toInt = 31 + (x &&& 63).toInt := by rw [iadd_i (by omega) (by omega), e31]
      generalize 31 + (x &&& 63) = v at sv
      rcases hp with ⟨rfl, q0, q1, ql, qc, qv, qr⟩ | ⟨rfl, rfl, qr⟩
      · by_cases z : pn = 0
        · have ee : f_endKeyword PD 0 KC KL KR ct pn v = some (-4, KC, KL, KR, ct, pn) := by
            unfold f_endKeyword
            rw [if_pos rfl, if_pos z]
          rw [ee, Option.bind_some]
          show (if (0 : Int32) = 0 then (if pn = 0 then _ else _) else _) = _
          rw [if_pos rfl, if_pos z]
          exact same _
        have pz : 0 < pn.toInt := by rw [ieq] at z; omega
        have cl := qc pz
        by_cases z2 : v < 32
        · have ee : f_endKeyword PD 0 KC KL KR ct pn v = some (-6, KC, KL, KR, ct, pn) := by
            unfold f_endKeyword
            rcases own_pri v with ⟨e, -⟩ | ⟨-, h1, -⟩
            · rw [if_pos rfl, if_neg z, e, Option.bind_some, if_pos rfl]
            · rw [ilt] at z2; omega
          rw [ee, Option.bind_some]
          show (if (0 : Int32) = 0 then (if pn = 0 then _ else (if v < 32 then _ else _)) else _) = _
          rw [if_pos rfl, if_neg z, if_pos z2]
          exact same _
        have z2' := z2
        rw [ilt] at z2'
        have dp := own_pwd (PD := PD) (pn := pn) ql pn.toInt.toNat (by omega) (by omega)
        have cdp := own_cd0 _ dp
        have dk : ∀ k : Int32, 0 ≤ k.toInt → k.toInt < ct.toInt → own_dg (own_kw KC KL k) := fun k k0 k1 => own_kwd (by have := w.n k k0 k1; omega) (fun j j0 j1 => ⟨(w.c k j k0 k1 j0 j1).1, kd k j k0 k1 j0 j1⟩)
        -- the pending word is keyword k: its number is
        have num : ∀ (k y : Int32), 0 ≤ k.toInt → k.toInt < 4 → gI [v9, v10, v11, v12] k = y → (v5 = y ↔ (k.toInt < ct.toInt ∧ own_kw KC KL k = own_pw PD pn.toInt.toNat)) := by
          intro k y k0 k4 hy
          obtain ⟨u1, u2⟩ := wl k k0 k4
          rw [hy] at u1 u2
          constructor
          · intro e
            by_cases g : k.toInt < ct.toInt
            · refine ⟨g, own_cdi _ _ (dk k k0 g) dp ?_⟩
              rw [← u1 g, ← e, qv]
            · have := u2 (by omega)
              rw [this] at e
              rw [e] at qv
              have em : (-1 : Int32).toInt = -1 := rfl
              omega
          · rintro ⟨g, e⟩
            rw [ieq, u1 g, qv, e]
        have n0 := num 0 v9 (by decide) (by decide) rfl
        have n1' := num 1 v10 (by decide) (by decide) rfl
        have n2 := num 2 v11 (by decide) (by decide) rfl
        have n3 := num 3 v12 (by decide) (by decide) rfl
        rcases own_ekX (v := v) w lP pz q1 ql cl (by omega) (by omega) with ⟨ee, k, k0, k1, k2⟩ | ⟨KC', KL', KR', ee, w', hk1, hk2, hk3⟩
        · rw [ee, Option.bind_some]
          show (if (0 : Int32) = 0 then (if pn = 0 then _ else (if v < 32 then _ else (if v5 = v9 then _ else (if v5 = v10 then _ else (if v5 = v11 then _ else (if v5 = v12 then _ else _)))))) else _) = _
          rw [if_pos rfl, if_neg z, if_neg z2]
          by_cases y0 : v5 = v9
          · rw [if_pos y0]; exact same _
          by_cases y1 : v5 = v10
          · rw [if_neg y0, if_pos y1]; exact same _
          by_cases y2 : v5 = v11
          · rw [if_neg y0, if_neg y1, if_pos y2]; exact same _
          by_cases y3 : v5 = v12
          · rw [if_neg y0, if_neg y1, if_neg y2, if_pos y3]; exact same _
          exfalso
          have h4 : k = 0 ∨ k = 1 ∨ k = 2 ∨ k = 3 := by rw [ieq, ieq, ieq, ieq]; omega
          rcases h4 with q | q | q | q <;> rw [q] at k1 k2
          · exact y0 (n0.mpr ⟨k1, k2⟩)
          · exact y1 (n1'.mpr ⟨k1, k2⟩)
          · exact y2 (n2.mpr ⟨k1, k2⟩)
          · exact y3 (n3.mpr ⟨k1, k2⟩)
        · have no : ∀ (k y : Int32), 0 ≤ k.toInt → k.toInt < 4 → gI [v9, v10, v11, v12] k = y → ¬ v5 = y := by
            intro k y k0 k4 hy e
            obtain ⟨g1, g2⟩ := (num k y k0 k4 hy).mp e
            exact (hk1 k k0 g1).1 g2
          rw [ee, Option.bind_some]
          show (if (0 : Int32) = 0 then (if pn = 0 then _ else (if v < 32 then _ else (if v5 = v9 then _ else (if v5 = v10 then _ else (if v5 = v11 then _ else (if v5 = v12 then _ else _)))))) else _) = _
          rw [if_pos rfl, if_neg z, if_neg z2, if_neg (no 0 v9 (by decide) (by decide) rfl), if_neg (no 1 v10 (by decide) (by decide) rfl), if_neg (no 2 v11 (by decide) (by decide) rfl), if_neg (no 3 v12 (by decide) (by decide) rfl)]
          unfold f_L_law_296
          have pc1 := own_p1 (a := ct) (by omega)
          have kd' : ∀ k j : Int32, 0 ≤ k.toInt → k.toInt < (ct + 1).toInt → 0 ≤ j.toInt → j.toInt < (gI KL' k).toInt → (gI KC' (k * 8 + j)).toInt ≤ 103 := by
            intro k j k0 k1 j0 j1
            rcases hk3 k j k0 (by omega) j0 j1 with ⟨h1, h2, h3⟩ | ⟨h1, h2⟩
            · rw [h3]; exact kd k j k0 h1 j0 h2
            · rw [h2]; exact (ql j j0 h1).2
          have mk : ∀ V9 V10 V11 V12 : Int32, (∀ k : Int32, 0 ≤ k.toInt → k.toInt < 4 → gI [V9, V10, V11, V12] k = if k = ct then v5 else gI [v9, v10, v11, v12] k) → f_L_law_611 (f_L_law_44 scr f) scr KC' KL' KR' PD CH DE FA DP TM OM QU TX MS OU TL 4 3 0 (ct + 1) 0 nc lk n st to ol cp tn 0 (ct + 1) 0 0 n v7 to V9 V10 V11 V12 v13 ct ct = some 1 := by
            intro V9 V10 V11 V12 hV
            refine next _ _ _ _ _ _ _ _ _ _ _ _ _ _ _ _ _ _ nc lk _ _ to _ _ _ _ _ _ _ _ _ _ ⟨w', kd', lP, l1, l2, l3, l4, fun k k0 k4 => ?_, nn, Or.inl ⟨rfl, by decide, by decide, fun j j0 j1 => by omega, fun h => by omega, rfl, qr⟩⟩
            rw [hV k k0 k4]
            by_cases y : k = ct
            · rw [if_pos y]
              refine ⟨fun _ => by rw [y, hk2, qv], fun g => ?_⟩
              rw [ieq] at y; omega
            · rw [if_neg y]
              rw [ieq] at y
              obtain ⟨u1, u2⟩ := wl k k0 k4
              exact ⟨fun g => by rw [u1 (by omega), (hk1 k k0 (by omega)).2], fun g => u2 (by omega)⟩
          have h4 : ct = 0 ∨ ct = 1 ∨ ct = 2 ∨ ct = 3 := by rw [ieq, ieq, ieq, ieq]; omega
          have four : ∀ k : Int32, 0 ≤ k.toInt → k.toInt < 4 → k = 0 ∨ k = 1 ∨ k = 2 ∨ k = 3 := fun k k0 k4 => by rw [ieq, ieq, ieq, ieq]; omega
          refine mk _ _ _ _ (fun k k0 k4 => ?_)
          rcases four k k0 k4 with y | y | y | y <;> rcases h4 with q | q | q | q <;> rw [y, q] <;> rfl
      · have ee : f_endKeyword PD 1 KC KL KR ct 0 v = some (-1, KC, KL, KR, ct, 0) := by
          unfold f_endKeyword
          rw [if_neg (by decide)]
        rw [ee, Option.bind_some]
        show (if (1 : Int32) = 0 then _ else _) = _
        rw [if_neg (by decide)]
        exact same _
    rw [if_neg o2]
    by_cases o3 : op = 3
    · -- build
      rw [if_pos o3]
      rcases hp with ⟨rfl, q0, q1, ql, qc, qv, vC, vD, vF, lD, vT, vO, vQ⟩ | ⟨rfl, rfl, qr⟩
      · simp only [if_pos (rfl : (0 : Int32) = 0)]
        by_cases z : pn = 0
        · simp only [if_pos z]
          by_cases cz : ct = 0
          · simp only [if_pos cz]
            have ee : f_build KC KL ct pn CH DE FA DP TM OM QU 0 nc lk n st to ol cp tn = some (-4, CH, DE, FA, DP, TM, OM, QU, 0, nc, lk, n, st, to, ol, cp, tn) := by
              unfold f_build
              rw [if_pos rfl, if_pos z, if_pos cz]
            rw [ee, Option.bind_some]
            exact same _
          · simp only [if_neg cz]
            have kg := w.kg
            obtain ⟨⟨CH1, DP1, TM1, OM1, nc1, lk1⟩, eb, K1, b2, b3, b4⟩ := own_btX kg 100000 CH DP TM OM 1 1 0 (by decide) c00 (by decide) lD (by decide) (by decide) (by decide) (own_T0 KC KL vC vT vO)
            have K2 : own_TK KC KL CH1 TM1 OM1 nc1 ct := K1
            have eb2 : f_buildTrie KC KL ct CH DP TM OM nc lk = some (CH1, DP1, TM1, OM1, nc1, lk1) := eb
            obtain ⟨⟨DE1, FA1, OM2, QU1⟩, ec, d1, d2, d3⟩ := own_clX kg K2 vD vF vQ
            have u1 : own_V DE1 3354 0 128 := d1
            have u2 : OM2.length = 129 := d2
            have u3 : own_AC KC KL CH1 DE1 OM2 ct := d3
            have ee : f_build KC KL ct pn CH DE FA DP TM OM QU 0 nc lk n st to ol cp tn = some (0, CH1, DE1, FA1, DP1, TM1, OM2, QU1, 1, nc1, lk1, 0, 0, 0, 0, 0, 0) := by
              unfold f_build f_clearText
              rw [if_pos rfl, if_pos z, if_neg cz, eb2, Option.bind_some]
              show Option.bind (f_computeLinks CH1 DE FA OM1 QU) _ = _
              rw [ec, Option.bind_some]
              rfl
            rw [ee, Option.bind_some]
            have v5z : v5 = 0 := by rw [ieq, qv, z]; rfl
            have nz : 0 ≤ (0 : Int32).toInt ∧ (0 : Int32).toInt ≤ (0 : Int32).toInt ∧ (0 : Int32).toInt ≤ (0 : Int32).toInt ∧ 0 ≤ (0 : Int32).toInt ∧ (0 : Int32).toInt ≤ (0 : Int32).toInt - (0 : Int32).toInt ∧ (0 : Int32).toInt ≤ 240 := by decide
            refine next _ _ _ _ _ _ _ _ _ _ _ _ _ _ _ _ _ _ nc1 lk1 _ _ 0 _ _ _ _ _ _ _ _ _ _ ⟨w, kd, lP, l1, l2, l3, l4, wl, nz, Or.inr ⟨rfl, z, v5z, OM1, nc1, K2, u3, u1, u2, [], 0, fun d hd => absurd hd (by simp), fun d hd => absurd hd (by simp), rfl, ⟨Nat.le_refl _, own_isn_nil _, fun m' h _ => h⟩, rfl, rfl⟩⟩
        · simp only [if_neg z]
          have ee : f_build KC KL ct pn CH DE FA DP TM OM QU 0 nc lk n st to ol cp tn = some (-7, CH, DE, FA, DP, TM, OM, QU, 0, nc, lk, n, st, to, ol, cp, tn) := by
            unfold f_build
            rw [if_pos rfl, if_neg z]
          rw [ee, Option.bind_some]
          exact same _
      · have ee : f_build KC KL ct 0 CH DE FA DP TM OM QU 1 nc lk n st to ol cp tn = some (-1, CH, DE, FA, DP, TM, OM, QU, 1, nc, lk, n, st, to, ol, cp, tn) := by
          unfold f_build
          rw [if_neg (by decide)]
        rw [ee, Option.bind_some]
        exact same _
    rw [if_neg o3]
    by_cases o7 : op = 7
    · -- the text goes
      rw [if_pos o7]
      rcases hp with ⟨rfl, qr⟩ | ⟨rfl, rfl, rfl, OM0, nc', K, A, vD, lO, t, m, ht⟩
      · have ee : f_resetText 0 n st to ol cp tn = some (-1, n, st, to, ol, cp, tn) := by
          unfold f_resetText
          rw [if_neg (by decide)]
        rw [ee, Option.bind_some]
        exact same _
      · have ee : f_resetText 1 n st to ol cp tn = some (0, 0, 0, 0, 0, 0, 0) := by
          unfold f_resetText f_clearText
          rw [if_pos rfl]
          rfl
        rw [ee, Option.bind_some]
        exact next _ _ _ _ _ _ _ _ _ _ _ _ _ _ _ _ _ _ nc lk _ _ 0 _ _ _ _ _ _ _ _ _ _ ⟨w, kd, lP, l1, l2, l3, l4, wl, by decide, Or.inr ⟨rfl, rfl, rfl, OM0, nc', K, A, vD, lO, [], 0, fun d hd => absurd hd (by simp), fun d hd => absurd hd (by simp), rfl, ⟨Nat.le_refl _, own_isn_nil _, fun m' h _ => h⟩, rfl, rfl⟩⟩
    · -- a character
      rw [if_neg o7]
      have hv : (if (x &&& 48) = 48 then (127 : Int32) else 97 + (x &&& 7)) = 127 ∨ (97 ≤ (if (x &&& 48) = 48 then (127 : Int32) else 97 + (x &&& 7)).toInt ∧ (if (x &&& 48) = 48 then (127 : Int32) else 97 + (x &&& 7)).toInt ≤ 104) := by
        by_cases q : (x &&& 48) = 48
        · rw [if_pos q]; exact Or.inl rfl
        · rw [if_neg q]
          have rx := iand_rng x 7 (by decide)
          rw [e7] at rx
          right
          rw [iadd_i (by omega) (by omega), e97]
          omega
      generalize (if (x &&& 48) = 48 then (127 : Int32) else 97 + (x &&& 7)) = v at hv
      unfold f_L_law_433
      rcases hp with ⟨rfl, qr⟩ | ⟨rfl, rfl, rfl, OM0, nc', K, A, vD, lO, t, m, hl, hd, ln, hm, hst, h7⟩
      · have ee : f_feed KL KR CH DE TM OM 0 lk TX MS OU TL n st to ol cp tn v = some (-1, TX, MS, OU, TL, n, st, to, ol, cp, tn) := by
          unfold f_feed
          rw [if_neg (by decide)]
        rw [ee, Option.bind_some]
        show (if (0 : Int32) = 1 then _ else _) = _
        rw [if_neg (by decide)]
        exact same _
      · rcases hv with rfl | ⟨v0, v1⟩
        · have ee : f_feed KL KR CH DE TM OM 1 lk TX MS OU TL n st to ol cp tn 127 = some (-2, TX, MS, OU, TL, n, st, to, ol, cp, tn) := by
            unfold f_feed
            rcases own_pri 127 with ⟨e, -⟩ | ⟨-, -, h⟩
            · rw [if_pos rfl, e, Option.bind_some, if_pos rfl]
            · exact absurd h (by decide)
          rw [ee, Option.bind_some]
          show (if (1 : Int32) = 1 then (if (127 : Int32) = 127 then _ else _) else _) = _
          rw [if_pos rfl, if_pos rfl]
          exact same _
        · have nv : ¬ v = 127 := fun q => by rw [q] at v1; exact absurd v1 (by decide)
          by_cases q240 : n = 240
          · have ee : f_feed KL KR CH DE TM OM 1 lk TX MS OU TL n st to ol cp tn v = some (-3, TX, MS, OU, TL, n, st, to, ol, cp, tn) := by
              unfold f_feed
              rcases own_pri v with ⟨-, e⟩ | ⟨e, -⟩
              · exact absurd ⟨by omega, by omega⟩ e
              · rw [if_pos rfl, e, Option.bind_some, if_neg (by decide), if_neg (by rw [q240]; decide)]
            rw [ee, Option.bind_some]
            show (if (1 : Int32) = 1 then (if v = 127 then _ else (if n = 240 then _ else _)) else _) = _
            rw [if_pos rfl, if_neg nv, if_pos q240]
            exact same _
          · have n240 : n.toInt < 240 := by rw [ieq] at q240; omega
            obtain ⟨h0, h1, h2, h3, mk, OU', TL', st', ol', cp', tn', m', x0, x1, x2, x3, xm, ef, y1, y2, y3, y4, y5, y6, y7, y8⟩ := own_feed8 (lk := lk) (to := to) w kd wl nn n240 l1 l2 l3 l4 K A vD lO hl hd hm hst h7 v0 v1
            have pn := own_p1 (a := n) (by omega)
            have nm : (n + 1) - 1 = n := by rw [ieq, isub_i (by omega) (by omega), pn, e1]; omega
            have om : f_occurrenceMask (MS.set n.toInt.toNat mk) (n + 1) n = some mk := by
              unfold f_occurrenceMask
              rw [if_neg (by rw [ilt]; omega), if_pos (by rw [ilt]; omega), rdg (by omega) (by rw [List.length_set]; omega), Option.bind_some, gset (by omega) (by omega) (by omega), if_pos rfl]
            have tc : f_textChar (TX.set n.toInt.toNat v) (n + 1) n = some v := by
              unfold f_textChar
              rw [if_neg (by rw [ilt]; omega), if_pos (by rw [ilt]; omega), rdg (by omega) (by rw [List.length_set]; omega), Option.bind_some, gset (by omega) (by omega) (by omega), if_pos rfl]
            rw [ef, Option.bind_some]
            show (if (1 : Int32) = 1 then (if v = 127 then _ else (if n = 240 then _ else Option.bind (f_L_hit ct 0 v9 (((v7 * 16) + (v - 96)) &&& 4095)) _)) else _) = _
            rw [if_pos rfl, if_neg nv, if_neg q240, x0, Option.bind_some, x1, Option.bind_some, x2, Option.bind_some, x3, Option.bind_some, nm, om, Option.bind_some, if_pos xm, tc, Option.bind_some, if_pos rfl]
            exact next _ _ _ _ _ _ _ _ _ _ _ _ _ _ _ _ _ _ nc lk _ _ _ _ _ _ _ _ _ _ _ _ _ ⟨w, kd, lP, by rw [List.length_set]; exact l1, by rw [List.length_set]; exact l2, y1, y2, wl, y3, Or.inr ⟨rfl, rfl, rfl, OM0, nc', K, A, vD, lO, _, m', y4, y5, by rw [List.length_cons]; omega, y6, y7, y8⟩⟩
theorem own_inT : ∀ (f : Nat) (KC KL KR PD CH DE FA DP TM OM QU TX MS OU TL : List Int32) (mk ml ph ct pn nc lk n st to ol cp tn v : Int32), TM.length = 129 → (∀ j : Int32, 0 ≤ j.toInt → j.toInt < v.toInt → gI TM j = -1) → 0 ≤ v.toInt → v.toInt ≤ 129 → 129 - v.toInt < f → ∃ TM', own_V TM' 129 (-1) (-1) ∧ f_init_215 f_init_237 f KC KL KR PD CH DE FA DP TM OM QU TX MS OU TL mk ml ph ct pn nc lk n st to ol cp tn v = some (KC, KL, KR, PD, CH, DE, FA, DP, TM', OM, QU, TX, MS, OU, TL, mk, ml, ph, ct, pn, nc, lk, 0, 0, 0, 0, 0, 0) := by
  intro f
  have e129 : (129 : Int32).toInt = 129 := rfl
  have em : (-1 : Int32).toInt = -1 := rfl
  induction f with
  | zero => intro KC KL KR PD CH DE FA DP TM OM QU TX MS OU TL mk ml ph ct pn nc lk n st to ol cp tn v _ _ a b c; exfalso; omega
  | succ f ih =>
    intro KC KL KR PD CH DE FA DP TM OM QU TX MS OU TL mk ml ph ct pn nc lk n st to ol cp tn v lT h a b c
    unfold f_init_215
    by_cases g : v < 129
    · rw [if_pos g]
      rw [ilt] at g
      have p := own_p1 (a := v) (by omega)
      rw [wrA_in a (by omega), Option.bind_some]
      refine ih _ _ _ _ _ _ _ _ _ _ _ _ _ _ _ _ _ _ _ _ _ _ _ _ _ _ _ _ _ (by rw [List.length_set]; exact lT) (fun j j0 j1 => ?_) (by omega) (by omega) (by omega)
      rw [gset a (by omega) j0]
      by_cases z : v = j
      · rw [if_pos z]
      · rw [if_neg z]
        rw [ieq] at z
        exact h j j0 (by omega)
    · rw [if_neg g]
      rw [ilt] at g
      unfold f_init_237 f_clearText
      exact ⟨TM, ⟨lT, fun j j0 j1 => by rw [h j j0 (by omega)]; omega⟩, rfl⟩
theorem own_rep (n : Nat) (hn : n ≤ 100000) (lo hi : Int) (l0 : lo ≤ 0) (h0 : 0 ≤ hi) : own_V (List.replicate n 0) n lo hi := by
  refine ⟨by simp, fun j j0 j1 => ?_⟩
  rw [gI_rep j0 j1]
  exact ⟨l0, h0⟩
theorem own_true (scr : List Int32) (h : scr.length ≤ 260) : f_L_law scr = some 1 := by
  have e0 : (0 : Int32).toInt = 0 := rfl
  obtain ⟨TM0, hT, hi⟩ : ∃ TM0, own_V TM0 129 (-1) (-1) ∧ f_init 4 3 = some (List.replicate 128 0, List.replicate 16 0, List.replicate 16 0, List.replicate 8 0, List.replicate 3354 0, List.replicate 3354 0, List.replicate 129 0, List.replicate 129 0, TM0, List.replicate 129 0, List.replicate 129 0, List.replicate 240 0, List.replicate 240 0, List.replicate 240 0, List.replicate 8 0, 4, 3, 0, 0, 0, 1, 1, 0, 0, 0, 0, 0, 0) := by
    have r : (List.replicate 129 (0 : Int32)).length = 129 := by simp
    unfold f_init f_init_144 f_init_153 f_init_165 f_init_176
    generalize List.replicate 128 (0 : Int32) = x1
    generalize List.replicate 16 (0 : Int32) = x2
    generalize List.replicate 8 (0 : Int32) = x3
    generalize List.replicate 3354 (0 : Int32) = x4
    generalize List.replicate 240 (0 : Int32) = x5
    generalize List.replicate 129 (0 : Int32) = x6 at r
    exact own_inT 100000 x1 x2 x2 x3 x4 x4 x6 x6 x6 x6 x6 x5 x5 x5 x3 4 3 0 0 0 1 1 0 0 0 0 0 0 0 r (fun j j0 j1 => by omega) (by decide) (by decide) (by decide)
  unfold f_L_law
  rw [hi, Option.bind_some]
  have a1 := own_rep 128 (by omega) 0 0 (by omega) (by omega)
  have a2 := own_rep 16 (by omega) 0 0 (by omega) (by omega)
  have a3 := own_rep 3354 (by omega) 0 0 (by omega) (by omega)
  have a3' := own_rep 3354 (by omega) 0 128 (by omega) (by omega)
  have a4 := own_rep 129 (by omega) 0 128 (by omega) (by omega)
  have a4' := own_rep 129 (by omega) 0 0 (by omega) (by omega)
  have a5 := own_rep 8 (by omega) 0 0 (by omega) (by omega)
  have a6 := own_rep 240 (by omega) 0 0 (by omega) (by omega)
  have z : ∀ {L : List Int32} {N : Nat}, own_V L N 0 0 → ∀ j : Int32, 0 ≤ j.toInt → j.toInt < N → gI L j = 0 := fun h j j0 j1 => by
    have := h.2 j j0 j1
    rw [ieq]
    omega
  have kw : own_KW (List.replicate 128 0) (List.replicate 16 0) (List.replicate 16 0) 0 := by
    refine ⟨a1.1, a2.1, a2.1, by decide, by decide, fun k k0 k1 => by omega, fun k j k0 k1 => by omega, fun k k0 k1 => by omega, fun i k i0 ik k1 => by omega, fun k k0 k1 => z a2 k (by omega) (by omega), fun k k0 k1 => z a2 k (by omega) (by omega), fun k j k0 k1 _ j0 j1 => ?_⟩
    have kx := own_kx k0 k1 j0 j1
    exact z a1 _ (by omega) (by omega)
  have four : ∀ k : Int32, 0 ≤ k.toInt → k.toInt < 4 → gI [(-1 : Int32), -1, -1, -1] k = -1 := by
    intro k k0 k4
    have : k = 0 ∨ k = 1 ∨ k = 2 ∨ k = 3 := by
      have e1 : (1 : Int32).toInt = 1 := rfl
      have e2 : (2 : Int32).toInt = 2 := rfl
      have e3 : (3 : Int32).toInt = 3 := rfl
      rw [ieq, ieq, ieq, ieq]; omega
    rcases this with y | y | y | y <;> rw [y] <;> rfl
  exact own_44 scr h 100000 _ _ _ _ _ _ _ _ _ _ _ _ _ _ _ 0 0 0 1 1 0 0 0 0 0 0 0 0 (-1) (-1) (-1) (-1) 0 ⟨kw, fun k j k0 k1 => by omega, a5.1, a6.1, a6.1, a6.1, a5.1, fun k k0 k4 => ⟨fun g => by omega, fun _ => four k k0 k4⟩, by decide, Or.inl ⟨rfl, by decide, by decide, fun j j0 j1 => by omega, fun h => by omega, rfl, a3, a3', a4, a4.1, hT, a4', a4⟩⟩ (by decide) (by decide) (by decide)
set_option maxRecDepth 65536 in
theorem comes_1 {Post : Tables → Env → Array Value → State → Outcome → State → Prop} (hpost : ∀ tb e args s v u, (limb_1_1.after args s (.returned v) u = true ∧ limb_1_2.after args s (.returned v) u = true ∧ True) → FrameEnd s (.returned v) u (Jvm.fieldLocs frame_1_writes args s ++ Jvm.arrayLocs frame_1_arrays args s ++ Jvm.staticLocs frame_1_statics s) 40 16640 → Post tb e args s (.returned v) u) :
    ArmFor flags0 classFile x code maxLocals ret World_1 tables_1 room_1 Calls_1 rest_1 Pre_1 Post := by
  intro l hfl _ _ p e ha hc hk s m args below hf hA hF happ hP
  obtain ⟨hcalls, hrest, hpre⟩ := hP
  obtain ⟨-, -, -, hnamed, -, -, -, hat⟩ := (Spec.applies_iff hf).mp happ
  obtain ⟨hg, hn⟩ := and_e (Cond.before_iff.mp (show (Jvm.Cond.and given_1 narrow_1).before args s = true from hpre))
  obtain ⟨h1, h2⟩ := and_e hg
  have hw := fun d (hd : d ∈ tables_1) => atoms_spec (ws := Jvm.Cond.code x code maxLocals ret :: tables_1) hat d (List.mem_cons_of_mem _ hd)
  obtain ⟨w0, rfl⟩ : ∃ w0 : Value, args = #[w0] := by
    have hs : args.size = 1 := by simpa [Cond.value, given_1] using h1
    obtain ⟨L⟩ := args
    match L, hs with
    | [w0], _ => exact ⟨w0, rfl⟩
  have hfit : Fit s := fun {y c} hc i hi => by
    obtain ⟨ha, rfl⟩ := Array.getElem?_eq_some_iff.mp hc
    have q := List.all_eq_true.mp ((Array.all_eq_true_iff_forall_mem.mp hF) _ (Array.getElem_mem ha)) i (List.mem_range.mpr hi)
    simpa [Array.getElem?_eq_getElem hi] using q
  obtain ⟨hn1, hn2⟩ := and_e hn
  obtain ⟨ad, e0⟩ := arr_v hn1
  obtain ⟨cl, A⟩ := Arr.start e0 hn1
  obtain rfl : w0 = .ref ad := Option.some.inj e0
  obtain ⟨scr, hs1, hs2, hs3⟩ := script_of hfit A e0 hn2
  have E : OEndsQ own_P 0 0 (entL [.ref 0] d_0.maxL) [] [.inr (.inl (false, scr))] (LawQ 1 16 8277) := ok_L_law (own_true scr hs2)
  have hS : SR [ad] [.ref 0] [.ref ad] := ⟨_, _, rfl, ⟨ad, rfl, rfl⟩, rfl⟩
  have hH : HR own_P s s.heap.size s.heap [ad] [.inr (.inl (false, scr))] := hr_script rfl A hs1 hs2 hs3
  have M := law_met (l := l) own_chk (fun w hw' => hw w (own_in w hw')) hm_0 E hS (Nat.le_of_ble_eq_true rfl) hH tables_1 room_1 (Nat.le_of_ble_eq_true rfl) (Nat.le_of_ble_eq_true rfl) (Nat.le_of_ble_eq_true rfl) (Nat.le_of_ble_eq_true rfl)
  obtain ⟨n, o, h1, h2, h3, L, rfl, N, hq⟩ := M p e ha hc hk s m _ below hf ((Spec.applies_iff_loose hf).mp happ).1 ⟨rfl, State.Warmed39.refl s, rfl⟩ trivial
  refine ⟨n, _, h1, h2, h3, hpost _ _ _ _ _ _ ⟨Cond.after_iff.mpr rfl, Cond.after_iff.mpr (eq_i res_at (Term.int_eval (1)) rfl), trivial⟩ ⟨hq.1, hq.2.1, (hq.2.2.sift fun y hy => Or.inr (N y hy)).mono (by decide) (by decide)⟩⟩
theorem main_1_1 : Claimed_1_1 := comes_1 fun _ _ _ _ _ _ h hF => ⟨h.1, hF⟩
theorem main_1_2 : Claimed_1_2 := comes_1 fun _ _ _ _ _ _ h hF => ⟨h.2.1, hF⟩
end Jvm.Pilot.@@N@@
namespace Jvm.Pilot.@@N@@
open Jvm Jvm.ClassFile Sem Op Lib Jvm.Free Jvm.Stand Jvm.Pilot.@@N@@.Jvm.D
/-! MADE BY PROGRAM (witnessworld.py) out of the Statement's table words and the real class files: 9 classes; the members and pool entries that the words name. The judged class is class 1, her method 2. -/
namespace start1
open Jvm.ClassFile
def u (s : String) : CpInfo := .utf8 (stringToUtf16 s)
/-- a pool by its gaps: so many unusable entries, then the entry; so many at the end -/
def gap : Nat → List CpInfo → List CpInfo
  | 0, r => r
  | n + 1, r => .unusable :: gap n r
def poolList (es : List (Nat × CpInfo)) (last : Nat) : List CpInfo := es.foldr (fun e r => gap e.1 (e.2 :: r)) (gap last [])
def pool (es : List (Nat × CpInfo)) (last : Nat) : Array CpInfo := ⟨poolList es last⟩
def fileOf (pool : Array CpInfo) (this : Nat) (attrs : Array Attribute := #[]) (ms : Array MethodInfo := #[]) (fl : Nat := 33) (sup : Nat := 0) (ifs : Array Nat := #[]) (fds : Array FieldInfo := #[]) : ClassFile where
  minorVersion := 0
  majorVersion := 65
  constantPool := pool
  accessFlags := fl
  thisClass := this
  superClass := sup
  interfaces := ifs
  fields := fds
  methods := ms
  attributes := attrs
def plain (name : String) (sup : Option ClassId) : Class where
  name := name
  kind := .ordinary
  loader := none
  accessFlags := 33
  super := sup
  interfaces := #[]
  cf := none
  fields := #[]
  methods := #[]
  instanceTypes := #[]
  staticTypes := #[]
  resolved := #[]
  callSites := []
  init := .initialized
  statics := none
  mirror := none

def pool0 : Array CpInfo := pool [(5, u "<init>"), (0, u "()V"), (1, .class_ 10), (1, u "java/lang/Object")] 113

def k0c0 : Code := { maxStack := 0, maxLocals := 1, code := object_method_1_code, exceptionTable := #[], attributes := #[] }
def k0m0 : Method := { name := "<init>", desc := "()V", sig := { parameters := [], returnType := none }, accessFlags := 1, code := some k0c0 }
/-- java/lang/Object -/
def k0 : Class := { plain "java/lang/Object" none with
  accessFlags := 33
  interfaces := #[]
  cf := some (fileOf pool0 8 #[] #[{ accessFlags := 1, nameIndex := 5, descriptorIndex := 6, attributes := #[] }] 33 0 #[] #[])
  fields := #[]
  methods := #[k0m0]
  instanceTypes := #[]
  staticTypes := #[]
  resolved := Array.replicate 124 none
  statics := none }

def pool1 : Array CpInfo := pool [(2, .class_ 4), (1, u "java/lang/Object"), (0, u "<init>"), (0, u "()V"), (0, .class_ 8), (0, u "MultiPatternScan"), (0, .methodref 7 10), (0, .nameAndType 5 11), (0, u "(II)V"), (0, .methodref 7 13), (0, .nameAndType 14 15), (0, u "addChar"), (0, u "(I)I"), (0, .methodref 7 17), (0, .nameAndType 18 15), (0, u "endKeyword"), (0, .methodref 7 20), (0, .nameAndType 21 22), (0, u "build"), (0, u "()I"), (0, .methodref 7 24), (0, .nameAndType 25 22), (0, u "resetText"), (0, .methodref 7 27), (0, .nameAndType 28 15), (0, u "feed"), (0, .methodref 30 31), (0, .class_ 32), (0, .nameAndType 33 34), (0, u "MultiPatternScanL6"), (0, u "hit"), (0, u "(IIII)I"), (0, .methodref 7 36), (0, .nameAndType 37 15), (0, u "occurrenceMask"), (0, .methodref 7 39), (0, .nameAndType 40 15), (0, u "textChar"), (0, .methodref 7 42), (0, .nameAndType 43 22), (0, u "phase"), (0, .methodref 7 45), (0, .nameAndType 46 22), (0, u "keywordCount"), (0, .methodref 7 48), (0, .nameAndType 49 15), (0, u "keywordLength"), (0, .methodref 7 51), (0, .nameAndType 52 22), (0, u "textLength"), (0, .methodref 7 54), (0, .nameAndType 55 22), (0, u "totalOccurrences"), (0, .methodref 7 57), (0, .nameAndType 58 22), (0, u "outLength"), (3, u "law"), (0, u "([I)Z")] 4

def k1m0 : Method := { name := "<init>", desc := "()V", sig := { parameters := [], returnType := none }, accessFlags := 1, code := none }
def k1c1 : Code := { maxStack := 2, maxLocals := 5, code := method_2_code, exceptionTable := #[], attributes := #[] }
def k1m1 : Method := { name := "hit", desc := "(IIII)I", sig := { parameters := [.int, .int, .int, .int], returnType := some .int }, accessFlags := 10, code := some k1c1 }
def k1c2 : Code := { maxStack := 4, maxLocals := 23, code := code, exceptionTable := #[], attributes := #[] }
def k1m2 : Method := { name := "law", desc := "([I)Z", sig := { parameters := [(.array .int)], returnType := some .boolean }, accessFlags := 9, code := some k1c2 }
/-- MultiPatternScanL6 -/
def k1 : Class := { plain "MultiPatternScanL6" (some 0) with
  accessFlags := 33
  interfaces := #[]
  cf := some (fileOf pool1 30 #[] #[{ accessFlags := 1, nameIndex := 5, descriptorIndex := 6, attributes := #[] }, { accessFlags := 10, nameIndex := 33, descriptorIndex := 34, attributes := #[] }, { accessFlags := 9, nameIndex := 62, descriptorIndex := 63, attributes := #[] }] 33 2 #[] #[])
  fields := #[]
  methods := #[k1m0, k1m1, k1m2]
  instanceTypes := #[]
  staticTypes := #[]
  resolved := Array.replicate 68 none
  statics := none }

def pool2 : Array CpInfo := pool [(1, .methodref 2 3), (0, .class_ 4), (0, .nameAndType 5 6), (0, u "java/lang/Object"), (0, u "<init>"), (0, u "()V"), (0, .fieldref 8 9), (0, .class_ 10), (0, .nameAndType 11 12), (0, u "MultiPatternScan"), (0, u "kwChars"), (0, u "[I"), (0, .fieldref 8 14), (0, .nameAndType 15 12), (0, u "kwLen"), (0, .fieldref 8 17), (0, .nameAndType 18 12), (0, u "kwRepl"), (0, .fieldref 8 20), (0, .nameAndType 21 12), (0, u "pend"), (0, .fieldref 8 23), (0, .nameAndType 24 12), (0, u "child"), (0, .fieldref 8 26), (0, .nameAndType 27 12), (0, u "delta"), (0, .fieldref 8 29), (0, .nameAndType 30 12), (0, u "fail"), (0, .fieldref 8 32), (0, .nameAndType 33 12), (0, u "depth"), (0, .fieldref 8 35), (0, .nameAndType 36 12), (0, u "term"), (0, .fieldref 8 38), (0, .nameAndType 39 12), (0, u "outMask"), (0, .fieldref 8 41), (0, .nameAndType 42 12), (0, u "queue"), (0, .fieldref 8 44), (0, .nameAndType 45 12), (0, u "text"), (0, .fieldref 8 47), (0, .nameAndType 48 12), (0, u "masks"), (0, .fieldref 8 50), (0, .nameAndType 51 12), (0, u "out"), (0, .fieldref 8 53), (0, .nameAndType 54 12), (0, u "tail"), (0, .fieldref 8 56), (0, .nameAndType 57 58), (0, u "maxKw"), (0, u "I"), (0, .fieldref 8 60), (0, .nameAndType 61 58), (0, u "maxLen"), (0, .fieldref 8 63), (0, .nameAndType 64 58), (0, u "phaseNow"), (0, .fieldref 8 66), (0, .nameAndType 67 58), (0, u "count"), (0, .fieldref 8 69), (0, .nameAndType 70 58), (0, u "pendLen"), (0, .fieldref 8 72), (0, .nameAndType 73 58), (0, u "nodeCount"), (0, .fieldref 8 75), (0, .nameAndType 76 58), (0, u "longestKw"), (0, .methodref 8 78), (0, .nameAndType 79 6), (0, u "clearText"), (0, .methodref 8 81), (0, .nameAndType 82 83), (0, u "isLetter"), (0, u "(I)Z"), (0, .methodref 8 85), (0, .nameAndType 86 83), (0, u "isPrintable"), (0, .methodref 8 88), (0, .nameAndType 89 90), (0, u "pendingIsDuplicate"), (0, u "()Z"), (0, .methodref 8 92), (0, .nameAndType 93 94), (0, u "storePending"), (0, u "(I)V"), (0, .methodref 8 96), (0, .nameAndType 97 6), (0, u "buildTrie"), (0, .methodref 8 99), (0, .nameAndType 100 6), (0, u "computeLinks"), (0, .fieldref 8 102), (0, .nameAndType 103 58), (0, u "n"), (0, .fieldref 8 105), (0, .nameAndType 106 58), (0, u "state"), (0, .methodref 8 108), (0, .nameAndType 109 110), (0, u "nextState"), (0, u "(II)I"), (0, .methodref 8 112), (0, .nameAndType 113 114), (0, u "popCount"), (0, u "(I)I"), (0, .fieldref 8 116), (0, .nameAndType 117 58), (0, u "total"), (0, .methodref 8 119), (0, .nameAndType 120 6), (0, u "commitReady"), (0, .methodref 8 122), (0, .nameAndType 123 6), (0, u "rebuildTail"), (3, .fieldref 8 128), (0, .nameAndType 129 58), (0, u "outLen"), (0, .fieldref 8 131), (0, .nameAndType 132 58), (0, u "tailLen"), (0, .methodref 8 134), (0, .nameAndType 135 83), (0, u "pendingEquals"), (0, .methodref 8 137), (0, .nameAndType 138 94), (0, u "insertKeyword"), (0, .methodref 8 140), (0, .nameAndType 141 110), (0, u "expandNode"), (0, .fieldref 8 143), (0, .nameAndType 144 58), (0, u "commitPos"), (0, .methodref 8 146), (0, .nameAndType 147 6), (0, u "commitOne"), (0, .methodref 8 149), (0, .nameAndType 150 114), (0, u "longestAt"), (0, u "PHASE_BUILD"), (2, u "PHASE_SCAN"), (1, u "OK"), (0, u "ERR_PHASE"), (1, u "ERR_CHAR"), (1, u "ERR_FULL"), (1, u "ERR_EMPTY"), (1, u "ERR_DUPLICATE"), (1, u "ERR_REPL"), (1, u "ERR_PENDING"), (1, u "MAX_KEYWORDS"), (1, u "MAX_KEYWORD_LEN"), (1, u "MAX_TEXT"), (1, u "MAX_NODES"), (1, u "ALPHA"), (1, u "TAIL_CAP"), (0, u "(II)V"), (3, u "addChar"), (0, u "endKeyword"), (0, u "build"), (0, u "()I"), (0, u "feed"), (0, u "resetText"), (0, u "phase"), (0, u "keywordCount"), (0, u "keywordLength"), (1, u "textLength"), (0, u "textChar"), (0, u "occurrenceMask"), (0, u "totalOccurrences"), (1, u "outLength")] 3

def k2c0 : Code := { maxStack := 3, maxLocals := 6, code := prog_1_method_1_code, exceptionTable := #[], attributes := #[] }
def k2m0 : Method := { name := "<init>", desc := "(II)V", sig := { parameters := [.int, .int], returnType := none }, accessFlags := 1, code := some k2c0 }
def k2c1 : Code := { maxStack := 3, maxLocals := 2, code := prog_1_method_2_code, exceptionTable := #[], attributes := #[] }
def k2m1 : Method := { name := "addChar", desc := "(I)I", sig := { parameters := [.int], returnType := some .int }, accessFlags := 1, code := some k2c1 }
def k2c2 : Code := { maxStack := 2, maxLocals := 2, code := prog_1_method_3_code, exceptionTable := #[], attributes := #[] }
def k2m2 : Method := { name := "endKeyword", desc := "(I)I", sig := { parameters := [.int], returnType := some .int }, accessFlags := 1, code := some k2c2 }
def k2c3 : Code := { maxStack := 2, maxLocals := 1, code := prog_1_method_4_code, exceptionTable := #[], attributes := #[] }
def k2m3 : Method := { name := "build", desc := "()I", sig := { parameters := [], returnType := some .int }, accessFlags := 1, code := some k2c3 }
def k2c4 : Code := { maxStack := 4, maxLocals := 4, code := prog_1_method_5_code, exceptionTable := #[], attributes := #[] }
def k2m4 : Method := { name := "feed", desc := "(I)I", sig := { parameters := [.int], returnType := some .int }, accessFlags := 1, code := some k2c4 }
def k2c5 : Code := { maxStack := 2, maxLocals := 1, code := prog_1_method_6_code, exceptionTable := #[], attributes := #[] }
def k2m5 : Method := { name := "resetText", desc := "()I", sig := { parameters := [], returnType := some .int }, accessFlags := 1, code := some k2c5 }
def k2c6 : Code := { maxStack := 1, maxLocals := 1, code := prog_1_method_7_code, exceptionTable := #[], attributes := #[] }
def k2m6 : Method := { name := "phase", desc := "()I", sig := { parameters := [], returnType := some .int }, accessFlags := 1, code := some k2c6 }
def k2c7 : Code := { maxStack := 1, maxLocals := 1, code := prog_1_method_8_code, exceptionTable := #[], attributes := #[] }
def k2m7 : Method := { name := "keywordCount", desc := "()I", sig := { parameters := [], returnType := some .int }, accessFlags := 1, code := some k2c7 }
def k2c8 : Code := { maxStack := 2, maxLocals := 2, code := prog_1_method_9_code, exceptionTable := #[], attributes := #[] }
def k2m8 : Method := { name := "keywordLength", desc := "(I)I", sig := { parameters := [.int], returnType := some .int }, accessFlags := 1, code := some k2c8 }
def k2c9 : Code := { maxStack := 1, maxLocals := 1, code := prog_1_method_11_code, exceptionTable := #[], attributes := #[] }
def k2m9 : Method := { name := "textLength", desc := "()I", sig := { parameters := [], returnType := some .int }, accessFlags := 1, code := some k2c9 }
def k2c10 : Code := { maxStack := 2, maxLocals := 2, code := prog_1_method_12_code, exceptionTable := #[], attributes := #[] }
def k2m10 : Method := { name := "textChar", desc := "(I)I", sig := { parameters := [.int], returnType := some .int }, accessFlags := 1, code := some k2c10 }
def k2c11 : Code := { maxStack := 2, maxLocals := 2, code := prog_1_method_13_code, exceptionTable := #[], attributes := #[] }
def k2m11 : Method := { name := "occurrenceMask", desc := "(I)I", sig := { parameters := [.int], returnType := some .int }, accessFlags := 1, code := some k2c11 }
def k2c12 : Code := { maxStack := 1, maxLocals := 1, code := prog_1_method_14_code, exceptionTable := #[], attributes := #[] }
def k2m12 : Method := { name := "totalOccurrences", desc := "()I", sig := { parameters := [], returnType := some .int }, accessFlags := 1, code := some k2c12 }
def k2c13 : Code := { maxStack := 2, maxLocals := 1, code := prog_1_method_16_code, exceptionTable := #[], attributes := #[] }
def k2m13 : Method := { name := "outLength", desc := "()I", sig := { parameters := [], returnType := some .int }, accessFlags := 1, code := some k2c13 }
def k2c14 : Code := { maxStack := 2, maxLocals := 2, code := prog_1_method_19_code, exceptionTable := #[], attributes := #[] }
def k2m14 : Method := { name := "pendingIsDuplicate", desc := "()Z", sig := { parameters := [], returnType := some .boolean }, accessFlags := 2, code := some k2c14 }
def k2c15 : Code := { maxStack := 3, maxLocals := 4, code := prog_1_method_20_code, exceptionTable := #[], attributes := #[] }
def k2m15 : Method := { name := "pendingEquals", desc := "(I)Z", sig := { parameters := [.int], returnType := some .boolean }, accessFlags := 2, code := some k2c15 }
def k2c16 : Code := { maxStack := 4, maxLocals := 4, code := prog_1_method_21_code, exceptionTable := #[], attributes := #[] }
def k2m16 : Method := { name := "storePending", desc := "(I)V", sig := { parameters := [.int], returnType := none }, accessFlags := 2, code := some k2c16 }
def k2c17 : Code := { maxStack := 3, maxLocals := 2, code := prog_1_method_22_code, exceptionTable := #[], attributes := #[] }
def k2m17 : Method := { name := "buildTrie", desc := "()V", sig := { parameters := [], returnType := none }, accessFlags := 2, code := some k2c17 }
def k2c18 : Code := { maxStack := 5, maxLocals := 7, code := prog_1_method_23_code, exceptionTable := #[], attributes := #[] }
def k2m18 : Method := { name := "insertKeyword", desc := "(I)V", sig := { parameters := [.int], returnType := none }, accessFlags := 2, code := some k2c18 }
def k2c19 : Code := { maxStack := 3, maxLocals := 5, code := prog_1_method_24_code, exceptionTable := #[], attributes := #[] }
def k2m19 : Method := { name := "computeLinks", desc := "()V", sig := { parameters := [], returnType := none }, accessFlags := 2, code := some k2c19 }
def k2c20 : Code := { maxStack := 5, maxLocals := 8, code := prog_1_method_25_code, exceptionTable := #[], attributes := #[] }
def k2m20 : Method := { name := "expandNode", desc := "(II)I", sig := { parameters := [.int, .int], returnType := some .int }, accessFlags := 2, code := some k2c20 }
def k2c21 : Code := { maxStack := 4, maxLocals := 3, code := prog_1_method_26_code, exceptionTable := #[], attributes := #[] }
def k2m21 : Method := { name := "nextState", desc := "(II)I", sig := { parameters := [.int, .int], returnType := some .int }, accessFlags := 2, code := some k2c21 }
def k2c22 : Code := { maxStack := 2, maxLocals := 1, code := prog_1_method_27_code, exceptionTable := #[], attributes := #[] }
def k2m22 : Method := { name := "clearText", desc := "()V", sig := { parameters := [], returnType := none }, accessFlags := 2, code := some k2c22 }
def k2c23 : Code := { maxStack := 4, maxLocals := 8, code := prog_1_method_28_code, exceptionTable := #[], attributes := #[] }
def k2m23 : Method := { name := "longestAt", desc := "(I)I", sig := { parameters := [.int], returnType := some .int }, accessFlags := 2, code := some k2c23 }
def k2c24 : Code := { maxStack := 2, maxLocals := 2, code := prog_1_method_29_code, exceptionTable := #[], attributes := #[] }
def k2m24 : Method := { name := "commitReady", desc := "()V", sig := { parameters := [], returnType := none }, accessFlags := 2, code := some k2c24 }
def k2c25 : Code := { maxStack := 4, maxLocals := 2, code := prog_1_method_30_code, exceptionTable := #[], attributes := #[] }
def k2m25 : Method := { name := "commitOne", desc := "()V", sig := { parameters := [], returnType := none }, accessFlags := 2, code := some k2c25 }
def k2c26 : Code := { maxStack := 4, maxLocals := 4, code := prog_1_method_31_code, exceptionTable := #[], attributes := #[] }
def k2m26 : Method := { name := "rebuildTail", desc := "()V", sig := { parameters := [], returnType := none }, accessFlags := 2, code := some k2c26 }
def k2c27 : Code := { maxStack := 2, maxLocals := 2, code := prog_1_method_32_code, exceptionTable := #[], attributes := #[] }
def k2m27 : Method := { name := "isLetter", desc := "(I)Z", sig := { parameters := [.int], returnType := some .boolean }, accessFlags := 2, code := some k2c27 }
def k2c28 : Code := { maxStack := 2, maxLocals := 2, code := prog_1_method_33_code, exceptionTable := #[], attributes := #[] }
def k2m28 : Method := { name := "isPrintable", desc := "(I)Z", sig := { parameters := [.int], returnType := some .boolean }, accessFlags := 2, code := some k2c28 }
def k2c29 : Code := { maxStack := 2, maxLocals := 4, code := prog_1_method_34_code, exceptionTable := #[], attributes := #[] }
def k2m29 : Method := { name := "popCount", desc := "(I)I", sig := { parameters := [.int], returnType := some .int }, accessFlags := 2, code := some k2c29 }
/-- MultiPatternScan -/
def k2 : Class := { plain "MultiPatternScan" (some 0) with
  accessFlags := 49
  interfaces := #[]
  cf := some (fileOf pool2 8 #[] #[{ accessFlags := 1, nameIndex := 5, descriptorIndex := 182, attributes := #[] }, { accessFlags := 1, nameIndex := 186, descriptorIndex := 114, attributes := #[] }, { accessFlags := 1, nameIndex := 187, descriptorIndex := 114, attributes := #[] }, { accessFlags := 1, nameIndex := 188, descriptorIndex := 189, attributes := #[] }, { accessFlags := 1, nameIndex := 190, descriptorIndex := 114, attributes := #[] }, { accessFlags := 1, nameIndex := 191, descriptorIndex := 189, attributes := #[] }, { accessFlags := 1, nameIndex := 192, descriptorIndex := 189, attributes := #[] }, { accessFlags := 1, nameIndex := 193, descriptorIndex := 189, attributes := #[] }, { accessFlags := 1, nameIndex := 194, descriptorIndex := 114, attributes := #[] }, { accessFlags := 1, nameIndex := 196, descriptorIndex := 189, attributes := #[] }, { accessFlags := 1, nameIndex := 197, descriptorIndex := 114, attributes := #[] }, { accessFlags := 1, nameIndex := 198, descriptorIndex := 114, attributes := #[] }, { accessFlags := 1, nameIndex := 199, descriptorIndex := 189, attributes := #[] }, { accessFlags := 1, nameIndex := 201, descriptorIndex := 189, attributes := #[] }, { accessFlags := 2, nameIndex := 89, descriptorIndex := 90, attributes := #[] }, { accessFlags := 2, nameIndex := 135, descriptorIndex := 83, attributes := #[] }, { accessFlags := 2, nameIndex := 93, descriptorIndex := 94, attributes := #[] }, { accessFlags := 2, nameIndex := 97, descriptorIndex := 6, attributes := #[] }, { accessFlags := 2, nameIndex := 138, descriptorIndex := 94, attributes := #[] }, { accessFlags := 2, nameIndex := 100, descriptorIndex := 6, attributes := #[] }, { accessFlags := 2, nameIndex := 141, descriptorIndex := 110, attributes := #[] }, { accessFlags := 2, nameIndex := 109, descriptorIndex := 110, attributes := #[] }, { accessFlags := 2, nameIndex := 79, descriptorIndex := 6, attributes := #[] }, { accessFlags := 2, nameIndex := 150, descriptorIndex := 114, attributes := #[] }, { accessFlags := 2, nameIndex := 120, descriptorIndex := 6, attributes := #[] }, { accessFlags := 2, nameIndex := 147, descriptorIndex := 6, attributes := #[] }, { accessFlags := 2, nameIndex := 123, descriptorIndex := 6, attributes := #[] }, { accessFlags := 2, nameIndex := 82, descriptorIndex := 83, attributes := #[] }, { accessFlags := 2, nameIndex := 86, descriptorIndex := 83, attributes := #[] }, { accessFlags := 2, nameIndex := 113, descriptorIndex := 114, attributes := #[] }] 49 2 #[] #[{ accessFlags := 25, nameIndex := 151, descriptorIndex := 58, attributes := #[] }, { accessFlags := 25, nameIndex := 154, descriptorIndex := 58, attributes := #[] }, { accessFlags := 25, nameIndex := 156, descriptorIndex := 58, attributes := #[] }, { accessFlags := 25, nameIndex := 157, descriptorIndex := 58, attributes := #[] }, { accessFlags := 25, nameIndex := 159, descriptorIndex := 58, attributes := #[] }, { accessFlags := 25, nameIndex := 161, descriptorIndex := 58, attributes := #[] }, { accessFlags := 25, nameIndex := 163, descriptorIndex := 58, attributes := #[] }, { accessFlags := 25, nameIndex := 165, descriptorIndex := 58, attributes := #[] }, { accessFlags := 25, nameIndex := 167, descriptorIndex := 58, attributes := #[] }, { accessFlags := 25, nameIndex := 169, descriptorIndex := 58, attributes := #[] }, { accessFlags := 25, nameIndex := 171, descriptorIndex := 58, attributes := #[] }, { accessFlags := 25, nameIndex := 173, descriptorIndex := 58, attributes := #[] }, { accessFlags := 25, nameIndex := 175, descriptorIndex := 58, attributes := #[] }, { accessFlags := 26, nameIndex := 177, descriptorIndex := 58, attributes := #[] }, { accessFlags := 26, nameIndex := 179, descriptorIndex := 58, attributes := #[] }, { accessFlags := 26, nameIndex := 181, descriptorIndex := 58, attributes := #[] }, { accessFlags := 2, nameIndex := 57, descriptorIndex := 58, attributes := #[] }, { accessFlags := 2, nameIndex := 61, descriptorIndex := 58, attributes := #[] }, { accessFlags := 2, nameIndex := 64, descriptorIndex := 58, attributes := #[] }, { accessFlags := 2, nameIndex := 67, descriptorIndex := 58, attributes := #[] }, { accessFlags := 2, nameIndex := 11, descriptorIndex := 12, attributes := #[] }, { accessFlags := 2, nameIndex := 15, descriptorIndex := 12, attributes := #[] }, { accessFlags := 2, nameIndex := 18, descriptorIndex := 12, attributes := #[] }, { accessFlags := 2, nameIndex := 70, descriptorIndex := 58, attributes := #[] }, { accessFlags := 2, nameIndex := 21, descriptorIndex := 12, attributes := #[] }, { accessFlags := 2, nameIndex := 73, descriptorIndex := 58, attributes := #[] }, { accessFlags := 2, nameIndex := 76, descriptorIndex := 58, attributes := #[] }, { accessFlags := 2, nameIndex := 24, descriptorIndex := 12, attributes := #[] }, { accessFlags := 2, nameIndex := 27, descriptorIndex := 12, attributes := #[] }, { accessFlags := 2, nameIndex := 30, descriptorIndex := 12, attributes := #[] }, { accessFlags := 2, nameIndex := 33, descriptorIndex := 12, attributes := #[] }, { accessFlags := 2, nameIndex := 36, descriptorIndex := 12, attributes := #[] }, { accessFlags := 2, nameIndex := 39, descriptorIndex := 12, attributes := #[] }, { accessFlags := 2, nameIndex := 42, descriptorIndex := 12, attributes := #[] }, { accessFlags := 2, nameIndex := 103, descriptorIndex := 58, attributes := #[] }, { accessFlags := 2, nameIndex := 106, descriptorIndex := 58, attributes := #[] }, { accessFlags := 2, nameIndex := 117, descriptorIndex := 58, attributes := #[] }, { accessFlags := 2, nameIndex := 45, descriptorIndex := 12, attributes := #[] }, { accessFlags := 2, nameIndex := 48, descriptorIndex := 12, attributes := #[] }, { accessFlags := 2, nameIndex := 129, descriptorIndex := 58, attributes := #[] }, { accessFlags := 2, nameIndex := 144, descriptorIndex := 58, attributes := #[] }, { accessFlags := 2, nameIndex := 51, descriptorIndex := 12, attributes := #[] }, { accessFlags := 2, nameIndex := 132, descriptorIndex := 58, attributes := #[] }, { accessFlags := 2, nameIndex := 54, descriptorIndex := 12, attributes := #[] }])
  fields := #[{ name := "PHASE_BUILD", type := .int, accessFlags := 25, slot := 0, constantValue := 0 }, { name := "PHASE_SCAN", type := .int, accessFlags := 25, slot := 1, constantValue := 0 }, { name := "OK", type := .int, accessFlags := 25, slot := 2, constantValue := 0 }, { name := "ERR_PHASE", type := .int, accessFlags := 25, slot := 3, constantValue := 0 }, { name := "ERR_CHAR", type := .int, accessFlags := 25, slot := 4, constantValue := 0 }, { name := "ERR_FULL", type := .int, accessFlags := 25, slot := 5, constantValue := 0 }, { name := "ERR_EMPTY", type := .int, accessFlags := 25, slot := 6, constantValue := 0 }, { name := "ERR_DUPLICATE", type := .int, accessFlags := 25, slot := 7, constantValue := 0 }, { name := "ERR_REPL", type := .int, accessFlags := 25, slot := 8, constantValue := 0 }, { name := "ERR_PENDING", type := .int, accessFlags := 25, slot := 9, constantValue := 0 }, { name := "MAX_KEYWORDS", type := .int, accessFlags := 25, slot := 10, constantValue := 0 }, { name := "MAX_KEYWORD_LEN", type := .int, accessFlags := 25, slot := 11, constantValue := 0 }, { name := "MAX_TEXT", type := .int, accessFlags := 25, slot := 12, constantValue := 0 }, { name := "MAX_NODES", type := .int, accessFlags := 26, slot := 13, constantValue := 0 }, { name := "ALPHA", type := .int, accessFlags := 26, slot := 14, constantValue := 0 }, { name := "TAIL_CAP", type := .int, accessFlags := 26, slot := 15, constantValue := 0 }, { name := "maxKw", type := .int, accessFlags := 2, slot := 0, constantValue := 0 }, { name := "maxLen", type := .int, accessFlags := 2, slot := 1, constantValue := 0 }, { name := "phaseNow", type := .int, accessFlags := 2, slot := 2, constantValue := 0 }, { name := "count", type := .int, accessFlags := 2, slot := 3, constantValue := 0 }, { name := "kwChars", type := (.array .int), accessFlags := 2, slot := 4, constantValue := 0 }, { name := "kwLen", type := (.array .int), accessFlags := 2, slot := 5, constantValue := 0 }, { name := "kwRepl", type := (.array .int), accessFlags := 2, slot := 6, constantValue := 0 }, { name := "pendLen", type := .int, accessFlags := 2, slot := 7, constantValue := 0 }, { name := "pend", type := (.array .int), accessFlags := 2, slot := 8, constantValue := 0 }, { name := "nodeCount", type := .int, accessFlags := 2, slot := 9, constantValue := 0 }, { name := "longestKw", type := .int, accessFlags := 2, slot := 10, constantValue := 0 }, { name := "child", type := (.array .int), accessFlags := 2, slot := 11, constantValue := 0 }, { name := "delta", type := (.array .int), accessFlags := 2, slot := 12, constantValue := 0 }, { name := "fail", type := (.array .int), accessFlags := 2, slot := 13, constantValue := 0 }, { name := "depth", type := (.array .int), accessFlags := 2, slot := 14, constantValue := 0 }, { name := "term", type := (.array .int), accessFlags := 2, slot := 15, constantValue := 0 }, { name := "outMask", type := (.array .int), accessFlags := 2, slot := 16, constantValue := 0 }, { name := "queue", type := (.array .int), accessFlags := 2, slot := 17, constantValue := 0 }, { name := "n", type := .int, accessFlags := 2, slot := 18, constantValue := 0 }, { name := "state", type := .int, accessFlags := 2, slot := 19, constantValue := 0 }, { name := "total", type := .int, accessFlags := 2, slot := 20, constantValue := 0 }, { name := "text", type := (.array .int), accessFlags := 2, slot := 21, constantValue := 0 }, { name := "masks", type := (.array .int), accessFlags := 2, slot := 22, constantValue := 0 }, { name := "outLen", type := .int, accessFlags := 2, slot := 23, constantValue := 0 }, { name := "commitPos", type := .int, accessFlags := 2, slot := 24, constantValue := 0 }, { name := "out", type := (.array .int), accessFlags := 2, slot := 25, constantValue := 0 }, { name := "tailLen", type := .int, accessFlags := 2, slot := 26, constantValue := 0 }, { name := "tail", type := (.array .int), accessFlags := 2, slot := 27, constantValue := 0 }]
  methods := #[k2m0, k2m1, k2m2, k2m3, k2m4, k2m5, k2m6, k2m7, k2m8, k2m9, k2m10, k2m11, k2m12, k2m13, k2m14, k2m15, k2m16, k2m17, k2m18, k2m19, k2m20, k2m21, k2m22, k2m23, k2m24, k2m25, k2m26, k2m27, k2m28, k2m29]
  instanceTypes := #[.int, .int, .int, .int, (.array .int), (.array .int), (.array .int), .int, (.array .int), .int, .int, (.array .int), (.array .int), (.array .int), (.array .int), (.array .int), (.array .int), (.array .int), .int, .int, .int, (.array .int), (.array .int), .int, .int, (.array .int), .int, (.array .int)]
  staticTypes := #[.int, .int, .int, .int, .int, .int, .int, .int, .int, .int, .int, .int, .int, .int, .int, .int]
  resolved := Array.replicate 205 none
  statics := none }

def pool3 : Array CpInfo := pool [(1, u "java/lang/Cloneable"), (0, .class_ 1), (0, u "java/lang/Object"), (0, .class_ 3)] 3

/-- java/lang/Cloneable -/
def k3 : Class := { plain "java/lang/Cloneable" (some 0) with
  accessFlags := 1537
  interfaces := #[]
  cf := some (fileOf pool3 2 #[] #[] 1537 4 #[] #[])
  fields := #[]
  methods := #[]
  instanceTypes := #[]
  staticTypes := #[]
  resolved := Array.replicate 8 none
  statics := none }

def pool4 : Array CpInfo := pool [(1, u "java/io/Serializable"), (0, .class_ 1), (0, u "java/lang/Object"), (0, .class_ 3)] 3

/-- java/io/Serializable -/
def k4 : Class := { plain "java/io/Serializable" (some 0) with
  accessFlags := 1537
  interfaces := #[]
  cf := some (fileOf pool4 2 #[] #[] 1537 4 #[] #[])
  fields := #[]
  methods := #[]
  instanceTypes := #[]
  staticTypes := #[]
  resolved := Array.replicate 8 none
  statics := none }

/-- the primitive byte -/
def k5 : Class := { plain "byte" none with kind := .primitive 'B', accessFlags := 0x411 }
/-- [B -/
def k6 : Class := { plain "[B" (some 0) with kind := .array 5 .byte, interfaces := #[3, 4], accessFlags := 1041 }

/-- the primitive int -/
def k7 : Class := { plain "int" none with kind := .primitive 'I', accessFlags := 0x411 }
/-- [I -/
def k8 : Class := { plain "[I" (some 0) with kind := .array 7 .int, interfaces := #[3, 4], accessFlags := 1041 }

def heap : Heap := #[{ cls := 8, slots := #[.int 1, .int 2, .int 3], vm := .none }]
def classes : Array Class := #[k0, k1, k2, k3, k4, k5, k6, k7, k8]
def interned : List (Array UInt16 × Addr) := []
def slotsUsed : Nat := 3
def theMethod : MethodId := ⟨1, 2⟩
def args0 : Array Value := #[.ref 0]
def aboutOver (below : List Frame) : State where
  vm := { classes := classes, interned := interned.toArray }
  heap := heap
  slotsUsed := slotsUsed
  threads := #[{ frames := .invoking theMethod args0 :: below }]
def below0 : List Frame := [.native { method := ⟨0, 0⟩, args := #[] }]
def about1 : State := aboutOver below0
def p0 : Program := .bare "" "" ""
def e0 : Env := launch0.env 0 0 0
theorem w_frames : about1.frames = Frame.invoking theMethod args0 :: below0 := rfl
set_option maxRecDepth 65536 in
theorem w_args : argsFit about1.vm theMethod args0 = true := by decide +kernel
set_option maxRecDepth 65536 in
theorem w_heap : heapFits about1 = true := by decide +kernel
set_option maxRecDepth 65536 in
theorem w_runnable : about1.curStatus? = some .runnable := by decide +kernel
set_option maxRecDepth 65536 in
theorem w_alone : about1.alone = true := by decide +kernel
set_option maxRecDepth 65536 in
theorem w_named : about1.methodNamed? x = some theMethod := by decide +kernel
set_option maxRecDepth 65536 in
theorem w_hears : about1.hears theMethod below0 = true := by decide +kernel
set_option maxRecDepth 65536 in
theorem w_ripe : about1.ripe theMethod args0 below0 = true := by decide +kernel
theorem w_running : about1.status = .running := rfl
set_option maxRecDepth 65536 in
theorem w_room : about1.hasRoom e0.platform room_1 = true :=
  launch0.hasRoom_least _ room_1 (by decide +kernel) (by decide +kernel) (by decide +kernel) (by decide +kernel) (by decide +kernel) (by decide +kernel)
theorem allAtoms_all (ts : List Jvm.Cond) (a : Array Jvm.Value) (st : Jvm.State) : (allAtoms ts).before a st = ts.all (fun c => c.before a st) := by
  induction ts with
  | nil => rfl
  | cons c t ih =>
    show (Jvm.Cond.and c (allAtoms t)).before a st = _
    rw [Jvm.Cond.before_and, ih, List.all_cons]
def words1 : List Jvm.Cond := Jvm.Cond.code x code maxLocals ret :: tables_1
/-- a 'code' word, met by the world's own term for the bytes: nothing is compared byte by byte -/
theorem code_word {y : MethodName} {bytes : ByteArray} {mx : Nat} {rt : Option FieldType} {a : Array Value} {s : State} {m : MethodId} {meth : Method} {c : Code} (h1 : s.methodNamed? y = some m) (h2 : s.vm.method? m = some meth) (h3 : meth.code = some c) (h4 : c.code = bytes)
    (h5 : (c.maxLocals == mx && c.exceptionTable.isEmpty && decide (c.maxStack ≤ mostOperands) && decide (meth.sig.returnType = rt) && !meth.locks && decide (parseMethodDescriptor y.desc = some meth.sig)) = true) : (Jvm.Cond.code y bytes mx rt).before a s = true := by
  simp only [Bool.and_eq_true, beq_iff_eq, Bool.not_eq_true', decide_eq_true_eq] at h5
  obtain ⟨⟨⟨⟨⟨g1, g2⟩, g3⟩, g4⟩, g5⟩, g6⟩ := h5
  simp [Cond.before, Cond.holds, Cond.value, h1, h2, h3, h4, g1, g2, g3, g4, g5, g6]
def isCode : Jvm.Cond → Bool
  | .code _ _ _ _ => true
  | _ => false
theorem all_split {L : List Jvm.Cond} {P : Jvm.Cond → Bool} (h1 : L.all (fun c => isCode c || P c) = true) (h2 : ∀ c ∈ L.filter isCode, P c = true) : L.all P = true := by
  refine List.all_eq_true.mpr fun c hc => ?_
  have h := List.all_eq_true.mp h1 c hc
  rcases Bool.eq_false_or_eq_true (isCode c) with hi | hi
  · exact h2 c (List.mem_filter.mpr ⟨hc, hi⟩)
  · simpa [hi] using h
set_option maxRecDepth 65536 in
theorem w_c0 : (Jvm.Cond.code x code maxLocals ret).before args0 about1 = true := code_word (m := ⟨1, 2⟩) (meth := k1m2) (c := k1c2) (by decide +kernel) rfl rfl rfl (by decide +kernel)
set_option maxRecDepth 65536 in
theorem w_c1 : (Jvm.Cond.code ({ cls := "MultiPatternScan", name := "<init>", desc := "(II)V" } : Jvm.MethodName) prog_1_method_1_code (6 : Nat) (Option.none : Option Jvm.ClassFile.FieldType)).before args0 about1 = true := code_word (m := ⟨2, 0⟩) (meth := k2m0) (c := k2c0) (by decide +kernel) rfl rfl rfl (by decide +kernel)
set_option maxRecDepth 65536 in
theorem w_c2 : (Jvm.Cond.code ({ cls := "java/lang/Object", name := "<init>", desc := "()V" } : Jvm.MethodName) object_method_1_code (1 : Nat) (Option.none : Option Jvm.ClassFile.FieldType)).before args0 about1 = true := code_word (m := ⟨0, 0⟩) (meth := k0m0) (c := k0c0) (by decide +kernel) rfl rfl rfl (by decide +kernel)
set_option maxRecDepth 65536 in
theorem w_c3 : (Jvm.Cond.code ({ cls := "MultiPatternScan", name := "clearText", desc := "()V" } : Jvm.MethodName) prog_1_method_27_code (1 : Nat) (Option.none : Option Jvm.ClassFile.FieldType)).before args0 about1 = true := code_word (m := ⟨2, 22⟩) (meth := k2m22) (c := k2c22) (by decide +kernel) rfl rfl rfl (by decide +kernel)
set_option maxRecDepth 65536 in
theorem w_c4 : (Jvm.Cond.code ({ cls := "MultiPatternScan", name := "build", desc := "()I" } : Jvm.MethodName) prog_1_method_4_code (1 : Nat) (Option.some Jvm.ClassFile.FieldType.int)).before args0 about1 = true := code_word (m := ⟨2, 3⟩) (meth := k2m3) (c := k2c3) (by decide +kernel) rfl rfl rfl (by decide +kernel)
set_option maxRecDepth 65536 in
theorem w_c5 : (Jvm.Cond.code ({ cls := "MultiPatternScan", name := "phase", desc := "()I" } : Jvm.MethodName) prog_1_method_7_code (1 : Nat) (Option.some Jvm.ClassFile.FieldType.int)).before args0 about1 = true := code_word (m := ⟨2, 6⟩) (meth := k2m6) (c := k2c6) (by decide +kernel) rfl rfl rfl (by decide +kernel)
set_option maxRecDepth 65536 in
theorem w_c6 : (Jvm.Cond.code ({ cls := "MultiPatternScan", name := "keywordCount", desc := "()I" } : Jvm.MethodName) prog_1_method_8_code (1 : Nat) (Option.some Jvm.ClassFile.FieldType.int)).before args0 about1 = true := code_word (m := ⟨2, 7⟩) (meth := k2m7) (c := k2c7) (by decide +kernel) rfl rfl rfl (by decide +kernel)
set_option maxRecDepth 65536 in
theorem w_c7 : (Jvm.Cond.code ({ cls := "MultiPatternScan", name := "keywordLength", desc := "(I)I" } : Jvm.MethodName) prog_1_method_9_code (2 : Nat) (Option.some Jvm.ClassFile.FieldType.int)).before args0 about1 = true := code_word (m := ⟨2, 8⟩) (meth := k2m8) (c := k2c8) (by decide +kernel) rfl rfl rfl (by decide +kernel)
set_option maxRecDepth 65536 in
theorem w_c8 : (Jvm.Cond.code ({ cls := "MultiPatternScan", name := "textLength", desc := "()I" } : Jvm.MethodName) prog_1_method_11_code (1 : Nat) (Option.some Jvm.ClassFile.FieldType.int)).before args0 about1 = true := code_word (m := ⟨2, 9⟩) (meth := k2m9) (c := k2c9) (by decide +kernel) rfl rfl rfl (by decide +kernel)
set_option maxRecDepth 65536 in
theorem w_c9 : (Jvm.Cond.code ({ cls := "MultiPatternScan", name := "totalOccurrences", desc := "()I" } : Jvm.MethodName) prog_1_method_14_code (1 : Nat) (Option.some Jvm.ClassFile.FieldType.int)).before args0 about1 = true := code_word (m := ⟨2, 12⟩) (meth := k2m12) (c := k2c12) (by decide +kernel) rfl rfl rfl (by decide +kernel)
set_option maxRecDepth 65536 in
theorem w_c10 : (Jvm.Cond.code ({ cls := "MultiPatternScan", name := "outLength", desc := "()I" } : Jvm.MethodName) prog_1_method_16_code (1 : Nat) (Option.some Jvm.ClassFile.FieldType.int)).before args0 about1 = true := code_word (m := ⟨2, 13⟩) (meth := k2m13) (c := k2c13) (by decide +kernel) rfl rfl rfl (by decide +kernel)
set_option maxRecDepth 65536 in
theorem w_c11 : (Jvm.Cond.code ({ cls := "MultiPatternScan", name := "addChar", desc := "(I)I" } : Jvm.MethodName) prog_1_method_2_code (2 : Nat) (Option.some Jvm.ClassFile.FieldType.int)).before args0 about1 = true := code_word (m := ⟨2, 1⟩) (meth := k2m1) (c := k2c1) (by decide +kernel) rfl rfl rfl (by decide +kernel)
set_option maxRecDepth 65536 in
theorem w_c12 : (Jvm.Cond.code ({ cls := "MultiPatternScan", name := "isLetter", desc := "(I)Z" } : Jvm.MethodName) prog_1_method_32_code (2 : Nat) (Option.some Jvm.ClassFile.FieldType.boolean)).before args0 about1 = true := code_word (m := ⟨2, 27⟩) (meth := k2m27) (c := k2c27) (by decide +kernel) rfl rfl rfl (by decide +kernel)
set_option maxRecDepth 65536 in
theorem w_c13 : (Jvm.Cond.code ({ cls := "MultiPatternScan", name := "endKeyword", desc := "(I)I" } : Jvm.MethodName) prog_1_method_3_code (2 : Nat) (Option.some Jvm.ClassFile.FieldType.int)).before args0 about1 = true := code_word (m := ⟨2, 2⟩) (meth := k2m2) (c := k2c2) (by decide +kernel) rfl rfl rfl (by decide +kernel)
set_option maxRecDepth 65536 in
theorem w_c14 : (Jvm.Cond.code ({ cls := "MultiPatternScan", name := "isPrintable", desc := "(I)Z" } : Jvm.MethodName) prog_1_method_33_code (2 : Nat) (Option.some Jvm.ClassFile.FieldType.boolean)).before args0 about1 = true := code_word (m := ⟨2, 28⟩) (meth := k2m28) (c := k2c28) (by decide +kernel) rfl rfl rfl (by decide +kernel)
set_option maxRecDepth 65536 in
theorem w_c15 : (Jvm.Cond.code ({ cls := "MultiPatternScan", name := "pendingIsDuplicate", desc := "()Z" } : Jvm.MethodName) prog_1_method_19_code (2 : Nat) (Option.some Jvm.ClassFile.FieldType.boolean)).before args0 about1 = true := code_word (m := ⟨2, 14⟩) (meth := k2m14) (c := k2c14) (by decide +kernel) rfl rfl rfl (by decide +kernel)
set_option maxRecDepth 65536 in
theorem w_c16 : (Jvm.Cond.code ({ cls := "MultiPatternScan", name := "storePending", desc := "(I)V" } : Jvm.MethodName) prog_1_method_21_code (4 : Nat) (Option.none : Option Jvm.ClassFile.FieldType)).before args0 about1 = true := code_word (m := ⟨2, 16⟩) (meth := k2m16) (c := k2c16) (by decide +kernel) rfl rfl rfl (by decide +kernel)
set_option maxRecDepth 65536 in
theorem w_c17 : (Jvm.Cond.code ({ cls := "MultiPatternScan", name := "buildTrie", desc := "()V" } : Jvm.MethodName) prog_1_method_22_code (2 : Nat) (Option.none : Option Jvm.ClassFile.FieldType)).before args0 about1 = true := code_word (m := ⟨2, 17⟩) (meth := k2m17) (c := k2c17) (by decide +kernel) rfl rfl rfl (by decide +kernel)
set_option maxRecDepth 65536 in
theorem w_c18 : (Jvm.Cond.code ({ cls := "MultiPatternScan", name := "insertKeyword", desc := "(I)V" } : Jvm.MethodName) prog_1_method_23_code (7 : Nat) (Option.none : Option Jvm.ClassFile.FieldType)).before args0 about1 = true := code_word (m := ⟨2, 18⟩) (meth := k2m18) (c := k2c18) (by decide +kernel) rfl rfl rfl (by decide +kernel)
set_option maxRecDepth 65536 in
theorem w_c19 : (Jvm.Cond.code ({ cls := "MultiPatternScan", name := "computeLinks", desc := "()V" } : Jvm.MethodName) prog_1_method_24_code (5 : Nat) (Option.none : Option Jvm.ClassFile.FieldType)).before args0 about1 = true := code_word (m := ⟨2, 19⟩) (meth := k2m19) (c := k2c19) (by decide +kernel) rfl rfl rfl (by decide +kernel)
set_option maxRecDepth 65536 in
theorem w_c20 : (Jvm.Cond.code ({ cls := "MultiPatternScan", name := "expandNode", desc := "(II)I" } : Jvm.MethodName) prog_1_method_25_code (8 : Nat) (Option.some Jvm.ClassFile.FieldType.int)).before args0 about1 = true := code_word (m := ⟨2, 20⟩) (meth := k2m20) (c := k2c20) (by decide +kernel) rfl rfl rfl (by decide +kernel)
set_option maxRecDepth 65536 in
theorem w_c21 : (Jvm.Cond.code ({ cls := "MultiPatternScan", name := "resetText", desc := "()I" } : Jvm.MethodName) prog_1_method_6_code (1 : Nat) (Option.some Jvm.ClassFile.FieldType.int)).before args0 about1 = true := code_word (m := ⟨2, 5⟩) (meth := k2m5) (c := k2c5) (by decide +kernel) rfl rfl rfl (by decide +kernel)
set_option maxRecDepth 65536 in
theorem w_c22 : (Jvm.Cond.code ({ cls := "MultiPatternScan", name := "feed", desc := "(I)I" } : Jvm.MethodName) prog_1_method_5_code (4 : Nat) (Option.some Jvm.ClassFile.FieldType.int)).before args0 about1 = true := code_word (m := ⟨2, 4⟩) (meth := k2m4) (c := k2c4) (by decide +kernel) rfl rfl rfl (by decide +kernel)
set_option maxRecDepth 65536 in
theorem w_c23 : (Jvm.Cond.code ({ cls := "MultiPatternScan", name := "pendingEquals", desc := "(I)Z" } : Jvm.MethodName) prog_1_method_20_code (4 : Nat) (Option.some Jvm.ClassFile.FieldType.boolean)).before args0 about1 = true := code_word (m := ⟨2, 15⟩) (meth := k2m15) (c := k2c15) (by decide +kernel) rfl rfl rfl (by decide +kernel)
set_option maxRecDepth 65536 in
theorem w_c24 : (Jvm.Cond.code ({ cls := "MultiPatternScan", name := "nextState", desc := "(II)I" } : Jvm.MethodName) prog_1_method_26_code (3 : Nat) (Option.some Jvm.ClassFile.FieldType.int)).before args0 about1 = true := code_word (m := ⟨2, 21⟩) (meth := k2m21) (c := k2c21) (by decide +kernel) rfl rfl rfl (by decide +kernel)
set_option maxRecDepth 65536 in
theorem w_c25 : (Jvm.Cond.code ({ cls := "MultiPatternScan", name := "popCount", desc := "(I)I" } : Jvm.MethodName) prog_1_method_34_code (4 : Nat) (Option.some Jvm.ClassFile.FieldType.int)).before args0 about1 = true := code_word (m := ⟨2, 29⟩) (meth := k2m29) (c := k2c29) (by decide +kernel) rfl rfl rfl (by decide +kernel)
set_option maxRecDepth 65536 in
theorem w_c26 : (Jvm.Cond.code ({ cls := "MultiPatternScan", name := "commitReady", desc := "()V" } : Jvm.MethodName) prog_1_method_29_code (2 : Nat) (Option.none : Option Jvm.ClassFile.FieldType)).before args0 about1 = true := code_word (m := ⟨2, 24⟩) (meth := k2m24) (c := k2c24) (by decide +kernel) rfl rfl rfl (by decide +kernel)
set_option maxRecDepth 65536 in
theorem w_c27 : (Jvm.Cond.code ({ cls := "MultiPatternScan", name := "rebuildTail", desc := "()V" } : Jvm.MethodName) prog_1_method_31_code (4 : Nat) (Option.none : Option Jvm.ClassFile.FieldType)).before args0 about1 = true := code_word (m := ⟨2, 26⟩) (meth := k2m26) (c := k2c26) (by decide +kernel) rfl rfl rfl (by decide +kernel)
set_option maxRecDepth 65536 in
theorem w_c28 : (Jvm.Cond.code ({ cls := "MultiPatternScan", name := "longestAt", desc := "(I)I" } : Jvm.MethodName) prog_1_method_28_code (8 : Nat) (Option.some Jvm.ClassFile.FieldType.int)).before args0 about1 = true := code_word (m := ⟨2, 23⟩) (meth := k2m23) (c := k2c23) (by decide +kernel) rfl rfl rfl (by decide +kernel)
set_option maxRecDepth 65536 in
theorem w_c29 : (Jvm.Cond.code ({ cls := "MultiPatternScanL6", name := "hit", desc := "(IIII)I" } : Jvm.MethodName) method_2_code (5 : Nat) (Option.some Jvm.ClassFile.FieldType.int)).before args0 about1 = true := code_word (m := ⟨1, 1⟩) (meth := k1m1) (c := k1c1) (by decide +kernel) rfl rfl rfl (by decide +kernel)
set_option maxRecDepth 65536 in
theorem w_c30 : (Jvm.Cond.code ({ cls := "MultiPatternScan", name := "occurrenceMask", desc := "(I)I" } : Jvm.MethodName) prog_1_method_13_code (2 : Nat) (Option.some Jvm.ClassFile.FieldType.int)).before args0 about1 = true := code_word (m := ⟨2, 11⟩) (meth := k2m11) (c := k2c11) (by decide +kernel) rfl rfl rfl (by decide +kernel)
set_option maxRecDepth 65536 in
theorem w_c31 : (Jvm.Cond.code ({ cls := "MultiPatternScan", name := "textChar", desc := "(I)I" } : Jvm.MethodName) prog_1_method_12_code (2 : Nat) (Option.some Jvm.ClassFile.FieldType.int)).before args0 about1 = true := code_word (m := ⟨2, 10⟩) (meth := k2m10) (c := k2c10) (by decide +kernel) rfl rfl rfl (by decide +kernel)
set_option maxRecDepth 65536 in
theorem w_c32 : (Jvm.Cond.code ({ cls := "MultiPatternScan", name := "commitOne", desc := "()V" } : Jvm.MethodName) prog_1_method_30_code (2 : Nat) (Option.none : Option Jvm.ClassFile.FieldType)).before args0 about1 = true := code_word (m := ⟨2, 25⟩) (meth := k2m25) (c := k2c25) (by decide +kernel) rfl rfl rfl (by decide +kernel)
def codes1 : List Jvm.Cond := [Jvm.Cond.code x code maxLocals ret, Jvm.Cond.code ({ cls := "MultiPatternScan", name := "<init>", desc := "(II)V" } : Jvm.MethodName) prog_1_method_1_code (6 : Nat) (Option.none : Option Jvm.ClassFile.FieldType), Jvm.Cond.code ({ cls := "java/lang/Object", name := "<init>", desc := "()V" } : Jvm.MethodName) object_method_1_code (1 : Nat) (Option.none : Option Jvm.ClassFile.FieldType), Jvm.Cond.code ({ cls := "MultiPatternScan", name := "clearText", desc := "()V" } : Jvm.MethodName) prog_1_method_27_code (1 : Nat) (Option.none : Option Jvm.ClassFile.FieldType), Jvm.Cond.code ({ cls := "MultiPatternScan", name := "build", desc := "()I" } : Jvm.MethodName) prog_1_method_4_code (1 : Nat) (Option.some Jvm.ClassFile.FieldType.int), Jvm.Cond.code ({ cls := "MultiPatternScan", name := "phase", desc := "()I" } : Jvm.MethodName) prog_1_method_7_code (1 : Nat) (Option.some Jvm.ClassFile.FieldType.int), Jvm.Cond.code ({ cls := "MultiPatternScan", name := "keywordCount", desc := "()I" } : Jvm.MethodName) prog_1_method_8_code (1 : Nat) (Option.some Jvm.ClassFile.FieldType.int), Jvm.Cond.code ({ cls := "MultiPatternScan", name := "keywordLength", desc := "(I)I" } : Jvm.MethodName) prog_1_method_9_code (2 : Nat) (Option.some Jvm.ClassFile.FieldType.int), Jvm.Cond.code ({ cls := "MultiPatternScan", name := "textLength", desc := "()I" } : Jvm.MethodName) prog_1_method_11_code (1 : Nat) (Option.some Jvm.ClassFile.FieldType.int), Jvm.Cond.code ({ cls := "MultiPatternScan", name := "totalOccurrences", desc := "()I" } : Jvm.MethodName) prog_1_method_14_code (1 : Nat) (Option.some Jvm.ClassFile.FieldType.int), Jvm.Cond.code ({ cls := "MultiPatternScan", name := "outLength", desc := "()I" } : Jvm.MethodName) prog_1_method_16_code (1 : Nat) (Option.some Jvm.ClassFile.FieldType.int), Jvm.Cond.code ({ cls := "MultiPatternScan", name := "addChar", desc := "(I)I" } : Jvm.MethodName) prog_1_method_2_code (2 : Nat) (Option.some Jvm.ClassFile.FieldType.int), Jvm.Cond.code ({ cls := "MultiPatternScan", name := "isLetter", desc := "(I)Z" } : Jvm.MethodName) prog_1_method_32_code (2 : Nat) (Option.some Jvm.ClassFile.FieldType.boolean), Jvm.Cond.code ({ cls := "MultiPatternScan", name := "endKeyword", desc := "(I)I" } : Jvm.MethodName) prog_1_method_3_code (2 : Nat) (Option.some Jvm.ClassFile.FieldType.int), Jvm.Cond.code ({ cls := "MultiPatternScan", name := "isPrintable", desc := "(I)Z" } : Jvm.MethodName) prog_1_method_33_code (2 : Nat) (Option.some Jvm.ClassFile.FieldType.boolean), Jvm.Cond.code ({ cls := "MultiPatternScan", name := "pendingIsDuplicate", desc := "()Z" } : Jvm.MethodName) prog_1_method_19_code (2 : Nat) (Option.some Jvm.ClassFile.FieldType.boolean), Jvm.Cond.code ({ cls := "MultiPatternScan", name := "storePending", desc := "(I)V" } : Jvm.MethodName) prog_1_method_21_code (4 : Nat) (Option.none : Option Jvm.ClassFile.FieldType), Jvm.Cond.code ({ cls := "MultiPatternScan", name := "buildTrie", desc := "()V" } : Jvm.MethodName) prog_1_method_22_code (2 : Nat) (Option.none : Option Jvm.ClassFile.FieldType), Jvm.Cond.code ({ cls := "MultiPatternScan", name := "insertKeyword", desc := "(I)V" } : Jvm.MethodName) prog_1_method_23_code (7 : Nat) (Option.none : Option Jvm.ClassFile.FieldType), Jvm.Cond.code ({ cls := "MultiPatternScan", name := "computeLinks", desc := "()V" } : Jvm.MethodName) prog_1_method_24_code (5 : Nat) (Option.none : Option Jvm.ClassFile.FieldType), Jvm.Cond.code ({ cls := "MultiPatternScan", name := "expandNode", desc := "(II)I" } : Jvm.MethodName) prog_1_method_25_code (8 : Nat) (Option.some Jvm.ClassFile.FieldType.int), Jvm.Cond.code ({ cls := "MultiPatternScan", name := "resetText", desc := "()I" } : Jvm.MethodName) prog_1_method_6_code (1 : Nat) (Option.some Jvm.ClassFile.FieldType.int), Jvm.Cond.code ({ cls := "MultiPatternScan", name := "feed", desc := "(I)I" } : Jvm.MethodName) prog_1_method_5_code (4 : Nat) (Option.some Jvm.ClassFile.FieldType.int), Jvm.Cond.code ({ cls := "MultiPatternScan", name := "pendingEquals", desc := "(I)Z" } : Jvm.MethodName) prog_1_method_20_code (4 : Nat) (Option.some Jvm.ClassFile.FieldType.boolean), Jvm.Cond.code ({ cls := "MultiPatternScan", name := "nextState", desc := "(II)I" } : Jvm.MethodName) prog_1_method_26_code (3 : Nat) (Option.some Jvm.ClassFile.FieldType.int), Jvm.Cond.code ({ cls := "MultiPatternScan", name := "popCount", desc := "(I)I" } : Jvm.MethodName) prog_1_method_34_code (4 : Nat) (Option.some Jvm.ClassFile.FieldType.int), Jvm.Cond.code ({ cls := "MultiPatternScan", name := "commitReady", desc := "()V" } : Jvm.MethodName) prog_1_method_29_code (2 : Nat) (Option.none : Option Jvm.ClassFile.FieldType), Jvm.Cond.code ({ cls := "MultiPatternScan", name := "rebuildTail", desc := "()V" } : Jvm.MethodName) prog_1_method_31_code (4 : Nat) (Option.none : Option Jvm.ClassFile.FieldType), Jvm.Cond.code ({ cls := "MultiPatternScan", name := "longestAt", desc := "(I)I" } : Jvm.MethodName) prog_1_method_28_code (8 : Nat) (Option.some Jvm.ClassFile.FieldType.int), Jvm.Cond.code ({ cls := "MultiPatternScanL6", name := "hit", desc := "(IIII)I" } : Jvm.MethodName) method_2_code (5 : Nat) (Option.some Jvm.ClassFile.FieldType.int), Jvm.Cond.code ({ cls := "MultiPatternScan", name := "occurrenceMask", desc := "(I)I" } : Jvm.MethodName) prog_1_method_13_code (2 : Nat) (Option.some Jvm.ClassFile.FieldType.int), Jvm.Cond.code ({ cls := "MultiPatternScan", name := "textChar", desc := "(I)I" } : Jvm.MethodName) prog_1_method_12_code (2 : Nat) (Option.some Jvm.ClassFile.FieldType.int), Jvm.Cond.code ({ cls := "MultiPatternScan", name := "commitOne", desc := "()V" } : Jvm.MethodName) prog_1_method_30_code (2 : Nat) (Option.none : Option Jvm.ClassFile.FieldType)]
set_option maxRecDepth 65536 in
theorem codes_eq : words1.filter isCode = codes1 := rfl
theorem w_codes : ∀ c ∈ words1.filter isCode, c.before args0 about1 = true := by
  rw [codes_eq]
  intro c hc
  simp only [codes1, List.mem_cons, List.not_mem_nil, or_false] at hc
  rcases hc with rfl | rfl | rfl | rfl | rfl | rfl | rfl | rfl | rfl | rfl | rfl | rfl | rfl | rfl | rfl | rfl | rfl | rfl | rfl | rfl | rfl | rfl | rfl | rfl | rfl | rfl | rfl | rfl | rfl | rfl | rfl | rfl | rfl
  · exact w_c0
  · exact w_c1
  · exact w_c2
  · exact w_c3
  · exact w_c4
  · exact w_c5
  · exact w_c6
  · exact w_c7
  · exact w_c8
  · exact w_c9
  · exact w_c10
  · exact w_c11
  · exact w_c12
  · exact w_c13
  · exact w_c14
  · exact w_c15
  · exact w_c16
  · exact w_c17
  · exact w_c18
  · exact w_c19
  · exact w_c20
  · exact w_c21
  · exact w_c22
  · exact w_c23
  · exact w_c24
  · exact w_c25
  · exact w_c26
  · exact w_c27
  · exact w_c28
  · exact w_c29
  · exact w_c30
  · exact w_c31
  · exact w_c32
set_option maxRecDepth 65536 in
theorem w_t1 : (words1.take 24).all (fun c => isCode c || c.before args0 about1) = true := by decide +kernel
set_option maxRecDepth 65536 in
theorem w_t2 : ((words1.drop 24).take 24).all (fun c => isCode c || c.before args0 about1) = true := by decide +kernel
set_option maxRecDepth 65536 in
theorem w_t3 : (((words1.drop 24).drop 24).take 24).all (fun c => isCode c || c.before args0 about1) = true := by decide +kernel
set_option maxRecDepth 65536 in
theorem w_t4 : ((((words1.drop 24).drop 24).drop 24).take 24).all (fun c => isCode c || c.before args0 about1) = true := by decide +kernel
set_option maxRecDepth 65536 in
theorem w_t5 : (((((words1.drop 24).drop 24).drop 24).drop 24).take 24).all (fun c => isCode c || c.before args0 about1) = true := by decide +kernel
set_option maxRecDepth 65536 in
theorem w_t6 : ((((((words1.drop 24).drop 24).drop 24).drop 24).drop 24).take 24).all (fun c => isCode c || c.before args0 about1) = true := by decide +kernel
set_option maxRecDepth 65536 in
theorem w_t7 : (((((((words1.drop 24).drop 24).drop 24).drop 24).drop 24).drop 24).take 24).all (fun c => isCode c || c.before args0 about1) = true := by decide +kernel
set_option maxRecDepth 65536 in
theorem w_t8 : ((((((((words1.drop 24).drop 24).drop 24).drop 24).drop 24).drop 24).drop 24).take 24).all (fun c => isCode c || c.before args0 about1) = true := by decide +kernel
set_option maxRecDepth 65536 in
theorem w_t9 : ((((((((words1.drop 24).drop 24).drop 24).drop 24).drop 24).drop 24).drop 24).drop 24).all (fun c => isCode c || c.before args0 about1) = true := by decide +kernel
theorem w_tables : (allAtoms (Jvm.Cond.code x code maxLocals ret :: tables_1)).before args0 about1 = true := by
  rw [allAtoms_all]
  show words1.all (fun c => c.before args0 about1) = true
  refine all_split ?_ w_codes
  rw [← List.take_append_drop 24 words1, List.all_append, w_t1, ← List.take_append_drop 24 (words1.drop 24), List.all_append, w_t2, ← List.take_append_drop 24 ((words1.drop 24).drop 24), List.all_append, w_t3, ← List.take_append_drop 24 (((words1.drop 24).drop 24).drop 24), List.all_append, w_t4, ← List.take_append_drop 24 ((((words1.drop 24).drop 24).drop 24).drop 24), List.all_append, w_t5, ← List.take_append_drop 24 (((((words1.drop 24).drop 24).drop 24).drop 24).drop 24), List.all_append, w_t6, ← List.take_append_drop 24 ((((((words1.drop 24).drop 24).drop 24).drop 24).drop 24).drop 24), List.all_append, w_t7, ← List.take_append_drop 24 (((((((words1.drop 24).drop 24).drop 24).drop 24).drop 24).drop 24).drop 24), List.all_append, w_t8, w_t9]
  rfl
set_option maxRecDepth 65536 in
theorem w_rest : rest_1_c.before args0 about1 = true := by decide +kernel
set_option maxRecDepth 65536 in
theorem w_case : (Jvm.Cond.and given_1 narrow_1).before args0 about1 = true := by decide +kernel
theorem w_applies : (headSpec (Jvm.Cond.code x code maxLocals ret :: tables_1) room_1).applies x e0.platform about1 = true :=
  (Spec.applies_iff w_frames).mpr ⟨w_running, w_runnable, w_alone, w_named, w_hears, w_ripe, w_room, w_tables⟩
theorem atStart : AtStart classFile x code maxLocals ret World_1 tables_1 room_1 Calls_1 rest_1 Pre_1 launch0 p0 e0 about1 theMethod args0 below0 :=
  ⟨lists_1, trivial, launch0.admits_env _ _ _, launch0.least_env, fairChoices_fair.cas, fairChoices_fair.clock, w_frames, w_args, w_heap, w_applies, trivial, w_rest, w_case⟩
end start1
theorem witness_1 : WitnessClaimed_1 := ⟨start1.p0, start1.e0, start1.about1, start1.theMethod, start1.args0, start1.below0, start1.atStart⟩
end Jvm.Pilot.@@N@@
