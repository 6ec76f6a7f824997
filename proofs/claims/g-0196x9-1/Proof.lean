import JvmDerived
import JvmDerived.Pilot.@@N@@Statement
import JvmDerived.Pilot.@@N@@Code
set_option linter.unusedVariables false
set_option linter.unusedSimpArgs false
namespace Jvm.Own
open Jvm Jvm.ClassFile Sem Op Lib Jvm.Free Jvm.Stand Jvm.LawKit Jvm.RoadKit Bundle

/-! A plain machine: the few instructions that these classes use, over a heap of plain lists. -/
/-- an object (class number, fields in order) | an int array (false) or boolean array (true) | a long array -/
abbrev ACell := (Nat × List Value) ⊕ ((Bool × List Int32) ⊕ List Int64)
abbrev AHeap := List ACell
/-- instruction, length, variables forgotten ahead of it, link number, constant -/
abbrev It := Instr × Nat × List Bool × Nat × Int
/-- a field: name, descriptor, type, final -/
abbrev FD := String × String × FieldType × Bool
/-- a class: name, number of its slots, its fields -/
abbrev CD := String × Nat × List FD
/-- a method: name, bytes, variables, return type; kind (0 static, 1 constructor, 2 private, 3 virtual), parameters, class number, frames, words; code -/
abbrev MD := MethodName × ByteArray × Nat × Option FieldType × Nat × Nat × Nat × Nat × Nat × List (Nat × It)
/-- classes, methods, number of cells that are only read -/
abbrev PD := List CD × List MD × Nat
abbrev PD.cls (P : PD) : List CD := P.1
abbrev PD.mth (P : PD) : List MD := P.2.1
abbrev PD.nr (P : PD) : Nat := P.2.2
abbrev MD.name (d : MD) : MethodName := d.1
abbrev MD.bytes (d : MD) : ByteArray := d.2.1
abbrev MD.maxL (d : MD) : Nat := d.2.2.1
abbrev MD.ret (d : MD) : Option FieldType := d.2.2.2.1
abbrev MD.kind (d : MD) : Nat := d.2.2.2.2.1
abbrev MD.npar (d : MD) : Nat := d.2.2.2.2.2.1
abbrev MD.cid (d : MD) : Nat := d.2.2.2.2.2.2.1
abbrev MD.rf (d : MD) : Nat := d.2.2.2.2.2.2.2.1
abbrev MD.rw (d : MD) : Nat := d.2.2.2.2.2.2.2.2.1
abbrev MD.code (d : MD) : List (Nat × It) := d.2.2.2.2.2.2.2.2.2

def rdA {α : Type} (L : List α) (j : Int32) : Option α := if j < 0 then none else L[j.toNatClampNeg]?
def wrA {α : Type} (L : List α) (j : Int32) (x : α) : Option (List α) := if j < 0 then none else if j.toNatClampNeg < L.length then some (L.set j.toNatClampNeg x) else none
def getL (L : List Slot) (k : Nat) : Option Value := match L[k]? with | some (.val v) => some v | _ => none
def isC2 : Option Slot → Bool | some (.val v) => v.category == 2 | _ => false
def isSec : Option Slot → Bool | some .second => true | _ => false
def free1 : Option Slot → Bool | some .unset => true | some (.val v) => v.category == 1 | _ => false
def st1 (L : List Slot) (k : Nat) (v : Value) : Option (List Slot) :=
  if free1 L[k]? && (k == 0 || !isC2 L[k - 1]?) && !isSec L[k + 1]? then some (L.set k (.val v)) else none
def free2 : Option Slot → Option Slot → Bool | some .unset, some .unset => true | some (.val v), some .second => v.category == 2 | _, _ => false
def st2 (L : List Slot) (k : Nat) (v : Value) : Option (List Slot) :=
  if free2 L[k]? L[k + 1]? && (k == 0 || !isC2 L[k - 1]?) && !isSec L[k + 2]? then some ((L.set k (.val v)).set (k + 1) .second) else none
def forget : List Bool → List Slot → List Slot
  | [], L => L
  | _ :: _, [] => []
  | true :: r, _ :: L => .unset :: forget r L
  | false :: r, s :: L => s :: forget r L
def catSum : List Value → Nat
  | [] => 0
  | v :: r => v.category + catSum r
def entA : List Value → List Slot
  | [] => []
  | v :: r => if v.category = 2 then .val v :: .second :: entA r else .val v :: entA r
def entL (as : List Value) (n : Nat) : List Slot := entA as ++ List.replicate (n - (entA as).length) .unset
def putOk : FieldType → Value → Bool
  | .int, .int _ => true
  | .long, .long _ => true
  | .boolean, .int x => (x == 0) || (x == 1)
  | .array _, .ref _ => true
  | _, _ => false
def dflt : FieldType → Value
  | .long => .long 0
  | .array _ => .null
  | _ => .int 0
def dfOk : FieldType → Bool
  | .int => true
  | .boolean => true
  | .long => true
  | .array _ => true
  | _ => false
def tgt (pc : Nat) (o : Int) : Option Nat := if 0 ≤ (pc : Int) + o then some ((pc : Int) + o).toNat else none
def fetch : List (Nat × It) → Nat → Option It
  | [], _ => none
  | (q, i) :: r, pc => if q = pc then some i else fetch r pc
/-- one instruction that neither branches nor calls nor returns -/
def xI (P : PD) (ini : Bool) (cid : Nat) (i : Instr) (a : Nat) (b : Int) (L : List Slot) (S : List Value) (H : AHeap) : Option (List Slot × List Value × AHeap) :=
  match i with
  | .aload_n k => match getL L k.val with | some (.ref x) => some (L, .ref x :: S, H) | _ => none
  | .aload k => match getL L k with | some (.ref x) => some (L, .ref x :: S, H) | _ => none
  | .iload_n k => match getL L k.val with | some (.int x) => some (L, .int x :: S, H) | _ => none
  | .iload k => match getL L k with | some (.int x) => some (L, .int x :: S, H) | _ => none
  | .lload_n k => match getL L k.val with | some (.long x) => some (L, .long x :: S, H) | _ => none
  | .lload k => match getL L k with | some (.long x) => some (L, .long x :: S, H) | _ => none
  | .istore_n k => match S with | .int x :: S' => (st1 L k.val (.int x)).map fun L' => (L', S', H) | _ => none
  | .istore k => match S with | .int x :: S' => (st1 L k (.int x)).map fun L' => (L', S', H) | _ => none
  | .astore_n k => match S with | .ref x :: S' => (st1 L k.val (.ref x)).map fun L' => (L', S', H) | _ => none
  | .astore k => match S with | .ref x :: S' => (st1 L k (.ref x)).map fun L' => (L', S', H) | _ => none
  | .lstore_n k => match S with | .long x :: S' => (st2 L k.val (.long x)).map fun L' => (L', S', H) | _ => none
  | .lstore k => match S with | .long x :: S' => (st2 L k (.long x)).map fun L' => (L', S', H) | _ => none
  | .iinc k d => match getL L k with | some (.int x) => (st1 L k (.int (x + Int32.ofInt d))).map fun L' => (L', S, H) | _ => none
  | .iconst d => some (L, .int (Int32.ofInt d) :: S, H)
  | .bipush d => some (L, .int (Int8.ofInt d).toInt32 :: S, H)
  | .sipush d => some (L, .int (Int16.ofInt d).toInt32 :: S, H)
  | .lconst k => some (L, .long (Int64.ofNat k) :: S, H)
  | .ldc _ => some (L, .int (Int32.ofInt b) :: S, H)
  | .ldc2_w _ => some (L, .long (Int64.ofInt b) :: S, H)
  | .iadd => match S with | .int y :: .int x :: S' => some (L, .int (x + y) :: S', H) | _ => none
  | .isub => match S with | .int y :: .int x :: S' => some (L, .int (x - y) :: S', H) | _ => none
  | .imul => match S with | .int y :: .int x :: S' => some (L, .int (x * y) :: S', H) | _ => none
  | .iand => match S with | .int y :: .int x :: S' => some (L, .int (x &&& y) :: S', H) | _ => none
  | .ior => match S with | .int y :: .int x :: S' => some (L, .int (x ||| y) :: S', H) | _ => none
  | .ixor => match S with | .int y :: .int x :: S' => some (L, .int (x ^^^ y) :: S', H) | _ => none
  | .ishl => match S with | .int y :: .int x :: S' => some (L, .int (x <<< (y &&& 31)) :: S', H) | _ => none
  | .ishr => match S with | .int y :: .int x :: S' => some (L, .int (x >>> (y &&& 31)) :: S', H) | _ => none
  | .iushr => match S with | .int y :: .int x :: S' => some (L, .int (XT.ushr x y) :: S', H) | _ => none
  | .idiv => match S with | .int y :: .int x :: S' => if y = 0 then none else some (L, .int (x / y) :: S', H) | _ => none
  | .irem => match S with | .int y :: .int x :: S' => if y = 0 then none else some (L, .int (x % y) :: S', H) | _ => none
  | .ladd => match S with | .long y :: .long x :: S' => some (L, .long (x + y) :: S', H) | _ => none
  | .lsub => match S with | .long y :: .long x :: S' => some (L, .long (x - y) :: S', H) | _ => none
  | .lmul => match S with | .long y :: .long x :: S' => some (L, .long (x * y) :: S', H) | _ => none
  | .land => match S with | .long y :: .long x :: S' => some (L, .long (x &&& y) :: S', H) | _ => none
  | .lor => match S with | .long y :: .long x :: S' => some (L, .long (x ||| y) :: S', H) | _ => none
  | .lxor => match S with | .long y :: .long x :: S' => some (L, .long (x ^^^ y) :: S', H) | _ => none
  | .lshl => match S with | .int y :: .long x :: S' => some (L, .long (x <<< (y.toInt64 &&& 63)) :: S', H) | _ => none
  | .lshr => match S with | .int y :: .long x :: S' => some (L, .long (x >>> (y.toInt64 &&& 63)) :: S', H) | _ => none
  | .lushr => match S with | .int y :: .long x :: S' => some (L, .long (XT.ushrL x y) :: S', H) | _ => none
  | .ldiv => match S with | .long y :: .long x :: S' => if y = 0 then none else some (L, .long (x / y) :: S', H) | _ => none
  | .lrem => match S with | .long y :: .long x :: S' => if y = 0 then none else some (L, .long (x % y) :: S', H) | _ => none
  | .lcmp => match S with | .long y :: .long x :: S' => some (L, .int (XT.cmpL x y) :: S', H) | _ => none
  | .i2l => match S with | .int x :: S' => some (L, .long x.toInt64 :: S', H) | _ => none
  | .l2i => match S with | .long x :: S' => some (L, .int x.toInt32 :: S', H) | _ => none
  | .dup => match S with
    | .int x :: S' => some (L, .int x :: .int x :: S', H)
    | .ref x :: S' => some (L, .ref x :: .ref x :: S', H)
    | _ => none
  | .dup2 => match S with
    | .int x :: .ref y :: S' => some (L, .int x :: .ref y :: .int x :: .ref y :: S', H)
    | .long x :: S' => some (L, .long x :: .long x :: S', H)
    | _ => none
  | .pop => match S with | .int _ :: S' => some (L, S', H) | _ => none
  | .getfield _ => match S with
    | .ref o :: S' => match H[o]? with
      | some (.inl (c, fs)) => if c = cid then match fs[a]? with
        | some (.int x) => some (L, .int x :: S', H)
        | some (.long x) => some (L, .long x :: S', H)
        | some (.ref x) => some (L, .ref x :: S', H)
        | _ => none
        else none
      | _ => none
    | _ => none
  | .putfield _ => match S with
    | v :: .ref o :: S' => match H[o]? with
      | some (.inl (c, fs)) => if c = cid ∧ P.nr ≤ o then match (P.cls[c]?).bind fun cd => cd.2.2[a]? with
        | some (_, _, ty, fin) => if putOk ty v && (!fin || ini) then some (L, S', H.set o (.inl (c, fs.set a v))) else none
        | none => none
        else none
      | _ => none
    | _ => none
  | .iaload => match S with
    | .int j :: .ref o :: S' => match H[o]? with
      | some (.inr (.inl (false, A))) => (rdA A j).map fun x => (L, .int x :: S', H)
      | _ => none
    | _ => none
  | .baload => match S with
    | .int j :: .ref o :: S' => match H[o]? with
      | some (.inr (.inl (true, A))) => (rdA A j).map fun x => (L, .int x :: S', H)
      | _ => none
    | _ => none
  | .laload => match S with
    | .int j :: .ref o :: S' => match H[o]? with
      | some (.inr (.inr A)) => (rdA A j).map fun x => (L, .long x :: S', H)
      | _ => none
    | _ => none
  | .iastore => match S with
    | .int x :: .int j :: .ref o :: S' => match H[o]? with
      | some (.inr (.inl (false, A))) => if P.nr ≤ o then (wrA A j x).map fun A' => (L, S', H.set o (.inr (.inl (false, A')))) else none
      | _ => none
    | _ => none
  | .bastore => match S with
    | .int x :: .int j :: .ref o :: S' => match H[o]? with
      | some (.inr (.inl (true, A))) => if P.nr ≤ o then (wrA A j (x &&& 1)).map fun A' => (L, S', H.set o (.inr (.inl (true, A')))) else none
      | _ => none
    | _ => none
  | .lastore => match S with
    | .long x :: .int j :: .ref o :: S' => match H[o]? with
      | some (.inr (.inr A)) => if P.nr ≤ o then (wrA A j x).map fun A' => (L, S', H.set o (.inr (.inr A'))) else none
      | _ => none
    | _ => none
  | .arraylength => match S with
    | .ref o :: S' => match H[o]? with
      | some (.inr (.inl (_, A))) => some (L, .int A.length.toInt32 :: S', H)
      | _ => none
    | _ => none
  | _ => none
/-- one instruction that makes a cell: how many slots it takes stands last -/
def xN (P : PD) (i : Instr) (a : Nat) (S : List Value) (H : AHeap) : Option (List Value × AHeap × Nat) :=
  match i with
  | .new _ => match P.cls[a]? with
    | some cd => some (.ref H.length :: S, H ++ [.inl (a, cd.2.2.map fun f => dflt f.2.2.1)], cd.2.1)
    | none => none
  | .newarray t => match S with
    | .int n :: S' => if n < 0 ∨ 100000 < n.toNatClampNeg then none else match t with
      | .int => some (.ref H.length :: S', H ++ [.inr (.inl (false, List.replicate n.toNatClampNeg 0))], n.toNatClampNeg)
      | .boolean => some (.ref H.length :: S', H ++ [.inr (.inl (true, List.replicate n.toNatClampNeg 0))], n.toNatClampNeg)
      | .long => some (.ref H.length :: S', H ++ [.inr (.inr (List.replicate n.toNatClampNeg 0))], n.toNatClampNeg)
      | _ => none
    | _ => none
  | _ => none
/-- the words that a call from d to y asks -/
def fitsRoom (d y : MD) (rest : List Value) : Bool := decide (y.rf + 1 ≤ d.rf) && decide (catSum rest + (y.maxL + 11) + y.rw ≤ d.rw)
/-- the arguments of a call, first to last, and what lies under them -/
def argsOf (n : Nat) (S : List Value) : Option (List Value × List Value) := if n ≤ S.length then some ((S.take n).reverse, S.drop n) else none
def recvOk (P : PD) (H : AHeap) (y : MD) (as : List Value) : Bool :=
  if y.kind = 0 then true else match as with
    | .ref o :: _ => match H[o]? with
      | some (.inl (c, _)) => decide (c = y.cid)
      | _ => false
    | _ => false
def nargs (y : MD) : Nat := if y.kind = 0 then y.npar else y.npar + 1
def invKind (i : Instr) (k : Nat) : Bool := match i with
  | .invokestatic _ => k == 0
  | .invokespecial _ => k == 1
  | .invokevirtual _ => k == 2 || k == 3
  | _ => false
/-- what a method returns of an int on its stack -/
def retV (r : Option FieldType) (x : Int32) : Option Value := match r with
  | some .int => some (.int x)
  | some .boolean => some (.int (x &&& 1))
  | _ => none
def isInv : Instr → Bool
  | .invokestatic _ => true
  | .invokespecial _ => true
  | .invokevirtual _ => true
  | _ => false
def isNew : Instr → Bool
  | .new _ => true
  | .newarray _ => true
  | _ => false
/-- what a run answers: what it returns, the heap, how many cells and slots it has made -/
abbrev Res := Option Value × AHeap × Nat × Nat
def addR (r : Res) (kc ks : Nat) : Res := (r.1, r.2.1, r.2.2.1 + kc, r.2.2.2 + ks)
/-- n instructions at the most, from pc of method mi to its return -/
def exe (P : PD) : Nat → Nat → Nat → List Slot → List Value → AHeap → Option Res
  | 0, _, _, _, _, _ => none
  | n + 1, mi, pc, L0, S, H => match P.mth[mi]? with
    | none => none
    | some d => match fetch d.code pc with
      | none => none
      | some (i, len, er, a, b) =>
        let L := forget er L0
        match i with
        | .goto o => match tgt pc o with
          | some q => exe P n mi q L S H
          | none => none
        | .if_icmp cd o => match S with
          | .int y :: .int x :: S' => if if_icmp.holds cd x y = true then match tgt pc o with
              | some q => exe P n mi q L S' H
              | none => none
            else exe P n mi (pc + 3) L S' H
          | _ => none
        | .ifCond cd o => match S with
          | .int x :: S' => if ifCond.holds cd x = true then match tgt pc o with
              | some q => exe P n mi q L S' H
              | none => none
            else exe P n mi (pc + 3) L S' H
          | _ => none
        | .ifnonnull o => match S with
          | .ref _ :: S' => match tgt pc o with
            | some q => exe P n mi q L S' H
            | none => none
          | _ => none
        | .ireturn => match S with
          | [.int x] => match retV d.ret x with
            | some v => some (some v, H, 0, 0)
            | none => none
          | _ => none
        | .lreturn => match S with
          | [.long x] => if d.ret = some .long then some (some (.long x), H, 0, 0) else none
          | _ => none
        | .return_ => match S with
          | [] => if d.ret = none then some (none, H, 0, 0) else none
          | _ => none
        | i => if isInv i = true then
            if b = -1 then match i, S with
              | .invokespecial _, .ref _ :: S' => if 1 ≤ d.rf ∧ catSum S' + 12 ≤ d.rw then exe P n mi (pc + 3) L S' H else none
              | _, _ => none
            else match P.mth[a]? with
              | none => none
              | some y => match argsOf (nargs y) S with
                | none => none
                | some (as, rest) =>
                  if decide (0 < a) && invKind i y.kind && recvOk P H y as && fitsRoom d y rest && decide ((entA as).length ≤ y.maxL) then
                    match exe P n a 0 (entL as y.maxL) [] H with
                    | some (v, H1, kc, ks) => (exe P n mi (pc + 3) L (v.toList ++ rest) H1).map fun r => addR r kc ks
                    | none => none
                  else none
          else if isNew i = true then match xN P i a S H with
            | some (S', H', ks) => (exe P n mi (pc + len) L S' H').map fun r => addR r 1 ks
            | none => none
          else match xI P (d.name.name == "<init>") d.cid i a b L S H with
            | some (L', S', H') => exe P n mi (pc + len) L' S' H'
            | none => none
end Jvm.Own
namespace Jvm.Own
open Jvm Jvm.ClassFile Sem Op Lib Jvm.Free Jvm.Stand Jvm.LawKit Jvm.RoadKit Bundle

/-! The words that the machine's program rests on -/
def fWord (C : String) (f : FD) : Jvm.Cond := if f.2.2.2 then .laysFinal C C f.1 f.2.1 else .lays C C f.1 f.2.1
def cWords (cd : CD) : List Jvm.Cond := .instantiable cd.1 cd.2.1 :: .initialized cd.1 :: cd.2.2.map (fWord cd.1)
def mWords (y : MD) : List Jvm.Cond := .code y.name y.bytes y.maxL y.ret :: .initialized y.name.cls ::
  (if y.kind = 0 then [.static y.name] else if y.kind = 1 then [.instanceMethod y.name] else if y.kind = 2 then [.instanceMethod y.name, .privateMethod y.name]
   else [.declares y.name, .selects y.name.cls y.name y.name, .instanceMethod y.name])
def fieldOf (P : PD) (c a : Nat) : Option FD := (P.cls[c]?).bind fun cd => cd.2.2[a]?
def fLink (P : PD) (d : MD) (k a : Nat) : List Jvm.Cond := match fieldOf P d.cid a with | some f => [.fieldLink d.name.cls k d.name.cls f.1 f.2.1] | none => []
def mLink (P : PD) (d : MD) (k a : Nat) (b : Int) : List Jvm.Cond :=
  if b = -1 then [.methodLink d.name.cls k Lib.objectInit, .instanceMethod Lib.objectInit, .code Lib.objectInit ⟨#[0xb1]⟩ 1 none]
  else match P.mth[a]? with | some y => [.methodLink d.name.cls k y.name] | none => []
def iWords (P : PD) (d : MD) (x : Nat × It) : List Jvm.Cond := match x with
  | (_, .getfield k, _, _, a, _) => fLink P d k a
  | (_, .putfield k, _, _, a, _) => fLink P d k a
  | (_, .ldc k, _, _, _, b) => [.constant d.name.cls k (Int32.ofInt b)]
  | (_, .ldc2_w k, _, _, _, b) => [.constantLong d.name.cls k (Int64.ofInt b)]
  | (_, .new k, _, _, a, _) => match P.cls[a]? with | some cd => [.classLink d.name.cls k cd.1] | none => []
  | (_, .newarray t, _, _, _, _) => [.arrayClass (newarray.typeOf t)]
  | (_, .invokestatic k, _, _, a, b) => mLink P d k a b
  | (_, .invokespecial k, _, _, a, b) => mLink P d k a b
  | (_, .invokevirtual k, _, _, a, b) => mLink P d k a b
  | _ => []
def wordsOf (P : PD) : List Jvm.Cond := P.cls.flatMap cWords ++ (P.mth.drop 1).flatMap mWords ++ P.mth.flatMap fun d => d.code.flatMap (iWords P d)
/-! What can be looked up in the program itself -/
def nodup : List String → Bool
  | [] => true
  | x :: r => !r.contains x && nodup r
def fChk (f : FD) : Bool := decide (parseFieldDescriptor f.2.1 = some f.2.2.1) && dfOk f.2.2.1
def cChk (cd : CD) : Bool := nodup (cd.2.2.map fun f => f.1) && cd.2.2.all fChk
def sigChk (y : MD) : Bool := match parseMethodDescriptor y.name.desc with
  | some g => decide (g.parameters.length = y.npar)
  | none => false
def lenOk (i : Instr) (n : Nat) : Bool := match i with
  | .aload _ | .iload _ | .lload _ | .istore _ | .astore _ | .lstore _ | .bipush _ | .ldc _ | .newarray _ => n == 2
  | .iinc _ _ | .sipush _ | .ldc2_w _ | .getfield _ | .putfield _ | .new _ | .goto _ | .if_icmp _ _ | .ifCond _ _ | .ifnonnull _ | .invokestatic _ | .invokespecial _ | .invokevirtual _ => n == 3
  | _ => n == 1
def codeChk (y : MD) : Bool := y.code.all fun x => decide (decode y.bytes x.1 = .ok (x.2.1, x.2.2.1)) && lenOk x.2.1 x.2.2.1
def clsChk (P : PD) (y : MD) : Bool := match P.cls[y.cid]? with | some cd => cd.1 == y.name.cls | none => y.kind == 0
def mChk (P : PD) (y : MD) : Bool := plainName y.name.cls && sigChk y && codeChk y && clsChk P y && decide (y.name.cls ≠ "java/lang/invoke/MethodHandle") && decide (y.name.cls ≠ "java/lang/invoke/VarHandle") && (y.kind != 1 || (y.name.name == "<init>" && decide (y.ret = none)))
def chk (P : PD) : Bool := P.cls.all cChk && P.mth.all (mChk P)

/-! Plain and real values -/
def VR (ρ : List Addr) : Value → Value → Prop
  | .ref k, w => ∃ a, ρ[k]? = some a ∧ w = .ref a
  | v, w => w = v
def SR (ρ : List Addr) : List Value → List Value → Prop
  | [], ws => ws = []
  | v :: vs, ws => ∃ w ws', ws = w :: ws' ∧ VR ρ v w ∧ SR ρ vs ws'
def OV (ρ : List Addr) : Option Value → Option Value → Prop
  | none, w => w = none
  | some v, w => ∃ u, w = some u ∧ VR ρ v u
def WFc (A : Array Slot) : Prop := (∀ (i : Nat) w, A[i]? = some (.val w) → w.category = 2 → A[i + 1]? = some .second) ∧ ∀ (i : Nat), A[i]? = some .second → ∃ j w, i = j + 1 ∧ A[j]? = some (.val w) ∧ w.category = 2
def SlR (ρ : List Addr) : Slot → Option Slot → Prop
  | .unset, _ => True
  | .second, o => o = some .second
  | .val v, o => ∃ w, VR ρ v w ∧ o = some (.val w)
def LR (ρ : List Addr) (L : List Slot) (A : Array Slot) : Prop := A.size = L.length ∧ WFc A ∧ ∀ (i : Nat) s, L[i]? = some s → SlR ρ s A[i]?
theorem VR.mono {ρ t : List Addr} {v w : Value} (h : VR ρ v w) : VR (ρ ++ t) v w := by
  cases v <;> first | exact h | skip
  obtain ⟨a, h1, h2⟩ := h
  exact ⟨a, by rw [List.getElem?_append_left (List.getElem?_eq_some_iff.mp h1).1]; exact h1, h2⟩
theorem SR.mono {ρ t : List Addr} : ∀ {v w : List Value}, SR ρ v w → SR (ρ ++ t) v w
  | [], _, h => h
  | _ :: _, _, ⟨w, ws, h1, h2, h3⟩ => ⟨w, ws, h1, h2.mono, SR.mono h3⟩
theorem SlR.mono {ρ t : List Addr} {s : Slot} {o : Option Slot} (h : SlR ρ s o) : SlR (ρ ++ t) s o := by
  cases s with
  | unset => trivial
  | second => exact h
  | val v => obtain ⟨w, h1, h2⟩ := h; exact ⟨w, h1.mono, h2⟩
theorem LR.mono {ρ t : List Addr} {L : List Slot} {A : Array Slot} (h : LR ρ L A) : LR (ρ ++ t) L A := ⟨h.1, h.2.1, fun i s q => (h.2.2 i s q).mono⟩
theorem VR.cat {ρ : List Addr} {v w : Value} (h : VR ρ v w) : w.category = v.category := by
  cases v <;> first | (obtain ⟨a, -, rfl⟩ := h; rfl) | (cases h; rfl)
theorem SR.cat {ρ : List Addr} : ∀ {v w : List Value}, SR ρ v w → (w.map fun v => v.category).sum = catSum v
  | [], _, h => by cases h; rfl
  | _ :: _, _, ⟨w, ws, h1, h2, h3⟩ => by subst h1; simp [catSum, h2.cat, SR.cat h3]
theorem SR.len {ρ : List Addr} : ∀ {v w : List Value}, SR ρ v w → w.length = v.length
  | [], _, h => by cases h; rfl
  | _ :: _, _, ⟨w, ws, h1, h2, h3⟩ => by subst h1; simp [SR.len h3]
theorem SR.app {ρ : List Addr} : ∀ {v w v' w' : List Value}, SR ρ v w → SR ρ v' w' → SR ρ (v ++ v') (w ++ w')
  | [], _, _, _, h, h' => by cases h; exact h'
  | _ :: _, _, _, _, ⟨w, ws, h1, h2, h3⟩, h' => by subst h1; exact ⟨w, ws ++ _, rfl, h2, SR.app h3 h'⟩
theorem SR.rev {ρ : List Addr} : ∀ {v w : List Value}, SR ρ v w → SR ρ v.reverse w.reverse
  | [], _, h => by cases h; exact rfl
  | _ :: _, _, ⟨w, ws, h1, h2, h3⟩ => by subst h1; simp only [List.reverse_cons]; exact (SR.rev h3).app ⟨w, [], rfl, h2, rfl⟩
theorem SR.take {ρ : List Addr} : ∀ (n : Nat) {v w : List Value}, SR ρ v w → SR ρ (v.take n) (w.take n)
  | 0, _, _, _ => rfl
  | n + 1, [], _, h => by cases h; exact rfl
  | n + 1, _ :: _, _, ⟨w, ws, h1, h2, h3⟩ => by subst h1; exact ⟨w, _, rfl, h2, SR.take n h3⟩
theorem SR.drop {ρ : List Addr} : ∀ (n : Nat) {v w : List Value}, SR ρ v w → SR ρ (v.drop n) (w.drop n)
  | 0, _, _, h => h
  | n + 1, [], _, h => by cases h; exact rfl
  | n + 1, _ :: _, _, ⟨w, ws, h1, h2, h3⟩ => by subst h1; exact SR.drop n h3
theorem OV.list {ρ : List Addr} {v w : Option Value} (h : OV ρ v w) : SR ρ v.toList w.toList := by
  cases v with
  | none => cases h; exact rfl
  | some v => obtain ⟨u, rfl, h⟩ := h; exact ⟨u, [], rfl, h, rfl⟩
theorem LR.get {ρ : List Addr} {L : List Slot} {A : Array Slot} (h : LR ρ L A) {k : Nat} {v : Value} (g : getL L k = some v) : ∃ w, VR ρ v w ∧ A[k]? = some (.val w) := by
  unfold getL at g
  split at g
  · rename_i u q
    cases g
    exact h.2.2 k _ q
  · cases g
theorem forget_get : ∀ (er : List Bool) (L : List Slot) (i : Nat) (s : Slot), (forget er L)[i]? = some s → s = .unset ∨ L[i]? = some s
  | [], L, i, s, h => Or.inr h
  | _ :: _, [], i, s, h => by simp [forget] at h
  | true :: r, t :: L, 0, s, h => by simp [forget] at h; exact Or.inl h.symm
  | false :: r, t :: L, 0, s, h => by simp [forget] at h; exact Or.inr (by simp [h])
  | true :: r, t :: L, i + 1, s, h => by simp [forget] at h; simpa using forget_get r L i s h
  | false :: r, t :: L, i + 1, s, h => by simp [forget] at h; simpa using forget_get r L i s h
theorem forget_len : ∀ (er : List Bool) (L : List Slot), (forget er L).length = L.length
  | [], _ => rfl
  | _ :: _, [] => rfl
  | true :: r, _ :: L => by simp [forget, forget_len r L]
  | false :: r, _ :: L => by simp [forget, forget_len r L]
theorem LR.forget {ρ : List Addr} {A : Array Slot} (er : List Bool) {L : List Slot} (h : LR ρ L A) : LR ρ (forget er L) A :=
  ⟨by rw [forget_len]; exact h.1, h.2.1, fun i s q => by
    rcases forget_get er L i s q with rfl | z
    · trivial
    · exact h.2.2 i s z⟩
/-! Stores -/
theorem setAt_ok {A : Array Slot} {i : Nat} (h : i < A.size) (x : Slot) : setAt A i x = some (A.setIfInBounds i x) := by simp [setAt, h]
theorem get_set (A : Array Slot) (i j : Nat) (x : Slot) : (A.setIfInBounds i x)[j]? = if i = j then (if i < A.size then some x else none) else A[j]? := by
  rw [Array.getElem?_setIfInBounds]
theorem sl_unset {A : Array Slot} {k : Nat} {w : Value} (h : A[k]? = some .unset) : storeLocals A k w = storeSelf A k w := by
  unfold storeLocals; rw [h]; rfl
theorem sl_second {A : Array Slot} {k : Nat} {w : Value} (h : A[k]? = some .second) (hk : k - 1 < A.size) : storeLocals A k w = storeSelf (A.setIfInBounds (k - 1) .unset) k w := by
  unfold storeLocals; rw [h]
  show (setAt A (k - 1) .unset).bind _ = _
  rw [setAt_ok hk]; rfl
theorem sl_val2 {A : Array Slot} {k : Nat} {w u : Value} (h : A[k]? = some (.val u)) (hu : u.category = 2) (hk : k + 1 < A.size) : storeLocals A k w = storeSelf (A.setIfInBounds (k + 1) .unset) k w := by
  unfold storeLocals; rw [h]
  show (if u.category = 2 then (setAt A (k + 1) .unset).bind _ else _) = _
  rw [if_pos hu, setAt_ok hk]; rfl
theorem sl_val1 {A : Array Slot} {k : Nat} {w u : Value} (h : A[k]? = some (.val u)) (hu : ¬ u.category = 2) : storeLocals A k w = storeSelf A k w := by
  unfold storeLocals; rw [h]
  show (if u.category = 2 then (setAt A (k + 1) .unset).bind _ else _) = _
  rw [if_neg hu]
theorem ss_1 {A : Array Slot} {k : Nat} {w : Value} (hk : k < A.size) (hw : ¬ w.category = 2) : storeSelf A k w = some (A.setIfInBounds k (.val w)) := by
  unfold storeSelf; rw [setAt_ok hk]
  show (if w.category = 2 then _ else _) = _
  rw [if_neg hw]
theorem ss_2c {A : Array Slot} {k : Nat} {w u : Value} (hk : k < A.size) (hk1 : k + 1 < A.size) (hk2 : k + 2 < A.size) (hw : w.category = 2) (h : (A.setIfInBounds k (.val w))[k + 1]? = some (.val u)) (hu : u.category = 2) : storeSelf A k w = some (((A.setIfInBounds k (.val w)).setIfInBounds (k + 2) .unset).setIfInBounds (k + 1) .second) := by
  unfold storeSelf; rw [setAt_ok hk]
  show (if w.category = 2 then _ else _) = _
  rw [if_pos hw, h]
  show (if u.category = 2 then (setAt _ (k + 2) .unset).bind _ else _) = _
  rw [if_pos hu, setAt_ok (by simpa using hk2)]
  exact setAt_ok (by simpa using hk1) _
theorem ss_2 {A : Array Slot} {k : Nat} {w : Value} {o : Slot} (hk : k < A.size) (hk1 : k + 1 < A.size) (hw : w.category = 2) (h : (A.setIfInBounds k (.val w))[k + 1]? = some o) (ho : ¬ ∃ u, o = .val u ∧ u.category = 2) : storeSelf A k w = some ((A.setIfInBounds k (.val w)).setIfInBounds (k + 1) .second) := by
  unfold storeSelf; rw [setAt_ok hk]
  show (if w.category = 2 then _ else _) = _
  rw [if_pos hw, h]
  cases o with
  | unset => exact setAt_ok (by simpa using hk1) _
  | second => exact setAt_ok (by simpa using hk1) _
  | val u =>
    show (if u.category = 2 then _ else _) = _
    rw [if_neg fun z => ho ⟨u, rfl, z⟩]
    exact setAt_ok (by simpa using hk1) _
theorem store1_sim {ρ : List Addr} {L : List Slot} {A : Array Slot} (h : LR ρ L A) {k : Nat} {v w : Value} {L' : List Slot} (hs : st1 L k v = some L') (hv : VR ρ v w) (hc : w.category = 1) : ∃ A', storeLocals A k w = some A' ∧ LR ρ L' A' := by
  unfold st1 at hs
  split at hs
  · rename_i q
    cases hs
    simp only [Bool.and_eq_true] at q
    obtain ⟨⟨q1, q2⟩, q3⟩ := q
    obtain ⟨hA, ⟨w1, w2⟩, hl⟩ := h
    have hk : k < L.length := by
      rcases Nat.lt_or_ge k L.length with z | z
      · exact z
      · rw [List.getElem?_eq_none z] at q1; cases q1
    have hkA : k < A.size := hA ▸ hk
    obtain ⟨sl, hsl⟩ : ∃ sl, A[k]? = some sl := ⟨A[k], Array.getElem?_eq_getElem hkA⟩
    have hc2 : ¬ w.category = 2 := by rw [hc]; decide
    classical
    have key : ∃ A', storeLocals A k w = some A' ∧ A'.size = A.size ∧ (∀ j, A'[j]? = if j = k then some (.val w) else if (sl = .second ∧ j + 1 = k) ∨ ((∃ u, sl = .val u ∧ u.category = 2) ∧ j = k + 1) then some .unset else A[j]?) := by
      cases sl with
      | unset =>
        refine ⟨A.setIfInBounds k (.val w), by rw [sl_unset hsl]; exact ss_1 hkA hc2, by simp, fun j => ?_⟩
        rw [get_set]
        by_cases e : k = j
        · subst e; simp [hkA]
        · have e' : ¬ j = k := fun z => e z.symm
          simp [e, e']
      | second =>
        obtain ⟨j0, u, rfl, g1, g2⟩ := w2 k hsl
        refine ⟨(A.setIfInBounds j0 .unset).setIfInBounds (j0 + 1) (.val w), by rw [sl_second hsl (show j0 + 1 - 1 < A.size by omega)]; exact ss_1 (by simpa using hkA) hc2, by simp, fun j => ?_⟩
        rw [get_set, get_set]
        by_cases e : j0 + 1 = j
        · subst e; simp [hkA]
        · by_cases e2 : j0 = j
          · subst e2; simp; omega
          · have e' : ¬ j = j0 + 1 := fun z => e z.symm
            have e2' : ¬ j = j0 := fun z => e2 z.symm
            simp [e, e', e2, e2']
      | val u =>
        by_cases hu : u.category = 2
        · have g := w1 k u hsl hu
          have hk1 : k + 1 < A.size := (Array.getElem?_eq_some_iff.mp g).1
          refine ⟨(A.setIfInBounds (k + 1) .unset).setIfInBounds k (.val w), by rw [sl_val2 hsl hu hk1]; exact ss_1 (by simpa using hkA) hc2, by simp, fun j => ?_⟩
          rw [get_set, get_set]
          by_cases e : k = j
          · subst e; simp [hkA]
          · have e' : ¬ j = k := fun z => e z.symm
            by_cases e2 : k + 1 = j
            · subst e2; simp [hk1, hu]
            · have e2' : ¬ j = k + 1 := fun z => e2 z.symm
              simp [e, e', e2, e2']
        · refine ⟨A.setIfInBounds k (.val w), by rw [sl_val1 hsl hu]; exact ss_1 hkA hc2, by simp, fun j => ?_⟩
          rw [get_set]
          by_cases e : k = j
          · subst e; simp [hkA]
          · have e' : ¬ j = k := fun z => e z.symm
            simp [e, e', hu]
    obtain ⟨A', k1, k2, k3⟩ := key
    refine ⟨A', k1, by rw [k2, hA]; simp, ⟨fun i u g1 g2 => ?_, fun i g1 => ?_⟩, fun i s g => ?_⟩
    · rw [k3] at g1
      split at g1
      · cases g1; exact absurd g2 hc2
      · rename_i e1
        split at g1
        · cases g1
        · rename_i e2
          have g3 := w1 i u g1 g2
          rw [k3]
          split
          · rename_i e3
            have : sl = .second := by rw [← e3] at hsl; exact Option.some.inj (hsl.symm.trans g3)
            exact absurd (Or.inl ⟨this, e3⟩) e2
          · rename_i e3
            split
            · rename_i e4
              rcases e4 with ⟨z1, z2⟩ | ⟨⟨u', z1, z2⟩, z3⟩
              · exfalso
                have : k = i + 1 + 1 := z2.symm
                subst this
                rw [z1] at hsl
                obtain ⟨j0, u0, y1, y2, y3⟩ := w2 _ hsl
                have : j0 = i + 1 := by omega
                subst this
                rw [g3] at y2; cases y2
              · exact absurd (by omega) e1
            · exact g3
    · rw [k3] at g1
      split at g1
      · cases g1
      · rename_i e1
        split at g1
        · cases g1
        · rename_i e2
          obtain ⟨j, u, z1, z2, z3⟩ := w2 i g1
          refine ⟨j, u, z1, ?_, z3⟩
          rw [k3]
          split
          · rename_i e3
            subst e3
            have : sl = .val u := Option.some.inj (hsl.symm.trans z2)
            exact absurd (Or.inr ⟨⟨u, this, z3⟩, z1⟩) e2
          · split
            · rename_i e3 e4
              rcases e4 with ⟨y1, y2⟩ | ⟨⟨u', y1, y2⟩, y3⟩
              · exact absurd (z1.trans y2) e1
              · subst y3
                have g5 := w1 k u' (y1 ▸ hsl) y2
                rw [z2] at g5; cases g5
            · exact z2
    · rw [List.getElem?_set] at g
      split at g
      · rename_i e
        subst e
        cases g
        exact ⟨w, hv, by rw [k3]; simp⟩
      · rename_i e
        have e' : ¬ i = k := fun z => e z.symm
        have g2 := hl i s g
        rw [k3, if_neg e']
        split
        · rename_i e4
          cases s with
          | unset => trivial
          | second =>
            exfalso
            have g2' : A[i]? = some .second := g2
            rcases e4 with ⟨y1, y2⟩ | ⟨⟨u', y1, y2⟩, y3⟩
            · obtain ⟨j0, u0, x1, x2, x3⟩ := w2 k (y1 ▸ hsl)
              have : i = j0 := by omega
              subst this
              rw [x2] at g2'; cases g2'
            · subst y3
              rw [g] at q3
              simp [isSec] at q3
          | val v0 =>
            exfalso
            obtain ⟨w0, x1, x2⟩ := g2
            rcases e4 with ⟨y1, y2⟩ | ⟨⟨u', y1, y2⟩, y3⟩
            · obtain ⟨j0, u0, z1, z2, z3⟩ := w2 k (y1 ▸ hsl)
              have : i = j0 := by omega
              subst this
              have hw0 : w0 = u0 := by rw [x2] at z2; cases z2; rfl
              have hcat : v0.category = 2 := by rw [← x1.cat, hw0]; exact z3
              subst y2
              have : L[i + 1 - 1]? = some (.val v0) := g
              rw [this] at q2
              simp [isC2, hcat] at q2
            · subst y3
              have g5 := w1 k u' (y1 ▸ hsl) y2
              rw [x2] at g5; cases g5
        · exact g2
  · cases hs
end Jvm.Own
namespace Jvm.Own
open Jvm Jvm.ClassFile Sem Op Lib Jvm.Free Jvm.Stand Jvm.LawKit Jvm.RoadKit Bundle
theorem store2_sim {ρ : List Addr} {L : List Slot} {A : Array Slot} (h : LR ρ L A) {k : Nat} {v w : Value} {L' : List Slot} (hs : st2 L k v = some L') (hv : VR ρ v w) (hc : w.category = 2) : ∃ A', storeLocals A k w = some A' ∧ LR ρ L' A' := by
  unfold st2 at hs
  split at hs
  · rename_i q
    cases hs
    simp only [Bool.and_eq_true] at q
    obtain ⟨⟨q1, q2⟩, q3⟩ := q
    obtain ⟨hA, ⟨w1, w2⟩, hl⟩ := h
    have hk1 : k + 1 < L.length := by
      rcases Nat.lt_or_ge (k + 1) L.length with z | z
      · exact z
      · rw [List.getElem?_eq_none z] at q1
        cases h0 : L[k]? with
        | none => rw [h0] at q1; cases q1
        | some s0 => rw [h0] at q1; cases s0 <;> cases q1
    have hk : k < L.length := by omega
    have hkA : k < A.size := hA ▸ hk
    have hkA1 : k + 1 < A.size := hA ▸ hk1
    obtain ⟨sl, hsl⟩ : ∃ sl, A[k]? = some sl := ⟨A[k], Array.getElem?_eq_getElem hkA⟩
    obtain ⟨sm, hsm⟩ : ∃ sm, A[k + 1]? = some sm := ⟨A[k + 1], Array.getElem?_eq_getElem hkA1⟩
    have n1 : ¬ k = k + 1 := by omega
    have n2 : ¬ k + 2 = k + 1 := by omega
    have n3 : ¬ k + 2 = k := by omega
    classical
    have key : ∃ A', storeLocals A k w = some A' ∧ A'.size = A.size ∧ (∀ j, A'[j]? = if j = k then some (.val w) else if j = k + 1 then some .second else if (sl = .second ∧ j + 1 = k) ∨ ((∃ u, sm = .val u ∧ u.category = 2) ∧ j = k + 2) then some .unset else A[j]?) := by
      by_cases hm : ∃ u, sm = .val u ∧ u.category = 2
      · obtain ⟨u, rfl, hu⟩ := hm
        have g := w1 (k + 1) u hsm hu
        have hk2 : k + 2 < A.size := (Array.getElem?_eq_some_iff.mp g).1
        cases sl with
        | unset =>
          refine ⟨((A.setIfInBounds k (.val w)).setIfInBounds (k + 2) .unset).setIfInBounds (k + 1) .second, ?_, by simp, fun j => ?_⟩
          · rw [sl_unset hsl]; exact ss_2c hkA hkA1 hk2 hc (by rw [get_set, if_neg n1]; exact hsm) hu
          · rw [get_set, get_set, get_set]
            by_cases e0 : j = k
            · subst e0; simp [hkA]
            · by_cases e1 : j = k + 1
              · subst e1; simp [hkA1]
              · by_cases e2 : j = k + 2
                · subst e2; simp [hk2, hu]
                · have e0' : ¬ k = j := fun z => e0 z.symm
                  have e1' : ¬ k + 1 = j := fun z => e1 z.symm
                  have e2' : ¬ k + 2 = j := fun z => e2 z.symm
                  simp [e0, e1, e2, e0', e1', e2']
        | second =>
          obtain ⟨j0, u0, rfl, g1, g2⟩ := w2 k hsl
          have hj0 : j0 < A.size := by omega
          refine ⟨(((A.setIfInBounds j0 .unset).setIfInBounds (j0 + 1) (.val w)).setIfInBounds (j0 + 1 + 2) .unset).setIfInBounds (j0 + 1 + 1) .second, ?_, by simp, fun j => ?_⟩
          · have m1 : ¬ j0 + 1 = j0 + 1 + 1 := by omega
            have m2 : ¬ j0 = j0 + 1 + 1 := by omega
            rw [sl_second hsl (show j0 + 1 - 1 < A.size by omega)]
            exact ss_2c (by simpa using hkA) (by simpa using hkA1) (by simpa using hk2) hc (by rw [get_set, if_neg m1, get_set, if_neg (by omega)]; exact hsm) hu
          · rw [get_set, get_set, get_set, get_set]
            by_cases e0 : j = j0 + 1
            · subst e0; simp [hkA]
            · by_cases e1 : j = j0 + 1 + 1
              · subst e1; simp [hkA1]
              · by_cases e2 : j = j0 + 1 + 2
                · subst e2; simp [hk2, hu]
                · by_cases e3 : j = j0
                  · subst e3
                    rw [if_neg (by omega), if_neg (by omega), if_neg (by omega), if_pos rfl, if_pos hj0, if_neg (by omega), if_neg (by omega), if_pos (Or.inl ⟨rfl, rfl⟩)]
                  · have e0' : ¬ j0 + 1 = j := fun z => e0 z.symm
                    have e1' : ¬ j0 + 1 + 1 = j := fun z => e1 z.symm
                    have e2' : ¬ j0 + 1 + 2 = j := fun z => e2 z.symm
                    have e3' : ¬ j0 = j := fun z => e3 z.symm
                    simp [e0, e1, e2, e3, e0', e1', e2', e3']
        | val u1 =>
          have hu1 : ¬ u1.category = 2 := fun z => by have := w1 k u1 hsl z; rw [hsm] at this; cases this
          refine ⟨((A.setIfInBounds k (.val w)).setIfInBounds (k + 2) .unset).setIfInBounds (k + 1) .second, ?_, by simp, fun j => ?_⟩
          · rw [sl_val1 hsl hu1]; exact ss_2c hkA hkA1 hk2 hc (by rw [get_set, if_neg n1]; exact hsm) hu
          · rw [get_set, get_set, get_set]
            by_cases e0 : j = k
            · subst e0; simp [hkA]
            · by_cases e1 : j = k + 1
              · subst e1; simp [hkA1]
              · by_cases e2 : j = k + 2
                · subst e2; simp [hk2, hu]
                · have e0' : ¬ k = j := fun z => e0 z.symm
                  have e1' : ¬ k + 1 = j := fun z => e1 z.symm
                  have e2' : ¬ k + 2 = j := fun z => e2 z.symm
                  simp [e0, e1, e2, e0', e1', e2']
      · cases sl with
        | unset =>
          refine ⟨(A.setIfInBounds k (.val w)).setIfInBounds (k + 1) .second, ?_, by simp, fun j => ?_⟩
          · rw [sl_unset hsl]; exact ss_2 hkA hkA1 hc (by rw [get_set, if_neg n1]; exact hsm) hm
          · rw [get_set, get_set]
            by_cases e0 : j = k
            · subst e0; simp [hkA]
            · by_cases e1 : j = k + 1
              · subst e1; simp [hkA1]
              · have e0' : ¬ k = j := fun z => e0 z.symm
                have e1' : ¬ k + 1 = j := fun z => e1 z.symm
                simp [e0, e1, e0', e1', hm]
        | second =>
          obtain ⟨j0, u0, rfl, g1, g2⟩ := w2 k hsl
          have hj0 : j0 < A.size := by omega
          have m1 : ¬ j0 + 1 = j0 + 1 + 1 := by omega
          have m2 : ¬ j0 = j0 + 1 + 1 := by omega
          refine ⟨((A.setIfInBounds j0 .unset).setIfInBounds (j0 + 1) (.val w)).setIfInBounds (j0 + 1 + 1) .second, ?_, by simp, fun j => ?_⟩
          · rw [sl_second hsl (show j0 + 1 - 1 < A.size by omega)]
            exact ss_2 (by simpa using hkA) (by simpa using hkA1) hc (by rw [get_set, if_neg m1, get_set, if_neg (by omega)]; exact hsm) hm
          · rw [get_set, get_set, get_set]
            by_cases e0 : j = j0 + 1
            · subst e0; simp [hkA]
            · by_cases e1 : j = j0 + 1 + 1
              · subst e1; simp [hkA1]
              · by_cases e3 : j = j0
                · subst e3
                  rw [if_neg (by omega), if_neg (by omega), if_pos rfl, if_pos hj0, if_neg (by omega), if_neg (by omega), if_pos (Or.inl ⟨rfl, rfl⟩)]
                · have e0' : ¬ j0 + 1 = j := fun z => e0 z.symm
                  have e1' : ¬ j0 + 1 + 1 = j := fun z => e1 z.symm
                  have e3' : ¬ j0 = j := fun z => e3 z.symm
                  simp [e0, e1, e3, e0', e1', e3', hm]
        | val u1 =>
          by_cases hu1 : u1.category = 2
          · refine ⟨((A.setIfInBounds (k + 1) .unset).setIfInBounds k (.val w)).setIfInBounds (k + 1) .second, ?_, by simp, fun j => ?_⟩
            · rw [sl_val2 hsl hu1 hkA1]
              exact ss_2 (o := .unset) (by simpa using hkA) (by simpa using hkA1) hc (by rw [get_set, if_neg n1, get_set, if_pos rfl, if_pos hkA1]) (by rintro ⟨u, z, -⟩; cases z)
            · rw [get_set, get_set, get_set]
              by_cases e0 : j = k
              · subst e0; simp [hkA]
              · by_cases e1 : j = k + 1
                · subst e1; simp [hkA1]
                · have e0' : ¬ k = j := fun z => e0 z.symm
                  have e1' : ¬ k + 1 = j := fun z => e1 z.symm
                  simp [e0, e1, e0', e1', hm]
          · refine ⟨(A.setIfInBounds k (.val w)).setIfInBounds (k + 1) .second, ?_, by simp, fun j => ?_⟩
            · rw [sl_val1 hsl hu1]; exact ss_2 hkA hkA1 hc (by rw [get_set, if_neg n1]; exact hsm) hm
            · rw [get_set, get_set]
              by_cases e0 : j = k
              · subst e0; simp [hkA]
              · by_cases e1 : j = k + 1
                · subst e1; simp [hkA1]
                · have e0' : ¬ k = j := fun z => e0 z.symm
                  have e1' : ¬ k + 1 = j := fun z => e1 z.symm
                  simp [e0, e1, e0', e1', hm]
    obtain ⟨A', k1, k2, k3⟩ := key
    refine ⟨A', k1, by rw [k2, hA]; simp, ⟨fun i u g1 g2 => ?_, fun i g1 => ?_⟩, fun i s g => ?_⟩
    · by_cases e1 : i = k
      · subst e1; rw [k3]; simp
      · have g1' := g1
        rw [k3, if_neg e1] at g1'
        split at g1'
        · cases g1'
        · rename_i e2
          split at g1'
          · cases g1'
          · rename_i e4
            have g3 := w1 i u g1' g2
            rw [k3]
            have c1 : ¬ i + 1 = k := fun e3 => by
              have : sl = .second := by rw [← e3] at hsl; exact Option.some.inj (hsl.symm.trans g3)
              exact e4 (Or.inl ⟨this, e3⟩)
            have c2 : ¬ i + 1 = k + 1 := by omega
            have c3 : ¬ ((sl = .second ∧ i + 1 + 1 = k) ∨ ((∃ u, sm = .val u ∧ u.category = 2) ∧ i + 1 = k + 2)) := fun z => by
              rcases z with ⟨z1, z2⟩ | ⟨z1, z2⟩
              · subst z2
                rw [z1] at hsl
                obtain ⟨j0, u0, y1, y2, y3⟩ := w2 _ hsl
                have : j0 = i + 1 := by omega
                subst this
                rw [g3] at y2; cases y2
              · omega
            rw [if_neg c1, if_neg c2, if_neg c3]
            exact g3
    · rw [k3] at g1
      split at g1
      · cases g1
      · rename_i e1
        split at g1
        · rename_i e2
          exact ⟨k, w, e2, by rw [k3]; simp, hc⟩
        · rename_i e2
          split at g1
          · cases g1
          · rename_i e4
            obtain ⟨j, u, z1, z2, z3⟩ := w2 i g1
            refine ⟨j, u, z1, ?_, z3⟩
            rw [k3]
            have c1 : ¬ j = k := by omega
            have c2 : ¬ j = k + 1 := fun e => by
              subst e
              exact e4 (Or.inr ⟨⟨u, Option.some.inj (hsm.symm.trans z2), z3⟩, by omega⟩)
            have c3 : ¬ ((sl = .second ∧ j + 1 = k) ∨ ((∃ u, sm = .val u ∧ u.category = 2) ∧ j = k + 2)) := fun z => by
              rcases z with ⟨y1, y2⟩ | ⟨⟨u', y1, y2⟩, y3⟩
              · exact e1 (z1.trans y2)
              · subst y3
                have g5 := w1 (k + 1) u' (y1 ▸ hsm) y2
                rw [z2] at g5; cases g5
            rw [if_neg c1, if_neg c2, if_neg c3]
            exact z2
    · rw [List.getElem?_set] at g
      split at g
      · rename_i e
        subst e
        have : k + 1 < (L.set k (.val v)).length := by simp [hk1]
        rw [if_pos this] at g
        cases g
        show A'[k + 1]? = some .second
        rw [k3]; simp
      · rename_i e
        have e' : ¬ i = k + 1 := fun z => e z.symm
        rw [List.getElem?_set] at g
        split at g
        · rename_i e0
          subst e0
          cases g
          exact ⟨w, hv, by rw [k3]; simp⟩
        · rename_i e0
          have e0' : ¬ i = k := fun z => e0 z.symm
          have g2 := hl i s g
          rw [k3, if_neg e0', if_neg e']
          split
          · rename_i e4
            cases s with
            | unset => trivial
            | second =>
              exfalso
              have g2' : A[i]? = some .second := g2
              rcases e4 with ⟨y1, y2⟩ | ⟨⟨u', y1, y2⟩, y3⟩
              · obtain ⟨j0, u0, x1, x2, x3⟩ := w2 k (y1 ▸ hsl)
                have : i = j0 := by omega
                subst this
                rw [x2] at g2'; cases g2'
              · subst y3
                rw [g] at q3
                simp [isSec] at q3
            | val v0 =>
              exfalso
              obtain ⟨w0, x1, x2⟩ := g2
              rcases e4 with ⟨y1, y2⟩ | ⟨⟨u', y1, y2⟩, y3⟩
              · obtain ⟨j0, u0, z1, z2, z3⟩ := w2 k (y1 ▸ hsl)
                have : i = j0 := by omega
                subst this
                have hw0 : w0 = u0 := by rw [x2] at z2; cases z2; rfl
                have hcat : v0.category = 2 := by rw [← x1.cat, hw0]; exact z3
                subst y2
                have : L[i + 1 - 1]? = some (.val v0) := g
                rw [this] at q2
                simp [isC2, hcat] at q2
              · subst y3
                have g5 := w1 (k + 1) u' (y1 ▸ hsm) y2
                rw [x2] at g5; cases g5
          · exact g2
  · cases hs
/-! The frame with which a method is entered -/
theorem entA_app (ws : List Value) : ∀ acc : Array Slot, ws.foldl (fun acc v => if v.category = 2 then (acc.push (.val v)).push .second else acc.push (.val v)) acc = acc ++ (entA ws).toArray := by
  induction ws with
  | nil => intro acc; simp [entA]
  | cons v r ih =>
    intro acc
    rw [List.foldl_cons, ih]
    show _ = acc ++ (if v.category = 2 then .val v :: .second :: entA r else .val v :: entA r).toArray
    by_cases h : v.category = 2
    · rw [if_pos h, if_pos h]; simp
    · rw [if_neg h, if_neg h]; simp
theorem argsToLocals_eq (ws : List Value) (n : Nat) : argsToLocals ws.toArray n = (entL ws n).toArray := by
  unfold argsToLocals entL
  have h := entA_app ws #[]
  simp only [List.foldl_toArray', List.size_toArray] at *
  simp [h]
theorem entA_len {ρ : List Addr} : ∀ {v w : List Value}, SR ρ v w → (entA w).length = (entA v).length
  | [], _, h => by cases h; rfl
  | _ :: _, _, ⟨w, ws, h1, h2, h3⟩ => by
    subst h1
    unfold entA
    rw [h2.cat]
    split <;> simp [entA_len h3]
theorem entA_rel {ρ : List Addr} : ∀ {v w : List Value}, SR ρ v w → ∀ (m i : Nat) (s : Slot), (entA v ++ List.replicate m .unset)[i]? = some s → SlR ρ s (entA w ++ List.replicate m .unset)[i]?
  | [], _, h, m, i, s, q => by
    cases h
    simp only [entA, List.nil_append] at q ⊢
    rw [List.getElem?_replicate] at q
    split at q
    · cases q; trivial
    · cases q
  | v :: vs, _, ⟨w, ws, h1, h2, h3⟩, m, i, s, q => by
    subst h1
    unfold entA at q ⊢
    rw [h2.cat]
    split
    · rename_i c
      rw [if_pos c] at q
      match i, q with
      | 0, q => simp at q; subst q; exact ⟨w, h2, by simp⟩
      | 1, q => simp at q; subst q; simp [SlR]
      | i + 2, q => simp at q ⊢; exact entA_rel h3 m i s q
    · rename_i c
      rw [if_neg c] at q
      match i, q with
      | 0, q => simp at q; subst q; exact ⟨w, h2, by simp⟩
      | i + 1, q => simp at q ⊢; exact entA_rel h3 m i s q
theorem entA_wf : ∀ (ws : List Value) (m : Nat), (∀ (i : Nat) w, (entA ws ++ List.replicate m .unset)[i]? = some (.val w) → w.category = 2 → (entA ws ++ List.replicate m .unset)[i + 1]? = some .second) ∧
    ∀ (i : Nat), (entA ws ++ List.replicate m .unset)[i]? = some .second → ∃ j w, i = j + 1 ∧ (entA ws ++ List.replicate m .unset)[j]? = some (.val w) ∧ w.category = 2
  | [], m => by
    constructor
    · intro i w q
      simp only [entA, List.nil_append, List.getElem?_replicate] at q
      split at q <;> cases q
    · intro i q
      simp only [entA, List.nil_append, List.getElem?_replicate] at q
      split at q <;> cases q
  | v :: vs, m => by
    obtain ⟨h1, h2⟩ := entA_wf vs m
    unfold entA
    split
    · rename_i c
      constructor
      · intro i w q
        match i, q with
        | 0, q => intro _; simp
        | 1, q => simp at q
        | i + 2, q => simp at q ⊢; exact h1 i w q
      · intro i q
        match i, q with
        | 0, q => simp at q
        | 1, q => exact ⟨0, v, rfl, by simp, c⟩
        | i + 2, q =>
          simp at q
          obtain ⟨j, w, e, g1, g2⟩ := h2 i q
          exact ⟨j + 2, w, by omega, by simpa using g1, g2⟩
    · rename_i c
      constructor
      · intro i w q
        match i, q with
        | 0, q => intro z; simp at q; subst q; exact absurd z c
        | i + 1, q => simp at q ⊢; exact h1 i w q
      · intro i q
        match i, q with
        | 0, q => simp at q
        | i + 1, q =>
          simp at q
          obtain ⟨j, w, e, g1, g2⟩ := h2 i q
          exact ⟨j + 1, w, by omega, by simpa using g1, g2⟩
theorem LR.enter {ρ : List Addr} {v w : List Value} (h : SR ρ v w) {n : Nat} (hn : (entA v).length ≤ n) : LR ρ (entL v n) (argsToLocals w.toArray n) ∧ (argsToLocals w.toArray n).size = n := by
  rw [argsToLocals_eq]
  have hl := entA_len h
  refine ⟨⟨by simp [entL, hl], ?_, fun i s q => ?_⟩, by simp [entL, hl]; omega⟩
  · obtain ⟨h1, h2⟩ := entA_wf w (n - (entA w).length)
    exact ⟨fun i u q c => by simpa [entL] using h1 i u (by simpa [entL] using q) c, fun i q => by
      obtain ⟨j, u, e, g1, g2⟩ := h2 i (by simpa [entL] using q)
      exact ⟨j, u, e, by simpa [entL] using g1, g2⟩⟩
  · unfold entL at q ⊢
    rw [hl]
    simpa using entA_rel h _ i s q
end Jvm.Own
namespace Jvm.RoadKit
open Sem ClassFile Op Lib Jvm.Stand Jvm.Free Jvm.LawKit
section New
variable {p : Program} {l : Launch} {e : Env} {R : Room} {s : State} {m : MethodId} {args : Array Value} {below : List Frame} {meth : Method} {c : Code} {T : State} {locs : List Loc} {cells slots : Nat}
theorem retI (X : Stand p l e R s m args below meth c T locs cells slots) (hx : p.tables.exec = Jvm.exec) {pc : Nat} {Ls : Array Slot} {z : Int32} {rest : List Value} (hret : meth.sig.returnType = some .int) (hd : decode c.code pc = .ok (.ireturn, 1)) {fs : List Frame}
    (hl : ∀ (f : JFrame) (acts : List Action), f.method = m → f.locked = none → f.entered = [] → (doReturn e (T.setTop f) acts (some (.int z))).1 = T.setFrames fs) : Steps p.tables e below (T.setTop (mkF m pc Ls (.int z :: rest))) (T.setFrames fs) := by
  have hm' : T.vm.method? m = some meth := X.method'
  have hn : narrow .int (.int z) = .int z := rfl
  show Steps p.tables e below (T.setTop { method := m, pc := pc, locals := Ls, stack := _ :: rest, locked := none }) _
  jvm_step X.here [X.here.top, hx, hd, hm', hret, hn]
  first | (intro acts; rw [hl _ acts rfl rfl rfl]) | rw [hl _ _ rfl rfl rfl]
  exact Steps.refl _
end New
end Jvm.RoadKit
namespace Jvm.Own
open Jvm Jvm.ClassFile Sem Op Lib Jvm.Free Jvm.Stand Jvm.LawKit Jvm.RoadKit Bundle
/-! The plain heap and the real one -/
def tyA (b : Bool) : FieldType := if b then .boolean else .int
def CR (P : PD) (Z : State) (h : Heap) (ρ : List Addr) (a : Addr) : ACell → Prop
  | .inl (c, fs) => ∃ cd, P.cls[c]? = some cd ∧ Exa Z h a cd.1 ∧ fs.length = cd.2.2.length ∧ ∀ (i : Nat) v fd, fs[i]? = some v → cd.2.2[i]? = some fd → ∃ w, VR ρ v w ∧ Fld Z h a cd.1 fd.1 fd.2.1 w
  | .inr (.inl (b, L)) => ∃ cl, Arr Z h a cl (tyA b) ∧ cl.slots.size = L.length ∧ L.length < 2 ^ 31 ∧ ∀ (i : Nat) x, L[i]? = some x → cl.slots[i]? = some (.int x)
  | .inr (.inr L) => ∃ cl, Arr Z h a cl .long ∧ cl.slots.size = L.length ∧ L.length < 2 ^ 31 ∧ ∀ (i : Nat) x, L[i]? = some x → cl.slots[i]? = some (.long x)
def HR (P : PD) (Z : State) (n0 : Nat) (h : Heap) (ρ : List Addr) (H : AHeap) : Prop :=
  n0 ≤ h.size ∧ ρ.length = H.length ∧ (∀ (i j : Nat) a, ρ[i]? = some a → ρ[j]? = some a → i = j) ∧ (∀ (k : Nat) a, ρ[k]? = some a → P.nr ≤ k → n0 ≤ a) ∧ ∀ (k : Nat) a c, ρ[k]? = some a → H[k]? = some c → CR P Z h ρ a c
section Heaps
variable {P : PD} {Z : State} {n0 : Nat} {h h' : Heap} {ρ : List Addr} {H : AHeap} {a : Addr} {k : Nat} {a0 : Array Value}
theorem CR.lt {c : ACell} (q : CR P Z h ρ a c) : a < h.size := by
  match c, q with
  | .inl (_, _), q => obtain ⟨cd, -, E, -⟩ := q; exact E.lt
  | .inr (.inl (_, _)), q => obtain ⟨cl, A, -⟩ := q; exact A.lt
  | .inr (.inr _), q => obtain ⟨cl, A, -⟩ := q; exact A.lt
theorem HR.at (q : HR P Z n0 h ρ H) {c : ACell} (hc : H[k]? = some c) : ∃ a, ρ[k]? = some a ∧ CR P Z h ρ a c := by
  obtain ⟨-, q1, -, -, q4⟩ := q
  have hk : k < ρ.length := by rw [q1]; exact (List.getElem?_eq_some_iff.mp hc).1
  exact ⟨ρ[k], List.getElem?_eq_getElem hk, q4 k _ c (List.getElem?_eq_getElem hk) hc⟩
theorem HR.lt (q : HR P Z n0 h ρ H) (hk : ρ[k]? = some a) : a < h.size := by
  obtain ⟨-, q1, -, -, q4⟩ := q
  have hk' : k < H.length := by rw [← q1]; exact (List.getElem?_eq_some_iff.mp hk).1
  exact (q4 k a _ hk (List.getElem?_eq_getElem hk')).lt
theorem CR.grow {t : List Addr} {c : ACell} (E : Ext h h') (q : CR P Z h ρ a c) : CR P Z h' (ρ ++ t) a c := by
  match c, q with
  | .inl (_, _), ⟨cd, q1, q2, q3, q4⟩ => exact ⟨cd, q1, q2.ext E, q3, fun i v fd g1 g2 => by obtain ⟨w, z1, z2⟩ := q4 i v fd g1 g2; exact ⟨w, z1.mono, z2.ext E⟩⟩
  | .inr (.inl (_, _)), ⟨cl, q1, q2⟩ => exact ⟨cl, q1.ext E, q2⟩
  | .inr (.inr _), ⟨cl, q1, q2⟩ => exact ⟨cl, q1.ext E, q2⟩
theorem HR.push {c : ACell} (q : HR P Z n0 h ρ H) (E : Ext h h') (hc : CR P Z h' (ρ ++ [h.size]) h.size c) : HR P Z n0 h' (ρ ++ [h.size]) (H ++ [c]) := by
  have q0 := q
  obtain ⟨q1, q2, q3, q4, q5⟩ := q
  have old : ∀ (i : Nat) b, (ρ ++ [h.size])[i]? = some b → (ρ[i]? = some b ∧ b < h.size) ∨ (i = ρ.length ∧ b = h.size) := fun i b g => by
    rw [List.getElem?_append] at g
    split at g
    · exact Or.inl ⟨g, q0.lt g⟩
    · rename_i z
      right
      have : i - ρ.length = 0 := by
        rcases Nat.eq_zero_or_pos (i - ρ.length) with y | y
        · exact y
        · rw [List.getElem?_eq_none (by simp; omega)] at g; cases g
      rw [this] at g
      simp at g
      exact ⟨by omega, g.symm⟩
  refine ⟨Nat.le_trans q1 E.1, by simp [q2], fun i j b g1 g2 => ?_, fun i b g1 g2 => ?_, fun i b c' g1 g2 => ?_⟩
  · rcases old i b g1 with ⟨y1, y2⟩ | ⟨y1, y2⟩ <;> rcases old j b g2 with ⟨z1, z2⟩ | ⟨z1, z2⟩
    · exact q3 i j b y1 z1
    · exact absurd (z2 ▸ y2) (Nat.lt_irrefl _)
    · exact absurd (y2 ▸ z2) (Nat.lt_irrefl _)
    · rw [y1, z1]
  · rcases old i b g1 with ⟨y1, y2⟩ | ⟨y1, y2⟩
    · exact q4 i b y1 g2
    · rw [y2]; exact q1
  · rcases old i b g1 with ⟨y1, y2⟩ | ⟨y1, y2⟩
    · have hi : i < H.length := by rw [← q2]; exact (List.getElem?_eq_some_iff.mp y1).1
      rw [List.getElem?_append_left hi] at g2
      exact (q5 i b c' y1 g2).grow E
    · subst y1 y2
      rw [q2] at g2
      simp at g2
      subst g2
      exact hc
theorem CR.other {v : Value} {sl : Nat} {b : Addr} {c : ACell} (W : Wr h h' a sl v) (ne : b ≠ a) (q : CR P Z h ρ b c) : CR P Z h' ρ b c := by
  match c, q with
  | .inl (_, _), ⟨cd, q1, q2, q3, q4⟩ => exact ⟨cd, q1, q2.wr W, q3, fun i v fd g1 g2 => by obtain ⟨w, z1, z2⟩ := q4 i v fd g1 g2; exact ⟨w, z1, z2.other W (Or.inl ne)⟩⟩
  | .inr (.inl (_, _)), ⟨cl, q1, q2⟩ => exact ⟨cl, q1.other W ne, q2⟩
  | .inr (.inr _), ⟨cl, q1, q2⟩ => exact ⟨cl, q1.other W ne, q2⟩
theorem HR.set {v : Value} {sl : Nat} {c : ACell} (q : HR P Z n0 h ρ H) (hk : ρ[k]? = some a) (W : Wr h h' a sl v) (hc : CR P Z h' ρ a c) : HR P Z n0 h' ρ (H.set k c) := by
  obtain ⟨q1, q2, q3, q4, q5⟩ := q
  refine ⟨by rw [W.size]; exact q1, by simp [q2], q3, q4, fun i b c' g1 g2 => ?_⟩
  rw [List.getElem?_set] at g2
  split at g2
  · rename_i e
    subst e
    split at g2
    · cases g2
      rw [hk] at g1; cases g1
      exact hc
    · cases g2
  · rename_i e
    exact (q5 i b c' g1 g2).other W fun z => e (q3 k i a hk (z ▸ g1))
theorem nodup_ne : ∀ {l : List String}, nodup l = true → ∀ {i j : Nat} {x y : String}, l[i]? = some x → l[j]? = some y → i ≠ j → x ≠ y
  | [], _, i, j, x, y, h1, _, _ => by simp at h1
  | z :: r, hn, i, j, x, y, h1, h2, ne => by
    simp only [nodup, Bool.and_eq_true, Bool.not_eq_true', List.contains_eq_mem, decide_eq_false_iff_not] at hn
    match i, j, h1, h2, ne with
    | 0, 0, _, _, ne => exact absurd rfl ne
    | 0, j + 1, h1, h2, _ => simp at h1 h2; subst h1; exact fun e => hn.1 (e ▸ List.mem_of_getElem? h2)
    | i + 1, 0, h1, h2, _ => simp at h1 h2; subst h2; exact fun e => hn.1 (e ▸ List.mem_of_getElem? h1)
    | i + 1, j + 1, h1, h2, ne => simp at h1 h2; exact nodup_ne hn.2 h1 h2 (fun e => ne (by rw [e]))
theorem laid_of {C : String} {f : FD} (w : (fWord C f).before a0 Z = true) : Laid Z a0 C C f.1 f.2.1 := by
  unfold fWord at w
  split at w
  · exact Or.inr w
  · exact Or.inl w
theorem HR.putF {c j : Nat} {fs : List Value} {cd : CD} {fd : FD} {v w : Value} (q : HR P Z n0 h ρ H) (hk : ρ[k]? = some a) (hc : H[k]? = some (.inl (c, fs))) (hcd : P.cls[c]? = some cd) (hfd : cd.2.2[j]? = some fd)
    (hck : cChk cd = true) (hl : ∀ f ∈ cd.2.2, (fWord cd.1 f).before a0 Z = true) (W : Wr h h' a (RoadKit.slotOf Z cd.1 fd.1 fd.2.1) w) (hv : VR ρ v w) : HR P Z n0 h' ρ (H.set k (.inl (c, fs.set j v))) := by
  obtain ⟨a', ha, cr⟩ := q.at hc
  rw [hk] at ha; cases ha
  obtain ⟨cd', q1, q2, q3, q4⟩ := cr
  rw [hcd] at q1; cases q1
  refine q.set hk W ⟨cd, hcd, q2.wr W, by simp [q3], fun i v0 fd' g1 g2 => ?_⟩
  simp only [cChk, Bool.and_eq_true, List.all_eq_true] at hck
  obtain ⟨n1, n2⟩ := hck
  by_cases e : j = i
  · subst e
    rw [hfd] at g2; cases g2
    rw [List.getElem?_set] at g1
    split at g1
    · split at g1
      · cases g1
        rename_i z
        obtain ⟨w0, -, F⟩ := q4 j _ fd (List.getElem?_eq_getElem z) hfd
        exact ⟨w, hv, F.same W⟩
      · cases g1
    · rename_i z; exact absurd rfl z
  · rw [List.getElem?_set_ne e] at g1
    obtain ⟨w0, z1, F⟩ := q4 i v0 fd' g1 g2
    refine ⟨w0, z1, F.other W (Or.inr ?_)⟩
    have m1 := List.mem_of_getElem? hfd
    have m2 := List.mem_of_getElem? g2
    have f1 := n2 fd m1
    have f2 := n2 fd' m2
    simp only [fChk, Bool.and_eq_true, decide_eq_true_eq] at f1 f2
    refine slot_ne (laid_of (hl fd' m2)) (laid_of (hl fd m1)) ?_ f2.1 f1.1
    exact nodup_ne n1 (i := i) (j := j) (by simp [g2]) (by simp [hfd]) (fun z => e z.symm)
theorem HR.wrI {b : Bool} {L : List Int32} {i : Nat} {x : Int32} (q : HR P Z n0 h ρ H) (hk : ρ[k]? = some a) (hc : H[k]? = some (.inr (.inl (b, L)))) (W : Wr h h' a i (.int x)) : HR P Z n0 h' ρ (H.set k (.inr (.inl (b, L.set i x)))) := by
  obtain ⟨a', ha, cr⟩ := q.at hc
  rw [hk] at ha; cases ha
  obtain ⟨cl, A, q2, q3, q4⟩ := cr
  have lt : i < cl.slots.size := by
    obtain ⟨cl', z1, -, z3, -⟩ := W
    rw [A.1] at z1; cases z1
    exact z3
  refine q.set hk W ⟨_, A.same W, by simp [sz_set, q2], by simpa using q3, fun j y g => ?_⟩
  rw [List.getElem?_set] at g
  split at g
  · rename_i e
    subst e
    split at g
    · cases g; simp [Cell.setSlot, lt]
    · cases g
  · rename_i e
    have := q4 j y g
    simp [Cell.setSlot, Array.getElem?_setIfInBounds, e, this]
theorem HR.wrJ {L : List Int64} {i : Nat} {x : Int64} (q : HR P Z n0 h ρ H) (hk : ρ[k]? = some a) (hc : H[k]? = some (.inr (.inr L))) (W : Wr h h' a i (.long x)) : HR P Z n0 h' ρ (H.set k (.inr (.inr (L.set i x)))) := by
  obtain ⟨a', ha, cr⟩ := q.at hc
  rw [hk] at ha; cases ha
  obtain ⟨cl, A, q2, q3, q4⟩ := cr
  have lt : i < cl.slots.size := by
    obtain ⟨cl', z1, -, z3, -⟩ := W
    rw [A.1] at z1; cases z1
    exact z3
  refine q.set hk W ⟨_, A.same W, by simp [sz_set, q2], by simpa using q3, fun j y g => ?_⟩
  rw [List.getElem?_set] at g
  split at g
  · rename_i e
    subst e
    split at g
    · cases g; simp [Cell.setSlot, lt]
    · cases g
  · rename_i e
    have := q4 j y g
    simp [Cell.setSlot, Array.getElem?_setIfInBounds, e, this]
end Heaps
theorem SR.int {ρ : List Addr} {x : Int32} {S Sc : List Value} (h : SR ρ (.int x :: S) Sc) : ∃ Sc', Sc = .int x :: Sc' ∧ SR ρ S Sc' := by
  obtain ⟨w, ws, h1, h2, h3⟩ := h
  exact ⟨ws, by rw [h1, show w = .int x from h2], h3⟩
theorem SR.long {ρ : List Addr} {x : Int64} {S Sc : List Value} (h : SR ρ (.long x :: S) Sc) : ∃ Sc', Sc = .long x :: Sc' ∧ SR ρ S Sc' := by
  obtain ⟨w, ws, h1, h2, h3⟩ := h
  exact ⟨ws, by rw [h1, show w = .long x from h2], h3⟩
theorem SR.ref {ρ : List Addr} {x : Nat} {S Sc : List Value} (h : SR ρ (.ref x :: S) Sc) : ∃ a Sc', ρ[x]? = some a ∧ Sc = .ref a :: Sc' ∧ SR ρ S Sc' := by
  obtain ⟨w, ws, h1, ⟨a, h2, h4⟩, h3⟩ := h
  exact ⟨a, ws, h2, by rw [h1, h4], h3⟩
theorem rdA_spec {α : Type} {L : List α} {j : Int32} {x : α} (h : rdA L j = some x) : ¬ j < 0 ∧ L[j.toNatClampNeg]? = some x := by
  unfold rdA at h
  split at h
  · cases h
  · rename_i q; exact ⟨q, h⟩
theorem wrA_spec {α : Type} {L L' : List α} {j : Int32} {x : α} (h : wrA L j x = some L') : ¬ j < 0 ∧ j.toNatClampNeg < L.length ∧ L' = L.set j.toNatClampNeg x := by
  unfold wrA at h
  split at h
  · cases h
  · rename_i q
    split at h
    · rename_i z; cases h; exact ⟨q, z, rfl⟩
    · cases h
end Jvm.Own
namespace Jvm.Own
open Jvm Jvm.ClassFile Sem Op Lib Jvm.Free Jvm.Stand Jvm.LawKit Jvm.RoadKit Bundle
theorem st1_len {L L' : List Slot} {k : Nat} {v : Value} (h : st1 L k v = some L') : L'.length = L.length := by
  unfold st1 at h
  split at h
  · cases h; simp
  · cases h
theorem st2_len {L L' : List Slot} {k : Nat} {v : Value} (h : st2 L k v = some L') : L'.length = L.length := by
  unfold st2 at h
  split at h
  · cases h; simp
  · cases h
theorem lrem_mod (x y : Int64) : x - (x / y) * y = x % y := by
  apply Int64.toInt_inj.mp
  have h1 := Int64.le_toInt (x % y)
  have h2 := Int64.toInt_lt (x % y)
  rw [Int64.toInt_sub, Int64.toInt_mul, Int64.toInt_div, Int.bmod_mul_bmod, Int.sub_bmod_bmod, Int.mul_comm (x.toInt.tdiv y.toInt), ← Int.tmod_def, ← Int64.toInt_mod]
  exact Int.bmod_eq_of_le_mul_two (by omega) (by omega)
theorem putOk_sim {ρ : List Addr} {ty : FieldType} {v w : Value} (h : putOk ty v = true) (hv : VR ρ v w) : narrow ty w = w ∧ fits ty w = true := by
  cases ty <;> cases v <;> first | (simp [putOk] at h; done) | skip
  · cases hv; exact ⟨rfl, rfl⟩
  · cases hv; exact ⟨rfl, rfl⟩
  · rename_i x
    cases hv
    simp only [putOk, Bool.or_eq_true, beq_iff_eq] at h
    rcases h with rfl | rfl
    · exact ⟨rfl, rfl⟩
    · exact ⟨rfl, rfl⟩
  · obtain ⟨a, -, rfl⟩ := hv; exact ⟨rfl, rfl⟩
theorem dflt_sim {ρ : List Addr} {ty : FieldType} (h : dfOk ty = true) : VR ρ (dflt ty) (defaultValue ty) := by
  cases ty <;> first | (simp [dfOk] at h; done) | exact rfl
theorem fieldOf_spec {P : PD} {c a : Nat} {cd : CD} {f : FD} (h1 : P.cls[c]? = some cd) (h2 : cd.2.2[a]? = some f) : fieldOf P c a = some f := by simp [fieldOf, h1, h2]
theorem in_wordsOf {P : PD} {d : MD} {x : Nat × It} {w : Jvm.Cond} (hd : d ∈ P.mth) (hx : x ∈ d.code) (hw : w ∈ iWords P d x) : w ∈ wordsOf P :=
  List.mem_append_right _ (List.mem_flatMap.mpr ⟨d, hd, List.mem_flatMap.mpr ⟨x, hx, hw⟩⟩)
theorem in_wordsC {P : PD} {cd : CD} {w : Jvm.Cond} (hd : cd ∈ P.cls) (hw : w ∈ cWords cd) : w ∈ wordsOf P :=
  List.mem_append_left _ (List.mem_append_left _ (List.mem_flatMap.mpr ⟨cd, hd, hw⟩))
theorem in_wordsM {P : PD} {y : MD} {j : Nat} {w : Jvm.Cond} (hd : P.mth[j]? = some y) (hj : 0 < j) (hw : w ∈ mWords y) : w ∈ wordsOf P := by
  refine List.mem_append_left _ (List.mem_append_right _ (List.mem_flatMap.mpr ⟨y, ?_, hw⟩))
  have : (P.mth.drop 1)[j - 1]? = some y := by rw [List.getElem?_drop]; rw [show 1 + (j - 1) = j by omega]; exact hd
  exact List.mem_of_getElem? this
theorem fWord_in {cd : CD} {f : FD} (h : f ∈ cd.2.2) : fWord cd.1 f ∈ cWords cd := List.mem_cons_of_mem _ (List.mem_cons_of_mem _ (List.mem_map.mpr ⟨f, h, rfl⟩))
theorem cChk_of {P : PD} (hP : chk P = true) {cd : CD} (h : cd ∈ P.cls) : cChk cd = true := by
  simp only [chk, Bool.and_eq_true, List.all_eq_true] at hP
  exact hP.1 cd h
theorem mChk_of {P : PD} (hP : chk P = true) {d : MD} (h : d ∈ P.mth) : mChk P d = true := by
  simp only [chk, Bool.and_eq_true, List.all_eq_true] at hP
  exact hP.2 d h
theorem cid_of {P : PD} (hP : chk P = true) {d : MD} (h : d ∈ P.mth) {cd : CD} (hc : P.cls[d.cid]? = some cd) : cd.1 = d.name.cls := by
  have := mChk_of hP h
  simp only [mChk, Bool.and_eq_true] at this
  have h4 := this.1.1.1.2
  unfold clsChk at h4
  rw [hc] at h4
  simpa using h4
section Step
variable {P : PD} {Z : State} {n0 : Nat} {a0 : Array Value} {l : Launch} {p : Program} {e : Env} {R : Room} {s : State} {m : MethodId} {args : Array Value} {below : List Frame} {meth : Method} {c : Code} {T : State} {locs : List Loc} {cells slots : Nat} {d : MD}
def Nxt (P : PD) (Z : State) (n0 : Nat) (l : Launch) (p : Program) (e : Env) (R : Room) (s : State) (m : MethodId) (args : Array Value) (below : List Frame) (meth : Method) (c : Code) (T : State) (cells slots : Nat) (ρ : List Addr) (g : JFrame) (pc' : Nat) (L L' : List Slot) (S' : List Value) (H1 : AHeap) : Prop :=
  ∃ T' locs' A' Sc', Stand p l e R s m args below meth c T' locs' cells slots ∧ L'.length = L.length ∧ LR ρ L' A' ∧ SR ρ S' Sc' ∧ HR P Z n0 T'.heap ρ H1 ∧ Fr n0 locs' ∧
    ∀ target, Steps p.tables e below (T'.setTop (mkF m pc' A' Sc')) target → Steps p.tables e below (T.setTop g) target
theorem Nxt.pure {ρ : List Addr} {H : AHeap} {g : JFrame} {pc' : Nat} {L L' : List Slot} {S' Sc' : List Value} {A' : Array Slot} (X : Stand p l e R s m args below meth c T locs cells slots) (hl : L'.length = L.length) (hL : LR ρ L' A') (hS : SR ρ S' Sc') (hH : HR P Z n0 T.heap ρ H) (hF : Fr n0 locs)
    (k : ∀ target, Steps p.tables e below (T.setTop (mkF m pc' A' Sc')) target → Steps p.tables e below (T.setTop g) target) : Nxt P Z n0 l p e R s m args below meth c T cells slots ρ g pc' L L' S' H :=
  ⟨T, locs, A', Sc', X, hl, hL, hS, hH, hF, k⟩
theorem Nxt.mem {ρ : List Addr} {H1 : AHeap} {g : JFrame} {pc' : Nat} {L L' : List Slot} {S' Sc' : List Value} {A' : Array Slot} {T' : State} {locs' : List Loc} (X : Stand p l e R s m args below meth c T' locs' cells slots) (hl : L'.length = L.length) (hL : LR ρ L' A') (hS : SR ρ S' Sc') (hH : HR P Z n0 T'.heap ρ H1) (hF : Fr n0 locs')
    (k : ∀ target, Steps p.tables e below (T'.setTop (mkF m pc' A' Sc')) target → Steps p.tables e below (T.setTop g) target) : Nxt P Z n0 l p e R s m args below meth c T cells slots ρ g pc' L L' S' H1 :=
  ⟨T', locs', A', Sc', X, hl, hL, hS, hH, hF, k⟩
set_option maxHeartbeats 4000000 in
theorem stepX (X : Stand p l e R s m args below meth c T locs cells slots) (hx : p.tables.exec = Jvm.exec) (hZ : Z.Warmed39 s.vm) (hown : s.vm.findClass d.name.cls = some m.cls) (hnm : meth.name = d.name.name) (hP : chk P = true) (hW : ∀ w ∈ wordsOf P, w.before a0 Z = true) (hdm : d ∈ P.mth)
    {pc len a : Nat} {er : List Bool} {b : Int} {i : Instr} (hit : (pc, i, len, er, a, b) ∈ d.code) (hd : decode c.code pc = .ok (i, len)) (hlen : lenOk i len = true) {ρ : List Addr} {L L' : List Slot} {S S' Sc : List Value} {H H1 : AHeap} {A : Array Slot}
    (hL : LR ρ L A) (hS : SR ρ S Sc) (hH : HR P Z n0 T.heap ρ H) (hF : Fr n0 locs) (h : xI P (d.name.name == "<init>") d.cid i a b L S H = some (L', S', H1)) :
    Nxt P Z n0 l p e R s m args below meth c T cells slots ρ (mkF m pc A Sc) (pc + len) L L' S' H1 := by
  have hWi : ∀ w ∈ iWords P d (pc, i, len, er, a, b), w.before a0 Z = true := fun w q => hW w (in_wordsOf hdm hit q)
  cases i with
  | aload_n k =>
    obtain rfl : len = 1 := by simpa [lenOk] using hlen
    simp only [xI] at h
    split at h
    · rename_i x q
      cases h
      obtain ⟨w, hv, hg⟩ := hL.get q
      obtain ⟨ad, h1, rfl⟩ := hv
      exact Nxt.pure X rfl hL ⟨_, _, rfl, ⟨ad, h1, rfl⟩, hS⟩ hH hF (fun t z => XS.aloadN (g := mkF m pc A Sc) X.here hx rfl hd hg rfl z)
    · cases h
  | aload k =>
    obtain rfl : len = 2 := by simpa [lenOk] using hlen
    simp only [xI] at h
    split at h
    · rename_i x q
      cases h
      obtain ⟨w, hv, hg⟩ := hL.get q
      obtain ⟨ad, h1, rfl⟩ := hv
      exact Nxt.pure X rfl hL ⟨_, _, rfl, ⟨ad, h1, rfl⟩, hS⟩ hH hF (fun t z => XS.aload (g := mkF m pc A Sc) X.here hx rfl hd hg rfl z)
    · cases h
  | iload_n k =>
    obtain rfl : len = 1 := by simpa [lenOk] using hlen
    simp only [xI] at h
    split at h
    · rename_i x q
      cases h
      obtain ⟨w, hv, hg⟩ := hL.get q
      obtain rfl : w = .int _ := hv
      exact Nxt.pure X rfl hL ⟨_, _, rfl, rfl, hS⟩ hH hF (fun t z => XS.iloadN (g := mkF m pc A Sc) X.here hx rfl hd hg z)
    · cases h
  | iload k =>
    obtain rfl : len = 2 := by simpa [lenOk] using hlen
    simp only [xI] at h
    split at h
    · rename_i x q
      cases h
      obtain ⟨w, hv, hg⟩ := hL.get q
      obtain rfl : w = .int _ := hv
      exact Nxt.pure X rfl hL ⟨_, _, rfl, rfl, hS⟩ hH hF (fun t z => XS.iload (g := mkF m pc A Sc) X.here hx rfl hd hg z)
    · cases h
  | lload_n k =>
    obtain rfl : len = 1 := by simpa [lenOk] using hlen
    simp only [xI] at h
    split at h
    · rename_i x q
      cases h
      obtain ⟨w, hv, hg⟩ := hL.get q
      obtain rfl : w = .long _ := hv
      exact Nxt.pure X rfl hL ⟨_, _, rfl, rfl, hS⟩ hH hF (fun t z => XT.lloadN (g := mkF m pc A Sc) X.here hx rfl hd hg z)
    · cases h
  | lload k =>
    obtain rfl : len = 2 := by simpa [lenOk] using hlen
    simp only [xI] at h
    split at h
    · rename_i x q
      cases h
      obtain ⟨w, hv, hg⟩ := hL.get q
      obtain rfl : w = .long _ := hv
      exact Nxt.pure X rfl hL ⟨_, _, rfl, rfl, hS⟩ hH hF (fun t z => XT.lload (g := mkF m pc A Sc) X.here hx rfl hd hg z)
    · cases h
  | istore_n k =>
    obtain rfl : len = 1 := by simpa [lenOk] using hlen
    simp only [xI] at h
    split at h
    · rename_i x S0
      obtain ⟨L1, q, e1⟩ := Option.map_eq_some_iff.mp h
      cases e1
      obtain ⟨S2, rfl, h2⟩ := hS.int
      obtain ⟨A', z1, z2⟩ := store1_sim hL q (show VR ρ (.int x) (.int x) from rfl) rfl
      exact Nxt.pure X (st1_len q) z2 h2 hH hF (fun t z => XS.istoreN (g := mkF m pc A _) X.here hx rfl hd rfl z1 z)
    · cases h
  | istore k =>
    obtain rfl : len = 2 := by simpa [lenOk] using hlen
    simp only [xI] at h
    split at h
    · rename_i x S0
      obtain ⟨L1, q, e1⟩ := Option.map_eq_some_iff.mp h
      cases e1
      obtain ⟨S2, rfl, h2⟩ := hS.int
      obtain ⟨A', z1, z2⟩ := store1_sim hL q (show VR ρ (.int x) (.int x) from rfl) rfl
      exact Nxt.pure X (st1_len q) z2 h2 hH hF (fun t z => XS.istore (g := mkF m pc A _) X.here hx rfl hd rfl z1 z)
    · cases h
  | astore_n k =>
    obtain rfl : len = 1 := by simpa [lenOk] using hlen
    simp only [xI] at h
    split at h
    · rename_i x S0
      obtain ⟨L1, q, e1⟩ := Option.map_eq_some_iff.mp h
      cases e1
      obtain ⟨ad, S2, h1, rfl, h2⟩ := hS.ref
      obtain ⟨A', z1, z2⟩ := store1_sim hL q (show VR ρ (.ref x) (.ref ad) from ⟨ad, h1, rfl⟩) rfl
      exact Nxt.pure X (st1_len q) z2 h2 hH hF (fun t z => XS.astoreN (g := mkF m pc A _) X.here hx rfl hd rfl rfl z1 z)
    · cases h
  | astore k =>
    obtain rfl : len = 2 := by simpa [lenOk] using hlen
    simp only [xI] at h
    split at h
    · rename_i x S0
      obtain ⟨L1, q, e1⟩ := Option.map_eq_some_iff.mp h
      cases e1
      obtain ⟨ad, S2, h1, rfl, h2⟩ := hS.ref
      obtain ⟨A', z1, z2⟩ := store1_sim hL q (show VR ρ (.ref x) (.ref ad) from ⟨ad, h1, rfl⟩) rfl
      exact Nxt.pure X (st1_len q) z2 h2 hH hF (fun t z => XS.astore (g := mkF m pc A _) X.here hx rfl hd rfl rfl z1 z)
    · cases h
  | lstore_n k =>
    obtain rfl : len = 1 := by simpa [lenOk] using hlen
    simp only [xI] at h
    split at h
    · rename_i x S0
      obtain ⟨L1, q, e1⟩ := Option.map_eq_some_iff.mp h
      cases e1
      obtain ⟨S2, rfl, h2⟩ := hS.long
      obtain ⟨A', z1, z2⟩ := store2_sim hL q (show VR ρ (.long x) (.long x) from rfl) rfl
      exact Nxt.pure X (st2_len q) z2 h2 hH hF (fun t z => XT.lstoreN (g := mkF m pc A _) X.here hx rfl hd rfl z1 z)
    · cases h
  | lstore k =>
    obtain rfl : len = 2 := by simpa [lenOk] using hlen
    simp only [xI] at h
    split at h
    · rename_i x S0
      obtain ⟨L1, q, e1⟩ := Option.map_eq_some_iff.mp h
      cases e1
      obtain ⟨S2, rfl, h2⟩ := hS.long
      obtain ⟨A', z1, z2⟩ := store2_sim hL q (show VR ρ (.long x) (.long x) from rfl) rfl
      exact Nxt.pure X (st2_len q) z2 h2 hH hF (fun t z => XT.lstore (g := mkF m pc A _) X.here hx rfl hd rfl z1 z)
    · cases h
  | iinc k dd =>
    obtain rfl : len = 3 := by simpa [lenOk] using hlen
    simp only [xI] at h
    split at h
    · rename_i x q0
      obtain ⟨L1, q, e1⟩ := Option.map_eq_some_iff.mp h
      cases e1
      obtain ⟨w, hv, hg⟩ := hL.get q0
      obtain rfl : w = .int _ := hv
      obtain ⟨A', z1, z2⟩ := store1_sim hL q (show VR ρ (.int (x + Int32.ofInt dd)) (.int (x + Int32.ofInt dd)) from rfl) rfl
      exact Nxt.pure X (st1_len q) z2 hS hH hF (fun t z => XS.iinc (g := mkF m pc A Sc) X.here hx rfl hd hg z1 z)
    · cases h
  | iconst v =>
    obtain rfl : len = 1 := by simpa [lenOk] using hlen
    simp only [xI] at h
    cases h
    exact Nxt.pure X rfl hL ⟨_, _, rfl, rfl, hS⟩ hH hF (fun t z => XS.iconst (g := mkF m pc A Sc) X.here hx rfl hd z)
  | bipush v =>
    obtain rfl : len = 2 := by simpa [lenOk] using hlen
    simp only [xI] at h
    cases h
    exact Nxt.pure X rfl hL ⟨_, _, rfl, rfl, hS⟩ hH hF (fun t z => XS.bipush (g := mkF m pc A Sc) X.here hx rfl hd z)
  | sipush v =>
    obtain rfl : len = 3 := by simpa [lenOk] using hlen
    simp only [xI] at h
    cases h
    exact Nxt.pure X rfl hL ⟨_, _, rfl, rfl, hS⟩ hH hF (fun t z => XS.sipush (g := mkF m pc A Sc) X.here hx rfl hd z)
  | lconst v =>
    obtain rfl : len = 1 := by simpa [lenOk] using hlen
    simp only [xI] at h
    cases h
    exact Nxt.pure X rfl hL ⟨_, _, rfl, rfl, hS⟩ hH hF (fun t z => XT.lconst (g := mkF m pc A Sc) X.here hx rfl hd z)
  | ldc k =>
    obtain rfl : len = 2 := by simpa [lenOk] using hlen
    simp only [xI] at h
    cases h
    have w1 := hWi (.constant d.name.cls k (Int32.ofInt b)) (List.mem_singleton.mpr rfl)
    exact Nxt.pure X rfl hL ⟨_, _, rfl, rfl, hS⟩ hH hF (fun t z => X.ldcInt hx hown (mvT hZ w1) (g := mkF m pc A Sc) rfl hd t z)
  | ldc2_w k =>
    obtain rfl : len = 3 := by simpa [lenOk] using hlen
    simp only [xI] at h
    cases h
    have w1 := hWi (.constantLong d.name.cls k (Int64.ofInt b)) (List.mem_singleton.mpr rfl)
    exact Nxt.pure X rfl hL ⟨_, _, rfl, rfl, hS⟩ hH hF (fun t z => X.ldc2Long hx hown (mvT hZ w1) (g := mkF m pc A Sc) rfl hd t z)
  | iadd =>
    obtain rfl : len = 1 := by simpa [lenOk] using hlen
    simp only [xI] at h
    split at h
    · rename_i y x S0
      cases h
      obtain ⟨S1, rfl, h1⟩ := hS.int
      obtain ⟨S2, rfl, h2⟩ := h1.int
      exact Nxt.pure X rfl hL ⟨_, _, rfl, rfl, h2⟩ hH hF (fun t z => XS.iadd (g := mkF m pc A _) X.here hx rfl hd rfl z)
    · cases h
  | isub =>
    obtain rfl : len = 1 := by simpa [lenOk] using hlen
    simp only [xI] at h
    split at h
    · rename_i y x S0
      cases h
      obtain ⟨S1, rfl, h1⟩ := hS.int
      obtain ⟨S2, rfl, h2⟩ := h1.int
      exact Nxt.pure X rfl hL ⟨_, _, rfl, rfl, h2⟩ hH hF (fun t z => XS.isub (g := mkF m pc A _) X.here hx rfl hd rfl z)
    · cases h
  | imul =>
    obtain rfl : len = 1 := by simpa [lenOk] using hlen
    simp only [xI] at h
    split at h
    · rename_i y x S0
      cases h
      obtain ⟨S1, rfl, h1⟩ := hS.int
      obtain ⟨S2, rfl, h2⟩ := h1.int
      exact Nxt.pure X rfl hL ⟨_, _, rfl, rfl, h2⟩ hH hF (fun t z => XS.imul (g := mkF m pc A _) X.here hx rfl hd rfl z)
    · cases h
  | iand =>
    obtain rfl : len = 1 := by simpa [lenOk] using hlen
    simp only [xI] at h
    split at h
    · rename_i y x S0
      cases h
      obtain ⟨S1, rfl, h1⟩ := hS.int
      obtain ⟨S2, rfl, h2⟩ := h1.int
      exact Nxt.pure X rfl hL ⟨_, _, rfl, rfl, h2⟩ hH hF (fun t z => XS.iand (g := mkF m pc A _) X.here hx rfl hd rfl z)
    · cases h
  | ior =>
    obtain rfl : len = 1 := by simpa [lenOk] using hlen
    simp only [xI] at h
    split at h
    · rename_i y x S0
      cases h
      obtain ⟨S1, rfl, h1⟩ := hS.int
      obtain ⟨S2, rfl, h2⟩ := h1.int
      exact Nxt.pure X rfl hL ⟨_, _, rfl, rfl, h2⟩ hH hF (fun t z => XT.ior (g := mkF m pc A _) X.here hx rfl hd rfl z)
    · cases h
  | ixor =>
    obtain rfl : len = 1 := by simpa [lenOk] using hlen
    simp only [xI] at h
    split at h
    · rename_i y x S0
      cases h
      obtain ⟨S1, rfl, h1⟩ := hS.int
      obtain ⟨S2, rfl, h2⟩ := h1.int
      exact Nxt.pure X rfl hL ⟨_, _, rfl, rfl, h2⟩ hH hF (fun t z => XT.ixor (g := mkF m pc A _) X.here hx rfl hd rfl z)
    · cases h
  | ishl =>
    obtain rfl : len = 1 := by simpa [lenOk] using hlen
    simp only [xI] at h
    split at h
    · rename_i y x S0
      cases h
      obtain ⟨S1, rfl, h1⟩ := hS.int
      obtain ⟨S2, rfl, h2⟩ := h1.int
      exact Nxt.pure X rfl hL ⟨_, _, rfl, rfl, h2⟩ hH hF (fun t z => XT.ishl (g := mkF m pc A _) X.here hx rfl hd rfl z)
    · cases h
  | ishr =>
    obtain rfl : len = 1 := by simpa [lenOk] using hlen
    simp only [xI] at h
    split at h
    · rename_i y x S0
      cases h
      obtain ⟨S1, rfl, h1⟩ := hS.int
      obtain ⟨S2, rfl, h2⟩ := h1.int
      exact Nxt.pure X rfl hL ⟨_, _, rfl, rfl, h2⟩ hH hF (fun t z => XT.ishr (g := mkF m pc A _) X.here hx rfl hd rfl z)
    · cases h
  | iushr =>
    obtain rfl : len = 1 := by simpa [lenOk] using hlen
    simp only [xI] at h
    split at h
    · rename_i y x S0
      cases h
      obtain ⟨S1, rfl, h1⟩ := hS.int
      obtain ⟨S2, rfl, h2⟩ := h1.int
      exact Nxt.pure X rfl hL ⟨_, _, rfl, rfl, h2⟩ hH hF (fun t z => XT.iushr (g := mkF m pc A _) X.here hx rfl hd rfl z)
    · cases h
  | ladd =>
    obtain rfl : len = 1 := by simpa [lenOk] using hlen
    simp only [xI] at h
    split at h
    · rename_i y x S0
      cases h
      obtain ⟨S1, rfl, h1⟩ := hS.long
      obtain ⟨S2, rfl, h2⟩ := h1.long
      exact Nxt.pure X rfl hL ⟨_, _, rfl, rfl, h2⟩ hH hF (fun t z => XT.ladd (g := mkF m pc A _) X.here hx rfl hd rfl z)
    · cases h
  | lsub =>
    obtain rfl : len = 1 := by simpa [lenOk] using hlen
    simp only [xI] at h
    split at h
    · rename_i y x S0
      cases h
      obtain ⟨S1, rfl, h1⟩ := hS.long
      obtain ⟨S2, rfl, h2⟩ := h1.long
      exact Nxt.pure X rfl hL ⟨_, _, rfl, rfl, h2⟩ hH hF (fun t z => XT.lsub (g := mkF m pc A _) X.here hx rfl hd rfl z)
    · cases h
  | lmul =>
    obtain rfl : len = 1 := by simpa [lenOk] using hlen
    simp only [xI] at h
    split at h
    · rename_i y x S0
      cases h
      obtain ⟨S1, rfl, h1⟩ := hS.long
      obtain ⟨S2, rfl, h2⟩ := h1.long
      exact Nxt.pure X rfl hL ⟨_, _, rfl, rfl, h2⟩ hH hF (fun t z => XT.lmul (g := mkF m pc A _) X.here hx rfl hd rfl z)
    · cases h
  | land =>
    obtain rfl : len = 1 := by simpa [lenOk] using hlen
    simp only [xI] at h
    split at h
    · rename_i y x S0
      cases h
      obtain ⟨S1, rfl, h1⟩ := hS.long
      obtain ⟨S2, rfl, h2⟩ := h1.long
      exact Nxt.pure X rfl hL ⟨_, _, rfl, rfl, h2⟩ hH hF (fun t z => XT.land (g := mkF m pc A _) X.here hx rfl hd rfl z)
    · cases h
  | lor =>
    obtain rfl : len = 1 := by simpa [lenOk] using hlen
    simp only [xI] at h
    split at h
    · rename_i y x S0
      cases h
      obtain ⟨S1, rfl, h1⟩ := hS.long
      obtain ⟨S2, rfl, h2⟩ := h1.long
      exact Nxt.pure X rfl hL ⟨_, _, rfl, rfl, h2⟩ hH hF (fun t z => XT.lor (g := mkF m pc A _) X.here hx rfl hd rfl z)
    · cases h
  | lxor =>
    obtain rfl : len = 1 := by simpa [lenOk] using hlen
    simp only [xI] at h
    split at h
    · rename_i y x S0
      cases h
      obtain ⟨S1, rfl, h1⟩ := hS.long
      obtain ⟨S2, rfl, h2⟩ := h1.long
      exact Nxt.pure X rfl hL ⟨_, _, rfl, rfl, h2⟩ hH hF (fun t z => XT.lxor (g := mkF m pc A _) X.here hx rfl hd rfl z)
    · cases h
  | lcmp =>
    obtain rfl : len = 1 := by simpa [lenOk] using hlen
    simp only [xI] at h
    split at h
    · rename_i y x S0
      cases h
      obtain ⟨S1, rfl, h1⟩ := hS.long
      obtain ⟨S2, rfl, h2⟩ := h1.long
      exact Nxt.pure X rfl hL ⟨_, _, rfl, rfl, h2⟩ hH hF (fun t z => XT.lcmp (g := mkF m pc A _) X.here hx rfl hd rfl z)
    · cases h
  | lshl =>
    obtain rfl : len = 1 := by simpa [lenOk] using hlen
    simp only [xI] at h
    split at h
    · rename_i y x S0
      cases h
      obtain ⟨S1, rfl, h1⟩ := hS.int
      obtain ⟨S2, rfl, h2⟩ := h1.long
      exact Nxt.pure X rfl hL ⟨_, _, rfl, rfl, h2⟩ hH hF (fun t z => XT.lshl (g := mkF m pc A _) X.here hx rfl hd rfl z)
    · cases h
  | lshr =>
    obtain rfl : len = 1 := by simpa [lenOk] using hlen
    simp only [xI] at h
    split at h
    · rename_i y x S0
      cases h
      obtain ⟨S1, rfl, h1⟩ := hS.int
      obtain ⟨S2, rfl, h2⟩ := h1.long
      exact Nxt.pure X rfl hL ⟨_, _, rfl, rfl, h2⟩ hH hF (fun t z => XT.lshr (g := mkF m pc A _) X.here hx rfl hd rfl z)
    · cases h
  | lushr =>
    obtain rfl : len = 1 := by simpa [lenOk] using hlen
    simp only [xI] at h
    split at h
    · rename_i y x S0
      cases h
      obtain ⟨S1, rfl, h1⟩ := hS.int
      obtain ⟨S2, rfl, h2⟩ := h1.long
      exact Nxt.pure X rfl hL ⟨_, _, rfl, rfl, h2⟩ hH hF (fun t z => XT.lushr (g := mkF m pc A _) X.here hx rfl hd rfl z)
    · cases h
  | idiv =>
    obtain rfl : len = 1 := by simpa [lenOk] using hlen
    simp only [xI] at h
    split at h
    · rename_i y x S0
      split at h
      · cases h
      · rename_i hy
        cases h
        obtain ⟨S1, rfl, h1⟩ := hS.int
        obtain ⟨S2, rfl, h2⟩ := h1.int
        exact Nxt.pure X rfl hL ⟨_, _, rfl, rfl, h2⟩ hH hF (fun t z => XS.idiv (g := mkF m pc A _) X.here hx rfl hd rfl hy z)
    · cases h
  | irem =>
    obtain rfl : len = 1 := by simpa [lenOk] using hlen
    simp only [xI] at h
    split at h
    · rename_i y x S0
      split at h
      · cases h
      · rename_i hy
        cases h
        obtain ⟨S1, rfl, h1⟩ := hS.int
        obtain ⟨S2, rfl, h2⟩ := h1.int
        exact Nxt.pure X rfl hL ⟨_, _, rfl, rfl, h2⟩ hH hF (fun t z => iremM (g := mkF m pc A _) X hx rfl hd rfl hy z)
    · cases h
  | ldiv =>
    obtain rfl : len = 1 := by simpa [lenOk] using hlen
    simp only [xI] at h
    split at h
    · rename_i y x S0
      split at h
      · cases h
      · rename_i hy
        cases h
        obtain ⟨S1, rfl, h1⟩ := hS.long
        obtain ⟨S2, rfl, h2⟩ := h1.long
        exact Nxt.pure X rfl hL ⟨_, _, rfl, rfl, h2⟩ hH hF (fun t z => XT.ldiv (g := mkF m pc A _) X.here hx rfl hd rfl hy z)
    · cases h
  | lrem =>
    obtain rfl : len = 1 := by simpa [lenOk] using hlen
    simp only [xI] at h
    split at h
    · rename_i y x S0
      split at h
      · cases h
      · rename_i hy
        cases h
        obtain ⟨S1, rfl, h1⟩ := hS.long
        obtain ⟨S2, rfl, h2⟩ := h1.long
        exact Nxt.pure X rfl hL ⟨_, _, rfl, rfl, h2⟩ hH hF (fun t z => XT.lrem (g := mkF m pc A _) X.here hx rfl hd rfl hy (by rw [lrem_mod]; exact z))
    · cases h
  | i2l =>
    obtain rfl : len = 1 := by simpa [lenOk] using hlen
    simp only [xI] at h
    split at h
    · rename_i x S0
      cases h
      obtain ⟨S1, rfl, h1⟩ := hS.int
      exact Nxt.pure X rfl hL ⟨_, _, rfl, rfl, h1⟩ hH hF (fun t z => XT.i2l (g := mkF m pc A _) X.here hx rfl hd rfl z)
    · cases h
  | l2i =>
    obtain rfl : len = 1 := by simpa [lenOk] using hlen
    simp only [xI] at h
    split at h
    · rename_i x S0
      cases h
      obtain ⟨S1, rfl, h1⟩ := hS.long
      exact Nxt.pure X rfl hL ⟨_, _, rfl, rfl, h1⟩ hH hF (fun t z => XT.l2i (g := mkF m pc A _) X.here hx rfl hd rfl z)
    · cases h
  | dup =>
    obtain rfl : len = 1 := by simpa [lenOk] using hlen
    simp only [xI] at h
    split at h
    · rename_i x S0
      cases h
      obtain ⟨S1, rfl, h1⟩ := hS.int
      exact Nxt.pure X rfl hL ⟨_, _, rfl, rfl, _, _, rfl, rfl, h1⟩ hH hF (fun t z => XS.dup (g := mkF m pc A _) X.here hx rfl hd rfl rfl z)
    · rename_i x S0
      cases h
      obtain ⟨ad, S1, g1, rfl, h1⟩ := hS.ref
      exact Nxt.pure X rfl hL ⟨_, _, rfl, ⟨ad, g1, rfl⟩, _, _, rfl, ⟨ad, g1, rfl⟩, h1⟩ hH hF (fun t z => XS.dup (g := mkF m pc A _) X.here hx rfl hd rfl rfl z)
    · cases h
  | dup2 =>
    obtain rfl : len = 1 := by simpa [lenOk] using hlen
    simp only [xI] at h
    split at h
    · rename_i x y S0
      cases h
      obtain ⟨S1, rfl, h1⟩ := hS.int
      obtain ⟨ad, S2, g1, rfl, h2⟩ := h1.ref
      exact Nxt.pure X rfl hL ⟨_, _, rfl, rfl, _, _, rfl, ⟨ad, g1, rfl⟩, _, _, rfl, rfl, _, _, rfl, ⟨ad, g1, rfl⟩, h2⟩ hH hF (fun t z => XT.dup2 (g := mkF m pc A _) X.here hx rfl hd rfl rfl rfl z)
    · rename_i x S0
      cases h
      obtain ⟨S1, rfl, h1⟩ := hS.long
      exact Nxt.pure X rfl hL ⟨_, _, rfl, rfl, _, _, rfl, rfl, h1⟩ hH hF (fun t z => XT.dup2L (g := mkF m pc A _) X.here hx rfl hd rfl z)
    · cases h
  | pop =>
    obtain rfl : len = 1 := by simpa [lenOk] using hlen
    simp only [xI] at h
    split at h
    · rename_i x S0
      cases h
      obtain ⟨S1, rfl, h1⟩ := hS.int
      exact Nxt.pure X rfl hL h1 hH hF (fun t z => XT.pop (g := mkF m pc A _) X.here hx rfl hd rfl rfl z)
    · cases h
  | getfield k =>
    obtain rfl : len = 3 := by simpa [lenOk] using hlen
    simp only [xI] at h
    split at h
    · rename_i o S0
      obtain ⟨ad, S1, g1, rfl, h1⟩ := hS.ref
      split at h
      · rename_i c0 fs hc0
        split at h
        · rename_i ec
          subst ec
          obtain ⟨ad', g2, cd, q1, q2, q3, q4⟩ := hH.at hc0
          rw [g1] at g2; cases g2
          have hcd := cid_of hP hdm q1
          have core : ∀ v, fs[a]? = some v → ∃ w T2, VR ρ v w ∧ Stand p l e R s m args below meth c T2 locs cells slots ∧ T2.heap = T.heap ∧ ∀ target, Steps p.tables e below (T2.setTop (mkF m (pc + 3) A (w :: S1))) target → Steps p.tables e below (T.setTop (mkF m pc A (.ref ad :: S1))) target := fun v hv => by
            have ha : a < cd.2.2.length := by rw [← q3]; exact (List.getElem?_eq_some_iff.mp hv).1
            obtain ⟨w, hvw, F⟩ := q4 a v _ hv (List.getElem?_eq_getElem ha)
            have w1 := hWi (.fieldLink d.name.cls k d.name.cls cd.2.2[a].1 cd.2.2[a].2.1) (by
              show _ ∈ fLink P d k a
              unfold fLink
              rw [fieldOf_spec q1 (List.getElem?_eq_getElem ha)]
              exact List.mem_singleton.mpr rfl)
            rw [hcd] at F
            obtain ⟨T2, X2, e2, st2⟩ := getF X hx hZ hown (host := "") (Or.inl w1) Via.refl rfl F (g := mkF m pc A (.ref ad :: S1)) rfl rfl hd
            exact ⟨w, T2, hvw, X2, e2, st2⟩
          split at h
          · rename_i x hv
            cases h
            obtain ⟨w, T2, hvw, X2, e2, st2⟩ := core _ hv
            exact Nxt.mem X2 rfl hL ⟨_, _, rfl, hvw, h1⟩ (by rw [e2]; exact hH) hF st2
          · rename_i x hv
            cases h
            obtain ⟨w, T2, hvw, X2, e2, st2⟩ := core _ hv
            exact Nxt.mem X2 rfl hL ⟨_, _, rfl, hvw, h1⟩ (by rw [e2]; exact hH) hF st2
          · rename_i x hv
            cases h
            obtain ⟨w, T2, hvw, X2, e2, st2⟩ := core _ hv
            exact Nxt.mem X2 rfl hL ⟨_, _, rfl, hvw, h1⟩ (by rw [e2]; exact hH) hF st2
          · cases h
        · cases h
      · cases h
    · cases h
  | putfield k =>
    obtain rfl : len = 3 := by simpa [lenOk] using hlen
    simp only [xI] at h
    split at h
    · rename_i v o S0
      obtain ⟨w, Sx, rfl, hvw, hS1⟩ := hS
      obtain ⟨ad, S1, g1, rfl, h1⟩ := hS1.ref
      split at h
      · rename_i c0 fs hc0
        split at h
        · rename_i ec
          obtain ⟨ec, enr⟩ := ec
          subst ec
          split at h
          · rename_i nm ds ty fin hf
            split at h
            · rename_i hok
              cases h
              simp only [Bool.and_eq_true] at hok
              obtain ⟨hok, hfin⟩ := hok
              obtain ⟨ad', g2, cd, q1, q2, q3, q4⟩ := hH.at hc0
              rw [g1] at g2; cases g2
              have hcd := cid_of hP hdm q1
              rw [q1] at hf
              have hf' : cd.2.2[a]? = some (nm, ds, ty, fin) := hf
              have ha : a < fs.length := by rw [q3]; exact (List.getElem?_eq_some_iff.mp hf').1
              obtain ⟨w0, -, F⟩ := q4 a _ _ (List.getElem?_eq_getElem ha) hf'
              have w1 := hWi (.fieldLink d.name.cls k d.name.cls nm ds) (by
                show _ ∈ fLink P d k a
                unfold fLink
                rw [fieldOf_spec q1 hf']
                exact List.mem_singleton.mpr rfl)
              have hcm : cd ∈ P.cls := List.mem_of_getElem? q1
              have w2 := hW _ (in_wordsC hcm (fWord_in (List.mem_of_getElem? hf')))
              have w3 := hW (.instantiable cd.1 cd.2.1) (in_wordsC hcm (List.mem_cons_self ..))
              have hck := cChk_of hP hcm
              have hck' := hck
              simp only [cChk, Bool.and_eq_true, List.all_eq_true] at hck'
              have f1 := hck'.2 _ (List.mem_of_getElem? hf')
              simp only [fChk, Bool.and_eq_true, decide_eq_true_eq] at f1
              obtain ⟨p1, p2⟩ := putOk_sim hok hvw
              have Ly : (Jvm.Cond.lays cd.1 cd.1 nm ds).before a0 Z = true ∨ ((Jvm.Cond.laysFinal cd.1 cd.1 nm ds).before a0 Z = true ∧ d.name.cls = cd.1 ∧ meth.name = "<init>") := by
                unfold fWord at w2
                cases fin with
                | false => exact Or.inl w2
                | true => exact Or.inr ⟨w2, hcd.symm, by rw [hnm]; simpa using hfin⟩
              obtain ⟨T2, h2, X2, e2, W2, st2⟩ := putF X hx hZ hown (host := "") (R0 := d.name.cls) (O := cd.1) (Or.inl w1) (by rw [hcd]; exact Via.refl) rfl F q2 Ly w3 f1.1 p1 p2 (g := mkF m pc A (w :: .ref ad :: S1)) rfl rfl hd
              have hH2 := hH.putF (a0 := a0) g1 hc0 q1 hf' hck (fun f hfm => hW _ (in_wordsC hcm (fWord_in hfm))) W2 hvw
              exact Nxt.mem X2 rfl hL h1 (by rw [e2]; exact hH2) (Fr.snoc X2 hF (hH.2.2.2.1 _ _ g1 enr)) st2
            · cases h
          · cases h
        · cases h
      · cases h
    · cases h
  | iaload =>
    obtain rfl : len = 1 := by simpa [lenOk] using hlen
    simp only [xI] at h
    split at h
    · rename_i j o S0
      obtain ⟨S1, rfl, h1⟩ := hS.int
      obtain ⟨ad, S2, g1, rfl, h2⟩ := h1.ref
      split at h
      · rename_i B hc0
        obtain ⟨x, q, e1⟩ := Option.map_eq_some_iff.mp h
        cases e1
        obtain ⟨hj, hat⟩ := rdA_spec q
        obtain ⟨ad', g2, cl, Ar, z1, z2, z3⟩ := hH.at hc0
        rw [g1] at g2; cases g2
        have hin : ¬ (j < 0 ∨ cl.slots.size ≤ j.toNatClampNeg) := by
          have := (List.getElem?_eq_some_iff.mp hat).1
          rintro (y | y)
          · exact hj y
          · omega
        exact Nxt.pure X rfl hL ⟨_, _, rfl, rfl, h2⟩ hH hF (fun t z => X.iaload hx (j := j) (v := .int x) Ar.1 (State.isArrayOf_alike hZ.alike Ar.2.1) Ar.2.2 hin (z3 _ _ hat) (g := mkF m pc A _) rfl rfl hd t z)
      · cases h
    · cases h
  | baload =>
    obtain rfl : len = 1 := by simpa [lenOk] using hlen
    simp only [xI] at h
    split at h
    · rename_i j o S0
      obtain ⟨S1, rfl, h1⟩ := hS.int
      obtain ⟨ad, S2, g1, rfl, h2⟩ := h1.ref
      split at h
      · rename_i B hc0
        obtain ⟨x, q, e1⟩ := Option.map_eq_some_iff.mp h
        cases e1
        obtain ⟨hj, hat⟩ := rdA_spec q
        obtain ⟨ad', g2, cl, Ar, z1, z2, z3⟩ := hH.at hc0
        rw [g1] at g2; cases g2
        have hin : ¬ (j < 0 ∨ cl.slots.size ≤ j.toNatClampNeg) := by
          have := (List.getElem?_eq_some_iff.mp hat).1
          rintro (y | y)
          · exact hj y
          · omega
        exact Nxt.pure X rfl hL ⟨_, _, rfl, rfl, h2⟩ hH hF (fun t z => X.baloadBooleans hx (j := j) (v := .int x) Ar.1 (State.isArrayOf_alike hZ.alike Ar.2.1) Ar.2.2 hin (z3 _ _ hat) (g := mkF m pc A _) rfl rfl hd t z)
      · cases h
    · cases h
  | laload =>
    obtain rfl : len = 1 := by simpa [lenOk] using hlen
    simp only [xI] at h
    split at h
    · rename_i j o S0
      obtain ⟨S1, rfl, h1⟩ := hS.int
      obtain ⟨ad, S2, g1, rfl, h2⟩ := h1.ref
      split at h
      · rename_i B hc0
        obtain ⟨x, q, e1⟩ := Option.map_eq_some_iff.mp h
        cases e1
        obtain ⟨hj, hat⟩ := rdA_spec q
        obtain ⟨ad', g2, cl, Ar, z1, z2, z3⟩ := hH.at hc0
        rw [g1] at g2; cases g2
        have hin : ¬ (j < 0 ∨ cl.slots.size ≤ j.toNatClampNeg) := by
          have := (List.getElem?_eq_some_iff.mp hat).1
          rintro (y | y)
          · exact hj y
          · omega
        exact Nxt.pure X rfl hL ⟨_, _, rfl, rfl, h2⟩ hH hF (fun t z => X.laload hx (j := j) (v := .long x) Ar.1 (State.isArrayOf_alike hZ.alike Ar.2.1) Ar.2.2 hin (z3 _ _ hat) (g := mkF m pc A _) rfl rfl hd t z)
      · cases h
    · cases h
  | iastore =>
    obtain rfl : len = 1 := by simpa [lenOk] using hlen
    simp only [xI] at h
    split at h
    · rename_i x j o S0
      obtain ⟨S1, rfl, h1⟩ := hS.int
      obtain ⟨S2, rfl, h2⟩ := h1.int
      obtain ⟨ad, S3, g1, rfl, h3⟩ := h2.ref
      split at h
      · rename_i B hc0
        split at h
        · rename_i enr
          obtain ⟨B', q, e1⟩ := Option.map_eq_some_iff.mp h
          cases e1
          obtain ⟨hj, hlt, rfl⟩ := wrA_spec q
          obtain ⟨ad', g2, cl, Ar, z1, z2, z3⟩ := hH.at hc0
          rw [g1] at g2; cases g2
          have hin : ¬ (j < 0 ∨ cl.slots.size ≤ j.toNatClampNeg) := by
            rintro (y | y)
            · exact hj y
            · omega
          obtain ⟨T2, h2', X2, e2, W2, st2⟩ := stI X hx hZ rfl Ar (j := j) (x := x) hin (g := mkF m pc A _) rfl rfl hd
          exact Nxt.mem X2 rfl hL h3 (by rw [e2]; exact hH.wrI g1 hc0 W2) (Fr.snoc X2 hF (hH.2.2.2.1 _ _ g1 enr)) st2
        · cases h
      · cases h
    · cases h
  | bastore =>
    obtain rfl : len = 1 := by simpa [lenOk] using hlen
    simp only [xI] at h
    split at h
    · rename_i x j o S0
      obtain ⟨S1, rfl, h1⟩ := hS.int
      obtain ⟨S2, rfl, h2⟩ := h1.int
      obtain ⟨ad, S3, g1, rfl, h3⟩ := h2.ref
      split at h
      · rename_i B hc0
        split at h
        · rename_i enr
          obtain ⟨B', q, e1⟩ := Option.map_eq_some_iff.mp h
          cases e1
          obtain ⟨hj, hlt, rfl⟩ := wrA_spec q
          obtain ⟨ad', g2, cl, Ar, z1, z2, z3⟩ := hH.at hc0
          rw [g1] at g2; cases g2
          have hin : ¬ (j < 0 ∨ cl.slots.size ≤ j.toNatClampNeg) := by
            rintro (y | y)
            · exact hj y
            · omega
          obtain ⟨T2, h2', X2, e2, W2, st2⟩ := stZ X hx hZ rfl Ar (j := j) (x := x) hin (g := mkF m pc A _) rfl rfl hd
          exact Nxt.mem X2 rfl hL h3 (by rw [e2]; exact hH.wrI g1 hc0 W2) (Fr.snoc X2 hF (hH.2.2.2.1 _ _ g1 enr)) st2
        · cases h
      · cases h
    · cases h
  | lastore =>
    obtain rfl : len = 1 := by simpa [lenOk] using hlen
    simp only [xI] at h
    split at h
    · rename_i x j o S0
      obtain ⟨S1, rfl, h1⟩ := hS.long
      obtain ⟨S2, rfl, h2⟩ := h1.int
      obtain ⟨ad, S3, g1, rfl, h3⟩ := h2.ref
      split at h
      · rename_i B hc0
        split at h
        · rename_i enr
          obtain ⟨B', q, e1⟩ := Option.map_eq_some_iff.mp h
          cases e1
          obtain ⟨hj, hlt, rfl⟩ := wrA_spec q
          obtain ⟨ad', g2, cl, Ar, z1, z2, z3⟩ := hH.at hc0
          rw [g1] at g2; cases g2
          have hin : ¬ (j < 0 ∨ cl.slots.size ≤ j.toNatClampNeg) := by
            rintro (y | y)
            · exact hj y
            · omega
          obtain ⟨T2, h2', X2, e2, W2, st2⟩ := stJ X hx hZ rfl Ar (j := j) (x := x) hin (g := mkF m pc A _) rfl rfl hd
          exact Nxt.mem X2 rfl hL h3 (by rw [e2]; exact hH.wrJ g1 hc0 W2) (Fr.snoc X2 hF (hH.2.2.2.1 _ _ g1 enr)) st2
        · cases h
      · cases h
    · cases h
  | arraylength =>
    obtain rfl : len = 1 := by simpa [lenOk] using hlen
    simp only [xI] at h
    split at h
    · rename_i o S0
      obtain ⟨ad, S1, g1, rfl, h1⟩ := hS.ref
      split at h
      · rename_i bb B hc0
        cases h
        obtain ⟨ad', g2, cl, Ar, z1, z2, z3⟩ := hH.at hc0
        rw [g1] at g2; cases g2
        exact Nxt.pure X rfl hL ⟨_, _, rfl, rfl, h1⟩ hH hF (fun t z => X.arraylength hx (cell := cl) Ar.1 (State.isArrayOf_alike hZ.alike Ar.2.1) (g := mkF m pc A _) rfl rfl hd t (by rw [z1]; exact z))
      · cases h
    · cases h
  | _ => simp [xI] at h
set_option maxHeartbeats 4000000 in
theorem stepN (X : Stand p l e R s m args below meth c T locs cells slots) (hx : p.tables.exec = Jvm.exec) (hZ : Z.Warmed39 s.vm) (hown : s.vm.findClass d.name.cls = some m.cls) (hP : chk P = true) (hW : ∀ w ∈ wordsOf P, w.before a0 Z = true) (hdm : d ∈ P.mth)
    {pc len a ks : Nat} {er : List Bool} {b : Int} {i : Instr} (hit : (pc, i, len, er, a, b) ∈ d.code) (hd : decode c.code pc = .ok (i, len)) (hlen : lenOk i len = true) {ρ : List Addr} {S S' Sc : List Value} {H H1 : AHeap} {A : Array Slot}
    (hS : SR ρ S Sc) (hH : HR P Z n0 T.heap ρ H) (h : xN P i a S H = some (S', H1, ks)) (hc : cells + 1 ≤ R.cells) (hl : slots + ks ≤ R.slots) :
    ∃ T' ad Sc', Stand p l e R s m args below meth c T' locs (cells + 1) (slots + ks) ∧ SR (ρ ++ [ad]) S' Sc' ∧ HR P Z n0 T'.heap (ρ ++ [ad]) H1 ∧
      ∀ target, Steps p.tables e below (T'.setTop (mkF m (pc + len) A Sc')) target → Steps p.tables e below (T.setTop (mkF m pc A Sc)) target := by
  have hWi : ∀ w ∈ iWords P d (pc, i, len, er, a, b), w.before a0 Z = true := fun w q => hW w (in_wordsOf hdm hit q)
  cases i with
  | new k =>
    obtain rfl : len = 3 := by simpa [lenOk] using hlen
    simp only [xN] at h
    split at h
    · rename_i cd q1
      cases h
      have hcm : cd ∈ P.cls := List.mem_of_getElem? q1
      have w1 := hWi (.classLink d.name.cls k cd.1) (by simp only [iWords, q1]; exact List.mem_singleton.mpr rfl)
      have w2 := hW (.instantiable cd.1 cd.2.1) (in_wordsC hcm (List.mem_cons_self ..))
      have w3 := hW (.initialized cd.1) (in_wordsC hcm (List.mem_cons_of_mem _ (List.mem_cons_self ..)))
      obtain ⟨T2, h2, X2, e2, E2, A2, D2, -, st2⟩ := newO X hx hZ hown w1 w2 w3 rfl (g := mkF m pc A Sc) rfl hd hc hl
      have hck := cChk_of hP hcm
      simp only [cChk, Bool.and_eq_true, List.all_eq_true] at hck
      have hcr : CR P Z h2 (ρ ++ [T.heap.size]) T.heap.size (.inl (a, cd.2.2.map fun f => dflt f.2.2.1)) := by
        refine ⟨cd, q1, A2, by simp, fun j v fd y1 y2 => ?_⟩
        rw [List.getElem?_map, y2] at y1
        cases y1
        have f1 := hck.2 _ (List.mem_of_getElem? y2)
        simp only [fChk, Bool.and_eq_true, decide_eq_true_eq] at f1
        exact ⟨_, dflt_sim f1.2, D2 (laid_of (hW _ (in_wordsC hcm (fWord_in (List.mem_of_getElem? y2))))) f1.1⟩
      refine ⟨T2, T.heap.size, _, X2, ⟨_, _, rfl, ⟨T.heap.size, ?_, rfl⟩, hS.mono⟩, (by rw [e2]; exact hH.push E2 hcr), st2⟩
      rw [← hH.2.1]; simp
    · cases h
  | newarray t =>
    obtain rfl : len = 2 := by simpa [lenOk] using hlen
    simp only [xN] at h
    split at h
    · rename_i n S0
      obtain ⟨S1, rfl, h1⟩ := hS.int
      split at h
      · cases h
      · rename_i hn
        have hn1 : ¬ n < 0 := fun z => hn (Or.inl z)
        have hn2 : n.toNatClampNeg ≤ 100000 := Nat.le_of_not_lt fun z => hn (Or.inr z)
        have w1 := hWi (.arrayClass (newarray.typeOf t)) (List.mem_singleton.mpr rfl)
        have top : (ρ ++ [T.heap.size])[H.length]? = some T.heap.size := by rw [← hH.2.1]; simp
        split at h
        · cases h
          obtain ⟨T2, h2, cA, X2, e2, E2, A2, st2⟩ := newP X hx hZ w1 rfl (g := mkF m pc A _) rfl hd rfl hn1 (cap := n.toNatClampNeg) (Nat.le_refl _) (by omega) hc hl
          have hcr : CR P Z h2 (ρ ++ [T.heap.size]) T.heap.size ((.inr (.inl (false, List.replicate n.toNatClampNeg 0)) : ACell)) := by
            refine ⟨_, A2, by simp [sz_new], by simp; omega, fun j x y => ?_⟩
            rw [List.getElem?_replicate] at y
            split at y
            · rename_i lt
              cases y
              simp [newA, lt, newarray.typeOf, defaultValue]
            · cases y
          exact ⟨T2, T.heap.size, _, X2, ⟨_, _, rfl, ⟨T.heap.size, top, rfl⟩, h1.mono⟩, (by rw [e2]; exact hH.push E2 hcr), st2⟩
        · cases h
          obtain ⟨T2, h2, cA, X2, e2, E2, A2, st2⟩ := newP X hx hZ w1 rfl (g := mkF m pc A _) rfl hd rfl hn1 (cap := n.toNatClampNeg) (Nat.le_refl _) (by omega) hc hl
          have hcr : CR P Z h2 (ρ ++ [T.heap.size]) T.heap.size ((.inr (.inl (true, List.replicate n.toNatClampNeg 0)) : ACell)) := by
            refine ⟨_, A2, by simp [sz_new], by simp; omega, fun j x y => ?_⟩
            rw [List.getElem?_replicate] at y
            split at y
            · rename_i lt
              cases y
              simp [newA, lt, newarray.typeOf, defaultValue]
            · cases y
          exact ⟨T2, T.heap.size, _, X2, ⟨_, _, rfl, ⟨T.heap.size, top, rfl⟩, h1.mono⟩, (by rw [e2]; exact hH.push E2 hcr), st2⟩
        · cases h
          obtain ⟨T2, h2, cA, X2, e2, E2, A2, st2⟩ := newP X hx hZ w1 rfl (g := mkF m pc A _) rfl hd rfl hn1 (cap := n.toNatClampNeg) (Nat.le_refl _) (by omega) hc hl
          have hcr : CR P Z h2 (ρ ++ [T.heap.size]) T.heap.size ((.inr (.inr (List.replicate n.toNatClampNeg 0)) : ACell)) := by
            refine ⟨_, A2, by simp [sz_new], by simp; omega, fun j x y => ?_⟩
            rw [List.getElem?_replicate] at y
            split at y
            · rename_i lt
              cases y
              simp [newA, lt, newarray.typeOf, defaultValue]
            · cases y
          exact ⟨T2, T.heap.size, _, X2, ⟨_, _, rfl, ⟨T.heap.size, top, rfl⟩, h1.mono⟩, (by rw [e2]; exact hH.push E2 hcr), st2⟩
        · cases h
    · cases h
  | _ => simp [xN] at h
end Step
end Jvm.Own
namespace Jvm.Own
open Jvm Jvm.ClassFile Sem Op Lib Jvm.Free Jvm.Stand Jvm.LawKit Jvm.RoadKit Bundle
theorem fetch_mem : ∀ {l : List (Nat × It)} {pc : Nat} {i : It}, fetch l pc = some i → (pc, i) ∈ l
  | [], _, _, h => by simp [fetch] at h
  | (q, j) :: r, pc, i, h => by
    unfold fetch at h
    split at h
    · rename_i e; cases h; subst e; exact List.mem_cons_self ..
    · exact List.mem_cons_of_mem _ (fetch_mem h)
theorem tgt_spec {pc q : Nat} {o : Int} (h : tgt pc o = some q) : 0 ≤ (pc : Int) + o ∧ ((pc : Int) + o).toNat = q := by
  unfold tgt at h
  split at h
  · rename_i z; cases h; exact ⟨z, rfl⟩
  · cases h
/-- the end of a method's run -/
def Done (P : PD) (Z : State) (n0 : Nat) (p : Program) (e : Env) (below : List Frame) (s : State) (ρ : List Addr) (v : Option Value) (H' : AHeap) (kc ks : Nat) (t0 : State) : Prop :=
  ∃ s₂ v' L' t, Steps p.tables e below t0 s₂ ∧ s₂.status = .running ∧ Ended s₂ below (.returned v') ∧ OV (ρ ++ t) v v' ∧ HR P Z n0 s₂.heap (ρ ++ t) H' ∧ Fr n0 L' ∧ FrameEnd s (.returned v') s₂ L' kc ks
def Cx (P : PD) (Z : State) (p : Program) (R : Room) (s : State) (m : MethodId) (meth : Method) (c : Code) (d : MD) : Prop :=
  p.tables.exec = Jvm.exec ∧ Z.Warmed39 s.vm ∧ c.code = d.bytes ∧ c.maxLocals = d.maxL ∧ s.vm.findClass d.name.cls = some m.cls ∧ meth.name = d.name.name ∧ meth.sig.returnType = d.ret ∧ meth.locks = false ∧ d.rf ≤ R.frames ∧ d.rw ≤ R.locals
/-- what the machine says of a run that has come to pc is what the model does -/
def Says (P : PD) (Z : State) (n0 : Nat) (l : Launch) (n : Nat) : Prop :=
  ∀ (mi pc : Nat) (L : List Slot) (S : List Value) (H : AHeap) (v : Option Value) (H' : AHeap) (kc ks : Nat), exe P n mi pc L S H = some (v, H', kc, ks) → ∀ d, P.mth[mi]? = some d →
    ∀ (p : Program) (e : Env) (R : Room) (s : State) (m : MethodId) (args : Array Value) (below : List Frame) (meth : Method) (c : Code) (T : State) (locs : List Loc) (cells slots : Nat),
      Stand p l e R s m args below meth c T locs cells slots → Cx P Z p R s m meth c d → cells + kc ≤ R.cells → slots + ks ≤ R.slots →
      ∀ (ρ : List Addr) (A : Array Slot) (Sc : List Value), LR ρ L A → L.length = d.maxL → SR ρ S Sc → HR P Z n0 T.heap ρ H → Fr n0 locs →
        Done P Z n0 p e below s ρ v H' (cells + kc) (slots + ks) (T.setTop (mkF m pc A Sc))
def QQ (P : PD) (Z : State) (n0 : Nat) (ρ : List Addr) (v : Option Value) (H1 : AHeap) (v' : Option Value) (h' : Heap) (L : List Loc) : Prop := Fr n0 L ∧ ∃ t, OV (ρ ++ t) v v' ∧ HR P Z n0 h' (ρ ++ t) H1
theorem met_of {P : PD} {Z : State} {n0 : Nat} {l : Launch} {n : Nat} (ih : Says P Z n0 l n) {j : Nat} {y : MD} (hy : P.mth[j]? = some y) (hpn : plainName y.name.cls = true) {as ws : List Value} {H H1 : AHeap} {v : Option Value} {kc ks : Nat} (he : exe P n j 0 (entL as y.maxL) [] H = some (v, H1, kc, ks)) {ρ : List Addr} (hS : SR ρ as ws) (hlen : (entA as).length ≤ y.maxL) {h : Heap} (hH : HR P Z n0 h ρ H) (w0 : List Jvm.Cond) (rm : Room) (r1 : y.rf ≤ rm.frames) (r2 : y.rw ≤ rm.locals) (r3 : kc ≤ rm.cells) (r4 : ks ≤ rm.slots) :
    MetFree l y.name (head1 (Jvm.Cond.code y.name y.bytes y.maxL y.ret :: w0) rm) (fun a U => a = ws.toArray ∧ Z.Warmed39 U.vm ∧ U.heap = h) (fun _ _ _ _ _ => True)
      (fun _ U o U' => ∃ v' L, o = .returned v' ∧ QQ P Z n0 ρ v H1 v' U'.heap L ∧ FrameEnd U o U' L kc ks) := by
  refine MetFree.of_bodySF (plainFor_of_name hpn) hisR ?_
  intro p e s m args below meth c s₁ Bd hml0 hP hK
  obtain ⟨rfl, hZ, hh⟩ := hP
  have X0 : Stand p l e rm s m ws.toArray below meth c s₁ [] 0 0 := Stand.of_body Bd
  have e0 : s₁.heap = h := by rw [← hh, Bd.state]; rfl
  obtain ⟨hL, hsz⟩ := LR.enter hS hlen
  have hLl : (entL as y.maxL).length = y.maxL := by rw [← hL.1]; exact hsz
  obtain ⟨s₂, v', L', t, h1, h2, h3, h4, h5, h6, h7⟩ := ih j 0 _ [] H v H1 kc ks he y hy p e _ s m ws.toArray below meth c s₁ [] 0 0 X0
    ⟨Bd.exec, hZ, Bd.bytes, hml0, findClass_of_methodNamed Bd.named, (name_of_methodNamed Bd.named Bd.method).1, Bd.returns, BodyLoose.notSynchronized Bd, r1, r2⟩
    (by rw [Nat.zero_add]; exact r3) (by rw [Nat.zero_add]; exact r4) ρ _ [] hL hLl rfl (by rw [e0]; exact hH) (Fr.nil n0)
  refine ⟨s₂, _, h1, h2, h3, v', L', rfl, ⟨h6, t, h4, h5⟩, ?_⟩
  rw [Nat.zero_add, Nat.zero_add] at h7
  exact h7
section Sound
variable {P : PD} {Z : State} {n0 : Nat} {a0 : Array Value} {l : Launch}
theorem Done.step {p : Program} {e : Env} {below : List Frame} {s : State} {ρ t : List Addr} {v : Option Value} {H' : AHeap} {kc ks : Nat} {t0 t1 : State} (h : Done P Z n0 p e below s (ρ ++ t) v H' kc ks t1) (k : ∀ target, Steps p.tables e below t1 target → Steps p.tables e below t0 target) : Done P Z n0 p e below s ρ v H' kc ks t0 := by
  obtain ⟨s₂, v', L', t', h1, h2, h3, h4, h5, h6, h7⟩ := h
  exact ⟨s₂, v', L', t ++ t', k _ h1, h2, h3, by rw [← List.append_assoc]; exact h4, by rw [← List.append_assoc]; exact h5, h6, h7⟩
theorem argsOf_spec {n : Nat} {S as rest : List Value} (h : argsOf n S = some (as, rest)) : n ≤ S.length ∧ as = (S.take n).reverse ∧ rest = S.drop n := by
  unfold argsOf at h
  split at h
  · rename_i z; cases h; exact ⟨z, rfl, rfl⟩
  · cases h
theorem res_ext {α : Type} {o : Option Res} {v : Option Value} {H' : AHeap} {kc ks c1 s1 : Nat} (h : (o.map fun r => addR r c1 s1) = some (v, H', kc, ks)) : ∃ kc' ks', o = some (v, H', kc', ks') ∧ kc = kc' + c1 ∧ ks = ks' + s1 := by
  obtain ⟨⟨v0, H0, c0, s0⟩, h1, h2⟩ := Option.map_eq_some_iff.mp h
  simp only [addR] at h2
  cases h2
  exact ⟨c0, s0, h1, rfl, rfl⟩
set_option maxHeartbeats 4000000 in
theorem sound (hP : chk P = true) (hW : ∀ w ∈ wordsOf P, w.before a0 Z = true) : ∀ n, Says P Z n0 l n
  | 0 => fun mi pc L S H v H' kc ks h => by simp [exe] at h
  | n + 1 => by
    have ih := sound hP hW n
    intro mi pc L S H v H' kc ks h d hmi
    unfold exe at h
    rw [hmi] at h
    simp only at h
    have hdm : d ∈ P.mth := List.mem_of_getElem? hmi
    split at h
    · cases h
    rename_i it i len er a b hft
    have hit := fetch_mem hft
    have hmc := mChk_of hP hdm
    simp only [mChk, Bool.and_eq_true] at hmc
    obtain ⟨⟨⟨⟨⟨⟨mc1, mc2⟩, mc3⟩, mc4⟩, mc5⟩, mc6⟩, mc7⟩ := hmc
    unfold codeChk at mc3
    rw [List.all_eq_true] at mc3
    have hci := mc3 _ hit
    simp only [Bool.and_eq_true, decide_eq_true_eq] at hci
    obtain ⟨hdec, hlenOk⟩ := hci
    -- a jump, or a fall through
    have jump : ∀ (q : Nat) (S1 : List Value) (h1 : exe P n mi q (forget er L) S1 H = some (v, H', kc, ks)),
        (∀ (p : Program) (e : Env) (R : Room) (s : State) (m : MethodId) (args : Array Value) (below : List Frame) (meth : Method) (c : Code) (T : State) (locs : List Loc) (cells slots : Nat),
          Stand p l e R s m args below meth c T locs cells slots → Cx P Z p R s m meth c d → ∀ (ρ : List Addr) (A : Array Slot) (Sc : List Value), LR ρ L A → SR ρ S Sc → ∃ Sc1, SR ρ S1 Sc1 ∧ ∀ target, Steps p.tables e below (T.setTop (mkF m q A Sc1)) target → Steps p.tables e below (T.setTop (mkF m pc A Sc)) target) →
        ∀ (p : Program) (e : Env) (R : Room) (s : State) (m : MethodId) (args : Array Value) (below : List Frame) (meth : Method) (c : Code) (T : State) (locs : List Loc) (cells slots : Nat),
          Stand p l e R s m args below meth c T locs cells slots → Cx P Z p R s m meth c d → cells + kc ≤ R.cells → slots + ks ≤ R.slots →
          ∀ (ρ : List Addr) (A : Array Slot) (Sc : List Value), LR ρ L A → L.length = d.maxL → SR ρ S Sc → HR P Z n0 T.heap ρ H → Fr n0 locs →
            Done P Z n0 p e below s ρ v H' (cells + kc) (slots + ks) (T.setTop (mkF m pc A Sc)) := by
      intro q S1 h1 st p e R s m args below meth c T locs cells slots X cx k1 k2 ρ A Sc hL hLl hS hH hF
      obtain ⟨Sc1, hS1, st1⟩ := st p e R s m args below meth c T locs cells slots X cx ρ A Sc hL hS
      have := ih mi q _ S1 H v H' kc ks h1 d hmi p e R s m args below meth c T locs cells slots X cx k1 k2 ρ A Sc1 (hL.forget er) (by rw [forget_len]; exact hLl) hS1 hH hF
      exact Done.step (t := []) (by rw [List.append_nil]; exact this) st1
    have dec : ∀ {c : Code}, c.code = d.bytes → decode c.code pc = .ok (i, len) := fun hc => by rw [hc]; exact hdec
    split at h
    · -- goto
      rename_i o
      split at h
      · rename_i q hq
        obtain ⟨t1, t2⟩ := tgt_spec hq
        have m3 := jump q S h
        obtain rfl : len = 3 := by simpa [lenOk] using hlenOk
        exact m3 fun p e R s m args below meth c T locs cells slots X cx ρ A Sc hL hS => ⟨Sc, hS, fun t z => XS.goto (g := mkF m pc A Sc) X.here cx.1 rfl (pc0 := pc) (pc' := q) rfl (dec cx.2.2.1) t1 t2 z⟩
      · cases h
    · -- if_icmp
      rename_i cd o
      split at h
      · rename_i y x S1
        obtain rfl : len = 3 := by simpa [lenOk] using hlenOk
        split at h
        · rename_i hc
          split at h
          · rename_i q hq
            obtain ⟨t1, t2⟩ := tgt_spec hq
            have m3 := jump q S1 h
            exact m3 fun p e R s m args below meth c T locs cells slots X cx ρ A Sc hL hS => by
              obtain ⟨Sa, rfl, ha⟩ := hS.int
              obtain ⟨Sb, rfl, hb⟩ := ha.int
              exact ⟨Sb, hb, fun t z => XS.icmpYes (g := mkF m pc A _) X.here cx.1 rfl (pc0 := pc) (pc' := q) rfl (dec cx.2.2.1) rfl hc t1 t2 z⟩
          · cases h
        · rename_i hc
          have m3 := jump (pc + 3) S1 h
          exact m3 fun p e R s m args below meth c T locs cells slots X cx ρ A Sc hL hS => by
            obtain ⟨Sa, rfl, ha⟩ := hS.int
            obtain ⟨Sb, rfl, hb⟩ := ha.int
            exact ⟨Sb, hb, fun t z => XS.icmpNo (g := mkF m pc A _) X.here cx.1 rfl (dec cx.2.2.1) rfl (by simpa using hc) z⟩
      · cases h
    · -- ifCond
      rename_i cd o
      split at h
      · rename_i x S1
        obtain rfl : len = 3 := by simpa [lenOk] using hlenOk
        split at h
        · rename_i hc
          split at h
          · rename_i q hq
            obtain ⟨t1, t2⟩ := tgt_spec hq
            have m3 := jump q S1 h
            exact m3 fun p e R s m args below meth c T locs cells slots X cx ρ A Sc hL hS => by
              obtain ⟨Sa, rfl, ha⟩ := hS.int
              exact ⟨Sa, ha, fun t z => XS.ifYes (g := mkF m pc A _) X.here cx.1 rfl (pc0 := pc) (pc' := q) rfl (dec cx.2.2.1) rfl hc t1 t2 z⟩
          · cases h
        · rename_i hc
          have m3 := jump (pc + 3) S1 h
          exact m3 fun p e R s m args below meth c T locs cells slots X cx ρ A Sc hL hS => by
            obtain ⟨Sa, rfl, ha⟩ := hS.int
            exact ⟨Sa, ha, fun t z => XS.ifNo (g := mkF m pc A _) X.here cx.1 rfl (dec cx.2.2.1) rfl (by simpa using hc) z⟩
      · cases h
    · -- ifnonnull
      rename_i o
      split at h
      · rename_i x S1
        split at h
        · rename_i q hq
          obtain ⟨t1, t2⟩ := tgt_spec hq
          have m3 := jump q S1 h
          obtain rfl : len = 3 := by simpa [lenOk] using hlenOk
          exact m3 fun p e R s m args below meth c T locs cells slots X cx ρ A Sc hL hS => by
            obtain ⟨ad, Sa, -, rfl, ha⟩ := hS.ref
            exact ⟨Sa, ha, fun t z => XT.ifnonnullYes (g := mkF m pc A _) X.here cx.1 rfl (pc0 := pc) (pc' := q) rfl (dec cx.2.2.1) rfl t1 t2 z⟩
        · cases h
      · cases h
    · -- ireturn
      split at h
      · rename_i x
        split at h
        · rename_i v0 hv0
          cases h
          obtain rfl : len = 1 := by simpa [lenOk] using hlenOk
          intro p e R s m args below meth c T locs cells slots X cx k1 k2 ρ A Sc hL hLl hS hH hF
          obtain ⟨hx, hZ, hby, hml, hown, hnm, hret, hlk, -, -⟩ := cx
          obtain ⟨Sa, rfl, ha⟩ := hS.int
          unfold retV at hv0
          split at hv0
          · rename_i hr0
            cases hv0
            obtain ⟨fs, hr, hrun, hended, hWm, hsame⟩ := X.leave (v := some (.int x)) (fun q => by rw [hret, hr0] at q; cases q) hlk
            exact ⟨_, _, locs, [], retI X hx (by rw [hret, hr0]) (dec hby) hr, hrun, hended, ⟨_, rfl, rfl⟩, by rw [List.append_nil]; exact hH, hF, ⟨_, rfl⟩, hWm, hsame⟩
          · rename_i hr0
            cases hv0
            obtain ⟨fs, hr, hrun, hended, hWm, hsame⟩ := X.leave (v := some (.int (x &&& 1))) (fun q => by rw [hret, hr0] at q; cases q) hlk
            exact ⟨_, _, locs, [], retN X hx (t := .boolean) (by rw [hret, hr0]) (by simp) (dec hby) hr, hrun, hended, ⟨_, rfl, rfl⟩, by rw [List.append_nil]; exact hH, hF, ⟨_, rfl⟩, hWm, hsame⟩
          · cases hv0
        · cases h
      · cases h
    · -- lreturn
      split at h
      · rename_i x
        split at h
        · rename_i hr0
          cases h
          obtain rfl : len = 1 := by simpa [lenOk] using hlenOk
          intro p e R s m args below meth c T locs cells slots X cx k1 k2 ρ A Sc hL hLl hS hH hF
          obtain ⟨hx, hZ, hby, hml, hown, hnm, hret, hlk, -, -⟩ := cx
          obtain ⟨Sa, rfl, ha⟩ := hS.long
          obtain rfl : Sa = [] := ha
          obtain ⟨fs, hr, hrun, hended, hWm, hsame⟩ := X.leave (v := some (.long x)) (fun q => by rw [hret, hr0] at q; cases q) hlk
          exact ⟨_, _, locs, [], X.lreturnOut hx (by rw [hret, hr0]) (dec hby) hr, hrun, hended, ⟨_, rfl, rfl⟩, by rw [List.append_nil]; exact hH, hF, ⟨_, rfl⟩, hWm, hsame⟩
        · cases h
      · cases h
    · -- return
      split at h
      · split at h
        · rename_i hr0
          cases h
          obtain rfl : len = 1 := by simpa [lenOk] using hlenOk
          intro p e R s m args below meth c T locs cells slots X cx k1 k2 ρ A Sc hL hLl hS hH hF
          obtain ⟨hx, hZ, hby, hml, hown, hnm, hret, hlk, -, -⟩ := cx
          obtain rfl : Sc = [] := hS
          obtain ⟨fs, hr, hrun, hended, hWm, hsame⟩ := X.leave (v := none) (fun _ => rfl) hlk
          exact ⟨_, _, locs, [], X.returnOut hx (by rw [hret, hr0]) (dec hby) hr, hrun, hended, rfl, by rw [List.append_nil]; exact hH, hF, ⟨_, rfl⟩, hWm, hsame⟩
        · cases h
      · cases h
    · -- a call, or a plain step
      split at h
      · rename_i hinv
        split at h
        · -- Object.<init>
          rename_i hb1
          subst hb1
          have hk : ∃ k x S1, i = .invokespecial k ∧ S = .ref x :: S1 ∧ (if 1 ≤ d.rf ∧ catSum S1 + 12 ≤ d.rw then exe P n mi (pc + 3) (forget er L) S1 H else none) = some (v, H', kc, ks) := by
            split at h
            · exact ⟨_, _, _, rfl, rfl, h⟩
            · cases h
          clear h
          obtain ⟨k, x, S1, rfl, rfl, h⟩ := hk
          · split at h
            · rename_i hroom
              have m3 := ih mi (pc + 3) _ S1 H v H' kc ks h d hmi
              obtain rfl : len = 3 := by simpa [lenOk] using hlenOk
              have hWi : ∀ w ∈ iWords P d (pc, .invokespecial k, 3, er, a, -1), w.before a0 Z = true := fun w q => hW w (in_wordsOf hdm hit q)
              have hWi' : ∀ w ∈ [Jvm.Cond.methodLink d.name.cls k Lib.objectInit, .instanceMethod Lib.objectInit, .code Lib.objectInit ⟨#[0xb1]⟩ 1 none], w.before a0 Z = true := hWi
              intro p e R s m args below meth c T locs cells slots X cx k1 k2 ρ A Sc hL hLl hS hH hF
              have cx0 := cx
              obtain ⟨hx, hZ, hby, hml, hown, hnm, hret, hlk, hrf, hrw⟩ := cx
              obtain ⟨ad, Sa, -, rfl, ha⟩ := hS.ref
              obtain ⟨T2, X2, e2, st2⟩ := initO X hx hZ hown (hWi' _ (by simp)) (hWi' _ (by simp)) (hWi' _ (by simp)) rfl (g := mkF m pc A (.ref ad :: Sa)) rfl (by rw [hml]; exact hL.1.trans hLl) rfl (dec hby) (by omega) (W := catSum S1) (by show 2 * 0 + _ ≤ _; rw [ha.cat]; omega) (by omega)
              have := m3 p e R s m args below meth c T2 locs cells slots X2 cx0 k1 k2 ρ A Sa (hL.forget er) (by rw [forget_len]; exact hLl) ha (by rw [e2]; exact hH) hF
              exact Done.step (t := []) (by rw [List.append_nil]; exact this) st2
            · cases h
        · rename_i hb1
          split at h
          · cases h
          rename_i y hy
          split at h
          · cases h
          rename_i as rest hao
          split at h
          · rename_i hcond
            simp only [Bool.and_eq_true, decide_eq_true_eq] at hcond
            obtain ⟨⟨⟨⟨hj, hik⟩, hrecv⟩, hroom⟩, hent⟩ := hcond
            split at h
            · rename_i v1 H1 c1 s1 hcal
              obtain ⟨c0, s0, hcon, rfl, rfl⟩ := res_ext (α := Unit) h
              have m3 := ih mi (pc + 3) _ _ H1 v H' c0 s0 hcon d hmi
              intro p e R s m args below meth c T locs cells slots X cx k1 k2 ρ A Sc hL hLl hS hH hF
              have cx0 := cx
              obtain ⟨hx, hZ, hby, hml, hown, hnm, hret, hlk, hrf, hrw⟩ := cx
              have hym : y ∈ P.mth := List.mem_of_getElem? hy
              have hyc := mChk_of hP hym
              simp only [mChk, Bool.and_eq_true, decide_eq_true_eq] at hyc
              obtain ⟨⟨⟨⟨⟨⟨yc1, yc2⟩, yc3⟩, yc4⟩, yc5⟩, yc6⟩, yc7⟩ := hyc
              simp only [fitsRoom, Bool.and_eq_true, decide_eq_true_eq] at hroom
              obtain ⟨hn, has, hrest⟩ := argsOf_spec hao
              have hnc : nargs y ≤ Sc.length := by rw [hS.len]; exact hn
              have hSa : SR ρ as (Sc.take (nargs y)).reverse := by rw [has]; exact (hS.take _).rev
              have hSr : SR ρ rest (Sc.drop (nargs y)) := by rw [hrest]; exact hS.drop _
              have hsplit : Sc = (Sc.take (nargs y)).reverse.reverse ++ Sc.drop (nargs y) := by rw [List.reverse_reverse, List.take_append_drop]
              obtain ⟨ws, hws⟩ : ∃ ws, ws = (Sc.take (nargs y)).reverse := ⟨_, rfl⟩
              obtain ⟨rc, hrc⟩ : ∃ rc, rc = Sc.drop (nargs y) := ⟨_, rfl⟩
              have hwl : ws.length = nargs y := by rw [hws]; simp; omega
              rw [← hws] at hSa hsplit
              rw [← hrc] at hSr hsplit
              have wcode := hW (.code y.name y.bytes y.maxL y.ret) (in_wordsM hy hj (List.mem_cons_self ..))
              have winit := hW (.initialized y.name.cls) (in_wordsM hy hj (List.mem_cons_of_mem _ (List.mem_cons_self ..)))
              have wmore : ∀ w ∈ (if y.kind = 0 then [Jvm.Cond.static y.name] else if y.kind = 1 then [.instanceMethod y.name] else if y.kind = 2 then [.instanceMethod y.name, .privateMethod y.name] else [.declares y.name, .selects y.name.cls y.name y.name, .instanceMethod y.name]), w.before a0 Z = true := fun w q => hW w (in_wordsM hy hj (List.mem_cons_of_mem _ (List.mem_cons_of_mem _ q)))
              have hMH : y.name.cls ≠ "java/lang/invoke/MethodHandle" ∧ y.name.cls ≠ "java/lang/invoke/VarHandle" := ⟨yc5, yc6⟩
              have back := backOf (W := catSum rest) (len := 3) (R := R) (p := p) (e := e) (below := below) (s := s) (args := args) (met_of ih hy yc1 hcal hSa hent hH [] ({ frames := y.rf, cells := c1, slots := s1, locals := y.rw } : Room) (Nat.le_refl _) (Nat.le_refl _) (Nat.le_refl _) (Nat.le_refl _)) hZ wcode winit (by show y.rf + 1 ≤ _; omega) (by show _ + y.rw ≤ _; omega)
              have hWW : 2 * (mkF m pc A Sc).monitorRoom + (rc.map fun v => v.category).sum ≤ catSum rest := by show 2 * 0 + _ ≤ _; rw [hSr.cat]; omega
              have hpar : ∀ sig, parseMethodDescriptor y.name.desc = some sig → sig.parameters.length = y.npar := fun sig q => by
                unfold sigChk at yc2
                rw [q] at yc2
                simpa using yc2
              have fin : ∀ (v1' : Option Value) (T2 : State) (Lc : List Loc), Stand p l e R s m args below meth c T2 (locs ++ Lc) (cells + c1) (slots + s1) → QQ P Z n0 ρ v1 H1 v1' T2.heap Lc →
                  (∀ target, Steps p.tables e below (T2.setTop (mkF m (pc + 3) A (v1'.toList ++ rc))) target → Steps p.tables e below (T.setTop (mkF m pc A Sc)) target) →
                  Done P Z n0 p e below s ρ v H' (cells + (c0 + c1)) (slots + (s0 + s1)) (T.setTop (mkF m pc A Sc)) := by
                intro v1' T2 Lc X2 hq st2
                obtain ⟨hF2, t, hov, hH2⟩ := hq
                have := m3 p e R s m args below meth c T2 (locs ++ Lc) _ _ X2 cx0 (by omega) (by omega) (ρ ++ t) A (v1'.toList ++ rc) (hL.forget er).mono (by rw [forget_len]; exact hLl) (hov.list.app hSr.mono) hH2 (hF.app hF2)
                have q1 : cells + c1 + c0 = cells + (c0 + c1) := by omega
                have q2 : slots + s1 + s0 = slots + (s0 + s1) := by omega
                rw [q1, q2] at this
                exact this.step st2
              have hcR : cells + c1 ≤ R.cells := by omega
              have hsR : slots + s1 ≤ R.slots := by omega
              cases i with
              | invokestatic k =>
                obtain rfl : len = 3 := by simpa [lenOk] using hlenOk
                have hk0 : y.kind = 0 := by simpa [invKind] using hik
                have wl := hW (.methodLink d.name.cls k y.name) (in_wordsOf hdm hit (by show _ ∈ mLink P d k a b; unfold mLink; rw [if_neg hb1, hy]; exact List.mem_singleton.mpr rfl))
                have wst := wmore (.static y.name) (by rw [if_pos hk0]; exact List.mem_singleton.mpr rfl)
                have hna : nargs y = y.npar := by simp [nargs, hk0]
                obtain ⟨v1', _, ⟨T2, L2, k2', n2⟩, -, X2, ⟨Lc, hQ, l2, y2, z2⟩, st2⟩ := Jvm.LawKit.callS X hx (y := y.name) hown (mvT hZ wl) (mvT hZ wst) (mvT hZ winit) (mvT hZ wcode) hMH back (g := mkF m pc A Sc) rfl (by rw [hml]; exact hL.1.trans hLl) (argsL := ws) (rest := rc) (fun sig q => by rw [hpar sig q, hwl, hna]) hsplit hWW (dec hby) (fun _ _ => ⟨rfl, rfl, hcR, hsR⟩)
                dsimp only [Pt.U, Pt.locs, Pt.cells, Pt.slots] at X2 l2 y2 z2 st2 hQ
                subst l2 y2 z2
                exact fin v1' T2 Lc X2 hQ st2
              | invokespecial k =>
                obtain rfl : len = 3 := by simpa [lenOk] using hlenOk
                have hk1 : y.kind = 1 := by simpa [invKind] using hik
                have wl := hW (.methodLink d.name.cls k y.name) (in_wordsOf hdm hit (by show _ ∈ mLink P d k a b; unfold mLink; rw [if_neg hb1, hy]; exact List.mem_singleton.mpr rfl))
                have wst := wmore (.instanceMethod y.name) (by rw [if_neg (by omega), if_pos hk1]; exact List.mem_singleton.mpr rfl)
                have hna : nargs y = y.npar + 1 := by simp [nargs, hk1]
                simp [hk1] at yc7
                have wcode' : (Jvm.Cond.code y.name y.bytes y.maxL none).before a0 Z = true := by rw [← yc7.2]; exact wcode
                unfold recvOk at hrecv
                rw [if_neg (by omega)] at hrecv
                split at hrecv
                · rename_i o as'
                  obtain ⟨ad, ws', g1, rfl, ha'⟩ := hSa.ref
                  have hst : Sc = ws'.reverse ++ .ref ad :: rc := by rw [hsplit]; simp
                  obtain ⟨v1', _, ⟨T2, L2, k2', n2⟩, -, X2, ⟨Lc, hQ, l2, y2, z2⟩, st2⟩ := X.specialBack hx (y := y.name) yc7.1 hown (mvT hZ wl) (mvT hZ wst) (mvT hZ wcode') hMH back (g := mkF m pc A Sc) rfl (by rw [hml]; exact hL.1.trans hLl) (Steps.refl _) (a := ad) (argsL := ws') (rest := rc) (fun sig q => by rw [hpar sig q]; simp [hna] at hwl; omega) hst hWW (dec hby) (fun _ _ => ⟨rfl, rfl, hcR, hsR⟩)
                  dsimp only [Pt.U, Pt.locs, Pt.cells, Pt.slots] at X2 l2 y2 z2 st2 hQ
                  subst l2 y2 z2
                  exact fin v1' T2 Lc X2 hQ fun t z => st2.trans z
                · cases hrecv
              | invokevirtual k =>
                obtain rfl : len = 3 := by simpa [lenOk] using hlenOk
                have wl := hW (.methodLink d.name.cls k y.name) (in_wordsOf hdm hit (by show _ ∈ mLink P d k a b; unfold mLink; rw [if_neg hb1, hy]; exact List.mem_singleton.mpr rfl))
                have hk23 : y.kind = 2 ∨ y.kind = 3 := by simpa [invKind] using hik
                have hk0 : ¬ y.kind = 0 := by omega
                have hk1 : ¬ y.kind = 1 := by omega
                have hna : nargs y = y.npar + 1 := by simp [nargs, hk0]
                unfold recvOk at hrecv
                rw [if_neg hk0] at hrecv
                split at hrecv
                · rename_i o as'
                  obtain ⟨ad, ws', g1, rfl, ha'⟩ := hSa.ref
                  have hst : Sc = ws'.reverse ++ .ref ad :: rc := by rw [hsplit]; simp
                  split at hrecv
                  · rename_i c0 fs hc0
                    obtain rfl : c0 = y.cid := by simpa using hrecv
                    obtain ⟨ad', g2, cd, q1, q2, q3, q4⟩ := hH.at hc0
                    rw [g1] at g2; cases g2
                    have hcd := cid_of hP hym q1
                    have hcm : cd ∈ P.cls := List.mem_of_getElem? q1
                    rw [hcd] at q2
                    by_cases hk2 : y.kind = 2
                    · have w1 := wmore (.instanceMethod y.name) (by rw [if_neg hk0, if_neg hk1, if_pos hk2]; simp)
                      have w2 := wmore (.privateMethod y.name) (by rw [if_neg hk0, if_neg hk1, if_pos hk2]; simp)
                      have w3 := hW (.instantiable cd.1 cd.2.1) (in_wordsC hcm (List.mem_cons_self ..))
                      rw [hcd] at w3
                      obtain ⟨cI, kI, i1, i2, i3, i4, -⟩ := Cond.instantiable_spec (mvT hZ w3 (args := args) : (Jvm.Cond.instantiable y.name.cls cd.2.1).before args s = true)
                      have hsel := selects_self_of_private (args := args) i1 i2 (by simp at i4; exact i4.1) (Cond.privateMethod_at (mvP hZ w2 (args := #[]))) (mvT hZ w1) hMH
                      obtain ⟨cq, hq1, hq2⟩ := q2.cell
                      obtain ⟨v1', _, ⟨T2, L2, k2', n2⟩, -, X2, ⟨Lc, hQ, l2, y2, z2⟩, st2⟩ := X.privateBack hx (y := y.name) hown (mvT hZ wl) (mvT hZ w1) hsel (Cond.privateMethod_at (mvP hZ w2 (args := #[]))) (mvT hZ wcode) hMH back (g := mkF m pc A Sc) rfl (by rw [hml]; exact hL.1.trans hLl) (Steps.refl _) (a := ad) hq1 hq2 (argsL := ws') (rest := rc) (fun sig q => by rw [hpar sig q]; simp [hna] at hwl; omega) hst hWW (dec hby) (fun _ _ => ⟨rfl, rfl, hcR, hsR⟩)
                      dsimp only [Pt.U, Pt.locs, Pt.cells, Pt.slots] at X2 l2 y2 z2 st2 hQ
                      subst l2 y2 z2
                      exact fin v1' T2 Lc X2 hQ fun t z => st2.trans z
                    · have w1 := wmore (.declares y.name) (by rw [if_neg hk0, if_neg hk1, if_neg hk2]; simp)
                      have w2 := wmore (.selects y.name.cls y.name y.name) (by rw [if_neg hk0, if_neg hk1, if_neg hk2]; simp)
                      have w3 := wmore (.instanceMethod y.name) (by rw [if_neg hk0, if_neg hk1, if_neg hk2]; simp)
                      obtain ⟨cq, kq, qa, qb, qc⟩ := isOf hZ rfl q2
                      obtain ⟨v1', _, ⟨T2, L2, k2', n2⟩, -, X2, ⟨Lc, hQ, l2, y2, z2⟩, st2⟩ := X.virtualBack hx (y := y.name) (z := y.name) hown (mvT hZ wl) (mvT hZ w1) (notFace_of_selects (args := #[]) (mvT hZ w2)) (mvT hZ w2) (mvT hZ w3) hMH back qa qc (g := mkF m pc A Sc) rfl (by rw [hml]; exact hL.1.trans hLl) (Steps.refl _) (argsL := ws') (rest := rc) (fun sig q => by rw [hpar sig q]; simp [hna] at hwl; omega) hst hWW (dec hby) (fun _ _ => ⟨rfl, rfl, hcR, hsR⟩)
                      dsimp only [Pt.U, Pt.locs, Pt.cells, Pt.slots] at X2 l2 y2 z2 st2 hQ
                      subst l2 y2 z2
                      exact fin v1' T2 Lc X2 hQ fun t z => st2.trans z
                  · cases hrecv
                · cases hrecv
              | _ => simp [isInv] at hinv
            · cases h
          · cases h
      · split at h
        · split at h
          · rename_i S1 H1 k1' hxN
            obtain ⟨c0, s0, hcon, rfl, rfl⟩ := res_ext (α := Unit) h
            have m3 := ih mi (pc + len) _ S1 H1 v H' c0 s0 hcon d hmi
            intro p e R s m args below meth c T locs cells slots X cx k1 k2 ρ A Sc hL hLl hS hH hF
            have cx0 := cx
            obtain ⟨hx, hZ, hby, hml, hown, hnm, hret, hlk, hrf, hrw⟩ := cx
            obtain ⟨T2, ad, Sc2, X2, hS2, hH2, st2⟩ := stepN (A := A) X hx hZ hown hP hW hdm hit (dec hby) hlenOk hS hH hxN (by omega) (by omega)
            have := m3 p e R s m args below meth c T2 locs _ _ X2 cx0 (by omega) (by omega) (ρ ++ [ad]) A Sc2 (hL.forget er).mono (by rw [forget_len]; exact hLl) hS2 hH2 hF
            have q1 : cells + 1 + c0 = cells + (c0 + 1) := by omega
            have q2 : slots + k1' + s0 = slots + (s0 + k1') := by omega
            rw [q1, q2] at this
            exact this.step st2
          · cases h
        · split at h
          · rename_i L1 S1 H1 hxI
            have m3 := ih mi (pc + len) L1 S1 H1 v H' kc ks h d hmi
            intro p e R s m args below meth c T locs cells slots X cx k1 k2 ρ A Sc hL hLl hS hH hF
            have cx0 := cx
            obtain ⟨hx, hZ, hby, hml, hown, hnm, hret, hlk, hrf, hrw⟩ := cx
            obtain ⟨T2, locs2, A2, Sc2, X2, x3, hL2, hS2, hH2, hF2, st2⟩ := stepX X hx hZ hown hnm hP hW hdm hit (dec hby) hlenOk (hL.forget er) hS hH hF hxI
            have := m3 p e R s m args below meth c T2 locs2 cells slots X2 cx0 k1 k2 ρ A2 Sc2 hL2 (by rw [x3, forget_len]; exact hLl) hS2 hH2 hF2
            exact Done.step (t := []) (by rw [List.append_nil]; exact this) st2
          · cases h
end Sound
end Jvm.Own
namespace Jvm.Own
open Jvm Jvm.ClassFile Sem Op Lib Jvm.Free Jvm.Stand Jvm.LawKit Jvm.RoadKit Bundle
/-! Runs of the plain machine, rule by rule -/
def OEnds (P : PD) (mi pc : Nat) (L : List Slot) (S : List Value) (H : AHeap) (r : Res) : Prop := ∃ n0, ∀ n, n0 ≤ n → exe P n mi pc L S H = some r
def plainI : Instr → Bool
  | .goto _ => false
  | .if_icmp _ _ => false
  | .ifCond _ _ => false
  | .ifnonnull _ => false
  | .ireturn => false
  | .lreturn => false
  | .return_ => false
  | .invokestatic _ => false
  | .invokespecial _ => false
  | .invokevirtual _ => false
  | .new _ => false
  | .newarray _ => false
  | _ => true
section Rules
variable {P : PD} {mi pc len a q : Nat} {er : List Bool} {b : Int} {i : Instr} {d y : MD} {L L' : List Slot} {S S' as rest : List Value} {H H' H1 : AHeap} {r : Res} {kc ks : Nat} {v : Option Value}
theorem OEnds.up (h : ∀ n, exe P n mi q L' S' H' = some r → exe P (n + 1) mi pc L S H = some r) (E : OEnds P mi q L' S' H' r) : OEnds P mi pc L S H r := by
  obtain ⟨n0, E⟩ := E
  refine ⟨n0 + 1, fun n hn => ?_⟩
  obtain ⟨k, rfl⟩ : ∃ k, n = k + 1 := ⟨n - 1, by omega⟩
  exact h k (E k (by omega))
theorem OEnds.plain (hm : P.mth[mi]? = some d) (hf : fetch d.code pc = some (i, len, er, a, b)) (hp : plainI i = true) (hx : xI P (d.name.name == "<init>") d.cid i a b (forget er L) S H = some (L', S', H')) (E : OEnds P mi (pc + len) L' S' H' r) : OEnds P mi pc L S H r := by
  refine E.up fun n h => ?_
  unfold exe
  rw [hm]
  simp only
  rw [hf]
  simp only
  split
  all_goals first | (simp [plainI] at hp; done) | skip
  have h1 : ¬ isInv i = true := by
    cases i <;> first | (simp [plainI] at hp; done) | simp [isInv]
  have h2 : ¬ isNew i = true := by
    cases i <;> first | (simp [plainI] at hp; done) | simp [isNew]
  rw [if_neg h1, if_neg h2, hx]
  exact h
theorem OEnds.goto {o : Int} (hm : P.mth[mi]? = some d) (hf : fetch d.code pc = some (.goto o, len, er, a, b)) (ht : tgt pc o = some q) (E : OEnds P mi q (forget er L) S H r) : OEnds P mi pc L S H r := by
  refine E.up fun n h => ?_
  unfold exe
  rw [hm]
  simp only
  rw [hf]
  simp only
  rw [ht]
  exact h
theorem OEnds.icmpT {o : Int} {cd : ClassFile.Cond} {x z : Int32} (hm : P.mth[mi]? = some d) (hf : fetch d.code pc = some (.if_icmp cd o, len, er, a, b)) (ht : tgt pc o = some q) (hc : if_icmp.holds cd x z = true) (E : OEnds P mi q (forget er L) S H r) : OEnds P mi pc L (.int z :: .int x :: S) H r := by
  refine E.up fun n h => ?_
  unfold exe
  rw [hm]
  simp only
  rw [hf]
  simp only
  rw [if_pos hc, ht]
  exact h
theorem OEnds.icmpF {o : Int} {cd : ClassFile.Cond} {x z : Int32} (hm : P.mth[mi]? = some d) (hf : fetch d.code pc = some (.if_icmp cd o, len, er, a, b)) (hc : if_icmp.holds cd x z = false) (E : OEnds P mi (pc + 3) (forget er L) S H r) : OEnds P mi pc L (.int z :: .int x :: S) H r := by
  refine E.up fun n h => ?_
  unfold exe
  rw [hm]
  simp only
  rw [hf]
  simp only
  rw [if_neg (by rw [hc]; exact Bool.false_ne_true)]
  exact h
theorem OEnds.ifT {o : Int} {cd : ClassFile.Cond} {x : Int32} (hm : P.mth[mi]? = some d) (hf : fetch d.code pc = some (.ifCond cd o, len, er, a, b)) (ht : tgt pc o = some q) (hc : if_icmp.holds cd x 0 = true) (E : OEnds P mi q (forget er L) S H r) : OEnds P mi pc L (.int x :: S) H r := by
  refine E.up fun n h => ?_
  unfold exe
  rw [hm]
  simp only
  rw [hf]
  simp only
  rw [if_pos ((if0 cd x).trans hc), ht]
  exact h
theorem OEnds.ifF {o : Int} {cd : ClassFile.Cond} {x : Int32} (hm : P.mth[mi]? = some d) (hf : fetch d.code pc = some (.ifCond cd o, len, er, a, b)) (hc : if_icmp.holds cd x 0 = false) (E : OEnds P mi (pc + 3) (forget er L) S H r) : OEnds P mi pc L (.int x :: S) H r := by
  refine E.up fun n h => ?_
  unfold exe
  rw [hm]
  simp only
  rw [hf]
  simp only
  rw [if_neg (by rw [if0 cd x, hc]; exact Bool.false_ne_true)]
  exact h
theorem OEnds.nonnull {o : Int} {x : Nat} (hm : P.mth[mi]? = some d) (hf : fetch d.code pc = some (.ifnonnull o, len, er, a, b)) (ht : tgt pc o = some q) (E : OEnds P mi q (forget er L) S H r) : OEnds P mi pc L (.ref x :: S) H r := by
  refine E.up fun n h => ?_
  unfold exe
  rw [hm]
  simp only
  rw [hf]
  simp only
  rw [ht]
  exact h
theorem OEnds.iret {x : Int32} {u : Value} (hm : P.mth[mi]? = some d) (hf : fetch d.code pc = some (.ireturn, len, er, a, b)) (hv : retV d.ret x = some u) : OEnds P mi pc L [.int x] H (some u, H, 0, 0) := by
  refine ⟨1, fun n hn => ?_⟩
  obtain ⟨k, rfl⟩ : ∃ k, n = k + 1 := ⟨n - 1, by omega⟩
  unfold exe
  rw [hm]
  simp only
  rw [hf]
  simp only
  rw [hv]
theorem OEnds.lret {x : Int64} (hm : P.mth[mi]? = some d) (hf : fetch d.code pc = some (.lreturn, len, er, a, b)) (hv : d.ret = some .long) : OEnds P mi pc L [.long x] H (some (.long x), H, 0, 0) := by
  refine ⟨1, fun n hn => ?_⟩
  obtain ⟨k, rfl⟩ : ∃ k, n = k + 1 := ⟨n - 1, by omega⟩
  unfold exe
  rw [hm]
  simp only
  rw [hf]
  simp only
  rw [if_pos hv]
theorem OEnds.vret (hm : P.mth[mi]? = some d) (hf : fetch d.code pc = some (.return_, len, er, a, b)) (hv : d.ret = none) : OEnds P mi pc L [] H (none, H, 0, 0) := by
  refine ⟨1, fun n hn => ?_⟩
  obtain ⟨k, rfl⟩ : ∃ k, n = k + 1 := ⟨n - 1, by omega⟩
  unfold exe
  rw [hm]
  simp only
  rw [hf]
  simp only
  rw [if_pos hv]
theorem OEnds.oinit {k x : Nat} (hm : P.mth[mi]? = some d) (hf : fetch d.code pc = some (.invokespecial k, len, er, a, -1)) (hr : 1 ≤ d.rf ∧ catSum S + 12 ≤ d.rw) (E : OEnds P mi (pc + 3) (forget er L) S H r) : OEnds P mi pc L (.ref x :: S) H r := by
  refine E.up fun n h => ?_
  unfold exe
  rw [hm]
  simp only
  rw [hf]
  simp only [isInv, if_true]
  rw [if_pos hr]
  exact h
theorem OEnds.call (hm : P.mth[mi]? = some d) (hf : fetch d.code pc = some (i, len, er, a, b)) (hi : isInv i = true) (hb : ¬ b = -1) (hy : P.mth[a]? = some y) (hao : argsOf (nargs y) S = some (as, rest))
    (hc : (decide (0 < a) && invKind i y.kind && recvOk P H y as && fitsRoom d y rest && decide ((entA as).length ≤ y.maxL)) = true) (E1 : OEnds P a 0 (entL as y.maxL) [] H (v, H1, kc, ks)) (E2 : OEnds P mi (pc + 3) (forget er L) (v.toList ++ rest) H1 r) : OEnds P mi pc L S H (addR r kc ks) := by
  obtain ⟨n1, E1⟩ := E1
  obtain ⟨n2, E2⟩ := E2
  refine ⟨n1 + n2 + 1, fun n hn => ?_⟩
  obtain ⟨k, rfl⟩ : ∃ k, n = k + 1 := ⟨n - 1, by omega⟩
  have e1 := E1 k (by omega)
  have e2 := E2 k (by omega)
  unfold exe
  rw [hm]
  simp only
  rw [hf]
  simp only
  split
  all_goals first | (simp [isInv] at hi; done) | skip
  rw [if_pos hi, if_neg hb, hy]
  simp only
  rw [hao]
  simp only
  rw [if_pos hc, e1]
  simp only
  rw [e2]
  rfl
theorem OEnds.call0 (hm : P.mth[mi]? = some d) (hf : fetch d.code pc = some (i, len, er, a, b)) (hi : isInv i = true) (hb : ¬ b = -1) (hy : P.mth[a]? = some y) (hao : argsOf (nargs y) S = some (as, rest))
    (hc : (decide (0 < a) && invKind i y.kind && recvOk P H y as && fitsRoom d y rest && decide ((entA as).length ≤ y.maxL)) = true) (E1 : OEnds P a 0 (entL as y.maxL) [] H (v, H1, 0, 0)) (E2 : OEnds P mi (pc + 3) (forget er L) (v.toList ++ rest) H1 r) : OEnds P mi pc L S H r :=
  OEnds.call (r := r) hm hf hi hb hy hao hc E1 E2
theorem OEnds.made (hm : P.mth[mi]? = some d) (hf : fetch d.code pc = some (i, len, er, a, b)) (hi : isNew i = true) (hx : xN P i a S H = some (S', H', ks)) (E : OEnds P mi (pc + len) (forget er L) S' H' r) : OEnds P mi pc L S H (addR r 1 ks) := by
  obtain ⟨n0, E⟩ := E
  refine ⟨n0 + 1, fun n hn => ?_⟩
  obtain ⟨k, rfl⟩ : ∃ k, n = k + 1 := ⟨n - 1, by omega⟩
  have e1 := E k (by omega)
  unfold exe
  rw [hm]
  simp only
  rw [hf]
  simp only
  split
  all_goals first | (simp [isNew] at hi; done) | skip
  have h1 : ¬ isInv i = true := by
    cases i <;> first | (simp [isNew] at hi; done) | simp [isInv]
  rw [if_neg h1, if_pos hi, hx]
  simp only
  rw [e1]
  rfl
end Rules
/-- k plain instructions and jumps in one go -/
def adv (P : PD) (d : MD) : Nat → Nat → List Slot → List Value → AHeap → Option (Nat × List Slot × List Value × AHeap)
  | 0, pc, L, S, H => some (pc, L, S, H)
  | k + 1, pc, L, S, H => match fetch d.code pc with
    | some (i, len, er, a, b) => match i with
      | .goto o => match tgt pc o with
        | some q => adv P d k q (forget er L) S H
        | none => none
      | i => if plainI i = true then match xI P (d.name.name == "<init>") d.cid i a b (forget er L) S H with
          | some (L', S', H') => adv P d k (pc + len) L' S' H'
          | none => none
        else none
    | none => none
theorem OEnds.adv {P : PD} {mi : Nat} {d : MD} (hm : P.mth[mi]? = some d) {r : Res} : ∀ (k : Nat) {pc pc' : Nat} {L L' : List Slot} {S S' : List Value} {H H' : AHeap}, adv P d k pc L S H = some (pc', L', S', H') → OEnds P mi pc' L' S' H' r → OEnds P mi pc L S H r
  | 0, _, _, _, _, _, _, _, _, h, E => by
    unfold Own.adv at h
    cases h
    exact E
  | k + 1, pc, pc', L, L', S, S', H, H', h, E => by
    unfold Own.adv at h
    split at h
    · rename_i it i len er a b hf
      split at h
      · rename_i o
        split at h
        · rename_i q hq
          exact OEnds.goto hm hf hq (OEnds.adv hm k h E)
        · cases h
      · split at h
        · rename_i hp
          split at h
          · rename_i L1 S1 H1 hx
            exact OEnds.plain hm hf hp hx (OEnds.adv hm k h E)
          · cases h
        · cases h
    · cases h
theorem x_iaload {P : PD} {ini : Bool} {cid a o : Nat} {b : Int} {L : List Slot} {S : List Value} {H : AHeap} {A : List Int32} {j x : Int32} (h : H[o]? = some (.inr (.inl (false, A)))) (hx : rdA A j = some x) : xI P ini cid .iaload a b L (.int j :: .ref o :: S) H = some (L, .int x :: S, H) := by simp [xI, h, hx]
theorem x_baload {P : PD} {ini : Bool} {cid a o : Nat} {b : Int} {L : List Slot} {S : List Value} {H : AHeap} {A : List Int32} {j x : Int32} (h : H[o]? = some (.inr (.inl (true, A)))) (hx : rdA A j = some x) : xI P ini cid .baload a b L (.int j :: .ref o :: S) H = some (L, .int x :: S, H) := by simp [xI, h, hx]
theorem x_laload {P : PD} {ini : Bool} {cid a o : Nat} {b : Int} {L : List Slot} {S : List Value} {H : AHeap} {A : List Int64} {j : Int32} {x : Int64} (h : H[o]? = some (.inr (.inr A))) (hx : rdA A j = some x) : xI P ini cid .laload a b L (.int j :: .ref o :: S) H = some (L, .long x :: S, H) := by simp [xI, h, hx]
theorem x_iastore {P : PD} {ini : Bool} {cid a o : Nat} {b : Int} {L : List Slot} {S : List Value} {H : AHeap} {A A' : List Int32} {j x : Int32} (h : H[o]? = some (.inr (.inl (false, A)))) (hn : P.nr ≤ o) (hx : wrA A j x = some A') : xI P ini cid .iastore a b L (.int x :: .int j :: .ref o :: S) H = some (L, S, H.set o (.inr (.inl (false, A')))) := by simp [xI, h, hx, hn]
theorem x_bastore {P : PD} {ini : Bool} {cid a o : Nat} {b : Int} {L : List Slot} {S : List Value} {H : AHeap} {A A' : List Int32} {j x : Int32} (h : H[o]? = some (.inr (.inl (true, A)))) (hn : P.nr ≤ o) (hx : wrA A j (x &&& 1) = some A') : xI P ini cid .bastore a b L (.int x :: .int j :: .ref o :: S) H = some (L, S, H.set o (.inr (.inl (true, A')))) := by simp [xI, h, hx, hn]
theorem x_lastore {P : PD} {ini : Bool} {cid a o : Nat} {b : Int} {L : List Slot} {S : List Value} {H : AHeap} {A A' : List Int64} {j : Int32} {x : Int64} (h : H[o]? = some (.inr (.inr A))) (hn : P.nr ≤ o) (hx : wrA A j x = some A') : xI P ini cid .lastore a b L (.long x :: .int j :: .ref o :: S) H = some (L, S, H.set o (.inr (.inr A'))) := by simp [xI, h, hx, hn]
theorem x_irem {P : PD} {ini : Bool} {cid a : Nat} {b : Int} {L : List Slot} {S : List Value} {H : AHeap} {x y : Int32} (h : ¬ y = 0) : xI P ini cid .irem a b L (.int y :: .int x :: S) H = some (L, .int (x % y) :: S, H) := by simp [xI, h]
theorem x_idiv {P : PD} {ini : Bool} {cid a : Nat} {b : Int} {L : List Slot} {S : List Value} {H : AHeap} {x y : Int32} (h : ¬ y = 0) : xI P ini cid .idiv a b L (.int y :: .int x :: S) H = some (L, .int (x / y) :: S, H) := by simp [xI, h]
theorem x_lrem {P : PD} {ini : Bool} {cid a : Nat} {b : Int} {L : List Slot} {S : List Value} {H : AHeap} {x y : Int64} (h : ¬ y = 0) : xI P ini cid .lrem a b L (.long y :: .long x :: S) H = some (L, .long (x % y) :: S, H) := by simp [xI, h]
theorem x_ldiv {P : PD} {ini : Bool} {cid a : Nat} {b : Int} {L : List Slot} {S : List Value} {H : AHeap} {x y : Int64} (h : ¬ y = 0) : xI P ini cid .ldiv a b L (.long y :: .long x :: S) H = some (L, .long (x / y) :: S, H) := by simp [xI, h]
theorem c_lt {x y : Int64} : XT.cmpL x y < 0 ↔ x < y := by
  unfold XT.cmpL; split <;> (try split) <;> simp_all [Int64.lt_iff_toInt_lt, ← Int64.toInt_inj] <;> omega
theorem c_gt {x y : Int64} : 0 < XT.cmpL x y ↔ y < x := by
  unfold XT.cmpL; split <;> (try split) <;> simp_all [Int64.lt_iff_toInt_lt, ← Int64.toInt_inj] <;> omega
theorem c_eq {x y : Int64} : XT.cmpL x y = 0 ↔ x = y := by
  unfold XT.cmpL; split <;> (try split) <;> simp_all [Int64.lt_iff_toInt_lt, ← Int64.toInt_inj] <;> omega
end Jvm.Own
namespace Jvm.Own
open Jvm Jvm.ClassFile Sem Op Lib Jvm.Free Jvm.Stand Jvm.LawKit Jvm.RoadKit Bundle
theorem bnd {α β : Type} {o : Option α} {f : α → Option β} {b : β} (h : o.bind f = some b) : ∃ a, o = some a ∧ f a = some b := Option.bind_eq_some_iff.mp h
theorem x_putZ {P : PD} {ini : Bool} {k cid a o : Nat} {b : Int} {L : List Slot} {S : List Value} {H : AHeap} {fs : List Value} {nm ds : String} {x : Int32} (h : H[o]? = some (.inl (cid, fs))) (hn : P.nr ≤ o) (hf : ((P.cls[cid]?).bind fun cd => cd.2.2[a]?) = some (nm, ds, .boolean, false)) (hx : x = 0 ∨ x = 1) :
    xI P ini cid (.putfield k) a b L (.int x :: .ref o :: S) H = some (L, S, H.set o (.inl (cid, fs.set a (.int x)))) := by
  rcases hx with rfl | rfl <;> simp [xI, h, hn, hf, putOk]
section Rules
variable {P : PD} {mi pc len a q : Nat} {er : List Bool} {b : Int} {i : Instr} {d y : MD} {L L' : List Slot} {S S' as rest : List Value} {H H' H1 : AHeap} {r : Res} {kc ks : Nat} {v : Option Value}
theorem OEnds.made1 {w : Option Value} {Hf : AHeap} (hm : P.mth[mi]? = some d) (hf : fetch d.code pc = some (i, len, er, a, b)) (hi : isNew i = true) (hx : xN P i a S H = some (S', H', ks)) {c0 s0 c1 s1 : Nat} (hr : (c1, s1) = (c0 + 1, s0 + ks)) (E : OEnds P mi (pc + len) (forget er L) S' H' (w, Hf, c0, s0)) : OEnds P mi pc L S H (w, Hf, c1, s1) := by
  cases hr
  exact OEnds.made (r := (w, Hf, c0, s0)) hm hf hi hx E
/-! The same, of a run whose end is told by a property -/
def OEndsQ (P : PD) (mi pc : Nat) (L : List Slot) (S : List Value) (H : AHeap) (Q : Res → Prop) : Prop := ∃ r, OEnds P mi pc L S H r ∧ Q r
variable {Q : Res → Prop}
theorem OEndsQ.plain (hm : P.mth[mi]? = some d) (hf : fetch d.code pc = some (i, len, er, a, b)) (hp : plainI i = true) (hx : xI P (d.name.name == "<init>") d.cid i a b (forget er L) S H = some (L', S', H')) (E : OEndsQ P mi (pc + len) L' S' H' Q) : OEndsQ P mi pc L S H Q := by
  obtain ⟨r, E, hq⟩ := E; exact ⟨r, OEnds.plain hm hf hp hx E, hq⟩
theorem OEndsQ.icmpT {o : Int} {cd : ClassFile.Cond} {x z : Int32} (hm : P.mth[mi]? = some d) (hf : fetch d.code pc = some (.if_icmp cd o, len, er, a, b)) (ht : tgt pc o = some q) (hc : if_icmp.holds cd x z = true) (E : OEndsQ P mi q (forget er L) S H Q) : OEndsQ P mi pc L (.int z :: .int x :: S) H Q := by
  obtain ⟨r, E, hq⟩ := E; exact ⟨r, OEnds.icmpT hm hf ht hc E, hq⟩
theorem OEndsQ.icmpF {o : Int} {cd : ClassFile.Cond} {x z : Int32} (hm : P.mth[mi]? = some d) (hf : fetch d.code pc = some (.if_icmp cd o, len, er, a, b)) (hc : if_icmp.holds cd x z = false) (E : OEndsQ P mi (pc + 3) (forget er L) S H Q) : OEndsQ P mi pc L (.int z :: .int x :: S) H Q := by
  obtain ⟨r, E, hq⟩ := E; exact ⟨r, OEnds.icmpF hm hf hc E, hq⟩
theorem OEndsQ.ifT {o : Int} {cd : ClassFile.Cond} {x : Int32} (hm : P.mth[mi]? = some d) (hf : fetch d.code pc = some (.ifCond cd o, len, er, a, b)) (ht : tgt pc o = some q) (hc : if_icmp.holds cd x 0 = true) (E : OEndsQ P mi q (forget er L) S H Q) : OEndsQ P mi pc L (.int x :: S) H Q := by
  obtain ⟨r, E, hq⟩ := E; exact ⟨r, OEnds.ifT hm hf ht hc E, hq⟩
theorem OEndsQ.ifF {o : Int} {cd : ClassFile.Cond} {x : Int32} (hm : P.mth[mi]? = some d) (hf : fetch d.code pc = some (.ifCond cd o, len, er, a, b)) (hc : if_icmp.holds cd x 0 = false) (E : OEndsQ P mi (pc + 3) (forget er L) S H Q) : OEndsQ P mi pc L (.int x :: S) H Q := by
  obtain ⟨r, E, hq⟩ := E; exact ⟨r, OEnds.ifF hm hf hc E, hq⟩
theorem OEndsQ.nonnull {o : Int} {x : Nat} (hm : P.mth[mi]? = some d) (hf : fetch d.code pc = some (.ifnonnull o, len, er, a, b)) (ht : tgt pc o = some q) (E : OEndsQ P mi q (forget er L) S H Q) : OEndsQ P mi pc L (.ref x :: S) H Q := by
  obtain ⟨r, E, hq⟩ := E; exact ⟨r, OEnds.nonnull hm hf ht E, hq⟩
theorem OEndsQ.call0 (hm : P.mth[mi]? = some d) (hf : fetch d.code pc = some (i, len, er, a, b)) (hi : isInv i = true) (hb : ¬ b = -1) (hy : P.mth[a]? = some y) (hao : argsOf (nargs y) S = some (as, rest))
    (hc : (decide (0 < a) && invKind i y.kind && recvOk P H y as && fitsRoom d y rest && decide ((entA as).length ≤ y.maxL)) = true) (E1 : OEnds P a 0 (entL as y.maxL) [] H (v, H1, 0, 0)) (E2 : OEndsQ P mi (pc + 3) (forget er L) (v.toList ++ rest) H1 Q) : OEndsQ P mi pc L S H Q := by
  obtain ⟨r, E, hq⟩ := E2; exact ⟨r, OEnds.call0 hm hf hi hb hy hao hc E1 E, hq⟩
theorem OEndsQ.adv (hm : P.mth[mi]? = some d) (k : Nat) {pc' : Nat} (h : adv P d k pc L S H = some (pc', L', S', H')) (E : OEndsQ P mi pc' L' S' H' Q) : OEndsQ P mi pc L S H Q := by
  obtain ⟨r, E, hq⟩ := E; exact ⟨r, OEnds.adv hm k h E, hq⟩
/-- what a law's run ends with: its answer, and at the most so many cells and slots made -/
def LawQ (x : Int32) (kc ks : Nat) (r : Res) : Prop := r.1 = some (.int x) ∧ r.2.2.1 ≤ kc ∧ r.2.2.2 ≤ ks
theorem OEndsQ.iret {x u : Int32} (hm : P.mth[mi]? = some d) (hf : fetch d.code pc = some (.ireturn, len, er, a, b)) (hv : retV d.ret x = some (.int u)) : OEndsQ P mi pc L [.int x] H (LawQ u kc ks) :=
  ⟨_, OEnds.iret hm hf hv, rfl, Nat.zero_le _, Nat.zero_le _⟩
theorem OEndsQ.weak {x : Int32} {c0 s0 : Nat} (h1 : c0 ≤ kc) (h2 : s0 ≤ ks) (E : OEndsQ P mi pc L S H (LawQ x c0 s0)) : OEndsQ P mi pc L S H (LawQ x kc ks) := by
  obtain ⟨r, E, q1, q2, q3⟩ := E; exact ⟨r, E, q1, Nat.le_trans q2 h1, Nat.le_trans q3 h2⟩
theorem OEndsQ.made {x : Int32} {c0 s0 c1 s1 : Nat} (hm : P.mth[mi]? = some d) (hf : fetch d.code pc = some (i, len, er, a, b)) (hi : isNew i = true) (hx : xN P i a S H = some (S', H', ks)) (h1 : c0 + 1 ≤ c1) (h2 : s0 + ks ≤ s1) (E : OEndsQ P mi (pc + len) (forget er L) S' H' (LawQ x c0 s0)) : OEndsQ P mi pc L S H (LawQ x c1 s1) := by
  obtain ⟨⟨v, Hf, k, n⟩, E, q1, q2, q3⟩ := E
  dsimp only at q1 q2 q3
  exact ⟨_, OEnds.made hm hf hi hx E, q1, by show k + 1 ≤ c1; omega, by show n + ks ≤ s1; omega⟩
theorem OEndsQ.callN {x : Int32} {c0 s0 c1 s1 : Nat} (hm : P.mth[mi]? = some d) (hf : fetch d.code pc = some (i, len, er, a, b)) (hi : isInv i = true) (hb : ¬ b = -1) (hy : P.mth[a]? = some y) (hao : argsOf (nargs y) S = some (as, rest))
    (hc : (decide (0 < a) && invKind i y.kind && recvOk P H y as && fitsRoom d y rest && decide ((entA as).length ≤ y.maxL)) = true) (E1 : OEnds P a 0 (entL as y.maxL) [] H (v, H1, kc, ks)) (h1 : c0 + kc ≤ c1) (h2 : s0 + ks ≤ s1) (E2 : OEndsQ P mi (pc + 3) (forget er L) (v.toList ++ rest) H1 (LawQ x c0 s0)) : OEndsQ P mi pc L S H (LawQ x c1 s1) := by
  obtain ⟨⟨v, Hf, k, n⟩, E, q1, q2, q3⟩ := E2
  dsimp only at q1 q2 q3
  exact ⟨_, OEnds.call hm hf hi hb hy hao hc E1 E, q1, by show k + kc ≤ c1; omega, by show n + ks ≤ s1; omega⟩
end Rules
/-! From the machine to the claim -/
theorem law_met {P : PD} {Z : State} {a0 : Array Value} {l : Launch} {y : MD} {as ws : List Value} {H : AHeap} {ρ : List Addr} {n0 kc ks : Nat} {h : Heap} (hP : chk P = true) (hW : ∀ w ∈ wordsOf P, w.before a0 Z = true) (hy : P.mth[0]? = some y)
    (E : OEndsQ P 0 0 (entL as y.maxL) [] H (LawQ 1 kc ks)) (hS : SR ρ as ws) (hlen : (entA as).length ≤ y.maxL) (hH : HR P Z n0 h ρ H) (w0 : List Jvm.Cond) (rm : Room) (r1 : y.rf ≤ rm.frames) (r2 : y.rw ≤ rm.locals) (r3 : kc ≤ rm.cells) (r4 : ks ≤ rm.slots) :
    MetFree l y.name (head1 (Jvm.Cond.code y.name y.bytes y.maxL y.ret :: w0) rm) (fun a U => a = ws.toArray ∧ Z.Warmed39 U.vm ∧ U.heap = h) (fun _ _ _ _ _ => True)
      (fun _ U o U' => ∃ L, o = .returned (some (.int 1)) ∧ Fr n0 L ∧ FrameEnd U o U' L kc ks) := by
  obtain ⟨⟨v, H1, c1, s1⟩, ⟨n, E⟩, q1, q2, q3⟩ := E
  dsimp only at q1 q2 q3
  subst q1
  have hpn : plainName y.name.cls = true := by
    have := mChk_of hP (List.mem_of_getElem? hy)
    simp only [mChk, Bool.and_eq_true] at this
    exact this.1.1.1.1.1.1
  have M := met_of (l := l) (n := n) (sound hP hW n) hy hpn (E n (Nat.le_refl _)) hS hlen hH w0 rm r1 r2 (Nat.le_trans q2 r3) (Nat.le_trans q3 r4)
  intro p e ha hc hk s m args below hf happ hp hK
  obtain ⟨n', o, h1, h2, h3, v', L, rfl, ⟨hF, t, ⟨u, rfl, hu⟩, -⟩, hq⟩ := M p e ha hc hk s m args below hf happ hp hK
  obtain rfl : u = .int 1 := hu
  exact ⟨n', _, h1, h2, h3, L, rfl, hF, hq.1, hq.2.1, hq.2.2.mono q2 q3⟩
end Jvm.Own
namespace Jvm.Own
open Jvm Jvm.ClassFile Sem Op Lib Jvm.Free Jvm.Stand Jvm.LawKit Jvm.RoadKit Bundle
/-- the law's script: an int array of at most 260 -/
theorem script_of {s : State} {ad : Addr} {cl : Cell} (hf : Fit s) (A : Arr s s.heap ad cl .int) (e0 : (Term.arg 0).eval #[.ref ad] s none [] s = some (.ref ad)) (hn : (Jvm.Cond.le (.length (.arg 0)) (.int 260)).value #[.ref ad] s none s [] = some true) :
    ∃ scr : List Int32, cl.slots.size = scr.length ∧ scr.length ≤ 260 ∧ ∀ (i : Nat) x, scr[i]? = some x → cl.slots[i]? = some (.int x) := by
  obtain ⟨u, v, g1, g2, -, -⟩ := cmp_v (Or.inr (Or.inr hn))
  obtain ⟨a', cl', z1, z2, z3⟩ := Term.length_spec g1
  have hat := A.fin (Vm.Alike.refl _)
  rw [e0] at z1
  cases z1
  rw [hat] at z2
  cases z2
  have hsz : cl.slots.size < 2 ^ 31 := by
    rcases Nat.lt_or_ge cl.slots.size (2 ^ 31) with q | q
    · exact q
    · exfalso
      simp [Term.eval, hat] at g1
      omega
  subst z3
  have hv : v = .int 260 := by simpa [Term.eval] using g2.symm
  subst hv
  have hle : cl.slots.size.toInt32 ≤ 260 := by
    simpa [Cond.value, g1, g2] using hn
  have hle' : cl.slots.size ≤ 260 := by
    rw [Int32.le_iff_toInt_le, len_toInt hsz] at hle
    have : (260 : Int32).toInt = 260 := rfl
    rw [this] at hle
    omega
  have key : ∀ i, i < cl.slots.size → ∃ x, cl.slots[i]? = some (.int x) := fun i hi => by
    have hj := idx_in hi hsz
    obtain ⟨v, e1, e2⟩ := elem_fit hf A hj
    have : i.toInt32.toNatClampNeg = i := by
      have h1 : i.toInt32.toInt = i := len_toInt (by omega)
      simp [Int32.toNatClampNeg, h1]
    rw [this] at e1
    obtain ⟨x, rfl⟩ := fit_I e2 (Or.inl rfl)
    exact ⟨x, e1⟩
  refine ⟨cl.slots.toList.map fun v => match v with | .int x => x | _ => 0, by simp, by simpa using hle', fun i x hx => ?_⟩
  rw [List.getElem?_map] at hx
  obtain ⟨v, h1, h2⟩ := Option.map_eq_some_iff.mp hx
  have h1' : cl.slots[i]? = some v := by simpa using h1
  obtain ⟨y, hy⟩ := key i (Array.getElem?_eq_some_iff.mp h1').1
  rw [h1'] at hy
  cases hy
  rw [h1']
  simp at h2
  rw [h2]
theorem hr_script {P : PD} {s : State} {ad : Addr} {cl : Cell} {scr : List Int32} (hnr : P.nr = 1) (A : Arr s s.heap ad cl .int) (h1 : cl.slots.size = scr.length) (h2 : scr.length ≤ 260) (h3 : ∀ (i : Nat) x, scr[i]? = some x → cl.slots[i]? = some (.int x)) : HR P s s.heap.size s.heap [ad] [.inr (.inl (false, scr))] := by
  refine ⟨Nat.le_refl _, rfl, fun i j a g1 g2 => ?_, fun k a g1 g2 => ?_, fun k a c g1 g2 => ?_⟩
  · match i, j, g1, g2 with
    | 0, 0, _, _ => rfl
    | i + 1, _, g1, _ => simp at g1
    | 0, j + 1, _, g2 => simp at g2
  · match k, g1, g2 with
    | 0, _, g2 => rw [hnr] at g2; omega
    | k + 1, g1, _ => simp at g1
  · match k, g1, g2 with
    | 0, g1, g2 =>
      simp at g1 g2
      subst g1 g2
      exact ⟨cl, A, h1, by omega, h3⟩
    | k + 1, g1, _ => simp at g1
end Jvm.Own
namespace Jvm.Own
open Jvm
/-! Ints in range, arrays -/
theorem ilt {a b : Int32} : a < b ↔ a.toInt < b.toInt := Int32.lt_iff_toInt_lt
theorem ile {a b : Int32} : a ≤ b ↔ a.toInt ≤ b.toInt := Int32.le_iff_toInt_le
theorem ieq {a b : Int32} : a = b ↔ a.toInt = b.toInt := Int32.toInt_inj.symm
theorem irng (a : Int32) : -2147483648 ≤ a.toInt ∧ a.toInt < 2147483648 := ⟨Int32.le_toInt a, Int32.toInt_lt a⟩
theorem iadd_i {a b : Int32} (h1 : -2147483648 ≤ a.toInt + b.toInt) (h2 : a.toInt + b.toInt < 2147483648) : (a + b).toInt = a.toInt + b.toInt := by
  rw [Int32.toInt_add]; exact Int.bmod_eq_of_le (by omega) (by omega)
theorem isub_i {a b : Int32} (h1 : -2147483648 ≤ a.toInt - b.toInt) (h2 : a.toInt - b.toInt < 2147483648) : (a - b).toInt = a.toInt - b.toInt := by
  rw [Int32.toInt_sub]; exact Int.bmod_eq_of_le (by omega) (by omega)
theorem imul_i {a b : Int32} (h1 : -2147483648 ≤ a.toInt * b.toInt) (h2 : a.toInt * b.toInt < 2147483648) : (a * b).toInt = a.toInt * b.toInt := by
  rw [Int32.toInt_mul]; exact Int.bmod_eq_of_le (by omega) (by omega)
theorem rdA_nn {α : Type} {L : List α} {j : Int32} (h0 : 0 ≤ j.toInt) : rdA L j = L[j.toInt.toNat]? := by
  unfold rdA
  rw [if_neg (by rw [ilt]; exact Int.not_lt.mpr h0)]
  rfl
theorem rdA_in {α : Type} {L : List α} {j : Int32} (h0 : 0 ≤ j.toInt) (h1 : j.toInt.toNat < L.length) : rdA L j = some L[j.toInt.toNat] := by
  rw [rdA_nn h0, List.getElem?_eq_getElem h1]
theorem wrA_in {α : Type} {L : List α} {j : Int32} {x : α} (h0 : 0 ≤ j.toInt) (h1 : j.toInt.toNat < L.length) : wrA L j x = some (L.set j.toInt.toNat x) := by
  unfold wrA
  rw [if_neg (by rw [ilt]; exact Int.not_lt.mpr h0)]
  exact if_pos h1
theorem rdA_rep {α : Type} {n : Nat} {x : α} {j : Int32} (h0 : 0 ≤ j.toInt) (h1 : j.toInt < n) : rdA (List.replicate n x) j = some x := by
  rw [rdA_nn h0, List.getElem?_replicate, if_pos (by omega)]
end Jvm.Own
namespace Jvm.Own
open Jvm
/-! Sums of ints with their wrap, for omega; runs that answer, and what they answer -/
theorem bmod32 (x : Int) : x.bmod (2 ^ 32) = (x + 2147483648) % 4294967296 - 2147483648 := by
  rw [Int.bmod_def]
  split <;> omega
theorem iadd_e (a b : Int32) : (a + b).toInt = (a.toInt + b.toInt + 2147483648) % 4294967296 - 2147483648 := by
  rw [Int32.toInt_add, bmod32]
theorem isub_e (a b : Int32) : (a - b).toInt = (a.toInt - b.toInt + 2147483648) % 4294967296 - 2147483648 := by
  rw [Int32.toInt_sub, bmod32]
theorem imul_e (a b : Int32) : (a * b).toInt = (a.toInt * b.toInt + 2147483648) % 4294967296 - 2147483648 := by
  rw [Int32.toInt_mul, bmod32]
theorem iscr {n : Nat} (h : n ≤ 260) : (n.toInt32).toInt = n := Int32.toInt_ofNat_of_lt (by omega)
def Tot {α : Type} (x : Option α) (P : α → Prop) : Prop := ∃ r, x = some r ∧ P r
theorem Tot.mk {α : Type} {P : α → Prop} {a : α} (h : P a) : Tot (some a) P := ⟨a, rfl, h⟩
theorem Tot.bind {α β : Type} {x : Option α} {f : α → Option β} {P : α → Prop} {Q : β → Prop} (h : Tot x P) (g : ∀ a, P a → Tot (f a) Q) : Tot (x.bind f) Q := by
  obtain ⟨r, e, p⟩ := h
  rw [e]
  exact g r p
theorem Tot.mono {α : Type} {x : Option α} {P Q : α → Prop} (h : Tot x P) (g : ∀ a, P a → Q a) : Tot x Q := by
  obtain ⟨r, e, p⟩ := h
  exact ⟨r, e, g r p⟩
theorem Tot.ite {α : Type} {c : Prop} [Decidable c] {a b : Option α} {Q : α → Prop} (h1 : c → Tot a Q) (h2 : ¬ c → Tot b Q) : Tot (if c then a else b) Q := by
  by_cases h : c
  · rw [if_pos h]; exact h1 h
  · rw [if_neg h]; exact h2 h
theorem Tot.rd {α β : Type} {L : List α} {j : Int32} {f : α → Option β} {Q : β → Prop} (h0 : 0 ≤ j.toInt) (h1 : j.toInt < L.length) (g : ∀ a, L[j.toInt.toNat]? = some a → Tot (f a) Q) : Tot ((rdA L j).bind f) Q := by
  have h2 : j.toInt.toNat < L.length := by omega
  rw [rdA_in h0 h2]
  exact g _ (List.getElem?_eq_getElem h2)
theorem Tot.wr {α β : Type} {L : List α} {j : Int32} {x : α} {f : List α → Option β} {Q : β → Prop} (h0 : 0 ≤ j.toInt) (h1 : j.toInt < L.length) (g : ∀ L' : List α, L' = L.set j.toInt.toNat x → L'.length = L.length → Tot (f L') Q) : Tot ((wrA L j x).bind f) Q := by
  rw [wrA_in h0 (by omega)]
  exact g _ rfl (by simp)
theorem Tot.eq {α : Type} {x : Option α} {a : α} (h : Tot x (fun r => r = a)) : x = some a := by
  obtain ⟨r, e, p⟩ := h
  rw [e, p]
theorem Tot.of {α : Type} {x : Option α} {a : α} {P : α → Prop} (e : x = some a) (p : P a) : Tot x P := ⟨a, e, p⟩
/-- a bit mask at 15, 31 .. -/
theorem iand_rng (x : Int32) (m : Int32) (h : 0 ≤ m.toInt) : 0 ≤ (x &&& m).toInt ∧ (x &&& m).toInt ≤ m.toInt := by
  have hm : m.toBitVec.msb = false := by
    rw [BitVec.msb_eq_toInt]; simpa using h
  have hx : (x &&& m).toBitVec.msb = false := by
    rw [Int32.toBitVec_and, BitVec.msb_and, hm, Bool.and_false]
  have e1 : m.toInt = (m.toBitVec.toNat : Int) := BitVec.toInt_eq_toNat_of_msb hm
  have e2 : (x &&& m).toInt = (((x &&& m).toBitVec).toNat : Int) := BitVec.toInt_eq_toNat_of_msb hx
  have e3 : ((x &&& m).toBitVec).toNat ≤ m.toBitVec.toNat := by
    rw [Int32.toBitVec_and, BitVec.toNat_and]; exact Nat.and_le_right
  omega
def gI (L : List Int32) (j : Int32) : Int32 := (rdA L j).getD 0
theorem rdg {L : List Int32} {j : Int32} (h0 : 0 ≤ j.toInt) (h1 : j.toInt < L.length) : rdA L j = some (gI L j) := by
  have h2 : j.toInt.toNat < L.length := by omega
  unfold gI
  rw [rdA_in h0 h2]
  (first | done | rfl | simp)
theorem gset {L : List Int32} {i j : Int32} {x : Int32} (hi : 0 ≤ i.toInt) (hl : i.toInt < L.length) (hj : 0 ≤ j.toInt) : gI (L.set i.toInt.toNat x) j = if i = j then x else gI L j := by
  unfold gI
  rw [rdA_nn hj, rdA_nn hj]
  by_cases h : i = j
  · subst h
    rw [if_pos rfl, List.getElem?_set_self (by omega)]
    (first | done | rfl | simp)
  · rw [if_neg h, List.getElem?_set_ne (by rw [ieq] at h; omega)]
theorem gext {A B : List Int32} (hl : A.length < 100000) (ha : A.length = B.length) (h : ∀ i : Int32, 0 ≤ i.toInt → i.toInt < A.length → gI A i = gI B i) : A = B := by
  apply List.ext_getElem ha
  intro k h1 h2
  have e : (Int32.ofNat k).toInt = k := Int32.toInt_ofNat_of_lt (by omega)
  have q := h (Int32.ofNat k) (by omega) (by omega)
  unfold gI at q
  rw [rdA_nn (by omega), rdA_nn (by omega), e] at q
  simpa [h1, h2] using q
theorem Tot.rdI {β : Type} {L : List Int32} {j : Int32} {f : Int32 → Option β} {Q : β → Prop} (h0 : 0 ≤ j.toInt) (h1 : j.toInt < L.length) (g : Tot (f (gI L j)) Q) : Tot ((rdA L j).bind f) Q := by
  rw [rdg h0 h1]
  exact g
theorem gI_rep {n : Nat} {x : Int32} {j : Int32} (h0 : 0 ≤ j.toInt) (h1 : j.toInt < n) : gI (List.replicate n x) j = x := by
  unfold gI
  rw [rdA_rep h0 h1]
  (first | done | rfl | simp)
/-! Longs -/
theorem lltI {a b : Int64} : a < b ↔ a.toInt < b.toInt := Int64.lt_iff_toInt_lt
theorem leqI {a b : Int64} : a = b ↔ a.toInt = b.toInt := Int64.toInt_inj.symm
theorem lrng (a : Int64) : -9223372036854775808 ≤ a.toInt ∧ a.toInt < 9223372036854775808 := ⟨Int64.le_toInt a, Int64.toInt_lt a⟩
theorem ladd_i {a b : Int64} (h1 : -9223372036854775808 ≤ a.toInt + b.toInt) (h2 : a.toInt + b.toInt < 9223372036854775808) : (a + b).toInt = a.toInt + b.toInt := by
  rw [Int64.toInt_add]; exact Int.bmod_eq_of_le (by omega) (by omega)
theorem lsub_i {a b : Int64} (h1 : -9223372036854775808 ≤ a.toInt - b.toInt) (h2 : a.toInt - b.toInt < 9223372036854775808) : (a - b).toInt = a.toInt - b.toInt := by
  rw [Int64.toInt_sub]; exact Int.bmod_eq_of_le (by omega) (by omega)
theorem lmul_i {a b : Int64} (h1 : -9223372036854775808 ≤ a.toInt * b.toInt) (h2 : a.toInt * b.toInt < 9223372036854775808) : (a * b).toInt = a.toInt * b.toInt := by
  rw [Int64.toInt_mul]; exact Int.bmod_eq_of_le (by omega) (by omega)
theorem lmod_i {a b : Int64} (h : 0 ≤ a.toInt) : (a % b).toInt = a.toInt % b.toInt := by
  rw [Int64.toInt_mod, Int.tmod_eq_emod_of_nonneg h]
theorem lback {a : Int64} (h1 : -2147483648 ≤ a.toInt) (h2 : a.toInt < 2147483648) : a.toInt32.toInt64 = a := by
  rw [leqI, Int32.toInt_toInt64, Int64.toInt_toInt32, bmod32]
  omega
theorem mulb {a b M : Int} (h0 : 0 ≤ a) (h1 : a ≤ M) (h2 : 0 ≤ b) (h3 : b ≤ M) : 0 ≤ a * b ∧ a * b ≤ M * M :=
  ⟨Int.mul_nonneg h0 h2, Int.mul_le_mul h1 h3 h2 (by omega)⟩
end Jvm.Own
namespace Jvm.Pilot.@@N@@
open Jvm Jvm.ClassFile Sem Op Lib Jvm.Free Jvm.Stand Jvm.LawKit Jvm.RoadKit Bundle Jvm.Own Jvm.Pilot.@@N@@.Jvm.D
def d_0 : MD := (x, code, maxLocals, ret, 0, 1, 999, 5, 73, [(0, .new 7, 3, [], 0, 0), (3, .dup, 1, [], 0, 0), (4, .iconst 4, 1, [], 0, 0), (5, .iconst 3, 1, [], 0, 0), (6, .invokespecial 9, 3, [], 1, 0), (9, .astore_n 1, 1, [], 0, 0), (10, .iconst 0, 1, [], 0, 0), (11, .istore_n 2, 1, [], 0, 0), (12, .iload_n 2, 1, [false, false, false, true, true, true, true, true], 0, 0), (13, .iconst 1, 1, [], 0, 0), (14, .iadd, 1, [], 0, 0), (15, .aload_n 0, 1, [], 0, 0), (16, .arraylength, 1, [], 0, 0), (17, .if_icmp .ge 123, 3, [], 0, 0), (20, .aload_n 0, 1, [], 0, 0), (21, .iload_n 2, 1, [], 0, 0), (22, .iaload, 1, [], 0, 0), (23, .bipush 7, 2, [], 0, 0), (25, .iand, 1, [], 0, 0), (26, .istore_n 3, 1, [], 0, 0), (27, .aload_n 0, 1, [], 0, 0), (28, .iload_n 2, 1, [], 0, 0), (29, .iconst 1, 1, [], 0, 0), (30, .iadd, 1, [], 0, 0), (31, .iaload, 1, [], 0, 0), (32, .istore 4, 2, [], 0, 0), (34, .iload_n 3, 1, [], 0, 0), (35, .iconst 1, 1, [], 0, 0), (36, .if_icmp .gt 19, 3, [], 0, 0), (39, .aload_n 1, 1, [], 0, 0), (40, .bipush 96, 2, [], 0, 0), (42, .iload 4, 2, [], 0, 0), (44, .bipush 7, 2, [], 0, 0), (46, .iand, 1, [], 0, 0), (47, .iadd, 1, [], 0, 0), (48, .invokevirtual 12, 3, [], 4, 0), (51, .pop, 1, [], 0, 0), (52, .goto 82, 3, [], 0, 0), (55, .iload_n 3, 1, [], 0, 0), (56, .iconst 2, 1, [], 0, 0), (57, .if_icmp .ne 19, 3, [], 0, 0), (60, .aload_n 1, 1, [], 0, 0), (61, .bipush 31, 2, [], 0, 0), (63, .iload 4, 2, [], 0, 0), (65, .bipush 63, 2, [], 0, 0), (67, .iand, 1, [], 0, 0), (68, .iadd, 1, [], 0, 0), (69, .invokevirtual 16, 3, [], 6, 0), (72, .pop, 1, [], 0, 0), (73, .goto 61, 3, [], 0, 0), (76, .iload_n 3, 1, [], 0, 0), (77, .iconst 3, 1, [], 0, 0), (78, .if_icmp .ne 11, 3, [], 0, 0), (81, .aload_n 1, 1, [], 0, 0), (82, .invokevirtual 19, 3, [], 3, 0), (85, .pop, 1, [], 0, 0), (86, .goto 48, 3, [], 0, 0), (89, .iload_n 3, 1, [], 0, 0), (90, .bipush 7, 2, [], 0, 0), (92, .if_icmp .ne 11, 3, [], 0, 0), (95, .aload_n 1, 1, [], 0, 0), (96, .invokevirtual 23, 3, [], 23, 0), (99, .pop, 1, [], 0, 0), (100, .goto 34, 3, [], 0, 0), (103, .bipush 97, 2, [], 0, 0), (105, .iload 4, 2, [], 0, 0), (107, .bipush 7, 2, [], 0, 0), (109, .iand, 1, [], 0, 0), (110, .iadd, 1, [], 0, 0), (111, .istore 5, 2, [], 0, 0), (113, .iload 4, 2, [], 0, 0), (115, .bipush 48, 2, [], 0, 0), (117, .iand, 1, [], 0, 0), (118, .bipush 48, 2, [], 0, 0), (120, .if_icmp .ne 7, 3, [], 0, 0), (123, .bipush 127, 2, [], 0, 0), (125, .istore 5, 2, [], 0, 0), (127, .aload_n 1, 1, [false, false, false, true, true, false, true, true], 0, 0), (128, .iload 5, 2, [], 0, 0), (130, .invokevirtual 26, 3, [], 24, 0), (133, .pop, 1, [], 0, 0), (134, .iinc 2 2, 3, [], 0, 0), (137, .goto (-125), 3, [], 0, 0), (140, .aload_n 1, 1, [true, false, true, true, true, true, true, true], 0, 0), (141, .invokevirtual 29, 3, [], 14, 0), (144, .iconst 1, 1, [], 0, 0), (145, .if_icmp .eq 5, 3, [], 0, 0), (148, .iconst 1, 1, [], 0, 0), (149, .ireturn, 1, [], 0, 0), (150, .new 7, 3, [], 0, 0), (153, .dup, 1, [], 0, 0), (154, .iconst 4, 1, [], 0, 0), (155, .iconst 3, 1, [], 0, 0), (156, .invokespecial 9, 3, [], 1, 0), (159, .astore_n 2, 1, [], 0, 0), (160, .aload_n 1, 1, [], 0, 0), (161, .invokevirtual 32, 3, [], 15, 0), (164, .istore_n 3, 1, [], 0, 0), (165, .iconst 0, 1, [], 0, 0), (166, .istore 4, 2, [], 0, 0), (168, .iload 4, 2, [true, false, false, false, false, true, true, true], 0, 0), (170, .bipush 16, 2, [], 0, 0), (172, .if_icmp .ge 93, 3, [], 0, 0), (175, .iload 4, 2, [], 0, 0), (177, .iload_n 3, 1, [], 0, 0), (178, .if_icmp .ge 87, 3, [], 0, 0), (181, .aload_n 1, 1, [], 0, 0), (182, .iload 4, 2, [], 0, 0), (184, .invokevirtual 35, 3, [], 16, 0), (187, .istore 5, 2, [], 0, 0), (189, .iconst 0, 1, [], 0, 0), (190, .istore 6, 2, [], 0, 0), (192, .iload 6, 2, [true, false, false, false, false, false, false, true], 0, 0), (194, .bipush 8, 2, [], 0, 0), (196, .if_icmp .ge 41, 3, [], 0, 0), (199, .iload 6, 2, [], 0, 0), (201, .iload 5, 2, [], 0, 0), (203, .if_icmp .ge 34, 3, [], 0, 0), (206, .aload_n 1, 1, [], 0, 0), (207, .iload 4, 2, [], 0, 0), (209, .iload 6, 2, [], 0, 0), (211, .invokevirtual 38, 3, [], 17, 0), (214, .istore 7, 2, [], 0, 0), (216, .aload_n 2, 1, [], 0, 0), (217, .iload 7, 2, [], 0, 0), (219, .invokevirtual 12, 3, [], 4, 0), (222, .iload 6, 2, [], 0, 0), (224, .iconst 1, 1, [], 0, 0), (225, .iadd, 1, [], 0, 0), (226, .if_icmp .eq 5, 3, [], 0, 0), (229, .iconst 0, 1, [], 0, 0), (230, .ireturn, 1, [], 0, 0), (231, .iinc 6 1, 3, [], 0, 0), (234, .goto (-42), 3, [], 0, 0), (237, .aload_n 1, 1, [true, false, false, false, false, true, true, true], 0, 0), (238, .iload 4, 2, [], 0, 0), (240, .iconst (-1), 1, [], 0, 0), (241, .invokevirtual 38, 3, [], 17, 0), (244, .istore 6, 2, [], 0, 0), (246, .aload_n 2, 1, [], 0, 0), (247, .iload 6, 2, [], 0, 0), (249, .invokevirtual 16, 3, [], 6, 0), (252, .iload 4, 2, [], 0, 0), (254, .if_icmp .eq 5, 3, [], 0, 0), (257, .iconst 0, 1, [], 0, 0), (258, .ireturn, 1, [], 0, 0), (259, .iinc 4 1, 3, [], 0, 0), (262, .goto (-94), 3, [], 0, 0), (265, .aload_n 2, 1, [true, false, false, false, true, true, true, true], 0, 0), (266, .invokevirtual 19, 3, [], 3, 0), (269, .ifCond .eq 5, 3, [], 0, 0), (272, .iconst 0, 1, [], 0, 0), (273, .ireturn, 1, [], 0, 0), (274, .aload_n 1, 1, [], 0, 0), (275, .invokevirtual 42, 3, [], 19, 0), (278, .istore 4, 2, [], 0, 0), (280, .iconst 0, 1, [], 0, 0), (281, .istore 5, 2, [], 0, 0), (283, .iload 5, 2, [true, false, false, false, false, false, true, true], 0, 0), (285, .sipush 240, 3, [], 0, 0), (288, .if_icmp .ge 35, 3, [], 0, 0), (291, .iload 5, 2, [], 0, 0), (293, .iload 4, 2, [], 0, 0), (295, .if_icmp .ge 28, 3, [], 0, 0), (298, .aload_n 1, 1, [], 0, 0), (299, .iload 5, 2, [], 0, 0), (301, .invokevirtual 45, 3, [], 32, 0), (304, .istore 6, 2, [], 0, 0), (306, .aload_n 2, 1, [], 0, 0), (307, .iload 6, 2, [], 0, 0), (309, .invokevirtual 26, 3, [], 24, 0), (312, .ifCond .ge 5, 3, [], 0, 0), (315, .iconst 0, 1, [], 0, 0), (316, .ireturn, 1, [], 0, 0), (317, .iinc 5 1, 3, [], 0, 0), (320, .goto (-37), 3, [], 0, 0), (323, .aload_n 2, 1, [true, false, false, false, false, true, true, true], 0, 0), (324, .invokevirtual 32, 3, [], 15, 0), (327, .iload_n 3, 1, [], 0, 0), (328, .if_icmp .eq 5, 3, [], 0, 0), (331, .iconst 0, 1, [], 0, 0), (332, .ireturn, 1, [], 0, 0), (333, .aload_n 2, 1, [], 0, 0), (334, .invokevirtual 42, 3, [], 19, 0), (337, .iload 4, 2, [], 0, 0), (339, .if_icmp .eq 5, 3, [], 0, 0), (342, .iconst 0, 1, [], 0, 0), (343, .ireturn, 1, [], 0, 0), (344, .aload_n 2, 1, [], 0, 0), (345, .invokevirtual 48, 3, [], 20, 0), (348, .aload_n 1, 1, [], 0, 0), (349, .invokevirtual 48, 3, [], 20, 0), (352, .if_icmp .eq 5, 3, [], 0, 0), (355, .iconst 0, 1, [], 0, 0), (356, .ireturn, 1, [], 0, 0), (357, .aload_n 2, 1, [], 0, 0), (358, .invokevirtual 51, 3, [], 21, 0), (361, .aload_n 1, 1, [], 0, 0), (362, .invokevirtual 51, 3, [], 21, 0), (365, .if_icmp .eq 5, 3, [], 0, 0), (368, .iconst 0, 1, [], 0, 0), (369, .ireturn, 1, [], 0, 0), (370, .aload_n 1, 1, [], 0, 0), (371, .invokevirtual 54, 3, [], 22, 0), (374, .istore 5, 2, [], 0, 0), (376, .aload_n 2, 1, [], 0, 0), (377, .invokevirtual 54, 3, [], 22, 0), (380, .iload 5, 2, [], 0, 0), (382, .if_icmp .eq 5, 3, [], 0, 0), (385, .iconst 0, 1, [], 0, 0), (386, .ireturn, 1, [], 0, 0), (387, .iconst 0, 1, [], 0, 0), (388, .istore 6, 2, [], 0, 0), (390, .iload 6, 2, [true, false, false, true, false, false, false, true], 0, 0), (392, .sipush 240, 3, [], 0, 0), (395, .if_icmp .ge 37, 3, [], 0, 0), (398, .iload 6, 2, [], 0, 0), (400, .iload 5, 2, [], 0, 0), (402, .if_icmp .ge 30, 3, [], 0, 0), (405, .aload_n 1, 1, [], 0, 0), (406, .iload 6, 2, [], 0, 0), (408, .invokevirtual 57, 3, [], 33, 0), (411, .istore 7, 2, [], 0, 0), (413, .aload_n 2, 1, [], 0, 0), (414, .iload 6, 2, [], 0, 0), (416, .invokevirtual 57, 3, [], 33, 0), (419, .iload 7, 2, [], 0, 0), (421, .if_icmp .eq 5, 3, [], 0, 0), (424, .iconst 0, 1, [], 0, 0), (425, .ireturn, 1, [], 0, 0), (426, .iinc 6 1, 3, [], 0, 0), (429, .goto (-39), 3, [], 0, 0), (432, .iconst 0, 1, [], 0, 0), (433, .istore 6, 2, [], 0, 0), (435, .iload 6, 2, [true, false, false, true, false, true, false, true], 0, 0), (437, .sipush 240, 3, [], 0, 0), (440, .if_icmp .ge 37, 3, [], 0, 0), (443, .iload 6, 2, [], 0, 0), (445, .iload 4, 2, [], 0, 0), (447, .if_icmp .ge 30, 3, [], 0, 0), (450, .aload_n 1, 1, [], 0, 0), (451, .iload 6, 2, [], 0, 0), (453, .invokevirtual 60, 3, [], 34, 0), (456, .istore 7, 2, [], 0, 0), (458, .aload_n 2, 1, [], 0, 0), (459, .iload 6, 2, [], 0, 0), (461, .invokevirtual 60, 3, [], 34, 0), (464, .iload 7, 2, [], 0, 0), (466, .if_icmp .eq 5, 3, [], 0, 0), (469, .iconst 0, 1, [], 0, 0), (470, .ireturn, 1, [], 0, 0), (471, .iinc 6 1, 3, [], 0, 0), (474, .goto (-39), 3, [], 0, 0), (477, .iconst 1, 1, [], 0, 0), (478, .ireturn, 1, [], 0, 0)])
def d_1 : MD := (⟨"MultiPatternScan", "<init>", "(II)V"⟩, prog_1_method_1_code, 6, none, 1, 2, 0, 1, 12, [(0, .aload_n 0, 1, [], 0, 0), (1, .invokespecial 1, 3, [], 0, -1), (4, .aload_n 0, 1, [], 0, 0), (5, .sipush 128, 3, [], 0, 0), (8, .newarray .int, 2, [], 0, 0), (10, .putfield 7, 3, [], 0, 0), (13, .aload_n 0, 1, [], 0, 0), (14, .bipush 16, 2, [], 0, 0), (16, .newarray .int, 2, [], 0, 0), (18, .putfield 13, 3, [], 1, 0), (21, .aload_n 0, 1, [], 0, 0), (22, .bipush 16, 2, [], 0, 0), (24, .newarray .int, 2, [], 0, 0), (26, .putfield 16, 3, [], 2, 0), (29, .aload_n 0, 1, [], 0, 0), (30, .bipush 8, 2, [], 0, 0), (32, .newarray .int, 2, [], 0, 0), (34, .putfield 19, 3, [], 3, 0), (37, .aload_n 0, 1, [], 0, 0), (38, .sipush 3354, 3, [], 0, 0), (41, .newarray .int, 2, [], 0, 0), (43, .putfield 22, 3, [], 4, 0), (46, .aload_n 0, 1, [], 0, 0), (47, .sipush 3354, 3, [], 0, 0), (50, .newarray .int, 2, [], 0, 0), (52, .putfield 25, 3, [], 5, 0), (55, .aload_n 0, 1, [], 0, 0), (56, .sipush 129, 3, [], 0, 0), (59, .newarray .int, 2, [], 0, 0), (61, .putfield 28, 3, [], 6, 0), (64, .aload_n 0, 1, [], 0, 0), (65, .sipush 129, 3, [], 0, 0), (68, .newarray .int, 2, [], 0, 0), (70, .putfield 31, 3, [], 7, 0), (73, .aload_n 0, 1, [], 0, 0), (74, .sipush 129, 3, [], 0, 0), (77, .newarray .int, 2, [], 0, 0), (79, .putfield 34, 3, [], 8, 0), (82, .aload_n 0, 1, [], 0, 0), (83, .sipush 129, 3, [], 0, 0), (86, .newarray .int, 2, [], 0, 0), (88, .putfield 37, 3, [], 9, 0), (91, .aload_n 0, 1, [], 0, 0), (92, .sipush 129, 3, [], 0, 0), (95, .newarray .int, 2, [], 0, 0), (97, .putfield 40, 3, [], 10, 0), (100, .aload_n 0, 1, [], 0, 0), (101, .sipush 240, 3, [], 0, 0), (104, .newarray .int, 2, [], 0, 0), (106, .putfield 43, 3, [], 11, 0), (109, .aload_n 0, 1, [], 0, 0), (110, .sipush 240, 3, [], 0, 0), (113, .newarray .int, 2, [], 0, 0), (115, .putfield 46, 3, [], 12, 0), (118, .aload_n 0, 1, [], 0, 0), (119, .sipush 240, 3, [], 0, 0), (122, .newarray .int, 2, [], 0, 0), (124, .putfield 49, 3, [], 13, 0), (127, .aload_n 0, 1, [], 0, 0), (128, .bipush 8, 2, [], 0, 0), (130, .newarray .int, 2, [], 0, 0), (132, .putfield 52, 3, [], 14, 0), (135, .iload_n 1, 1, [], 0, 0), (136, .istore_n 3, 1, [], 0, 0), (137, .iload_n 3, 1, [], 0, 0), (138, .iconst 1, 1, [], 0, 0), (139, .if_icmp .ge 5, 3, [], 0, 0), (142, .iconst 1, 1, [], 0, 0), (143, .istore_n 3, 1, [], 0, 0), (144, .iload_n 3, 1, [false, true, false, false, true, true], 0, 0), (145, .bipush 16, 2, [], 0, 0), (147, .if_icmp .le 6, 3, [], 0, 0), (150, .bipush 16, 2, [], 0, 0), (152, .istore_n 3, 1, [], 0, 0), (153, .iload_n 2, 1, [false, true, false, false, true, true], 0, 0), (154, .istore 4, 2, [], 0, 0), (156, .iload 4, 2, [], 0, 0), (158, .iconst 1, 1, [], 0, 0), (159, .if_icmp .ge 6, 3, [], 0, 0), (162, .iconst 1, 1, [], 0, 0), (163, .istore 4, 2, [], 0, 0), (165, .iload 4, 2, [false, true, true, false, false, true], 0, 0), (167, .bipush 8, 2, [], 0, 0), (169, .if_icmp .le 7, 3, [], 0, 0), (172, .bipush 8, 2, [], 0, 0), (174, .istore 4, 2, [], 0, 0), (176, .aload_n 0, 1, [false, true, true, false, false, true], 0, 0), (177, .iload_n 3, 1, [], 0, 0), (178, .putfield 55, 3, [], 15, 0), (181, .aload_n 0, 1, [], 0, 0), (182, .iload 4, 2, [], 0, 0), (184, .putfield 59, 3, [], 16, 0), (187, .aload_n 0, 1, [], 0, 0), (188, .iconst 0, 1, [], 0, 0), (189, .putfield 62, 3, [], 17, 0), (192, .aload_n 0, 1, [], 0, 0), (193, .iconst 0, 1, [], 0, 0), (194, .putfield 65, 3, [], 18, 0), (197, .aload_n 0, 1, [], 0, 0), (198, .iconst 0, 1, [], 0, 0), (199, .putfield 68, 3, [], 19, 0), (202, .aload_n 0, 1, [], 0, 0), (203, .iconst 1, 1, [], 0, 0), (204, .putfield 71, 3, [], 20, 0), (207, .aload_n 0, 1, [], 0, 0), (208, .iconst 1, 1, [], 0, 0), (209, .putfield 74, 3, [], 21, 0), (212, .iconst 0, 1, [], 0, 0), (213, .istore 5, 2, [], 0, 0), (215, .iload 5, 2, [false, true, true, true, true], 0, 0), (217, .sipush 129, 3, [], 0, 0), (220, .if_icmp .ge 17, 3, [], 0, 0), (223, .aload_n 0, 1, [], 0, 0), (224, .getfield 34, 3, [], 8, 0), (227, .iload 5, 2, [], 0, 0), (229, .iconst (-1), 1, [], 0, 0), (230, .iastore, 1, [], 0, 0), (231, .iinc 5 1, 3, [], 0, 0), (234, .goto (-19), 3, [], 0, 0), (237, .aload_n 0, 1, [false, true, true, true, true, true], 0, 0), (238, .invokevirtual 77, 3, [], 2, 0), (241, .return_, 1, [], 0, 0)])
def d_2 : MD := (⟨"MultiPatternScan", "clearText", "()V"⟩, prog_1_method_27_code, 1, none, 2, 0, 0, 0, 0, [(0, .aload_n 0, 1, [], 0, 0), (1, .iconst 0, 1, [], 0, 0), (2, .putfield 101, 3, [], 22, 0), (5, .aload_n 0, 1, [], 0, 0), (6, .iconst 0, 1, [], 0, 0), (7, .putfield 104, 3, [], 23, 0), (10, .aload_n 0, 1, [], 0, 0), (11, .iconst 0, 1, [], 0, 0), (12, .putfield 115, 3, [], 24, 0), (15, .aload_n 0, 1, [], 0, 0), (16, .iconst 0, 1, [], 0, 0), (17, .putfield 127, 3, [], 25, 0), (20, .aload_n 0, 1, [], 0, 0), (21, .iconst 0, 1, [], 0, 0), (22, .putfield 142, 3, [], 26, 0), (25, .aload_n 0, 1, [], 0, 0), (26, .iconst 0, 1, [], 0, 0), (27, .putfield 130, 3, [], 27, 0), (30, .return_, 1, [], 0, 0)])
def d_3 : MD := (⟨"MultiPatternScan", "build", "()I"⟩, prog_1_method_4_code, 1, some .int, 3, 0, 0, 2, 35, [(0, .aload_n 0, 1, [], 0, 0), (1, .getfield 62, 3, [], 17, 0), (4, .ifCond .eq 5, 3, [], 0, 0), (7, .iconst (-1), 1, [], 0, 0), (8, .ireturn, 1, [], 0, 0), (9, .aload_n 0, 1, [], 0, 0), (10, .getfield 68, 3, [], 19, 0), (13, .ifCond .eq 6, 3, [], 0, 0), (16, .bipush (-7), 2, [], 0, 0), (18, .ireturn, 1, [], 0, 0), (19, .aload_n 0, 1, [], 0, 0), (20, .getfield 65, 3, [], 18, 0), (23, .ifCond .ne 6, 3, [], 0, 0), (26, .bipush (-4), 2, [], 0, 0), (28, .ireturn, 1, [], 0, 0), (29, .aload_n 0, 1, [], 0, 0), (30, .invokevirtual 95, 3, [], 10, 0), (33, .aload_n 0, 1, [], 0, 0), (34, .invokevirtual 98, 3, [], 12, 0), (37, .aload_n 0, 1, [], 0, 0), (38, .iconst 1, 1, [], 0, 0), (39, .putfield 62, 3, [], 17, 0), (42, .aload_n 0, 1, [], 0, 0), (43, .invokevirtual 77, 3, [], 2, 0), (46, .iconst 0, 1, [], 0, 0), (47, .ireturn, 1, [], 0, 0)])
def d_4 : MD := (⟨"MultiPatternScan", "addChar", "(I)I"⟩, prog_1_method_2_code, 2, some .int, 3, 1, 0, 1, 13, [(0, .aload_n 0, 1, [], 0, 0), (1, .getfield 62, 3, [], 17, 0), (4, .ifCond .eq 5, 3, [], 0, 0), (7, .iconst (-1), 1, [], 0, 0), (8, .ireturn, 1, [], 0, 0), (9, .aload_n 0, 1, [], 0, 0), (10, .iload_n 1, 1, [], 0, 0), (11, .invokevirtual 80, 3, [], 5, 0), (14, .ifCond .ne 6, 3, [], 0, 0), (17, .bipush (-2), 2, [], 0, 0), (19, .ireturn, 1, [], 0, 0), (20, .aload_n 0, 1, [], 0, 0), (21, .getfield 65, 3, [], 18, 0), (24, .aload_n 0, 1, [], 0, 0), (25, .getfield 55, 3, [], 15, 0), (28, .if_icmp .lt 6, 3, [], 0, 0), (31, .bipush (-3), 2, [], 0, 0), (33, .ireturn, 1, [], 0, 0), (34, .aload_n 0, 1, [], 0, 0), (35, .getfield 68, 3, [], 19, 0), (38, .aload_n 0, 1, [], 0, 0), (39, .getfield 59, 3, [], 16, 0), (42, .if_icmp .ge 12, 3, [], 0, 0), (45, .aload_n 0, 1, [], 0, 0), (46, .getfield 68, 3, [], 19, 0), (49, .bipush 8, 2, [], 0, 0), (51, .if_icmp .lt 6, 3, [], 0, 0), (54, .bipush (-3), 2, [], 0, 0), (56, .ireturn, 1, [], 0, 0), (57, .aload_n 0, 1, [], 0, 0), (58, .getfield 19, 3, [], 3, 0), (61, .aload_n 0, 1, [], 0, 0), (62, .getfield 68, 3, [], 19, 0), (65, .iload_n 1, 1, [], 0, 0), (66, .iastore, 1, [], 0, 0), (67, .aload_n 0, 1, [], 0, 0), (68, .dup, 1, [], 0, 0), (69, .getfield 68, 3, [], 19, 0), (72, .iconst 1, 1, [], 0, 0), (73, .iadd, 1, [], 0, 0), (74, .putfield 68, 3, [], 19, 0), (77, .aload_n 0, 1, [], 0, 0), (78, .getfield 68, 3, [], 19, 0), (81, .ireturn, 1, [], 0, 0)])
def d_5 : MD := (⟨"MultiPatternScan", "isLetter", "(I)Z"⟩, prog_1_method_32_code, 2, some .boolean, 2, 1, 0, 0, 0, [(0, .iload_n 1, 1, [], 0, 0), (1, .bipush 97, 2, [], 0, 0), (3, .if_icmp .lt 13, 3, [], 0, 0), (6, .iload_n 1, 1, [], 0, 0), (7, .bipush 122, 2, [], 0, 0), (9, .if_icmp .gt 7, 3, [], 0, 0), (12, .iconst 1, 1, [], 0, 0), (13, .goto 4, 3, [], 0, 0), (16, .iconst 0, 1, [], 0, 0), (17, .ireturn, 1, [], 0, 0)])
def d_6 : MD := (⟨"MultiPatternScan", "endKeyword", "(I)I"⟩, prog_1_method_3_code, 2, some .int, 3, 1, 0, 2, 28, [(0, .aload_n 0, 1, [], 0, 0), (1, .getfield 62, 3, [], 17, 0), (4, .ifCond .eq 5, 3, [], 0, 0), (7, .iconst (-1), 1, [], 0, 0), (8, .ireturn, 1, [], 0, 0), (9, .aload_n 0, 1, [], 0, 0), (10, .getfield 68, 3, [], 19, 0), (13, .ifCond .ne 6, 3, [], 0, 0), (16, .bipush (-4), 2, [], 0, 0), (18, .ireturn, 1, [], 0, 0), (19, .aload_n 0, 1, [], 0, 0), (20, .iload_n 1, 1, [], 0, 0), (21, .invokevirtual 84, 3, [], 7, 0), (24, .ifCond .ne 6, 3, [], 0, 0), (27, .bipush (-6), 2, [], 0, 0), (29, .ireturn, 1, [], 0, 0), (30, .aload_n 0, 1, [], 0, 0), (31, .invokevirtual 87, 3, [], 8, 0), (34, .ifCond .eq 6, 3, [], 0, 0), (37, .bipush (-5), 2, [], 0, 0), (39, .ireturn, 1, [], 0, 0), (40, .aload_n 0, 1, [], 0, 0), (41, .getfield 65, 3, [], 18, 0), (44, .bipush 16, 2, [], 0, 0), (46, .if_icmp .lt 6, 3, [], 0, 0), (49, .bipush (-3), 2, [], 0, 0), (51, .ireturn, 1, [], 0, 0), (52, .aload_n 0, 1, [], 0, 0), (53, .iload_n 1, 1, [], 0, 0), (54, .invokevirtual 91, 3, [], 9, 0), (57, .aload_n 0, 1, [], 0, 0), (58, .getfield 65, 3, [], 18, 0), (61, .iconst 1, 1, [], 0, 0), (62, .isub, 1, [], 0, 0), (63, .ireturn, 1, [], 0, 0)])
def d_7 : MD := (⟨"MultiPatternScan", "isPrintable", "(I)Z"⟩, prog_1_method_33_code, 2, some .boolean, 2, 1, 0, 0, 0, [(0, .iload_n 1, 1, [], 0, 0), (1, .bipush 32, 2, [], 0, 0), (3, .if_icmp .lt 13, 3, [], 0, 0), (6, .iload_n 1, 1, [], 0, 0), (7, .bipush 126, 2, [], 0, 0), (9, .if_icmp .gt 7, 3, [], 0, 0), (12, .iconst 1, 1, [], 0, 0), (13, .goto 4, 3, [], 0, 0), (16, .iconst 0, 1, [], 0, 0), (17, .ireturn, 1, [], 0, 0)])
def d_8 : MD := (⟨"MultiPatternScan", "pendingIsDuplicate", "()Z"⟩, prog_1_method_19_code, 2, some .boolean, 2, 0, 0, 1, 15, [(0, .iconst 0, 1, [], 0, 0), (1, .istore_n 1, 1, [], 0, 0), (2, .iload_n 1, 1, [], 0, 0), (3, .aload_n 0, 1, [], 0, 0), (4, .getfield 65, 3, [], 18, 0), (7, .if_icmp .ge 25, 3, [], 0, 0), (10, .iload_n 1, 1, [], 0, 0), (11, .bipush 16, 2, [], 0, 0), (13, .if_icmp .ge 19, 3, [], 0, 0), (16, .aload_n 0, 1, [], 0, 0), (17, .iload_n 1, 1, [], 0, 0), (18, .invokevirtual 133, 3, [], 25, 0), (21, .ifCond .eq 5, 3, [], 0, 0), (24, .iconst 1, 1, [], 0, 0), (25, .ireturn, 1, [], 0, 0), (26, .iinc 1 1, 3, [], 0, 0), (29, .goto (-27), 3, [], 0, 0), (32, .iconst 0, 1, [], 0, 0), (33, .ireturn, 1, [], 0, 0)])
def d_9 : MD := (⟨"MultiPatternScan", "storePending", "(I)V"⟩, prog_1_method_21_code, 4, none, 2, 1, 0, 0, 0, [(0, .aload_n 0, 1, [], 0, 0), (1, .getfield 65, 3, [], 18, 0), (4, .bipush 8, 2, [], 0, 0), (6, .imul, 1, [], 0, 0), (7, .istore_n 2, 1, [], 0, 0), (8, .iconst 0, 1, [], 0, 0), (9, .istore_n 3, 1, [], 0, 0), (10, .iload_n 3, 1, [], 0, 0), (11, .aload_n 0, 1, [], 0, 0), (12, .getfield 68, 3, [], 19, 0), (15, .if_icmp .ge 29, 3, [], 0, 0), (18, .iload_n 3, 1, [], 0, 0), (19, .bipush 8, 2, [], 0, 0), (21, .if_icmp .ge 23, 3, [], 0, 0), (24, .aload_n 0, 1, [], 0, 0), (25, .getfield 7, 3, [], 0, 0), (28, .iload_n 2, 1, [], 0, 0), (29, .iload_n 3, 1, [], 0, 0), (30, .iadd, 1, [], 0, 0), (31, .aload_n 0, 1, [], 0, 0), (32, .getfield 19, 3, [], 3, 0), (35, .iload_n 3, 1, [], 0, 0), (36, .iaload, 1, [], 0, 0), (37, .iastore, 1, [], 0, 0), (38, .iinc 3 1, 3, [], 0, 0), (41, .goto (-31), 3, [], 0, 0), (44, .aload_n 0, 1, [false, false, true, true], 0, 0), (45, .getfield 13, 3, [], 1, 0), (48, .aload_n 0, 1, [], 0, 0), (49, .getfield 65, 3, [], 18, 0), (52, .aload_n 0, 1, [], 0, 0), (53, .getfield 68, 3, [], 19, 0), (56, .iastore, 1, [], 0, 0), (57, .aload_n 0, 1, [], 0, 0), (58, .getfield 16, 3, [], 2, 0), (61, .aload_n 0, 1, [], 0, 0), (62, .getfield 65, 3, [], 18, 0), (65, .iload_n 1, 1, [], 0, 0), (66, .iastore, 1, [], 0, 0), (67, .aload_n 0, 1, [], 0, 0), (68, .dup, 1, [], 0, 0), (69, .getfield 65, 3, [], 18, 0), (72, .iconst 1, 1, [], 0, 0), (73, .iadd, 1, [], 0, 0), (74, .putfield 65, 3, [], 18, 0), (77, .aload_n 0, 1, [], 0, 0), (78, .iconst 0, 1, [], 0, 0), (79, .putfield 68, 3, [], 19, 0), (82, .return_, 1, [], 0, 0)])
def d_10 : MD := (⟨"MultiPatternScan", "buildTrie", "()V"⟩, prog_1_method_22_code, 2, none, 2, 0, 0, 1, 18, [(0, .aload_n 0, 1, [], 0, 0), (1, .iconst 1, 1, [], 0, 0), (2, .putfield 71, 3, [], 20, 0), (5, .aload_n 0, 1, [], 0, 0), (6, .iconst 1, 1, [], 0, 0), (7, .putfield 74, 3, [], 21, 0), (10, .iconst 0, 1, [], 0, 0), (11, .istore_n 1, 1, [], 0, 0), (12, .iload_n 1, 1, [], 0, 0), (13, .aload_n 0, 1, [], 0, 0), (14, .getfield 65, 3, [], 18, 0), (17, .if_icmp .ge 43, 3, [], 0, 0), (20, .iload_n 1, 1, [], 0, 0), (21, .bipush 16, 2, [], 0, 0), (23, .if_icmp .ge 37, 3, [], 0, 0), (26, .aload_n 0, 1, [], 0, 0), (27, .iload_n 1, 1, [], 0, 0), (28, .invokevirtual 136, 3, [], 11, 0), (31, .aload_n 0, 1, [], 0, 0), (32, .getfield 13, 3, [], 1, 0), (35, .iload_n 1, 1, [], 0, 0), (36, .iaload, 1, [], 0, 0), (37, .aload_n 0, 1, [], 0, 0), (38, .getfield 74, 3, [], 21, 0), (41, .if_icmp .le 13, 3, [], 0, 0), (44, .aload_n 0, 1, [], 0, 0), (45, .aload_n 0, 1, [], 0, 0), (46, .getfield 13, 3, [], 1, 0), (49, .iload_n 1, 1, [], 0, 0), (50, .iaload, 1, [], 0, 0), (51, .putfield 74, 3, [], 21, 0), (54, .iinc 1 1, 3, [], 0, 0), (57, .goto (-45), 3, [], 0, 0), (60, .return_, 1, [], 0, 0)])
def d_11 : MD := (⟨"MultiPatternScan", "insertKeyword", "(I)V"⟩, prog_1_method_23_code, 7, none, 2, 1, 0, 0, 0, [(0, .iconst 0, 1, [], 0, 0), (1, .istore_n 2, 1, [], 0, 0), (2, .iload_n 1, 1, [], 0, 0), (3, .bipush 8, 2, [], 0, 0), (5, .imul, 1, [], 0, 0), (6, .istore_n 3, 1, [], 0, 0), (7, .iconst 0, 1, [], 0, 0), (8, .istore 4, 2, [], 0, 0), (10, .iload 4, 2, [false, false, false, false, false, true, true], 0, 0), (12, .aload_n 0, 1, [], 0, 0), (13, .getfield 13, 3, [], 1, 0), (16, .iload_n 1, 1, [], 0, 0), (17, .iaload, 1, [], 0, 0), (18, .if_icmp .ge 119, 3, [], 0, 0), (21, .iload 4, 2, [], 0, 0), (23, .bipush 8, 2, [], 0, 0), (25, .if_icmp .ge 112, 3, [], 0, 0), (28, .aload_n 0, 1, [], 0, 0), (29, .getfield 7, 3, [], 0, 0), (32, .iload_n 3, 1, [], 0, 0), (33, .iload 4, 2, [], 0, 0), (35, .iadd, 1, [], 0, 0), (36, .iaload, 1, [], 0, 0), (37, .bipush 97, 2, [], 0, 0), (39, .isub, 1, [], 0, 0), (40, .istore 5, 2, [], 0, 0), (42, .iload 5, 2, [], 0, 0), (44, .ifCond .lt 10, 3, [], 0, 0), (47, .iload 5, 2, [], 0, 0), (49, .bipush 26, 2, [], 0, 0), (51, .if_icmp .lt 4, 3, [], 0, 0), (54, .return_, 1, [], 0, 0), (55, .iload_n 2, 1, [], 0, 0), (56, .bipush 26, 2, [], 0, 0), (58, .imul, 1, [], 0, 0), (59, .iload 5, 2, [], 0, 0), (61, .iadd, 1, [], 0, 0), (62, .istore 6, 2, [], 0, 0), (64, .aload_n 0, 1, [], 0, 0), (65, .getfield 22, 3, [], 4, 0), (68, .iload 6, 2, [], 0, 0), (70, .iaload, 1, [], 0, 0), (71, .ifCond .ne 52, 3, [], 0, 0), (74, .aload_n 0, 1, [], 0, 0), (75, .getfield 71, 3, [], 20, 0), (78, .sipush 129, 3, [], 0, 0), (81, .if_icmp .lt 4, 3, [], 0, 0), (84, .return_, 1, [], 0, 0), (85, .aload_n 0, 1, [], 0, 0), (86, .getfield 22, 3, [], 4, 0), (89, .iload 6, 2, [], 0, 0), (91, .aload_n 0, 1, [], 0, 0), (92, .getfield 71, 3, [], 20, 0), (95, .iastore, 1, [], 0, 0), (96, .aload_n 0, 1, [], 0, 0), (97, .getfield 31, 3, [], 7, 0), (100, .aload_n 0, 1, [], 0, 0), (101, .getfield 71, 3, [], 20, 0), (104, .aload_n 0, 1, [], 0, 0), (105, .getfield 31, 3, [], 7, 0), (108, .iload_n 2, 1, [], 0, 0), (109, .iaload, 1, [], 0, 0), (110, .iconst 1, 1, [], 0, 0), (111, .iadd, 1, [], 0, 0), (112, .iastore, 1, [], 0, 0), (113, .aload_n 0, 1, [], 0, 0), (114, .dup, 1, [], 0, 0), (115, .getfield 71, 3, [], 20, 0), (118, .iconst 1, 1, [], 0, 0), (119, .iadd, 1, [], 0, 0), (120, .putfield 71, 3, [], 20, 0), (123, .aload_n 0, 1, [false, false, true, false, false, true], 0, 0), (124, .getfield 22, 3, [], 4, 0), (127, .iload 6, 2, [], 0, 0), (129, .iaload, 1, [], 0, 0), (130, .istore_n 2, 1, [], 0, 0), (131, .iinc 4 1, 3, [], 0, 0), (134, .goto (-124), 3, [], 0, 0), (137, .aload_n 0, 1, [false, false, false, true, true, true, true], 0, 0), (138, .getfield 34, 3, [], 8, 0), (141, .iload_n 2, 1, [], 0, 0), (142, .iload_n 1, 1, [], 0, 0), (143, .iastore, 1, [], 0, 0), (144, .aload_n 0, 1, [], 0, 0), (145, .getfield 37, 3, [], 9, 0), (148, .iload_n 2, 1, [], 0, 0), (149, .aload_n 0, 1, [], 0, 0), (150, .getfield 37, 3, [], 9, 0), (153, .iload_n 2, 1, [], 0, 0), (154, .iaload, 1, [], 0, 0), (155, .iconst 1, 1, [], 0, 0), (156, .iload_n 1, 1, [], 0, 0), (157, .ishl, 1, [], 0, 0), (158, .ior, 1, [], 0, 0), (159, .iastore, 1, [], 0, 0), (160, .return_, 1, [], 0, 0)])
def d_12 : MD := (⟨"MultiPatternScan", "computeLinks", "()V"⟩, prog_1_method_24_code, 5, none, 2, 0, 0, 1, 19, [(0, .iconst 0, 1, [], 0, 0), (1, .istore_n 1, 1, [], 0, 0), (2, .iconst 0, 1, [], 0, 0), (3, .istore_n 2, 1, [], 0, 0), (4, .aload_n 0, 1, [], 0, 0), (5, .getfield 28, 3, [], 6, 0), (8, .iconst 0, 1, [], 0, 0), (9, .iconst 0, 1, [], 0, 0), (10, .iastore, 1, [], 0, 0), (11, .iconst 0, 1, [], 0, 0), (12, .istore_n 3, 1, [], 0, 0), (13, .iload_n 3, 1, [false, false, false, false, true], 0, 0), (14, .bipush 26, 2, [], 0, 0), (16, .if_icmp .ge 56, 3, [], 0, 0), (19, .aload_n 0, 1, [], 0, 0), (20, .getfield 22, 3, [], 4, 0), (23, .iload_n 3, 1, [], 0, 0), (24, .iaload, 1, [], 0, 0), (25, .istore 4, 2, [], 0, 0), (27, .aload_n 0, 1, [], 0, 0), (28, .getfield 25, 3, [], 5, 0), (31, .iload_n 3, 1, [], 0, 0), (32, .iload 4, 2, [], 0, 0), (34, .iastore, 1, [], 0, 0), (35, .iload 4, 2, [], 0, 0), (37, .ifCond .eq 29, 3, [], 0, 0), (40, .iload_n 2, 1, [], 0, 0), (41, .sipush 129, 3, [], 0, 0), (44, .if_icmp .ge 22, 3, [], 0, 0), (47, .aload_n 0, 1, [], 0, 0), (48, .getfield 28, 3, [], 6, 0), (51, .iload 4, 2, [], 0, 0), (53, .iconst 0, 1, [], 0, 0), (54, .iastore, 1, [], 0, 0), (55, .aload_n 0, 1, [], 0, 0), (56, .getfield 40, 3, [], 10, 0), (59, .iload_n 2, 1, [], 0, 0), (60, .iload 4, 2, [], 0, 0), (62, .iastore, 1, [], 0, 0), (63, .iinc 2 1, 3, [], 0, 0), (66, .iinc 3 1, 3, [], 0, 0), (69, .goto (-56), 3, [], 0, 0), (72, .iconst 0, 1, [], 0, 0), (73, .istore_n 3, 1, [], 0, 0), (74, .iload_n 3, 1, [false, false, false, false, true], 0, 0), (75, .sipush 129, 3, [], 0, 0), (78, .if_icmp .ge 34, 3, [], 0, 0), (81, .iload_n 1, 1, [], 0, 0), (82, .iload_n 2, 1, [], 0, 0), (83, .if_icmp .lt 4, 3, [], 0, 0), (86, .return_, 1, [], 0, 0), (87, .aload_n 0, 1, [], 0, 0), (88, .getfield 40, 3, [], 10, 0), (91, .iload_n 1, 1, [], 0, 0), (92, .iaload, 1, [], 0, 0), (93, .istore 4, 2, [], 0, 0), (95, .iinc 1 1, 3, [], 0, 0), (98, .aload_n 0, 1, [], 0, 0), (99, .iload 4, 2, [], 0, 0), (101, .iload_n 2, 1, [], 0, 0), (102, .invokevirtual 139, 3, [], 13, 0), (105, .istore_n 2, 1, [], 0, 0), (106, .iinc 3 1, 3, [], 0, 0), (109, .goto (-35), 3, [], 0, 0), (112, .return_, 1, [], 0, 0)])
def d_13 : MD := (⟨"MultiPatternScan", "expandNode", "(II)I"⟩, prog_1_method_25_code, 8, some .int, 2, 2, 0, 0, 0, [(0, .iload_n 1, 1, [], 0, 0), (1, .ifCond .le 10, 3, [], 0, 0), (4, .iload_n 1, 1, [], 0, 0), (5, .sipush 129, 3, [], 0, 0), (8, .if_icmp .lt 5, 3, [], 0, 0), (11, .iload_n 2, 1, [], 0, 0), (12, .ireturn, 1, [], 0, 0), (13, .aload_n 0, 1, [], 0, 0), (14, .getfield 28, 3, [], 6, 0), (17, .iload_n 1, 1, [], 0, 0), (18, .iaload, 1, [], 0, 0), (19, .istore_n 3, 1, [], 0, 0), (20, .iload_n 3, 1, [], 0, 0), (21, .ifCond .lt 10, 3, [], 0, 0), (24, .iload_n 3, 1, [], 0, 0), (25, .sipush 129, 3, [], 0, 0), (28, .if_icmp .lt 5, 3, [], 0, 0), (31, .iconst 0, 1, [], 0, 0), (32, .istore_n 3, 1, [], 0, 0), (33, .aload_n 0, 1, [false, false, false, false, true, true, true, true], 0, 0), (34, .getfield 37, 3, [], 9, 0), (37, .iload_n 1, 1, [], 0, 0), (38, .aload_n 0, 1, [], 0, 0), (39, .getfield 37, 3, [], 9, 0), (42, .iload_n 1, 1, [], 0, 0), (43, .iaload, 1, [], 0, 0), (44, .aload_n 0, 1, [], 0, 0), (45, .getfield 37, 3, [], 9, 0), (48, .iload_n 3, 1, [], 0, 0), (49, .iaload, 1, [], 0, 0), (50, .ior, 1, [], 0, 0), (51, .iastore, 1, [], 0, 0), (52, .iload_n 2, 1, [], 0, 0), (53, .istore 4, 2, [], 0, 0), (55, .iconst 0, 1, [], 0, 0), (56, .istore 5, 2, [], 0, 0), (58, .iload 5, 2, [false, false, true, false, false, false, true, true], 0, 0), (60, .bipush 26, 2, [], 0, 0), (62, .if_icmp .ge 102, 3, [], 0, 0), (65, .aload_n 0, 1, [], 0, 0), (66, .getfield 22, 3, [], 4, 0), (69, .iload_n 1, 1, [], 0, 0), (70, .bipush 26, 2, [], 0, 0), (72, .imul, 1, [], 0, 0), (73, .iload 5, 2, [], 0, 0), (75, .iadd, 1, [], 0, 0), (76, .iaload, 1, [], 0, 0), (77, .istore 6, 2, [], 0, 0), (79, .aload_n 0, 1, [], 0, 0), (80, .getfield 25, 3, [], 5, 0), (83, .iload_n 3, 1, [], 0, 0), (84, .bipush 26, 2, [], 0, 0), (86, .imul, 1, [], 0, 0), (87, .iload 5, 2, [], 0, 0), (89, .iadd, 1, [], 0, 0), (90, .iaload, 1, [], 0, 0), (91, .istore 7, 2, [], 0, 0), (93, .iload 6, 2, [], 0, 0), (95, .ifCond .eq 49, 3, [], 0, 0), (98, .aload_n 0, 1, [], 0, 0), (99, .getfield 28, 3, [], 6, 0), (102, .iload 6, 2, [], 0, 0), (104, .iload 7, 2, [], 0, 0), (106, .iastore, 1, [], 0, 0), (107, .aload_n 0, 1, [], 0, 0), (108, .getfield 25, 3, [], 5, 0), (111, .iload_n 1, 1, [], 0, 0), (112, .bipush 26, 2, [], 0, 0), (114, .imul, 1, [], 0, 0), (115, .iload 5, 2, [], 0, 0), (117, .iadd, 1, [], 0, 0), (118, .iload 6, 2, [], 0, 0), (120, .iastore, 1, [], 0, 0), (121, .iload 4, 2, [], 0, 0), (123, .sipush 129, 3, [], 0, 0), (126, .if_icmp .ge 32, 3, [], 0, 0), (129, .aload_n 0, 1, [], 0, 0), (130, .getfield 40, 3, [], 10, 0), (133, .iload 4, 2, [], 0, 0), (135, .iload 6, 2, [], 0, 0), (137, .iastore, 1, [], 0, 0), (138, .iinc 4 1, 3, [], 0, 0), (141, .goto 17, 3, [], 0, 0), (144, .aload_n 0, 1, [], 0, 0), (145, .getfield 25, 3, [], 5, 0), (148, .iload_n 1, 1, [], 0, 0), (149, .bipush 26, 2, [], 0, 0), (151, .imul, 1, [], 0, 0), (152, .iload 5, 2, [], 0, 0), (154, .iadd, 1, [], 0, 0), (155, .iload 7, 2, [], 0, 0), (157, .iastore, 1, [], 0, 0), (158, .iinc 5 1, 3, [], 0, 0), (161, .goto (-103), 3, [], 0, 0), (164, .iload 4, 2, [], 0, 0), (166, .ireturn, 1, [], 0, 0)])
def d_14 : MD := (⟨"MultiPatternScan", "phase", "()I"⟩, prog_1_method_7_code, 1, some .int, 3, 0, 0, 0, 0, [(0, .aload_n 0, 1, [], 0, 0), (1, .getfield 62, 3, [], 17, 0), (4, .ireturn, 1, [], 0, 0)])
def d_15 : MD := (⟨"MultiPatternScan", "keywordCount", "()I"⟩, prog_1_method_8_code, 1, some .int, 3, 0, 0, 0, 0, [(0, .aload_n 0, 1, [], 0, 0), (1, .getfield 65, 3, [], 18, 0), (4, .ireturn, 1, [], 0, 0)])
def d_16 : MD := (⟨"MultiPatternScan", "keywordLength", "(I)I"⟩, prog_1_method_9_code, 2, some .int, 3, 1, 0, 0, 0, [(0, .iload_n 1, 1, [], 0, 0), (1, .ifCond .lt 18, 3, [], 0, 0), (4, .iload_n 1, 1, [], 0, 0), (5, .aload_n 0, 1, [], 0, 0), (6, .getfield 65, 3, [], 18, 0), (9, .if_icmp .ge 10, 3, [], 0, 0), (12, .aload_n 0, 1, [], 0, 0), (13, .getfield 13, 3, [], 1, 0), (16, .iload_n 1, 1, [], 0, 0), (17, .iaload, 1, [], 0, 0), (18, .ireturn, 1, [], 0, 0), (19, .iload_n 1, 1, [], 0, 0), (20, .aload_n 0, 1, [], 0, 0), (21, .getfield 65, 3, [], 18, 0), (24, .if_icmp .ne 8, 3, [], 0, 0), (27, .aload_n 0, 1, [], 0, 0), (28, .getfield 68, 3, [], 19, 0), (31, .ireturn, 1, [], 0, 0), (32, .iconst (-1), 1, [], 0, 0), (33, .ireturn, 1, [], 0, 0)])
def d_17 : MD := (⟨"MultiPatternScan", "keywordChar", "(II)I"⟩, prog_1_method_10_code, 3, some .int, 3, 2, 0, 1, 14, [(0, .iload_n 1, 1, [], 0, 0), (1, .ifCond .lt 18, 3, [], 0, 0), (4, .iload_n 1, 1, [], 0, 0), (5, .aload_n 0, 1, [], 0, 0), (6, .getfield 65, 3, [], 18, 0), (9, .if_icmp .ge 10, 3, [], 0, 0), (12, .aload_n 0, 1, [], 0, 0), (13, .iload_n 1, 1, [], 0, 0), (14, .iload_n 2, 1, [], 0, 0), (15, .invokevirtual 124, 3, [], 18, 0), (18, .ireturn, 1, [], 0, 0), (19, .iload_n 1, 1, [], 0, 0), (20, .aload_n 0, 1, [], 0, 0), (21, .getfield 65, 3, [], 18, 0), (24, .if_icmp .ne 22, 3, [], 0, 0), (27, .iload_n 2, 1, [], 0, 0), (28, .ifCond .lt 18, 3, [], 0, 0), (31, .iload_n 2, 1, [], 0, 0), (32, .aload_n 0, 1, [], 0, 0), (33, .getfield 68, 3, [], 19, 0), (36, .if_icmp .ge 10, 3, [], 0, 0), (39, .aload_n 0, 1, [], 0, 0), (40, .getfield 19, 3, [], 3, 0), (43, .iload_n 2, 1, [], 0, 0), (44, .iaload, 1, [], 0, 0), (45, .ireturn, 1, [], 0, 0), (46, .iconst (-1), 1, [], 0, 0), (47, .ireturn, 1, [], 0, 0)])
def d_18 : MD := (⟨"MultiPatternScan", "acceptedChar", "(II)I"⟩, prog_1_method_18_code, 3, some .int, 2, 2, 0, 0, 0, [(0, .iload_n 2, 1, [], 0, 0), (1, .iconst (-1), 1, [], 0, 0), (2, .if_icmp .ne 10, 3, [], 0, 0), (5, .aload_n 0, 1, [], 0, 0), (6, .getfield 16, 3, [], 2, 0), (9, .iload_n 1, 1, [], 0, 0), (10, .iaload, 1, [], 0, 0), (11, .ireturn, 1, [], 0, 0), (12, .iload_n 2, 1, [], 0, 0), (13, .ifCond .lt 25, 3, [], 0, 0), (16, .iload_n 2, 1, [], 0, 0), (17, .aload_n 0, 1, [], 0, 0), (18, .getfield 13, 3, [], 1, 0), (21, .iload_n 1, 1, [], 0, 0), (22, .iaload, 1, [], 0, 0), (23, .if_icmp .ge 15, 3, [], 0, 0), (26, .aload_n 0, 1, [], 0, 0), (27, .getfield 7, 3, [], 0, 0), (30, .iload_n 1, 1, [], 0, 0), (31, .bipush 8, 2, [], 0, 0), (33, .imul, 1, [], 0, 0), (34, .iload_n 2, 1, [], 0, 0), (35, .iadd, 1, [], 0, 0), (36, .iaload, 1, [], 0, 0), (37, .ireturn, 1, [], 0, 0), (38, .iconst (-1), 1, [], 0, 0), (39, .ireturn, 1, [], 0, 0)])
def d_19 : MD := (⟨"MultiPatternScan", "textLength", "()I"⟩, prog_1_method_11_code, 1, some .int, 3, 0, 0, 0, 0, [(0, .aload_n 0, 1, [], 0, 0), (1, .getfield 101, 3, [], 22, 0), (4, .ireturn, 1, [], 0, 0)])
def d_20 : MD := (⟨"MultiPatternScan", "totalOccurrences", "()I"⟩, prog_1_method_14_code, 1, some .int, 3, 0, 0, 0, 0, [(0, .aload_n 0, 1, [], 0, 0), (1, .getfield 115, 3, [], 24, 0), (4, .ireturn, 1, [], 0, 0)])
def d_21 : MD := (⟨"MultiPatternScan", "longestPartial", "()I"⟩, prog_1_method_15_code, 1, some .int, 3, 0, 0, 0, 0, [(0, .aload_n 0, 1, [], 0, 0), (1, .getfield 101, 3, [], 22, 0), (4, .ifCond .eq 20, 3, [], 0, 0), (7, .aload_n 0, 1, [], 0, 0), (8, .getfield 104, 3, [], 23, 0), (11, .ifCond .lt 13, 3, [], 0, 0), (14, .aload_n 0, 1, [], 0, 0), (15, .getfield 104, 3, [], 23, 0), (18, .sipush 129, 3, [], 0, 0), (21, .if_icmp .lt 5, 3, [], 0, 0), (24, .iconst 0, 1, [], 0, 0), (25, .ireturn, 1, [], 0, 0), (26, .aload_n 0, 1, [], 0, 0), (27, .getfield 31, 3, [], 7, 0), (30, .aload_n 0, 1, [], 0, 0), (31, .getfield 104, 3, [], 23, 0), (34, .iaload, 1, [], 0, 0), (35, .ireturn, 1, [], 0, 0)])
def d_22 : MD := (⟨"MultiPatternScan", "outLength", "()I"⟩, prog_1_method_16_code, 1, some .int, 3, 0, 0, 0, 0, [(0, .aload_n 0, 1, [], 0, 0), (1, .getfield 127, 3, [], 25, 0), (4, .aload_n 0, 1, [], 0, 0), (5, .getfield 130, 3, [], 27, 0), (8, .iadd, 1, [], 0, 0), (9, .ireturn, 1, [], 0, 0)])
def d_23 : MD := (⟨"MultiPatternScan", "resetText", "()I"⟩, prog_1_method_6_code, 1, some .int, 3, 0, 0, 1, 12, [(0, .aload_n 0, 1, [], 0, 0), (1, .getfield 62, 3, [], 17, 0), (4, .iconst 1, 1, [], 0, 0), (5, .if_icmp .eq 5, 3, [], 0, 0), (8, .iconst (-1), 1, [], 0, 0), (9, .ireturn, 1, [], 0, 0), (10, .aload_n 0, 1, [], 0, 0), (11, .invokevirtual 77, 3, [], 2, 0), (14, .iconst 0, 1, [], 0, 0), (15, .ireturn, 1, [], 0, 0)])
def d_24 : MD := (⟨"MultiPatternScan", "feed", "(I)I"⟩, prog_1_method_5_code, 4, some .int, 3, 1, 0, 4, 58, [(0, .aload_n 0, 1, [], 0, 0), (1, .getfield 62, 3, [], 17, 0), (4, .iconst 1, 1, [], 0, 0), (5, .if_icmp .eq 5, 3, [], 0, 0), (8, .iconst (-1), 1, [], 0, 0), (9, .ireturn, 1, [], 0, 0), (10, .aload_n 0, 1, [], 0, 0), (11, .iload_n 1, 1, [], 0, 0), (12, .invokevirtual 84, 3, [], 7, 0), (15, .ifCond .ne 6, 3, [], 0, 0), (18, .bipush (-2), 2, [], 0, 0), (20, .ireturn, 1, [], 0, 0), (21, .aload_n 0, 1, [], 0, 0), (22, .getfield 101, 3, [], 22, 0), (25, .sipush 240, 3, [], 0, 0), (28, .if_icmp .lt 6, 3, [], 0, 0), (31, .bipush (-3), 2, [], 0, 0), (33, .ireturn, 1, [], 0, 0), (34, .aload_n 0, 1, [], 0, 0), (35, .aload_n 0, 1, [], 0, 0), (36, .aload_n 0, 1, [], 0, 0), (37, .getfield 104, 3, [], 23, 0), (40, .iload_n 1, 1, [], 0, 0), (41, .invokevirtual 107, 3, [], 26, 0), (44, .putfield 104, 3, [], 23, 0), (47, .aload_n 0, 1, [], 0, 0), (48, .getfield 37, 3, [], 9, 0), (51, .aload_n 0, 1, [], 0, 0), (52, .getfield 104, 3, [], 23, 0), (55, .iaload, 1, [], 0, 0), (56, .istore_n 2, 1, [], 0, 0), (57, .aload_n 0, 1, [], 0, 0), (58, .getfield 43, 3, [], 11, 0), (61, .aload_n 0, 1, [], 0, 0), (62, .getfield 101, 3, [], 22, 0), (65, .iload_n 1, 1, [], 0, 0), (66, .iastore, 1, [], 0, 0), (67, .aload_n 0, 1, [], 0, 0), (68, .getfield 46, 3, [], 12, 0), (71, .aload_n 0, 1, [], 0, 0), (72, .getfield 101, 3, [], 22, 0), (75, .iload_n 2, 1, [], 0, 0), (76, .iastore, 1, [], 0, 0), (77, .aload_n 0, 1, [], 0, 0), (78, .dup, 1, [], 0, 0), (79, .getfield 101, 3, [], 22, 0), (82, .iconst 1, 1, [], 0, 0), (83, .iadd, 1, [], 0, 0), (84, .putfield 101, 3, [], 22, 0), (87, .aload_n 0, 1, [], 0, 0), (88, .iload_n 2, 1, [], 0, 0), (89, .invokevirtual 111, 3, [], 27, 0), (92, .istore_n 3, 1, [], 0, 0), (93, .aload_n 0, 1, [], 0, 0), (94, .dup, 1, [], 0, 0), (95, .getfield 115, 3, [], 24, 0), (98, .iload_n 3, 1, [], 0, 0), (99, .iadd, 1, [], 0, 0), (100, .putfield 115, 3, [], 24, 0), (103, .aload_n 0, 1, [], 0, 0), (104, .invokevirtual 118, 3, [], 28, 0), (107, .aload_n 0, 1, [], 0, 0), (108, .invokevirtual 121, 3, [], 29, 0), (111, .iload_n 3, 1, [], 0, 0), (112, .ireturn, 1, [], 0, 0)])
def d_25 : MD := (⟨"MultiPatternScan", "pendingEquals", "(I)Z"⟩, prog_1_method_20_code, 4, some .boolean, 2, 1, 0, 0, 0, [(0, .aload_n 0, 1, [], 0, 0), (1, .getfield 13, 3, [], 1, 0), (4, .iload_n 1, 1, [], 0, 0), (5, .iaload, 1, [], 0, 0), (6, .aload_n 0, 1, [], 0, 0), (7, .getfield 68, 3, [], 19, 0), (10, .if_icmp .eq 5, 3, [], 0, 0), (13, .iconst 0, 1, [], 0, 0), (14, .ireturn, 1, [], 0, 0), (15, .iload_n 1, 1, [], 0, 0), (16, .bipush 8, 2, [], 0, 0), (18, .imul, 1, [], 0, 0), (19, .istore_n 2, 1, [], 0, 0), (20, .iconst 0, 1, [], 0, 0), (21, .istore_n 3, 1, [], 0, 0), (22, .iload_n 3, 1, [false, true], 0, 0), (23, .aload_n 0, 1, [], 0, 0), (24, .getfield 68, 3, [], 19, 0), (27, .if_icmp .ge 34, 3, [], 0, 0), (30, .iload_n 3, 1, [], 0, 0), (31, .bipush 8, 2, [], 0, 0), (33, .if_icmp .ge 28, 3, [], 0, 0), (36, .aload_n 0, 1, [], 0, 0), (37, .getfield 7, 3, [], 0, 0), (40, .iload_n 2, 1, [], 0, 0), (41, .iload_n 3, 1, [], 0, 0), (42, .iadd, 1, [], 0, 0), (43, .iaload, 1, [], 0, 0), (44, .aload_n 0, 1, [], 0, 0), (45, .getfield 19, 3, [], 3, 0), (48, .iload_n 3, 1, [], 0, 0), (49, .iaload, 1, [], 0, 0), (50, .if_icmp .eq 5, 3, [], 0, 0), (53, .iconst 0, 1, [], 0, 0), (54, .ireturn, 1, [], 0, 0), (55, .iinc 3 1, 3, [], 0, 0), (58, .goto (-36), 3, [], 0, 0), (61, .iconst 1, 1, [], 0, 0), (62, .ireturn, 1, [], 0, 0)])
def d_26 : MD := (⟨"MultiPatternScan", "nextState", "(II)I"⟩, prog_1_method_26_code, 3, some .int, 2, 2, 0, 1, 13, [(0, .aload_n 0, 1, [], 0, 0), (1, .iload_n 2, 1, [], 0, 0), (2, .invokevirtual 80, 3, [], 5, 0), (5, .ifCond .ne 5, 3, [], 0, 0), (8, .iconst 0, 1, [], 0, 0), (9, .ireturn, 1, [], 0, 0), (10, .iload_n 1, 1, [], 0, 0), (11, .ifCond .lt 10, 3, [], 0, 0), (14, .iload_n 1, 1, [], 0, 0), (15, .sipush 129, 3, [], 0, 0), (18, .if_icmp .lt 5, 3, [], 0, 0), (21, .iconst 0, 1, [], 0, 0), (22, .ireturn, 1, [], 0, 0), (23, .aload_n 0, 1, [], 0, 0), (24, .getfield 25, 3, [], 5, 0), (27, .iload_n 1, 1, [], 0, 0), (28, .bipush 26, 2, [], 0, 0), (30, .imul, 1, [], 0, 0), (31, .iload_n 2, 1, [], 0, 0), (32, .bipush 97, 2, [], 0, 0), (34, .isub, 1, [], 0, 0), (35, .iadd, 1, [], 0, 0), (36, .iaload, 1, [], 0, 0), (37, .ireturn, 1, [], 0, 0)])
def d_27 : MD := (⟨"MultiPatternScan", "popCount", "(I)I"⟩, prog_1_method_34_code, 4, some .int, 2, 1, 0, 0, 0, [(0, .iconst 0, 1, [], 0, 0), (1, .istore_n 2, 1, [], 0, 0), (2, .iconst 0, 1, [], 0, 0), (3, .istore_n 3, 1, [], 0, 0), (4, .iload_n 3, 1, [true], 0, 0), (5, .bipush 16, 2, [], 0, 0), (7, .if_icmp .ge 20, 3, [], 0, 0), (10, .iload_n 1, 1, [], 0, 0), (11, .iload_n 3, 1, [], 0, 0), (12, .ishr, 1, [], 0, 0), (13, .iconst 1, 1, [], 0, 0), (14, .iand, 1, [], 0, 0), (15, .ifCond .eq 6, 3, [], 0, 0), (18, .iinc 2 1, 3, [], 0, 0), (21, .iinc 3 1, 3, [], 0, 0), (24, .goto (-20), 3, [], 0, 0), (27, .iload_n 2, 1, [], 0, 0), (28, .ireturn, 1, [], 0, 0)])
def d_28 : MD := (⟨"MultiPatternScan", "commitReady", "()V"⟩, prog_1_method_29_code, 2, none, 2, 0, 0, 3, 45, [(0, .iconst 0, 1, [], 0, 0), (1, .istore_n 1, 1, [], 0, 0), (2, .iload_n 1, 1, [], 0, 0), (3, .sipush 240, 3, [], 0, 0), (6, .if_icmp .ge 59, 3, [], 0, 0), (9, .aload_n 0, 1, [], 0, 0), (10, .getfield 142, 3, [], 26, 0), (13, .ifCond .lt 30, 3, [], 0, 0), (16, .aload_n 0, 1, [], 0, 0), (17, .getfield 142, 3, [], 26, 0), (20, .aload_n 0, 1, [], 0, 0), (21, .getfield 101, 3, [], 22, 0), (24, .if_icmp .ge 19, 3, [], 0, 0), (27, .aload_n 0, 1, [], 0, 0), (28, .getfield 142, 3, [], 26, 0), (31, .aload_n 0, 1, [], 0, 0), (32, .getfield 74, 3, [], 21, 0), (35, .iadd, 1, [], 0, 0), (36, .aload_n 0, 1, [], 0, 0), (37, .getfield 101, 3, [], 22, 0), (40, .if_icmp .le 4, 3, [], 0, 0), (43, .return_, 1, [], 0, 0), (44, .aload_n 0, 1, [], 0, 0), (45, .getfield 127, 3, [], 25, 0), (48, .sipush 240, 3, [], 0, 0), (51, .if_icmp .lt 4, 3, [], 0, 0), (54, .return_, 1, [], 0, 0), (55, .aload_n 0, 1, [], 0, 0), (56, .invokevirtual 145, 3, [], 31, 0), (59, .iinc 1 1, 3, [], 0, 0), (62, .goto (-60), 3, [], 0, 0), (65, .return_, 1, [], 0, 0)])
def d_29 : MD := (⟨"MultiPatternScan", "rebuildTail", "()V"⟩, prog_1_method_31_code, 4, none, 2, 0, 0, 2, 32, [(0, .aload_n 0, 1, [], 0, 0), (1, .iconst 0, 1, [], 0, 0), (2, .putfield 130, 3, [], 27, 0), (5, .aload_n 0, 1, [], 0, 0), (6, .getfield 142, 3, [], 26, 0), (9, .istore_n 1, 1, [], 0, 0), (10, .iconst 0, 1, [], 0, 0), (11, .istore_n 2, 1, [], 0, 0), (12, .iload_n 2, 1, [false, false, false, true], 0, 0), (13, .bipush 8, 2, [], 0, 0), (15, .if_icmp .ge 96, 3, [], 0, 0), (18, .iload_n 1, 1, [], 0, 0), (19, .ifCond .lt 20, 3, [], 0, 0), (22, .iload_n 1, 1, [], 0, 0), (23, .aload_n 0, 1, [], 0, 0), (24, .getfield 101, 3, [], 22, 0), (27, .if_icmp .ge 12, 3, [], 0, 0), (30, .aload_n 0, 1, [], 0, 0), (31, .getfield 130, 3, [], 27, 0), (34, .bipush 8, 2, [], 0, 0), (36, .if_icmp .lt 4, 3, [], 0, 0), (39, .return_, 1, [], 0, 0), (40, .aload_n 0, 1, [], 0, 0), (41, .iload_n 1, 1, [], 0, 0), (42, .invokevirtual 148, 3, [], 30, 0), (45, .istore_n 3, 1, [], 0, 0), (46, .iload_n 3, 1, [], 0, 0), (47, .ifCond .lt 30, 3, [], 0, 0), (50, .aload_n 0, 1, [], 0, 0), (51, .getfield 52, 3, [], 14, 0), (54, .aload_n 0, 1, [], 0, 0), (55, .getfield 130, 3, [], 27, 0), (58, .aload_n 0, 1, [], 0, 0), (59, .getfield 16, 3, [], 2, 0), (62, .iload_n 3, 1, [], 0, 0), (63, .iaload, 1, [], 0, 0), (64, .iastore, 1, [], 0, 0), (65, .iload_n 1, 1, [], 0, 0), (66, .aload_n 0, 1, [], 0, 0), (67, .getfield 13, 3, [], 1, 0), (70, .iload_n 3, 1, [], 0, 0), (71, .iaload, 1, [], 0, 0), (72, .iadd, 1, [], 0, 0), (73, .istore_n 1, 1, [], 0, 0), (74, .goto 21, 3, [], 0, 0), (77, .aload_n 0, 1, [], 0, 0), (78, .getfield 52, 3, [], 14, 0), (81, .aload_n 0, 1, [], 0, 0), (82, .getfield 130, 3, [], 27, 0), (85, .aload_n 0, 1, [], 0, 0), (86, .getfield 43, 3, [], 11, 0), (89, .iload_n 1, 1, [], 0, 0), (90, .iaload, 1, [], 0, 0), (91, .iastore, 1, [], 0, 0), (92, .iinc 1 1, 3, [], 0, 0), (95, .aload_n 0, 1, [false, false, false, true], 0, 0), (96, .dup, 1, [], 0, 0), (97, .getfield 130, 3, [], 27, 0), (100, .iconst 1, 1, [], 0, 0), (101, .iadd, 1, [], 0, 0), (102, .putfield 130, 3, [], 27, 0), (105, .iinc 2 1, 3, [], 0, 0), (108, .goto (-96), 3, [], 0, 0), (111, .return_, 1, [], 0, 0)])
def d_30 : MD := (⟨"MultiPatternScan", "longestAt", "(I)I"⟩, prog_1_method_28_code, 8, some .int, 2, 1, 0, 1, 13, [(0, .iconst (-1), 1, [], 0, 0), (1, .istore_n 2, 1, [], 0, 0), (2, .iconst 0, 1, [], 0, 0), (3, .istore_n 3, 1, [], 0, 0), (4, .iconst 0, 1, [], 0, 0), (5, .istore 4, 2, [], 0, 0), (7, .iload 4, 2, [false, false, false, false, false, true, true, true], 0, 0), (9, .bipush 8, 2, [], 0, 0), (11, .if_icmp .ge 94, 3, [], 0, 0), (14, .iload_n 1, 1, [], 0, 0), (15, .iload 4, 2, [], 0, 0), (17, .iadd, 1, [], 0, 0), (18, .istore 5, 2, [], 0, 0), (20, .iload 5, 2, [], 0, 0), (22, .ifCond .lt 12, 3, [], 0, 0), (25, .iload 5, 2, [], 0, 0), (27, .aload_n 0, 1, [], 0, 0), (28, .getfield 101, 3, [], 22, 0), (31, .if_icmp .lt 5, 3, [], 0, 0), (34, .iload_n 2, 1, [], 0, 0), (35, .ireturn, 1, [], 0, 0), (36, .aload_n 0, 1, [], 0, 0), (37, .getfield 43, 3, [], 11, 0), (40, .iload 5, 2, [], 0, 0), (42, .iaload, 1, [], 0, 0), (43, .istore 6, 2, [], 0, 0), (45, .aload_n 0, 1, [], 0, 0), (46, .iload 6, 2, [], 0, 0), (48, .invokevirtual 80, 3, [], 5, 0), (51, .ifCond .ne 5, 3, [], 0, 0), (54, .iload_n 2, 1, [], 0, 0), (55, .ireturn, 1, [], 0, 0), (56, .aload_n 0, 1, [], 0, 0), (57, .getfield 22, 3, [], 4, 0), (60, .iload_n 3, 1, [], 0, 0), (61, .bipush 26, 2, [], 0, 0), (63, .imul, 1, [], 0, 0), (64, .iload 6, 2, [], 0, 0), (66, .bipush 97, 2, [], 0, 0), (68, .isub, 1, [], 0, 0), (69, .iadd, 1, [], 0, 0), (70, .iaload, 1, [], 0, 0), (71, .istore 7, 2, [], 0, 0), (73, .iload 7, 2, [], 0, 0), (75, .ifCond .ne 5, 3, [], 0, 0), (78, .iload_n 2, 1, [], 0, 0), (79, .ireturn, 1, [], 0, 0), (80, .iload 7, 2, [], 0, 0), (82, .istore_n 3, 1, [], 0, 0), (83, .aload_n 0, 1, [], 0, 0), (84, .getfield 34, 3, [], 8, 0), (87, .iload_n 3, 1, [], 0, 0), (88, .iaload, 1, [], 0, 0), (89, .ifCond .lt 10, 3, [], 0, 0), (92, .aload_n 0, 1, [], 0, 0), (93, .getfield 34, 3, [], 8, 0), (96, .iload_n 3, 1, [], 0, 0), (97, .iaload, 1, [], 0, 0), (98, .istore_n 2, 1, [], 0, 0), (99, .iinc 4 1, 3, [], 0, 0), (102, .goto (-95), 3, [], 0, 0), (105, .iload_n 2, 1, [], 0, 0), (106, .ireturn, 1, [], 0, 0)])
def d_31 : MD := (⟨"MultiPatternScan", "commitOne", "()V"⟩, prog_1_method_30_code, 2, none, 2, 0, 0, 2, 32, [(0, .aload_n 0, 1, [], 0, 0), (1, .aload_n 0, 1, [], 0, 0), (2, .getfield 142, 3, [], 26, 0), (5, .invokevirtual 148, 3, [], 30, 0), (8, .istore_n 1, 1, [], 0, 0), (9, .iload_n 1, 1, [], 0, 0), (10, .ifCond .lt 36, 3, [], 0, 0), (13, .aload_n 0, 1, [], 0, 0), (14, .getfield 49, 3, [], 13, 0), (17, .aload_n 0, 1, [], 0, 0), (18, .getfield 127, 3, [], 25, 0), (21, .aload_n 0, 1, [], 0, 0), (22, .getfield 16, 3, [], 2, 0), (25, .iload_n 1, 1, [], 0, 0), (26, .iaload, 1, [], 0, 0), (27, .iastore, 1, [], 0, 0), (28, .aload_n 0, 1, [], 0, 0), (29, .dup, 1, [], 0, 0), (30, .getfield 142, 3, [], 26, 0), (33, .aload_n 0, 1, [], 0, 0), (34, .getfield 13, 3, [], 1, 0), (37, .iload_n 1, 1, [], 0, 0), (38, .iaload, 1, [], 0, 0), (39, .iadd, 1, [], 0, 0), (40, .putfield 142, 3, [], 26, 0), (43, .goto 31, 3, [], 0, 0), (46, .aload_n 0, 1, [], 0, 0), (47, .getfield 49, 3, [], 13, 0), (50, .aload_n 0, 1, [], 0, 0), (51, .getfield 127, 3, [], 25, 0), (54, .aload_n 0, 1, [], 0, 0), (55, .getfield 43, 3, [], 11, 0), (58, .aload_n 0, 1, [], 0, 0), (59, .getfield 142, 3, [], 26, 0), (62, .iaload, 1, [], 0, 0), (63, .iastore, 1, [], 0, 0), (64, .aload_n 0, 1, [], 0, 0), (65, .dup, 1, [], 0, 0), (66, .getfield 142, 3, [], 26, 0), (69, .iconst 1, 1, [], 0, 0), (70, .iadd, 1, [], 0, 0), (71, .putfield 142, 3, [], 26, 0), (74, .aload_n 0, 1, [false, true], 0, 0), (75, .dup, 1, [], 0, 0), (76, .getfield 127, 3, [], 25, 0), (79, .iconst 1, 1, [], 0, 0), (80, .iadd, 1, [], 0, 0), (81, .putfield 127, 3, [], 25, 0), (84, .return_, 1, [], 0, 0)])
def d_32 : MD := (⟨"MultiPatternScan", "textChar", "(I)I"⟩, prog_1_method_12_code, 2, some .int, 3, 1, 0, 0, 0, [(0, .iload_n 1, 1, [], 0, 0), (1, .ifCond .lt 11, 3, [], 0, 0), (4, .iload_n 1, 1, [], 0, 0), (5, .aload_n 0, 1, [], 0, 0), (6, .getfield 101, 3, [], 22, 0), (9, .if_icmp .lt 5, 3, [], 0, 0), (12, .iconst (-1), 1, [], 0, 0), (13, .ireturn, 1, [], 0, 0), (14, .aload_n 0, 1, [], 0, 0), (15, .getfield 43, 3, [], 11, 0), (18, .iload_n 1, 1, [], 0, 0), (19, .iaload, 1, [], 0, 0), (20, .ireturn, 1, [], 0, 0)])
def d_33 : MD := (⟨"MultiPatternScan", "outChar", "(I)I"⟩, prog_1_method_17_code, 3, some .int, 3, 1, 0, 0, 0, [(0, .iload_n 1, 1, [], 0, 0), (1, .ifCond .ge 5, 3, [], 0, 0), (4, .iconst (-1), 1, [], 0, 0), (5, .ireturn, 1, [], 0, 0), (6, .iload_n 1, 1, [], 0, 0), (7, .aload_n 0, 1, [], 0, 0), (8, .getfield 127, 3, [], 25, 0), (11, .if_icmp .ge 10, 3, [], 0, 0), (14, .aload_n 0, 1, [], 0, 0), (15, .getfield 49, 3, [], 13, 0), (18, .iload_n 1, 1, [], 0, 0), (19, .iaload, 1, [], 0, 0), (20, .ireturn, 1, [], 0, 0), (21, .iload_n 1, 1, [], 0, 0), (22, .aload_n 0, 1, [], 0, 0), (23, .getfield 127, 3, [], 25, 0), (26, .isub, 1, [], 0, 0), (27, .istore_n 2, 1, [], 0, 0), (28, .iload_n 2, 1, [], 0, 0), (29, .aload_n 0, 1, [], 0, 0), (30, .getfield 130, 3, [], 27, 0), (33, .if_icmp .ge 16, 3, [], 0, 0), (36, .iload_n 2, 1, [], 0, 0), (37, .bipush 8, 2, [], 0, 0), (39, .if_icmp .ge 10, 3, [], 0, 0), (42, .aload_n 0, 1, [], 0, 0), (43, .getfield 52, 3, [], 14, 0), (46, .iload_n 2, 1, [], 0, 0), (47, .iaload, 1, [], 0, 0), (48, .ireturn, 1, [], 0, 0), (49, .iconst (-1), 1, [], 0, 0), (50, .ireturn, 1, [], 0, 0)])
def d_34 : MD := (⟨"MultiPatternScan", "occurrenceMask", "(I)I"⟩, prog_1_method_13_code, 2, some .int, 3, 1, 0, 0, 0, [(0, .iload_n 1, 1, [], 0, 0), (1, .ifCond .lt 11, 3, [], 0, 0), (4, .iload_n 1, 1, [], 0, 0), (5, .aload_n 0, 1, [], 0, 0), (6, .getfield 101, 3, [], 22, 0), (9, .if_icmp .lt 5, 3, [], 0, 0), (12, .iconst (-1), 1, [], 0, 0), (13, .ireturn, 1, [], 0, 0), (14, .aload_n 0, 1, [], 0, 0), (15, .getfield 46, 3, [], 12, 0), (18, .iload_n 1, 1, [], 0, 0), (19, .iaload, 1, [], 0, 0), (20, .ireturn, 1, [], 0, 0)])
def own_P : PD := ([("MultiPatternScan", 28, [("kwChars", "[I", (.array .int), false), ("kwLen", "[I", (.array .int), false), ("kwRepl", "[I", (.array .int), false), ("pend", "[I", (.array .int), false), ("child", "[I", (.array .int), false), ("delta", "[I", (.array .int), false), ("fail", "[I", (.array .int), false), ("depth", "[I", (.array .int), false), ("term", "[I", (.array .int), false), ("outMask", "[I", (.array .int), false), ("queue", "[I", (.array .int), false), ("text", "[I", (.array .int), false), ("masks", "[I", (.array .int), false), ("out", "[I", (.array .int), false), ("tail", "[I", (.array .int), false), ("maxKw", "I", .int, false), ("maxLen", "I", .int, false), ("phaseNow", "I", .int, false), ("count", "I", .int, false), ("pendLen", "I", .int, false), ("nodeCount", "I", .int, false), ("longestKw", "I", .int, false), ("n", "I", .int, false), ("state", "I", .int, false), ("total", "I", .int, false), ("outLen", "I", .int, false), ("commitPos", "I", .int, false), ("tailLen", "I", .int, false)])], [d_0, d_1, d_2, d_3, d_4, d_5, d_6, d_7, d_8, d_9, d_10, d_11, d_12, d_13, d_14, d_15, d_16, d_17, d_18, d_19, d_20, d_21, d_22, d_23, d_24, d_25, d_26, d_27, d_28, d_29, d_30, d_31, d_32, d_33, d_34], 1)
theorem hm_0 : own_P.mth[0]? = some d_0 := rfl
theorem hm_1 : own_P.mth[1]? = some d_1 := rfl
theorem hm_2 : own_P.mth[2]? = some d_2 := rfl
theorem hm_3 : own_P.mth[3]? = some d_3 := rfl
theorem hm_4 : own_P.mth[4]? = some d_4 := rfl
theorem hm_5 : own_P.mth[5]? = some d_5 := rfl
theorem hm_6 : own_P.mth[6]? = some d_6 := rfl
theorem hm_7 : own_P.mth[7]? = some d_7 := rfl
theorem hm_8 : own_P.mth[8]? = some d_8 := rfl
theorem hm_9 : own_P.mth[9]? = some d_9 := rfl
theorem hm_10 : own_P.mth[10]? = some d_10 := rfl
theorem hm_11 : own_P.mth[11]? = some d_11 := rfl
theorem hm_12 : own_P.mth[12]? = some d_12 := rfl
theorem hm_13 : own_P.mth[13]? = some d_13 := rfl
theorem hm_14 : own_P.mth[14]? = some d_14 := rfl
theorem hm_15 : own_P.mth[15]? = some d_15 := rfl
theorem hm_16 : own_P.mth[16]? = some d_16 := rfl
theorem hm_17 : own_P.mth[17]? = some d_17 := rfl
theorem hm_18 : own_P.mth[18]? = some d_18 := rfl
theorem hm_19 : own_P.mth[19]? = some d_19 := rfl
theorem hm_20 : own_P.mth[20]? = some d_20 := rfl
theorem hm_21 : own_P.mth[21]? = some d_21 := rfl
theorem hm_22 : own_P.mth[22]? = some d_22 := rfl
theorem hm_23 : own_P.mth[23]? = some d_23 := rfl
theorem hm_24 : own_P.mth[24]? = some d_24 := rfl
theorem hm_25 : own_P.mth[25]? = some d_25 := rfl
theorem hm_26 : own_P.mth[26]? = some d_26 := rfl
theorem hm_27 : own_P.mth[27]? = some d_27 := rfl
theorem hm_28 : own_P.mth[28]? = some d_28 := rfl
theorem hm_29 : own_P.mth[29]? = some d_29 := rfl
theorem hm_30 : own_P.mth[30]? = some d_30 := rfl
theorem hm_31 : own_P.mth[31]? = some d_31 := rfl
theorem hm_32 : own_P.mth[32]? = some d_32 := rfl
theorem hm_33 : own_P.mth[33]? = some d_33 := rfl
theorem hm_34 : own_P.mth[34]? = some d_34 := rfl
set_option maxRecDepth 100000 in
theorem own_chk : chk own_P = true := by decide +kernel
def own_ix : List Nat := [1, 2, 11, 13, 15, 17, 19, 21, 23, 25, 27, 29, 31, 33, 35, 37, 39, 41, 43, 45, 47, 49, 51, 53, 59, 61, 63, 65, 67, 69, 5, 2, 4, 57, 2, 55, 56, 74, 2, 71, 73, 72, 79, 2, 76, 78, 77, 83, 2, 81, 82, 88, 2, 85, 87, 86, 92, 2, 90, 91, 96, 2, 94, 95, 100, 2, 98, 99, 104, 2, 102, 103, 108, 2, 106, 107, 112, 2, 110, 111, 116, 2, 114, 115, 121, 2, 118, 120, 119, 126, 2, 123, 125, 124, 131, 2, 128, 130, 129, 136, 2, 133, 135, 134, 140, 2, 138, 139, 145, 2, 142, 144, 143, 150, 2, 147, 149, 148, 155, 2, 152, 154, 153, 160, 2, 157, 159, 158, 165, 2, 162, 164, 163, 170, 2, 167, 169, 168, 174, 2, 172, 173, 178, 2, 176, 177, 182, 2, 180, 181, 186, 2, 184, 185, 190, 2, 188, 189, 194, 2, 192, 193, 198, 2, 196, 197, 203, 2, 200, 202, 201, 208, 2, 205, 207, 206, 213, 2, 210, 212, 211, 0, 3, 75, 84, 70, 161, 166, 117, 0, 3, 122, 127, 132, 75, 132, 84, 70, 141, 199, 166, 122, 141, 146, 146, 151, 151, 156, 156, 204, 204, 209, 209, 6, 7, 8, 9, 10, 9, 12, 9, 14, 9, 16, 9, 18, 9, 20, 9, 22, 9, 24, 9, 26, 9, 28, 9, 30, 9, 32, 9, 34, 9, 36, 9, 38, 40, 42, 44, 46, 48, 50, 52, 26, 54, 58, 60, 62, 64, 66, 68, 44, 48, 46, 101, 109, 44, 54, 44, 80, 46, 40, 48, 42, 48, 16, 48, 48, 48, 48, 44, 48, 89, 93, 46, 97, 46, 46, 171, 46, 48, 10, 16, 12, 46, 48, 14, 46, 46, 46, 48, 50, 52, 46, 105, 12, 52, 12, 52, 12, 10, 18, 50, 18, 50, 24, 50, 24, 50, 50, 18, 26, 28, 28, 22, 18, 20, 22, 30, 30, 113, 22, 28, 28, 28, 18, 20, 22, 20, 30, 20, 44, 46, 46, 12, 46, 48, 46, 137, 46, 48, 16, 14, 12, 10, 58, 62, 58, 60, 60, 24, 60, 64, 68, 44, 54, 44, 89, 58, 60, 175, 60, 28, 60, 32, 58, 34, 58, 58, 58, 179, 62, 62, 183, 187, 12, 48, 48, 10, 16, 80, 20, 66, 66, 58, 66, 52, 58, 64, 195, 68, 66, 58, 68, 191, 38, 68, 14, 12, 38, 68, 32, 68, 68, 58, 32, 80, 18, 26, 26, 66, 191, 36, 64, 14, 66, 12, 66, 36, 64, 32, 66, 66, 66, 64, 64, 58, 32, 64, 36, 64, 68, 38, 58, 34]
set_option maxRecDepth 100000 in
theorem own_words : (wordsOf own_P).map some = own_ix.map fun k => tables_1[k]? := rfl
theorem own_in : ∀ d ∈ wordsOf own_P, d ∈ tables_1 := fun d hd => by
  have h1 : some d ∈ (wordsOf own_P).map some := List.mem_map.mpr ⟨d, hd, rfl⟩
  rw [own_words] at h1
  obtain ⟨k, -, hk⟩ := List.mem_map.mp h1
  exact List.mem_of_getElem? hk
abbrev bk0 (s_kwChars : List Int32) (s_kwLen : List Int32) (s_kwRepl : List Int32) (s_pend : List Int32) (s_child : List Int32) (s_delta : List Int32) (s_fail : List Int32) (s_depth : List Int32) (s_term : List Int32) (s_outMask : List Int32) (s_queue : List Int32) (s_text : List Int32) (s_masks : List Int32) (s_out : List Int32) (s_tail : List Int32) (s_maxKw : Int32) (s_maxLen : Int32) (s_phaseNow : Int32) (s_count : Int32) (s_pendLen : Int32) (s_nodeCount : Int32) (s_longestKw : Int32) (s_n : Int32) (s_state : Int32) (s_total : Int32) (s_outLen : Int32) (s_commitPos : Int32) (s_tailLen : Int32) (po : List ACell) : List ACell := .inl (0, [.ref 2, .ref 3, .ref 4, .ref 5, .ref 6, .ref 7, .ref 8, .ref 9, .ref 10, .ref 11, .ref 12, .ref 13, .ref 14, .ref 15, .ref 16, .int s_maxKw, .int s_maxLen, .int s_phaseNow, .int s_count, .int s_pendLen, .int s_nodeCount, .int s_longestKw, .int s_n, .int s_state, .int s_total, .int s_outLen, .int s_commitPos, .int s_tailLen]) :: .inr (.inl (false, s_kwChars)) :: .inr (.inl (false, s_kwLen)) :: .inr (.inl (false, s_kwRepl)) :: .inr (.inl (false, s_pend)) :: .inr (.inl (false, s_child)) :: .inr (.inl (false, s_delta)) :: .inr (.inl (false, s_fail)) :: .inr (.inl (false, s_depth)) :: .inr (.inl (false, s_term)) :: .inr (.inl (false, s_outMask)) :: .inr (.inl (false, s_queue)) :: .inr (.inl (false, s_text)) :: .inr (.inl (false, s_masks)) :: .inr (.inl (false, s_out)) :: .inr (.inl (false, s_tail)) :: po
abbrev bk1 (s_kwChars : List Int32) (s_kwLen : List Int32) (s_kwRepl : List Int32) (s_pend : List Int32) (s_child : List Int32) (s_delta : List Int32) (s_fail : List Int32) (s_depth : List Int32) (s_term : List Int32) (s_outMask : List Int32) (s_queue : List Int32) (s_text : List Int32) (s_masks : List Int32) (s_out : List Int32) (s_tail : List Int32) (s_maxKw : Int32) (s_maxLen : Int32) (s_phaseNow : Int32) (s_count : Int32) (s_pendLen : Int32) (s_nodeCount : Int32) (s_longestKw : Int32) (s_n : Int32) (s_state : Int32) (s_total : Int32) (s_outLen : Int32) (s_commitPos : Int32) (s_tailLen : Int32) (po : List ACell) : List ACell := .inl (0, [.ref 18, .ref 19, .ref 20, .ref 21, .ref 22, .ref 23, .ref 24, .ref 25, .ref 26, .ref 27, .ref 28, .ref 29, .ref 30, .ref 31, .ref 32, .int s_maxKw, .int s_maxLen, .int s_phaseNow, .int s_count, .int s_pendLen, .int s_nodeCount, .int s_longestKw, .int s_n, .int s_state, .int s_total, .int s_outLen, .int s_commitPos, .int s_tailLen]) :: .inr (.inl (false, s_kwChars)) :: .inr (.inl (false, s_kwLen)) :: .inr (.inl (false, s_kwRepl)) :: .inr (.inl (false, s_pend)) :: .inr (.inl (false, s_child)) :: .inr (.inl (false, s_delta)) :: .inr (.inl (false, s_fail)) :: .inr (.inl (false, s_depth)) :: .inr (.inl (false, s_term)) :: .inr (.inl (false, s_outMask)) :: .inr (.inl (false, s_queue)) :: .inr (.inl (false, s_text)) :: .inr (.inl (false, s_masks)) :: .inr (.inl (false, s_out)) :: .inr (.inl (false, s_tail)) :: po
def f_clearText (zb zx zy zg zk zl : Int32) : Option (Int32 × Int32 × Int32 × Int32 × Int32 × Int32) :=
  some ((0 : Int32), (0 : Int32), (0 : Int32), (0 : Int32), (0 : Int32), (0 : Int32))
def f_init_237 (zf za zi zm zd zv zt zr zh zj zp zn zab zw zu : List Int32) (zz zaa zo zc ze zq zs zb zx zy zg zk zl : Int32) : Option (List Int32 × List Int32 × List Int32 × List Int32 × List Int32 × List Int32 × List Int32 × List Int32 × List Int32 × List Int32 × List Int32 × List Int32 × List Int32 × List Int32 × List Int32 × Int32 × Int32 × Int32 × Int32 × Int32 × Int32 × Int32 × Int32 × Int32 × Int32 × Int32 × Int32 × Int32) :=
  (f_clearText zb zx zy zg zk zl).bind fun (s2, s3, s4, s5, s6, s7) =>
  some (zf, za, zi, zm, zd, zv, zt, zr, zh, zj, zp, zn, zab, zw, zu, zz, zaa, zo, zc, ze, zq, zs, s2, s3, s4, s5, s6, s7)
def f_init_215 (k237 : List Int32 → List Int32 → List Int32 → List Int32 → List Int32 → List Int32 → List Int32 → List Int32 → List Int32 → List Int32 → List Int32 → List Int32 → List Int32 → List Int32 → List Int32 → Int32 → Int32 → Int32 → Int32 → Int32 → Int32 → Int32 → Int32 → Int32 → Int32 → Int32 → Int32 → Int32 → Option (List Int32 × List Int32 × List Int32 × List Int32 × List Int32 × List Int32 × List Int32 × List Int32 × List Int32 × List Int32 × List Int32 × List Int32 × List Int32 × List Int32 × List Int32 × Int32 × Int32 × Int32 × Int32 × Int32 × Int32 × Int32 × Int32 × Int32 × Int32 × Int32 × Int32 × Int32)) : Nat → List Int32 → List Int32 → List Int32 → List Int32 → List Int32 → List Int32 → List Int32 → List Int32 → List Int32 → List Int32 → List Int32 → List Int32 → List Int32 → List Int32 → List Int32 → Int32 → Int32 → Int32 → Int32 → Int32 → Int32 → Int32 → Int32 → Int32 → Int32 → Int32 → Int32 → Int32 → Int32 → Option (List Int32 × List Int32 × List Int32 × List Int32 × List Int32 × List Int32 × List Int32 × List Int32 × List Int32 × List Int32 × List Int32 × List Int32 × List Int32 × List Int32 × List Int32 × Int32 × Int32 × Int32 × Int32 × Int32 × Int32 × Int32 × Int32 × Int32 × Int32 × Int32 × Int32 × Int32)
  | 0, _, _, _, _, _, _, _, _, _, _, _, _, _, _, _, _, _, _, _, _, _, _, _, _, _, _, _, _, _ => none
  | n + 1, zf, za, zi, zm, zd, zv, zt, zr, zh, zj, zp, zn, zab, zw, zu, zz, zaa, zo, zc, ze, zq, zs, zb, zx, zy, zg, zk, zl, v5 =>
    if v5 < (129 : Int32) then
      (wrA zh v5 (-1 : Int32)).bind fun A1 =>
      f_init_215 k237 n zf za zi zm zd zv zt zr A1 zj zp zn zab zw zu zz zaa zo zc ze zq zs zb zx zy zg zk zl (v5 + (1 : Int32))
    else
      k237 zf za zi zm zd zv zt zr zh zj zp zn zab zw zu zz zaa zo zc ze zq zs zb zx zy zg zk zl
def f_init_176 (zf za zi zm zd zv zt zr zh zj zp zn zab zw zu : List Int32) (zz zaa zo zc ze zq zs zb zx zy zg zk zl v3 v4 : Int32) : Option (List Int32 × List Int32 × List Int32 × List Int32 × List Int32 × List Int32 × List Int32 × List Int32 × List Int32 × List Int32 × List Int32 × List Int32 × List Int32 × List Int32 × List Int32 × Int32 × Int32 × Int32 × Int32 × Int32 × Int32 × Int32 × Int32 × Int32 × Int32 × Int32 × Int32 × Int32) :=
  f_init_215 f_init_237 100000 zf za zi zm zd zv zt zr zh zj zp zn zab zw zu v3 v4 (0 : Int32) (0 : Int32) (0 : Int32) (1 : Int32) (1 : Int32) zb zx zy zg zk zl (0 : Int32)
def f_init_165 (zf za zi zm zd zv zt zr zh zj zp zn zab zw zu : List Int32) (zz zaa zo zc ze zq zs zb zx zy zg zk zl v3 v4 : Int32) : Option (List Int32 × List Int32 × List Int32 × List Int32 × List Int32 × List Int32 × List Int32 × List Int32 × List Int32 × List Int32 × List Int32 × List Int32 × List Int32 × List Int32 × List Int32 × Int32 × Int32 × Int32 × Int32 × Int32 × Int32 × Int32 × Int32 × Int32 × Int32 × Int32 × Int32 × Int32) :=
  f_init_176 zf za zi zm zd zv zt zr zh zj zp zn zab zw zu zz zaa zo zc ze zq zs zb zx zy zg zk zl v3 (if (8 : Int32) < v4 then (8 : Int32) else v4)
def f_init_153 (zf za zi zm zd zv zt zr zh zj zp zn zab zw zu : List Int32) (zz zaa zo zc ze zq zs zb zx zy zg zk zl v2 v3 : Int32) : Option (List Int32 × List Int32 × List Int32 × List Int32 × List Int32 × List Int32 × List Int32 × List Int32 × List Int32 × List Int32 × List Int32 × List Int32 × List Int32 × List Int32 × List Int32 × Int32 × Int32 × Int32 × Int32 × Int32 × Int32 × Int32 × Int32 × Int32 × Int32 × Int32 × Int32 × Int32) :=
  f_init_165 zf za zi zm zd zv zt zr zh zj zp zn zab zw zu zz zaa zo zc ze zq zs zb zx zy zg zk zl v3 (if v2 < (1 : Int32) then (1 : Int32) else v2)
def f_init_144 (zf za zi zm zd zv zt zr zh zj zp zn zab zw zu : List Int32) (zz zaa zo zc ze zq zs zb zx zy zg zk zl v2 v3 : Int32) : Option (List Int32 × List Int32 × List Int32 × List Int32 × List Int32 × List Int32 × List Int32 × List Int32 × List Int32 × List Int32 × List Int32 × List Int32 × List Int32 × List Int32 × List Int32 × Int32 × Int32 × Int32 × Int32 × Int32 × Int32 × Int32 × Int32 × Int32 × Int32 × Int32 × Int32 × Int32) :=
  f_init_153 zf za zi zm zd zv zt zr zh zj zp zn zab zw zu zz zaa zo zc ze zq zs zb zx zy zg zk zl v2 (if (16 : Int32) < v3 then (16 : Int32) else v3)
def f_init (v1 v2 : Int32) : Option (List Int32 × List Int32 × List Int32 × List Int32 × List Int32 × List Int32 × List Int32 × List Int32 × List Int32 × List Int32 × List Int32 × List Int32 × List Int32 × List Int32 × List Int32 × Int32 × Int32 × Int32 × Int32 × Int32 × Int32 × Int32 × Int32 × Int32 × Int32 × Int32 × Int32 × Int32) :=
  f_init_144 (List.replicate 128 0) (List.replicate 16 0) (List.replicate 16 0) (List.replicate 8 0) (List.replicate 3354 0) (List.replicate 3354 0) (List.replicate 129 0) (List.replicate 129 0) (List.replicate 129 0) (List.replicate 129 0) (List.replicate 129 0) (List.replicate 240 0) (List.replicate 240 0) (List.replicate 240 0) (List.replicate 8 0) (0 : Int32) (0 : Int32) (0 : Int32) (0 : Int32) (0 : Int32) (0 : Int32) (0 : Int32) (0 : Int32) (0 : Int32) (0 : Int32) (0 : Int32) (0 : Int32) (0 : Int32) v2 (if v1 < (1 : Int32) then (1 : Int32) else v1)
def f_isLetter (v1 : Int32) : Option (Int32) :=
  some (if v1 < (97 : Int32) then (0 : Int32) else (if (122 : Int32) < v1 then (0 : Int32) else (1 : Int32)))
def f_addChar (zz zaa zo zc : Int32) (zm : List Int32) (ze v1 : Int32) : Option (Int32 × List Int32 × Int32) :=
  if zo = (0 : Int32) then
    (f_isLetter v1).bind fun r8 =>
    if r8 = (0 : Int32) then
      some ((-2 : Int32), zm, ze)
    else
      if zc < zz then
        if ze < zaa then
          if ze < (8 : Int32) then
            (wrA zm ze v1).bind fun A9 =>
            some ((ze + (1 : Int32)), A9, (ze + (1 : Int32)))
          else
            some ((-3 : Int32), zm, ze)
        else
          some ((-3 : Int32), zm, ze)
      else
        some ((-3 : Int32), zm, ze)
  else
    some ((-1 : Int32), zm, ze)
def f_isPrintable (v1 : Int32) : Option (Int32) :=
  some (if v1 < (32 : Int32) then (0 : Int32) else (if (126 : Int32) < v1 then (0 : Int32) else (1 : Int32)))
def f_pendingEquals_22 (zf za zm : List Int32) (ze : Int32) : Nat → Int32 → Int32 → Option (Int32)
  | 0, _, _ => none
  | n + 1, v2, v3 =>
    if v3 < ze then
      if v3 < (8 : Int32) then
        (rdA zf (v2 + v3)).bind fun x11 =>
        (rdA zm v3).bind fun x12 =>
        if x11 = x12 then
          f_pendingEquals_22 zf za zm ze n v2 (v3 + (1 : Int32))
        else
          some (0 : Int32)
      else
        some (1 : Int32)
    else
      some (1 : Int32)
def f_pendingEquals (zf za zm : List Int32) (ze v1 : Int32) : Option (Int32) :=
  (rdA za v1).bind fun x10 =>
  if x10 = ze then
    f_pendingEquals_22 zf za zm ze 100000 (v1 * (8 : Int32)) (0 : Int32)
  else
    some (0 : Int32)
def f_pendingIsDuplicate_2 (zf za zm : List Int32) (zc ze : Int32) : Nat → Int32 → Option (Int32)
  | 0, _ => none
  | n + 1, v1 =>
    if v1 < zc then
      if v1 < (16 : Int32) then
        (f_pendingEquals zf za zm ze v1).bind fun r13 =>
        if r13 = (0 : Int32) then
          f_pendingIsDuplicate_2 zf za zm zc ze n (v1 + (1 : Int32))
        else
          some (1 : Int32)
      else
        some (0 : Int32)
    else
      some (0 : Int32)
def f_pendingIsDuplicate (zf za zm : List Int32) (zc ze : Int32) : Option (Int32) :=
  f_pendingIsDuplicate_2 zf za zm zc ze 100000 (0 : Int32)
def f_storePending_44 (zm zf za zi : List Int32) (zc ze v1 : Int32) : Option (List Int32 × List Int32 × List Int32 × Int32 × Int32) :=
  (wrA za zc ze).bind fun A16 =>
  (wrA zi zc v1).bind fun A17 =>
  some (zf, A16, A17, (zc + (1 : Int32)), (0 : Int32))
def f_storePending_10 (k44 : List Int32 → List Int32 → List Int32 → Int32 → Int32 → Int32 → Option (List Int32 × List Int32 × List Int32 × Int32 × Int32)) (zm : List Int32) : Nat → List Int32 → List Int32 → List Int32 → Int32 → Int32 → Int32 → Int32 → Int32 → Option (List Int32 × List Int32 × List Int32 × Int32 × Int32)
  | 0, _, _, _, _, _, _, _, _ => none
  | n + 1, zf, za, zi, zc, ze, v1, v2, v3 =>
    if v3 < ze then
      if v3 < (8 : Int32) then
        (rdA zm v3).bind fun x14 =>
        (wrA zf (v2 + v3) x14).bind fun A15 =>
        f_storePending_10 k44 zm n A15 za zi zc ze v1 v2 (v3 + (1 : Int32))
      else
        k44 zf za zi zc ze v1
    else
      k44 zf za zi zc ze v1
def f_storePending (zm zf za zi : List Int32) (zc ze v1 : Int32) : Option (List Int32 × List Int32 × List Int32 × Int32 × Int32) :=
  f_storePending_10 (f_storePending_44 zm) zm 100000 zf za zi zc ze v1 (zc * (8 : Int32)) (0 : Int32)
def f_endKeyword (zm : List Int32) (zo : Int32) (zf za zi : List Int32) (zc ze v1 : Int32) : Option (Int32 × List Int32 × List Int32 × List Int32 × Int32 × Int32) :=
  if zo = (0 : Int32) then
    if ze = (0 : Int32) then
      some ((-4 : Int32), zf, za, zi, zc, ze)
    else
      (f_isPrintable v1).bind fun r18 =>
      if r18 = (0 : Int32) then
        some ((-6 : Int32), zf, za, zi, zc, ze)
      else
        (f_pendingIsDuplicate zf za zm zc ze).bind fun r19 =>
        if r19 = (0 : Int32) then
          if zc < (16 : Int32) then
            (f_storePending zm zf za zi zc ze v1).bind fun (s20, s21, s22, s23, s24) =>
            some ((s23 - (1 : Int32)), s20, s21, s22, s23, s24)
          else
            some ((-3 : Int32), zf, za, zi, zc, ze)
        else
          some ((-5 : Int32), zf, za, zi, zc, ze)
  else
    some ((-1 : Int32), zf, za, zi, zc, ze)
def f_insertKeyword_137 (zf za zd zr zh zj : List Int32) (zq v1 v2 : Int32) : Option (List Int32 × List Int32 × List Int32 × List Int32 × Int32) :=
  (wrA zh v2 v1).bind fun A32 =>
  (rdA zj v2).bind fun x33 =>
  (wrA zj v2 (x33 ||| ((1 : Int32) <<< (v1 &&& 31)))).bind fun A34 =>
  some (zd, zr, A32, A34, zq)
def f_insertKeyword_123 (kb : List Int32 → List Int32 → List Int32 → List Int32 → Int32 → Int32 → Int32 → Int32 → Int32 → Option (List Int32 × List Int32 × List Int32 × List Int32 × Int32)) (k137 : List Int32 → List Int32 → List Int32 → List Int32 → Int32 → Int32 → Int32 → Option (List Int32 × List Int32 × List Int32 × List Int32 × Int32)) (zf za zd zr zh zj : List Int32) (zq v1 v3 v4 v6 : Int32) : Option (List Int32 × List Int32 × List Int32 × List Int32 × Int32) :=
  (rdA zd v6).bind fun x31 =>
  kb zd zr zh zj zq v1 x31 v3 (v4 + (1 : Int32))
def f_insertKeyword_10 (k137 : List Int32 → List Int32 → List Int32 → List Int32 → Int32 → Int32 → Int32 → Option (List Int32 × List Int32 × List Int32 × List Int32 × Int32)) (zf za : List Int32) : Nat → List Int32 → List Int32 → List Int32 → List Int32 → Int32 → Int32 → Int32 → Int32 → Int32 → Option (List Int32 × List Int32 × List Int32 × List Int32 × Int32)
  | 0, _, _, _, _, _, _, _, _, _ => none
  | n + 1, zd, zr, zh, zj, zq, v1, v2, v3, v4 =>
    (rdA za v1).bind fun x25 =>
    if v4 < x25 then
      if v4 < (8 : Int32) then
        (rdA zf (v3 + v4)).bind fun x26 =>
        if (x26 - (97 : Int32)) < (0 : Int32) then
          some (zd, zr, zh, zj, zq)
        else
          if (x26 - (97 : Int32)) < (26 : Int32) then
            (rdA zd ((v2 * (26 : Int32)) + (x26 - (97 : Int32)))).bind fun x27 =>
            if x27 = (0 : Int32) then
              if zq < (129 : Int32) then
                (wrA zd ((v2 * (26 : Int32)) + (x26 - (97 : Int32))) zq).bind fun A28 =>
                (rdA zr v2).bind fun x29 =>
                (wrA zr zq (x29 + (1 : Int32))).bind fun A30 =>
                f_insertKeyword_123 (f_insertKeyword_10 k137 zf za n) k137 zf za A28 A30 zh zj (zq + (1 : Int32)) v1 v3 v4 ((v2 * (26 : Int32)) + (x26 - (97 : Int32)))
              else
                some (zd, zr, zh, zj, zq)
            else
              f_insertKeyword_123 (f_insertKeyword_10 k137 zf za n) k137 zf za zd zr zh zj zq v1 v3 v4 ((v2 * (26 : Int32)) + (x26 - (97 : Int32)))
          else
            some (zd, zr, zh, zj, zq)
      else
        k137 zd zr zh zj zq v1 v2
    else
      k137 zd zr zh zj zq v1 v2
def f_insertKeyword (zf za zd zr zh zj : List Int32) (zq v1 : Int32) : Option (List Int32 × List Int32 × List Int32 × List Int32 × Int32) :=
  f_insertKeyword_10 (f_insertKeyword_137 zf za) zf za 100000 zd zr zh zj zq v1 (0 : Int32) (v1 * (8 : Int32)) (0 : Int32)
def f_buildTrie_12 (zf za : List Int32) (zc : Int32) : Nat → List Int32 → List Int32 → List Int32 → List Int32 → Int32 → Int32 → Int32 → Option (List Int32 × List Int32 × List Int32 × List Int32 × Int32 × Int32)
  | 0, _, _, _, _, _, _, _ => none
  | n + 1, zd, zr, zh, zj, zq, zs, v1 =>
    if v1 < zc then
      if v1 < (16 : Int32) then
        (f_insertKeyword zf za zd zr zh zj zq v1).bind fun (s35, s36, s37, s38, s39) =>
        (rdA za v1).bind fun x40 =>
        if zs < x40 then
          (rdA za v1).bind fun x41 =>
          f_buildTrie_12 zf za zc n s35 s36 s37 s38 s39 x41 (v1 + (1 : Int32))
        else
          f_buildTrie_12 zf za zc n s35 s36 s37 s38 s39 zs (v1 + (1 : Int32))
      else
        some (zd, zr, zh, zj, zq, zs)
    else
      some (zd, zr, zh, zj, zq, zs)
def f_buildTrie (zf za : List Int32) (zc : Int32) (zd zr zh zj : List Int32) (zq zs : Int32) : Option (List Int32 × List Int32 × List Int32 × List Int32 × Int32 × Int32) :=
  f_buildTrie_12 zf za zc 100000 zd zr zh zj (1 : Int32) (1 : Int32) (0 : Int32)
def f_expandNode_58 (zd : List Int32) : Nat → List Int32 → List Int32 → List Int32 → List Int32 → Int32 → Int32 → Int32 → Int32 → Option (Int32 × List Int32 × List Int32 × List Int32 × List Int32)
  | 0, _, _, _, _, _, _, _, _ => none
  | n + 1, zv, zt, zj, zp, v1, v3, v4, v5 =>
    if v5 < (26 : Int32) then
      (rdA zd ((v1 * (26 : Int32)) + v5)).bind fun x46 =>
      (rdA zv ((v3 * (26 : Int32)) + v5)).bind fun x47 =>
      if x46 = (0 : Int32) then
        (wrA zv ((v1 * (26 : Int32)) + v5) x47).bind fun A48 =>
        f_expandNode_58 zd n A48 zt zj zp v1 v3 v4 (v5 + (1 : Int32))
      else
        (wrA zt x46 x47).bind fun A49 =>
        (wrA zv ((v1 * (26 : Int32)) + v5) x46).bind fun A50 =>
        if v4 < (129 : Int32) then
          (wrA zp v4 x46).bind fun A51 =>
          f_expandNode_58 zd n A50 A49 zj A51 v1 v3 (v4 + (1 : Int32)) (v5 + (1 : Int32))
        else
          f_expandNode_58 zd n A50 A49 zj zp v1 v3 v4 (v5 + (1 : Int32))
    else
      some (v4, zv, zt, zj, zp)
def f_expandNode_33 (zd zv zt zj zp : List Int32) (v1 v2 v3 : Int32) : Option (Int32 × List Int32 × List Int32 × List Int32 × List Int32) :=
  (rdA zj v1).bind fun x43 =>
  (rdA zj v3).bind fun x44 =>
  (wrA zj v1 (x43 ||| x44)).bind fun A45 =>
  f_expandNode_58 zd 100000 zv zt A45 zp v1 v3 v2 (0 : Int32)
def f_expandNode (zd zv zt zj zp : List Int32) (v1 v2 : Int32) : Option (Int32 × List Int32 × List Int32 × List Int32 × List Int32) :=
  if (0 : Int32) < v1 then
    if v1 < (129 : Int32) then
      (rdA zt v1).bind fun x42 =>
      f_expandNode_33 zd zv zt zj zp v1 v2 (if x42 < (0 : Int32) then (0 : Int32) else (if x42 < (129 : Int32) then x42 else (0 : Int32)))
    else
      some (v2, zv, zt, zj, zp)
  else
    some (v2, zv, zt, zj, zp)
def f_computeLinks_74 (zd : List Int32) : Nat → List Int32 → List Int32 → List Int32 → List Int32 → Int32 → Int32 → Int32 → Option (List Int32 × List Int32 × List Int32 × List Int32)
  | 0, _, _, _, _, _, _, _ => none
  | n + 1, zv, zt, zj, zp, v1, v2, v3 =>
    if v3 < (129 : Int32) then
      if v1 < v2 then
        (rdA zp v1).bind fun x57 =>
        (f_expandNode zd zv zt zj zp x57 v2).bind fun (r58, s59, s60, s61, s62) =>
        f_computeLinks_74 zd n s59 s60 s61 s62 (v1 + (1 : Int32)) r58 (v3 + (1 : Int32))
      else
        some (zv, zt, zj, zp)
    else
      some (zv, zt, zj, zp)
def f_computeLinks_13 (k74 : List Int32 → List Int32 → List Int32 → List Int32 → Int32 → Int32 → Int32 → Option (List Int32 × List Int32 × List Int32 × List Int32)) (zd : List Int32) : Nat → List Int32 → List Int32 → List Int32 → List Int32 → Int32 → Int32 → Int32 → Option (List Int32 × List Int32 × List Int32 × List Int32)
  | 0, _, _, _, _, _, _, _ => none
  | n + 1, zv, zt, zj, zp, v1, v2, v3 =>
    if v3 < (26 : Int32) then
      (rdA zd v3).bind fun x53 =>
      (wrA zv v3 x53).bind fun A54 =>
      if x53 = (0 : Int32) then
        f_computeLinks_13 k74 zd n A54 zt zj zp v1 v2 (v3 + (1 : Int32))
      else
        if v2 < (129 : Int32) then
          (wrA zt x53 (0 : Int32)).bind fun A55 =>
          (wrA zp v2 x53).bind fun A56 =>
          f_computeLinks_13 k74 zd n A54 A55 zj A56 v1 (v2 + (1 : Int32)) (v3 + (1 : Int32))
        else
          f_computeLinks_13 k74 zd n A54 zt zj zp v1 v2 (v3 + (1 : Int32))
    else
      k74 zv zt zj zp v1 v2 (0 : Int32)
def f_computeLinks (zd zv zt zj zp : List Int32) : Option (List Int32 × List Int32 × List Int32 × List Int32) :=
  (wrA zt (0 : Int32) (0 : Int32)).bind fun A52 =>
  f_computeLinks_13 (f_computeLinks_74 zd 100000) zd 100000 zv A52 zj zp (0 : Int32) (0 : Int32) (0 : Int32)
def f_build (zf za : List Int32) (zc ze : Int32) (zd zv zt zr zh zj zp : List Int32) (zo zq zs zb zx zy zg zk zl : Int32) : Option (Int32 × List Int32 × List Int32 × List Int32 × List Int32 × List Int32 × List Int32 × List Int32 × Int32 × Int32 × Int32 × Int32 × Int32 × Int32 × Int32 × Int32 × Int32) :=
  if zo = (0 : Int32) then
    if ze = (0 : Int32) then
      if zc = (0 : Int32) then
        some ((-4 : Int32), zd, zv, zt, zr, zh, zj, zp, zo, zq, zs, zb, zx, zy, zg, zk, zl)
      else
        (f_buildTrie zf za zc zd zr zh zj zq zs).bind fun (s63, s64, s65, s66, s67, s68) =>
        (f_computeLinks s63 zv zt s66 zp).bind fun (s69, s70, s71, s72) =>
        (f_clearText zb zx zy zg zk zl).bind fun (s73, s74, s75, s76, s77, s78) =>
        some ((0 : Int32), s63, s69, s70, s64, s65, s71, s72, (1 : Int32), s67, s68, s73, s74, s75, s76, s77, s78)
    else
      some ((-7 : Int32), zd, zv, zt, zr, zh, zj, zp, zo, zq, zs, zb, zx, zy, zg, zk, zl)
  else
    some ((-1 : Int32), zd, zv, zt, zr, zh, zj, zp, zo, zq, zs, zb, zx, zy, zg, zk, zl)
def f_resetText (zo zb zx zy zg zk zl : Int32) : Option (Int32 × Int32 × Int32 × Int32 × Int32 × Int32 × Int32) :=
  if zo = (1 : Int32) then
    (f_clearText zb zx zy zg zk zl).bind fun (s79, s80, s81, s82, s83, s84) =>
    some ((0 : Int32), s79, s80, s81, s82, s83, s84)
  else
    some ((-1 : Int32), zb, zx, zy, zg, zk, zl)
def f_nextState (zv : List Int32) (v1 v2 : Int32) : Option (Int32) :=
  (f_isLetter v2).bind fun r85 =>
  if r85 = (0 : Int32) then
    some (0 : Int32)
  else
    if v1 < (0 : Int32) then
      some (0 : Int32)
    else
      if v1 < (129 : Int32) then
        (rdA zv ((v1 * (26 : Int32)) + (v2 - (97 : Int32)))).bind fun x86 =>
        some x86
      else
        some (0 : Int32)
def f_popCount_4 : Nat → Int32 → Int32 → Int32 → Option (Int32)
  | 0, _, _, _ => none
  | n + 1, v1, v2, v3 =>
    if v3 < (16 : Int32) then
      f_popCount_4 n v1 (if ((v1 >>> (v3 &&& 31)) &&& (1 : Int32)) = (0 : Int32) then v2 else (v2 + (1 : Int32))) (v3 + (1 : Int32))
    else
      some v2
def f_popCount (v1 : Int32) : Option (Int32) :=
  f_popCount_4 100000 v1 (0 : Int32) (0 : Int32)
def f_longestAt_7 (zd zh zn : List Int32) (zb : Int32) : Nat → Int32 → Int32 → Int32 → Int32 → Option (Int32)
  | 0, _, _, _, _ => none
  | n + 1, v1, v2, v3, v4 =>
    if v4 < (8 : Int32) then
      if (v1 + v4) < (0 : Int32) then
        some v2
      else
        if (v1 + v4) < zb then
          (rdA zn (v1 + v4)).bind fun x87 =>
          (f_isLetter x87).bind fun r88 =>
          if r88 = (0 : Int32) then
            some v2
          else
            (rdA zd ((v3 * (26 : Int32)) + (x87 - (97 : Int32)))).bind fun x89 =>
            if x89 = (0 : Int32) then
              some v2
            else
              (rdA zh x89).bind fun x90 =>
              if x90 < (0 : Int32) then
                f_longestAt_7 zd zh zn zb n v1 v2 x89 (v4 + (1 : Int32))
              else
                (rdA zh x89).bind fun x91 =>
                f_longestAt_7 zd zh zn zb n v1 x91 x89 (v4 + (1 : Int32))
        else
          some v2
    else
      some v2
def f_longestAt (zd zh zn : List Int32) (zb v1 : Int32) : Option (Int32) :=
  f_longestAt_7 zd zh zn zb 100000 v1 (-1 : Int32) (0 : Int32) (0 : Int32)
def f_commitOne_74 (za zi zd zh zn : List Int32) (zb : Int32) (zw : List Int32) (zg zk : Int32) : Option (List Int32 × Int32 × Int32) :=
  some (zw, (zg + (1 : Int32)), zk)
def f_commitOne (za zi zd zh zn : List Int32) (zb : Int32) (zw : List Int32) (zg zk : Int32) : Option (List Int32 × Int32 × Int32) :=
  (f_longestAt zd zh zn zb zk).bind fun r92 =>
  if r92 < (0 : Int32) then
    (rdA zn zk).bind fun x93 =>
    (wrA zw zg x93).bind fun A94 =>
    f_commitOne_74 za zi zd zh zn zb A94 zg (zk + (1 : Int32))
  else
    (rdA zi r92).bind fun x95 =>
    (wrA zw zg x95).bind fun A96 =>
    (rdA za r92).bind fun x97 =>
    f_commitOne_74 za zi zd zh zn zb A96 zg (zk + x97)
def f_commitReady_2 (za zi zd zh zn : List Int32) (zs zb : Int32) : Nat → List Int32 → Int32 → Int32 → Int32 → Option (List Int32 × Int32 × Int32)
  | 0, _, _, _, _ => none
  | n + 1, zw, zg, zk, v1 =>
    if v1 < (240 : Int32) then
      if zk < (0 : Int32) then
        some (zw, zg, zk)
      else
        if zk < zb then
          if zb < (zk + zs) then
            some (zw, zg, zk)
          else
            if zg < (240 : Int32) then
              (f_commitOne za zi zd zh zn zb zw zg zk).bind fun (s98, s99, s100) =>
              f_commitReady_2 za zi zd zh zn zs zb n s98 s99 s100 (v1 + (1 : Int32))
            else
              some (zw, zg, zk)
        else
          some (zw, zg, zk)
    else
      some (zw, zg, zk)
def f_commitReady (za zi zd zh zn : List Int32) (zs zb : Int32) (zw : List Int32) (zg zk : Int32) : Option (List Int32 × Int32 × Int32) :=
  f_commitReady_2 za zi zd zh zn zs zb 100000 zw zg zk (0 : Int32)
def f_rebuildTail_95 (kb : List Int32 → Int32 → Int32 → Int32 → Option (List Int32 × Int32)) (za zi zd zh zn : List Int32) (zb zk : Int32) (zu : List Int32) (zl v1 v2 : Int32) : Option (List Int32 × Int32) :=
  kb zu (zl + (1 : Int32)) v1 (v2 + (1 : Int32))
def f_rebuildTail_12 (za zi zd zh zn : List Int32) (zb zk : Int32) : Nat → List Int32 → Int32 → Int32 → Int32 → Option (List Int32 × Int32)
  | 0, _, _, _, _ => none
  | n + 1, zu, zl, v1, v2 =>
    if v2 < (8 : Int32) then
      if v1 < (0 : Int32) then
        some (zu, zl)
      else
        if v1 < zb then
          if zl < (8 : Int32) then
            (f_longestAt zd zh zn zb v1).bind fun r101 =>
            if r101 < (0 : Int32) then
              (rdA zn v1).bind fun x102 =>
              (wrA zu zl x102).bind fun A103 =>
              f_rebuildTail_95 (f_rebuildTail_12 za zi zd zh zn zb zk n) za zi zd zh zn zb zk A103 zl (v1 + (1 : Int32)) v2
            else
              (rdA zi r101).bind fun x104 =>
              (wrA zu zl x104).bind fun A105 =>
              (rdA za r101).bind fun x106 =>
              f_rebuildTail_95 (f_rebuildTail_12 za zi zd zh zn zb zk n) za zi zd zh zn zb zk A105 zl (v1 + x106) v2
          else
            some (zu, zl)
        else
          some (zu, zl)
    else
      some (zu, zl)
def f_rebuildTail (za zi zd zh zn : List Int32) (zb zk : Int32) (zu : List Int32) (zl : Int32) : Option (List Int32 × Int32) :=
  f_rebuildTail_12 za zi zd zh zn zb zk 100000 zu (0 : Int32) zk (0 : Int32)
def f_feed (za zi zd zv zh zj : List Int32) (zo zs : Int32) (zn zab zw zu : List Int32) (zb zx zy zg zk zl v1 : Int32) : Option (Int32 × List Int32 × List Int32 × List Int32 × List Int32 × Int32 × Int32 × Int32 × Int32 × Int32 × Int32) :=
  if zo = (1 : Int32) then
    (f_isPrintable v1).bind fun r107 =>
    if r107 = (0 : Int32) then
      some ((-2 : Int32), zn, zab, zw, zu, zb, zx, zy, zg, zk, zl)
    else
      if zb < (240 : Int32) then
        (f_nextState zv zx v1).bind fun r108 =>
        (rdA zj r108).bind fun x109 =>
        (wrA zn zb v1).bind fun A110 =>
        (wrA zab zb x109).bind fun A111 =>
        (f_popCount x109).bind fun r112 =>
        (f_commitReady za zi zd zh A110 zs (zb + (1 : Int32)) zw zg zk).bind fun (s113, s114, s115) =>
        (f_rebuildTail za zi zd zh A110 (zb + (1 : Int32)) s115 zu zl).bind fun (s116, s117) =>
        some (r112, A110, A111, s113, s116, (zb + (1 : Int32)), r108, (zy + r112), s114, s115, s117)
      else
        some ((-3 : Int32), zn, zab, zw, zu, zb, zx, zy, zg, zk, zl)
  else
    some ((-1 : Int32), zn, zab, zw, zu, zb, zx, zy, zg, zk, zl)
def f_phase (zo : Int32) : Option (Int32) :=
  some zo
def f_keywordCount (zc : Int32) : Option (Int32) :=
  some zc
def f_keywordLength_19 (za : List Int32) (zc ze v1 : Int32) : Option (Int32) :=
  some (if v1 = zc then ze else (-1 : Int32))
def f_keywordLength (za : List Int32) (zc ze v1 : Int32) : Option (Int32) :=
  if v1 < (0 : Int32) then
    f_keywordLength_19 za zc ze v1
  else
    if v1 < zc then
      (rdA za v1).bind fun x118 =>
      some x118
    else
      f_keywordLength_19 za zc ze v1
def f_acceptedChar (zf za zi : List Int32) (v1 v2 : Int32) : Option (Int32) :=
  if v2 = (-1 : Int32) then
    (rdA zi v1).bind fun x121 =>
    some x121
  else
    if v2 < (0 : Int32) then
      some (-1 : Int32)
    else
      (rdA za v1).bind fun x119 =>
      if v2 < x119 then
        (rdA zf ((v1 * (8 : Int32)) + v2)).bind fun x120 =>
        some x120
      else
        some (-1 : Int32)
def f_keywordChar_19 (zf za zi zm : List Int32) (zc ze v1 v2 : Int32) : Option (Int32) :=
  if v1 = zc then
    if v2 < (0 : Int32) then
      some (-1 : Int32)
    else
      if v2 < ze then
        (rdA zm v2).bind fun x123 =>
        some x123
      else
        some (-1 : Int32)
  else
    some (-1 : Int32)
def f_keywordChar (zf za zi zm : List Int32) (zc ze v1 v2 : Int32) : Option (Int32) :=
  if v1 < (0 : Int32) then
    f_keywordChar_19 zf za zi zm zc ze v1 v2
  else
    if v1 < zc then
      (f_acceptedChar zf za zi v1 v2).bind fun r122 =>
      some r122
    else
      f_keywordChar_19 zf za zi zm zc ze v1 v2
def f_textLength (zb : Int32) : Option (Int32) :=
  some zb
def f_textChar (zn : List Int32) (zb v1 : Int32) : Option (Int32) :=
  if v1 < (0 : Int32) then
    some (-1 : Int32)
  else
    if v1 < zb then
      (rdA zn v1).bind fun x124 =>
      some x124
    else
      some (-1 : Int32)
def f_totalOccurrences (zy : Int32) : Option (Int32) :=
  some zy
def f_longestPartial (zr : List Int32) (zb zx : Int32) : Option (Int32) :=
  if zb = (0 : Int32) then
    some (0 : Int32)
  else
    if zx < (0 : Int32) then
      some (0 : Int32)
    else
      if zx < (129 : Int32) then
        (rdA zr zx).bind fun x125 =>
        some x125
      else
        some (0 : Int32)
def f_outLength (zg zl : Int32) : Option (Int32) :=
  some (zg + zl)
def f_outChar (zw zu : List Int32) (zg zl v1 : Int32) : Option (Int32) :=
  if v1 < (0 : Int32) then
    some (-1 : Int32)
  else
    if v1 < zg then
      (rdA zw v1).bind fun x127 =>
      some x127
    else
      if (v1 - zg) < zl then
        if (v1 - zg) < (8 : Int32) then
          (rdA zu (v1 - zg)).bind fun x126 =>
          some x126
        else
          some (-1 : Int32)
      else
        some (-1 : Int32)
def f_occurrenceMask (zab : List Int32) (zb v1 : Int32) : Option (Int32) :=
  if v1 < (0 : Int32) then
    some (-1 : Int32)
  else
    if v1 < zb then
      (rdA zab v1).bind fun x128 =>
      some x128
    else
      some (-1 : Int32)
def f_L_law_435 (scr : List Int32) : Nat → List Int32 → Int32 → List Int32 → Int32 → Int32 → Int32 → Option (Int32)
  | 0, _, _, _, _, _, _ => none
  | n + 1, zad, zac, zbe, zbf, v4, v6 =>
    if v6 < (240 : Int32) then
      if v6 < v4 then
        (f_occurrenceMask zad zac v6).bind fun r285 =>
        (f_occurrenceMask zbe zbf v6).bind fun r286 =>
        if r286 = r285 then
          f_L_law_435 scr n zad zac zbe zbf v4 (v6 + (1 : Int32))
        else
          some (0 : Int32)
      else
        some (1 : Int32)
    else
      some (1 : Int32)
def f_L_law_390 (k435 : List Int32 → Int32 → List Int32 → Int32 → Int32 → Int32 → Option (Int32)) (scr : List Int32) : Nat → List Int32 → List Int32 → List Int32 → Int32 → Int32 → Int32 → List Int32 → List Int32 → List Int32 → Int32 → Int32 → Int32 → Int32 → Int32 → Int32 → Option (Int32)
  | 0, _, _, _, _, _, _, _, _, _, _, _, _, _, _, _ => none
  | n + 1, zad, zae, zaf, zac, zag, zah, zbe, zbg, zbh, zbf, zbj, zbk, v4, v5, v6 =>
    if v6 < (240 : Int32) then
      if v6 < v5 then
        (f_outChar zae zaf zag zah v6).bind fun r283 =>
        (f_outChar zbg zbh zbj zbk v6).bind fun r284 =>
        if r284 = r283 then
          f_L_law_390 k435 scr n zad zae zaf zac zag zah zbe zbg zbh zbf zbj zbk v4 v5 (v6 + (1 : Int32))
        else
          some (0 : Int32)
      else
        k435 zad zac zbe zbf v4 (0 : Int32)
    else
      k435 zad zac zbe zbf v4 (0 : Int32)
def f_L_law_323 (scr zai zad zae zaf : List Int32) (zac zaj zak zag zah : Int32) (zbl zbe zbg zbh : List Int32) (zbi zbf zbm zbn zbj zbk v3 v4 : Int32) : Option (Int32) :=
  (f_keywordCount zbi).bind fun r275 =>
  if r275 = v3 then
    (f_textLength zbf).bind fun r276 =>
    if r276 = v4 then
      (f_totalOccurrences zbn).bind fun r277 =>
      (f_totalOccurrences zak).bind fun r278 =>
      if r277 = r278 then
        (f_longestPartial zbl zbf zbm).bind fun r279 =>
        (f_longestPartial zai zac zaj).bind fun r280 =>
        if r279 = r280 then
          (f_outLength zag zah).bind fun r281 =>
          (f_outLength zbj zbk).bind fun r282 =>
          if r282 = r281 then
            f_L_law_390 (f_L_law_435 scr 100000) scr 100000 zad zae zaf zac zag zah zbe zbg zbh zbf zbj zbk v4 r281 (0 : Int32)
          else
            some (0 : Int32)
        else
          some (0 : Int32)
      else
        some (0 : Int32)
    else
      some (0 : Int32)
  else
    some (0 : Int32)
def f_L_law_283 (k323 : List Int32 → List Int32 → List Int32 → List Int32 → Int32 → Int32 → Int32 → Int32 → Int32 → List Int32 → List Int32 → List Int32 → List Int32 → Int32 → Int32 → Int32 → Int32 → Int32 → Int32 → Int32 → Int32 → Option (Int32)) (scr : List Int32) : Nat → List Int32 → List Int32 → List Int32 → List Int32 → List Int32 → Int32 → Int32 → Int32 → Int32 → Int32 → List Int32 → List Int32 → List Int32 → List Int32 → List Int32 → List Int32 → List Int32 → List Int32 → List Int32 → List Int32 → List Int32 → Int32 → Int32 → Int32 → Int32 → Int32 → Int32 → Int32 → Int32 → Int32 → Int32 → Int32 → Int32 → Option (Int32)
  | 0, _, _, _, _, _, _, _, _, _, _, _, _, _, _, _, _, _, _, _, _, _, _, _, _, _, _, _, _, _, _, _, _, _ => none
  | n + 1, zai, zal, zad, zae, zaf, zac, zaj, zak, zag, zah, zbo, zbq, zbr, zbs, zbl, zbt, zbu, zbv, zbe, zbg, zbh, zbp, zbi, zbw, zbf, zbm, zbn, zbj, zby, zbk, v3, v4, v5 =>
    if v5 < (240 : Int32) then
      if v5 < v4 then
        (f_textChar zal zac v5).bind fun r263 =>
        (f_feed zbo zbq zbr zbs zbt zbu zbp zbw zbv zbe zbg zbh zbf zbm zbn zbj zby zbk r263).bind fun (r264, s265, s266, s267, s268, s269, s270, s271, s272, s273, s274) =>
        if r264 < (0 : Int32) then
          some (0 : Int32)
        else
          f_L_law_283 k323 scr n zai zal zad zae zaf zac zaj zak zag zah zbo zbq zbr zbs zbl zbt zbu s265 s266 s267 s268 zbp zbi zbw s269 s270 s271 s272 s273 s274 v3 v4 (v5 + (1 : Int32))
      else
        k323 zai zad zae zaf zac zaj zak zag zah zbl zbe zbg zbh zbi zbf zbm zbn zbj zbk v3 v4
    else
      k323 zai zad zae zaf zac zaj zak zag zah zbl zbe zbg zbh zbi zbf zbm zbn zbj zbk v3 v4
def f_L_law_265 (scr zai zal zad zae zaf : List Int32) (zac zaj zak zag zah : Int32) (zbx zbo zbq zbr zbs zbz zbl zbt zbu zca zbv zbe zbg zbh : List Int32) (zbp zbi zcc zcb zbw zbf zbm zbn zbj zby zbk v3 : Int32) : Option (Int32) :=
  (f_build zbx zbo zbi zcc zbr zbs zbz zbl zbt zbu zca zbp zcb zbw zbf zbm zbn zbj zby zbk).bind fun (r245, s246, s247, s248, s249, s250, s251, s252, s253, s254, s255, s256, s257, s258, s259, s260, s261) =>
  if r245 = (0 : Int32) then
    (f_textLength zac).bind fun r262 =>
    f_L_law_283 (f_L_law_323 scr) scr 100000 zai zal zad zae zaf zac zaj zak zag zah zbo zbq s246 s247 s249 s250 s251 zbv zbe zbg zbh s253 zbi s255 s256 s257 s258 s259 s260 s261 v3 r262 (0 : Int32)
  else
    some (0 : Int32)
def f_L_law_237 (kb : List Int32 → List Int32 → List Int32 → List Int32 → List Int32 → List Int32 → List Int32 → List Int32 → List Int32 → Int32 → Int32 → Int32 → Int32 → Int32 → Int32 → Int32 → List Int32 → List Int32 → List Int32 → List Int32 → List Int32 → List Int32 → List Int32 → List Int32 → List Int32 → List Int32 → List Int32 → List Int32 → List Int32 → List Int32 → List Int32 → Int32 → Int32 → Int32 → Int32 → Int32 → Int32 → Int32 → Int32 → Int32 → Int32 → Int32 → Int32 → Int32 → Int32 → Int32 → Option (Int32)) (k265 : List Int32 → List Int32 → List Int32 → List Int32 → List Int32 → Int32 → Int32 → Int32 → Int32 → Int32 → List Int32 → List Int32 → List Int32 → List Int32 → List Int32 → List Int32 → List Int32 → List Int32 → List Int32 → List Int32 → List Int32 → List Int32 → List Int32 → List Int32 → Int32 → Int32 → Int32 → Int32 → Int32 → Int32 → Int32 → Int32 → Int32 → Int32 → Int32 → Int32 → Option (Int32)) (scr zao zan zap zaq zai zal zad zae zaf : List Int32) (zam zar zac zaj zak zag zah : Int32) (zbx zbo zbq zcf zbr zbs zbz zbl zbt zbu zca zbv zbe zbg zbh : List Int32) (zcd zce zbp zbi zcc zcb zbw zbf zbm zbn zbj zby zbk v3 v4 : Int32) : Option (Int32) :=
  (f_keywordChar zao zan zap zaq zam zar v4 (-1 : Int32)).bind fun r238 =>
  (f_endKeyword zcf zbp zbx zbo zbq zbi zcc r238).bind fun (r239, s240, s241, s242, s243, s244) =>
  if r239 = v4 then
    kb zao zan zap zaq zai zal zad zae zaf zam zar zac zaj zak zag zah s240 s241 s242 zcf zbr zbs zbz zbl zbt zbu zca zbv zbe zbg zbh zcd zce zbp s243 s244 zcb zbw zbf zbm zbn zbj zby zbk v3 (v4 + (1 : Int32))
  else
    some (0 : Int32)
def f_L_law_192 (k237 : List Int32 → List Int32 → List Int32 → List Int32 → List Int32 → List Int32 → List Int32 → List Int32 → List Int32 → Int32 → Int32 → Int32 → Int32 → Int32 → Int32 → Int32 → List Int32 → List Int32 → List Int32 → List Int32 → List Int32 → List Int32 → List Int32 → List Int32 → List Int32 → List Int32 → List Int32 → List Int32 → List Int32 → List Int32 → List Int32 → Int32 → Int32 → Int32 → Int32 → Int32 → Int32 → Int32 → Int32 → Int32 → Int32 → Int32 → Int32 → Int32 → Int32 → Int32 → Option (Int32)) (scr : List Int32) : Nat → List Int32 → List Int32 → List Int32 → List Int32 → List Int32 → List Int32 → List Int32 → List Int32 → List Int32 → Int32 → Int32 → Int32 → Int32 → Int32 → Int32 → Int32 → List Int32 → List Int32 → List Int32 → List Int32 → List Int32 → List Int32 → List Int32 → List Int32 → List Int32 → List Int32 → List Int32 → List Int32 → List Int32 → List Int32 → List Int32 → Int32 → Int32 → Int32 → Int32 → Int32 → Int32 → Int32 → Int32 → Int32 → Int32 → Int32 → Int32 → Int32 → Int32 → Int32 → Int32 → Int32 → Option (Int32)
  | 0, _, _, _, _, _, _, _, _, _, _, _, _, _, _, _, _, _, _, _, _, _, _, _, _, _, _, _, _, _, _, _, _, _, _, _, _, _, _, _, _, _, _, _, _, _, _, _, _ => none
  | n + 1, zao, zan, zap, zaq, zai, zal, zad, zae, zaf, zam, zar, zac, zaj, zak, zag, zah, zbx, zbo, zbq, zcf, zbr, zbs, zbz, zbl, zbt, zbu, zca, zbv, zbe, zbg, zbh, zcd, zce, zbp, zbi, zcc, zcb, zbw, zbf, zbm, zbn, zbj, zby, zbk, v3, v4, v5, v6 =>
    if v6 < (8 : Int32) then
      if v6 < v5 then
        (f_keywordChar zao zan zap zaq zam zar v4 v6).bind fun r234 =>
        (f_addChar zcd zce zbp zbi zcf zcc r234).bind fun (r235, s236, s237) =>
        if r235 = (v6 + (1 : Int32)) then
          f_L_law_192 k237 scr n zao zan zap zaq zai zal zad zae zaf zam zar zac zaj zak zag zah zbx zbo zbq s236 zbr zbs zbz zbl zbt zbu zca zbv zbe zbg zbh zcd zce zbp zbi s237 zcb zbw zbf zbm zbn zbj zby zbk v3 v4 v5 (v6 + (1 : Int32))
        else
          some (0 : Int32)
      else
        k237 zao zan zap zaq zai zal zad zae zaf zam zar zac zaj zak zag zah zbx zbo zbq zcf zbr zbs zbz zbl zbt zbu zca zbv zbe zbg zbh zcd zce zbp zbi zcc zcb zbw zbf zbm zbn zbj zby zbk v3 v4
    else
      k237 zao zan zap zaq zai zal zad zae zaf zam zar zac zaj zak zag zah zbx zbo zbq zcf zbr zbs zbz zbl zbt zbu zca zbv zbe zbg zbh zcd zce zbp zbi zcc zcb zbw zbf zbm zbn zbj zby zbk v3 v4
def f_L_law_168 (k265 : List Int32 → List Int32 → List Int32 → List Int32 → List Int32 → Int32 → Int32 → Int32 → Int32 → Int32 → List Int32 → List Int32 → List Int32 → List Int32 → List Int32 → List Int32 → List Int32 → List Int32 → List Int32 → List Int32 → List Int32 → List Int32 → List Int32 → List Int32 → Int32 → Int32 → Int32 → Int32 → Int32 → Int32 → Int32 → Int32 → Int32 → Int32 → Int32 → Int32 → Option (Int32)) (scr : List Int32) : Nat → List Int32 → List Int32 → List Int32 → List Int32 → List Int32 → List Int32 → List Int32 → List Int32 → List Int32 → Int32 → Int32 → Int32 → Int32 → Int32 → Int32 → Int32 → List Int32 → List Int32 → List Int32 → List Int32 → List Int32 → List Int32 → List Int32 → List Int32 → List Int32 → List Int32 → List Int32 → List Int32 → List Int32 → List Int32 → List Int32 → Int32 → Int32 → Int32 → Int32 → Int32 → Int32 → Int32 → Int32 → Int32 → Int32 → Int32 → Int32 → Int32 → Int32 → Int32 → Option (Int32)
  | 0, _, _, _, _, _, _, _, _, _, _, _, _, _, _, _, _, _, _, _, _, _, _, _, _, _, _, _, _, _, _, _, _, _, _, _, _, _, _, _, _, _, _, _, _, _, _ => none
  | n + 1, zao, zan, zap, zaq, zai, zal, zad, zae, zaf, zam, zar, zac, zaj, zak, zag, zah, zbx, zbo, zbq, zcf, zbr, zbs, zbz, zbl, zbt, zbu, zca, zbv, zbe, zbg, zbh, zcd, zce, zbp, zbi, zcc, zcb, zbw, zbf, zbm, zbn, zbj, zby, zbk, v3, v4 =>
    if v4 < (16 : Int32) then
      if v4 < v3 then
        (f_keywordLength zan zam zar v4).bind fun r233 =>
        f_L_law_192 (f_L_law_237 (f_L_law_168 k265 scr n) k265 scr) scr 100000 zao zan zap zaq zai zal zad zae zaf zam zar zac zaj zak zag zah zbx zbo zbq zcf zbr zbs zbz zbl zbt zbu zca zbv zbe zbg zbh zcd zce zbp zbi zcc zcb zbw zbf zbm zbn zbj zby zbk v3 v4 r233 (0 : Int32)
      else
        k265 zai zal zad zae zaf zac zaj zak zag zah zbx zbo zbq zbr zbs zbz zbl zbt zbu zca zbv zbe zbg zbh zbp zbi zcc zcb zbw zbf zbm zbn zbj zby zbk v3
    else
      k265 zai zal zad zae zaf zac zaj zak zag zah zbx zbo zbq zbr zbs zbz zbl zbt zbu zca zbv zbe zbg zbh zbp zbi zcc zcb zbw zbf zbm zbn zbj zby zbk v3
def f_L_law_140 (scr zao zan zap zaq zai zal zad zae zaf : List Int32) (zas zam zar zac zaj zak zag zah : Int32) : Option (Int32) :=
  (f_phase zas).bind fun r203 =>
  if r203 = (1 : Int32) then
    (f_init (4 : Int32) (3 : Int32)).bind fun (s204, s205, s206, s207, s208, s209, s210, s211, s212, s213, s214, s215, s216, s217, s218, s219, s220, s221, s222, s223, s224, s225, s226, s227, s228, s229, s230, s231) =>
    (f_keywordCount zam).bind fun r232 =>
    f_L_law_168 (f_L_law_265 scr) scr 100000 zao zan zap zaq zai zal zad zae zaf zam zar zac zaj zak zag zah s204 s205 s206 s207 s208 s209 s210 s211 s212 s213 s214 s215 s216 s217 s218 s219 s220 s221 s222 s223 s224 s225 s226 s227 s228 s229 s230 s231 r232 (0 : Int32)
  else
    some (1 : Int32)
def f_L_law_127 (kb : List Int32 → List Int32 → List Int32 → List Int32 → List Int32 → List Int32 → List Int32 → List Int32 → List Int32 → List Int32 → List Int32 → List Int32 → List Int32 → List Int32 → List Int32 → Int32 → Int32 → Int32 → Int32 → Int32 → Int32 → Int32 → Int32 → Int32 → Int32 → Int32 → Int32 → Int32 → Int32 → Option (Int32)) (k140 : List Int32 → List Int32 → List Int32 → List Int32 → List Int32 → List Int32 → List Int32 → List Int32 → List Int32 → Int32 → Int32 → Int32 → Int32 → Int32 → Int32 → Int32 → Int32 → Option (Int32)) (scr zao zan zap zaq zav zaw zba zai zax zay zbb zal zad zae zaf : List Int32) (zat zau zas zam zar zbc zaz zac zaj zak zag zbd zah v2 v5 : Int32) : Option (Int32) :=
  (f_feed zan zap zav zaw zax zay zas zaz zal zad zae zaf zac zaj zak zag zbd zah v5).bind fun (r192, s193, s194, s195, s196, s197, s198, s199, s200, s201, s202) =>
  kb zao zan zap zaq zav zaw zba zai zax zay zbb s193 s194 s195 s196 zat zau zas zam zar zbc zaz s197 s198 s199 s200 s201 s202 (v2 + (2 : Int32))
def f_L_law_12 (k140 : List Int32 → List Int32 → List Int32 → List Int32 → List Int32 → List Int32 → List Int32 → List Int32 → List Int32 → Int32 → Int32 → Int32 → Int32 → Int32 → Int32 → Int32 → Int32 → Option (Int32)) (scr : List Int32) : Nat → List Int32 → List Int32 → List Int32 → List Int32 → List Int32 → List Int32 → List Int32 → List Int32 → List Int32 → List Int32 → List Int32 → List Int32 → List Int32 → List Int32 → List Int32 → Int32 → Int32 → Int32 → Int32 → Int32 → Int32 → Int32 → Int32 → Int32 → Int32 → Int32 → Int32 → Int32 → Int32 → Option (Int32)
  | 0, _, _, _, _, _, _, _, _, _, _, _, _, _, _, _, _, _, _, _, _, _, _, _, _, _, _, _, _, _ => none
  | n + 1, zao, zan, zap, zaq, zav, zaw, zba, zai, zax, zay, zbb, zal, zad, zae, zaf, zat, zau, zas, zam, zar, zbc, zaz, zac, zaj, zak, zag, zbd, zah, v2 =>
    if (v2 + (1 : Int32)) < scr.length.toInt32 then
      (rdA scr v2).bind fun x157 =>
      (rdA scr (v2 + (1 : Int32))).bind fun x158 =>
      if (1 : Int32) < (x157 &&& (7 : Int32)) then
        if (x157 &&& (7 : Int32)) = (2 : Int32) then
          (f_endKeyword zaq zas zao zan zap zam zar ((31 : Int32) + (x158 &&& (63 : Int32)))).bind fun (r183, s184, s185, s186, s187, s188) =>
          f_L_law_12 k140 scr n s184 s185 s186 zaq zav zaw zba zai zax zay zbb zal zad zae zaf zat zau zas s187 s188 zbc zaz zac zaj zak zag zbd zah (v2 + (2 : Int32))
        else
          if (x157 &&& (7 : Int32)) = (3 : Int32) then
            (f_build zao zan zam zar zav zaw zba zai zax zay zbb zas zbc zaz zac zaj zak zag zbd zah).bind fun (r166, s167, s168, s169, s170, s171, s172, s173, s174, s175, s176, s177, s178, s179, s180, s181, s182) =>
            f_L_law_12 k140 scr n zao zan zap zaq s167 s168 s169 s170 s171 s172 s173 zal zad zae zaf zat zau s174 zam zar s175 s176 s177 s178 s179 s180 s181 s182 (v2 + (2 : Int32))
          else
            if (x157 &&& (7 : Int32)) = (7 : Int32) then
              (f_resetText zas zac zaj zak zag zbd zah).bind fun (r159, s160, s161, s162, s163, s164, s165) =>
              f_L_law_12 k140 scr n zao zan zap zaq zav zaw zba zai zax zay zbb zal zad zae zaf zat zau zas zam zar zbc zaz s160 s161 s162 s163 s164 s165 (v2 + (2 : Int32))
            else
              f_L_law_127 (f_L_law_12 k140 scr n) k140 scr zao zan zap zaq zav zaw zba zai zax zay zbb zal zad zae zaf zat zau zas zam zar zbc zaz zac zaj zak zag zbd zah v2 (if (x158 &&& (48 : Int32)) = (48 : Int32) then (127 : Int32) else ((97 : Int32) + (x158 &&& (7 : Int32))))
      else
        (f_addChar zat zau zas zam zaq zar ((96 : Int32) + (x158 &&& (7 : Int32)))).bind fun (r189, s190, s191) =>
        f_L_law_12 k140 scr n zao zan zap s190 zav zaw zba zai zax zay zbb zal zad zae zaf zat zau zas zam s191 zbc zaz zac zaj zak zag zbd zah (v2 + (2 : Int32))
    else
      k140 zao zan zap zaq zai zal zad zae zaf zas zam zar zac zaj zak zag zah
def f_L_law (scr : List Int32) : Option (Int32) :=
  (f_init (4 : Int32) (3 : Int32)).bind fun (s129, s130, s131, s132, s133, s134, s135, s136, s137, s138, s139, s140, s141, s142, s143, s144, s145, s146, s147, s148, s149, s150, s151, s152, s153, s154, s155, s156) =>
  f_L_law_12 (f_L_law_140 scr) scr 100000 s129 s130 s131 s132 s133 s134 s135 s136 s137 s138 s139 s140 s141 s142 s143 s144 s145 s146 s147 s148 s149 s150 s151 s152 s153 s154 s155 s156 (0 : Int32)
set_option maxHeartbeats 4000000
set_option maxRecDepth 10000
abbrev qi (x : Int32) : Slot := .val (.int x)
abbrev ql (x : Int64) : Slot := .val (.long x)
abbrev qr (x : Nat) : Slot := .val (.ref x)
abbrev qu : Slot := .unset
abbrev qw : Slot := .second
abbrev qa (l : List Int32) : ACell := .inr (.inl (false, l))
theorem ok_clearText_0 {zf za zi zm zd zv zt zr zh zj zp zn zab zw zu : List Int32} {zz zaa zo zc ze zq zs : Int32} {c0 : ACell} {po : List ACell} {zb zx zy zg zk zl w_o_n w_o_state w_o_total w_o_outLen w_o_commitPos w_o_tailLen : Int32} (h : f_clearText zb zx zy zg zk zl = some (w_o_n, w_o_state, w_o_total, w_o_outLen, w_o_commitPos, w_o_tailLen)) : OEnds own_P 2 0 [qr 1] [] (c0 :: bk0 zf za zi zm zd zv zt zr zh zj zp zn zab zw zu zz zaa zo zc ze zq zs zb zx zy zg zk zl po) (none, (c0 :: bk0 zf za zi zm zd zv zt zr zh zj zp zn zab zw zu zz zaa zo zc ze zq zs w_o_n w_o_state w_o_total w_o_outLen w_o_commitPos w_o_tailLen po), 0, 0) := by
  unfold f_clearText at h
  refine OEnds.adv hm_2 18 (pc' := 30) (L' := [qr 1]) (S' := []) (H' := (c0 :: bk0 zf za zi zm zd zv zt zr zh zj zp zn zab zw zu zz zaa zo zc ze zq zs 0 0 0 0 0 0 po)) rfl ?_
  cases h
  exact OEnds.vret hm_2 rfl rfl
theorem ok_init_237_0 {c0 : ACell} : ∀ {zf za zi zm zd zv zt zr zh zj zp zn zab zw zu : List Int32} {zz zaa zo zc ze zq zs zb zx zy zg zk zl : Int32} {d1 d2 d3 d4 d5 : Slot} {w_o_kwChars w_o_kwLen w_o_kwRepl w_o_pend w_o_child w_o_delta w_o_fail w_o_depth w_o_term w_o_outMask w_o_queue w_o_text w_o_masks w_o_out w_o_tail : List Int32} {w_o_maxKw w_o_maxLen w_o_phaseNow w_o_count w_o_pendLen w_o_nodeCount w_o_longestKw w_o_n w_o_state w_o_total w_o_outLen w_o_commitPos : Int32} {w_o_tailLen : Int32}, f_init_237 zf za zi zm zd zv zt zr zh zj zp zn zab zw zu zz zaa zo zc ze zq zs zb zx zy zg zk zl = some (w_o_kwChars, w_o_kwLen, w_o_kwRepl, w_o_pend, w_o_child, w_o_delta, w_o_fail, w_o_depth, w_o_term, w_o_outMask, w_o_queue, w_o_text, w_o_masks, w_o_out, w_o_tail, w_o_maxKw, w_o_maxLen, w_o_phaseNow, w_o_count, w_o_pendLen, w_o_nodeCount, w_o_longestKw, w_o_n, w_o_state, w_o_total, w_o_outLen, w_o_commitPos, w_o_tailLen) → OEnds own_P 1 237 [qr 1, d1, d2, d3, d4, d5] [] (c0 :: bk0 zf za zi zm zd zv zt zr zh zj zp zn zab zw zu zz zaa zo zc ze zq zs zb zx zy zg zk zl []) (none, (c0 :: bk0 w_o_kwChars w_o_kwLen w_o_kwRepl w_o_pend w_o_child w_o_delta w_o_fail w_o_depth w_o_term w_o_outMask w_o_queue w_o_text w_o_masks w_o_out w_o_tail w_o_maxKw w_o_maxLen w_o_phaseNow w_o_count w_o_pendLen w_o_nodeCount w_o_longestKw w_o_n w_o_state w_o_total w_o_outLen w_o_commitPos w_o_tailLen []), 0, 0) := by
  intro zf za zi zm zd zv zt zr zh zj zp zn zab zw zu zz zaa zo zc ze zq zs zb zx zy zg zk zl d1 d2 d3 d4 d5 w_o_kwChars w_o_kwLen w_o_kwRepl w_o_pend w_o_child w_o_delta w_o_fail w_o_depth w_o_term w_o_outMask w_o_queue w_o_text w_o_masks w_o_out w_o_tail w_o_maxKw w_o_maxLen w_o_phaseNow w_o_count w_o_pendLen w_o_nodeCount w_o_longestKw w_o_n w_o_state w_o_total w_o_outLen w_o_commitPos w_o_tailLen h
  unfold f_init_237 at h
  refine OEnds.adv hm_1 1 (pc' := 238) (L' := [qr 1, qu, qu, qu, qu, qu]) (S' := [.ref 1]) (H' := (c0 :: bk0 zf za zi zm zd zv zt zr zh zj zp zn zab zw zu zz zaa zo zc ze zq zs zb zx zy zg zk zl [])) rfl ?_
  obtain ⟨⟨s2, s3, s4, s5, s6, s7⟩, hq1, h⟩ := bnd h
  refine OEnds.call0 hm_1 rfl rfl (by decide) rfl (as := [.ref 1]) (rest := []) rfl rfl (ok_clearText_0 hq1) ?_
  show OEnds own_P 1 241 [qr 1, qu, qu, qu, qu, qu] [] (c0 :: bk0 zf za zi zm zd zv zt zr zh zj zp zn zab zw zu zz zaa zo zc ze zq zs s2 s3 s4 s5 s6 s7 []) _
  cases h
  exact OEnds.vret hm_1 rfl rfl
theorem ok_init_215_0 {c0 : ACell} {k237 : List Int32 → List Int32 → List Int32 → List Int32 → List Int32 → List Int32 → List Int32 → List Int32 → List Int32 → List Int32 → List Int32 → List Int32 → List Int32 → List Int32 → List Int32 → Int32 → Int32 → Int32 → Int32 → Int32 → Int32 → Int32 → Int32 → Int32 → Int32 → Int32 → Int32 → Int32 → Option (List Int32 × List Int32 × List Int32 × List Int32 × List Int32 × List Int32 × List Int32 × List Int32 × List Int32 × List Int32 × List Int32 × List Int32 × List Int32 × List Int32 × List Int32 × Int32 × Int32 × Int32 × Int32 × Int32 × Int32 × Int32 × Int32 × Int32 × Int32 × Int32 × Int32 × Int32)} (hk237 : ∀ {zf za zi zm zd zv zt zr zh zj zp zn zab zw zu : List Int32} {zz zaa zo zc ze zq zs zb zx zy zg zk zl : Int32} {d1 d2 d3 d4 d5 : Slot} {w_o_kwChars w_o_kwLen w_o_kwRepl w_o_pend w_o_child w_o_delta w_o_fail w_o_depth w_o_term w_o_outMask w_o_queue w_o_text w_o_masks w_o_out w_o_tail : List Int32} {w_o_maxKw w_o_maxLen w_o_phaseNow w_o_count w_o_pendLen w_o_nodeCount w_o_longestKw w_o_n w_o_state w_o_total w_o_outLen w_o_commitPos : Int32} {w_o_tailLen : Int32}, k237 zf za zi zm zd zv zt zr zh zj zp zn zab zw zu zz zaa zo zc ze zq zs zb zx zy zg zk zl = some (w_o_kwChars, w_o_kwLen, w_o_kwRepl, w_o_pend, w_o_child, w_o_delta, w_o_fail, w_o_depth, w_o_term, w_o_outMask, w_o_queue, w_o_text, w_o_masks, w_o_out, w_o_tail, w_o_maxKw, w_o_maxLen, w_o_phaseNow, w_o_count, w_o_pendLen, w_o_nodeCount, w_o_longestKw, w_o_n, w_o_state, w_o_total, w_o_outLen, w_o_commitPos, w_o_tailLen) → OEnds own_P 1 237 [qr 1, d1, d2, d3, d4, d5] [] (c0 :: bk0 zf za zi zm zd zv zt zr zh zj zp zn zab zw zu zz zaa zo zc ze zq zs zb zx zy zg zk zl []) (none, (c0 :: bk0 w_o_kwChars w_o_kwLen w_o_kwRepl w_o_pend w_o_child w_o_delta w_o_fail w_o_depth w_o_term w_o_outMask w_o_queue w_o_text w_o_masks w_o_out w_o_tail w_o_maxKw w_o_maxLen w_o_phaseNow w_o_count w_o_pendLen w_o_nodeCount w_o_longestKw w_o_n w_o_state w_o_total w_o_outLen w_o_commitPos w_o_tailLen []), 0, 0)) : ∀ (n : Nat), ∀ {zf za zi zm zd zv zt zr zh zj zp zn zab zw zu : List Int32} {zz zaa zo zc ze zq zs zb zx zy zg zk zl v5 : Int32} {d1 d2 d3 d4 : Slot} {w_o_kwChars w_o_kwLen w_o_kwRepl w_o_pend w_o_child w_o_delta w_o_fail w_o_depth w_o_term w_o_outMask w_o_queue w_o_text w_o_masks w_o_out w_o_tail : List Int32} {w_o_maxKw w_o_maxLen w_o_phaseNow w_o_count w_o_pendLen w_o_nodeCount w_o_longestKw w_o_n w_o_state w_o_total w_o_outLen w_o_commitPos : Int32} {w_o_tailLen : Int32}, f_init_215 k237 n zf za zi zm zd zv zt zr zh zj zp zn zab zw zu zz zaa zo zc ze zq zs zb zx zy zg zk zl v5 = some (w_o_kwChars, w_o_kwLen, w_o_kwRepl, w_o_pend, w_o_child, w_o_delta, w_o_fail, w_o_depth, w_o_term, w_o_outMask, w_o_queue, w_o_text, w_o_masks, w_o_out, w_o_tail, w_o_maxKw, w_o_maxLen, w_o_phaseNow, w_o_count, w_o_pendLen, w_o_nodeCount, w_o_longestKw, w_o_n, w_o_state, w_o_total, w_o_outLen, w_o_commitPos, w_o_tailLen) → OEnds own_P 1 215 [qr 1, d1, d2, d3, d4, qi v5] [] (c0 :: bk0 zf za zi zm zd zv zt zr zh zj zp zn zab zw zu zz zaa zo zc ze zq zs zb zx zy zg zk zl []) (none, (c0 :: bk0 w_o_kwChars w_o_kwLen w_o_kwRepl w_o_pend w_o_child w_o_delta w_o_fail w_o_depth w_o_term w_o_outMask w_o_queue w_o_text w_o_masks w_o_out w_o_tail w_o_maxKw w_o_maxLen w_o_phaseNow w_o_count w_o_pendLen w_o_nodeCount w_o_longestKw w_o_n w_o_state w_o_total w_o_outLen w_o_commitPos w_o_tailLen []), 0, 0) := by
  intro n
  induction n with
  | zero => intro zf za zi zm zd zv zt zr zh zj zp zn zab zw zu zz zaa zo zc ze zq zs zb zx zy zg zk zl v5 d1 d2 d3 d4 w_o_kwChars w_o_kwLen w_o_kwRepl w_o_pend w_o_child w_o_delta w_o_fail w_o_depth w_o_term w_o_outMask w_o_queue w_o_text w_o_masks w_o_out w_o_tail w_o_maxKw w_o_maxLen w_o_phaseNow w_o_count w_o_pendLen w_o_nodeCount w_o_longestKw w_o_n w_o_state w_o_total w_o_outLen w_o_commitPos w_o_tailLen h; cases h
  | succ n ih =>
    intro zf za zi zm zd zv zt zr zh zj zp zn zab zw zu zz zaa zo zc ze zq zs zb zx zy zg zk zl v5 d1 d2 d3 d4 w_o_kwChars w_o_kwLen w_o_kwRepl w_o_pend w_o_child w_o_delta w_o_fail w_o_depth w_o_term w_o_outMask w_o_queue w_o_text w_o_masks w_o_out w_o_tail w_o_maxKw w_o_maxLen w_o_phaseNow w_o_count w_o_pendLen w_o_nodeCount w_o_longestKw w_o_n w_o_state w_o_total w_o_outLen w_o_commitPos w_o_tailLen h
    unfold f_init_215 at h
    refine OEnds.adv hm_1 2 (pc' := 220) (L' := [qr 1, qu, qu, qu, qu, qi v5]) (S' := [.int 129, .int v5]) (H' := (c0 :: bk0 zf za zi zm zd zv zt zr zh zj zp zn zab zw zu zz zaa zo zc ze zq zs zb zx zy zg zk zl [])) rfl ?_
    by_cases hc2 : v5 < (129 : Int32)
    · simp only [if_pos hc2] at h
      refine OEnds.icmpF hm_1 rfl ((tlt hc2).2.1) ?_
      refine OEnds.adv hm_1 4 (pc' := 230) (L' := [qr 1, qu, qu, qu, qu, qi v5]) (S' := [.int (-1), .int v5, .ref 10]) (H' := (c0 :: bk0 zf za zi zm zd zv zt zr zh zj zp zn zab zw zu zz zaa zo zc ze zq zs zb zx zy zg zk zl [])) rfl ?_
      obtain ⟨A1, hA1, h⟩ := bnd h
      refine OEnds.plain hm_1 rfl rfl (x_iastore rfl (Nat.le_of_ble_eq_true rfl) hA1) ?_
      refine OEnds.adv hm_1 2 (pc' := 215) (L' := [qr 1, qu, qu, qu, qu, qi (v5 + (1 : Int32))]) (S' := []) (H' := (c0 :: bk0 zf za zi zm zd zv zt zr A1 zj zp zn zab zw zu zz zaa zo zc ze zq zs zb zx zy zg zk zl [])) rfl ?_
      exact ih h
    · simp only [if_neg hc2] at h
      refine OEnds.icmpT hm_1 rfl (q := 237) rfl ((flt hc2).2.1) ?_
      show OEnds own_P 1 237 [qr 1, qu, qu, qu, qu, qi v5] [] (c0 :: bk0 zf za zi zm zd zv zt zr zh zj zp zn zab zw zu zz zaa zo zc ze zq zs zb zx zy zg zk zl []) _
      exact hk237 h
theorem ok_init_176_0 {c0 : ACell} : ∀ {zf za zi zm zd zv zt zr zh zj zp zn zab zw zu : List Int32} {zz zaa zo zc ze zq zs zb zx zy zg zk zl v3 v4 : Int32} {d1 d2 d5 : Slot} {w_o_kwChars w_o_kwLen w_o_kwRepl w_o_pend w_o_child w_o_delta w_o_fail w_o_depth w_o_term w_o_outMask w_o_queue w_o_text w_o_masks w_o_out w_o_tail : List Int32} {w_o_maxKw w_o_maxLen w_o_phaseNow w_o_count w_o_pendLen w_o_nodeCount w_o_longestKw w_o_n w_o_state w_o_total w_o_outLen w_o_commitPos : Int32} {w_o_tailLen : Int32}, f_init_176 zf za zi zm zd zv zt zr zh zj zp zn zab zw zu zz zaa zo zc ze zq zs zb zx zy zg zk zl v3 v4 = some (w_o_kwChars, w_o_kwLen, w_o_kwRepl, w_o_pend, w_o_child, w_o_delta, w_o_fail, w_o_depth, w_o_term, w_o_outMask, w_o_queue, w_o_text, w_o_masks, w_o_out, w_o_tail, w_o_maxKw, w_o_maxLen, w_o_phaseNow, w_o_count, w_o_pendLen, w_o_nodeCount, w_o_longestKw, w_o_n, w_o_state, w_o_total, w_o_outLen, w_o_commitPos, w_o_tailLen) → OEnds own_P 1 176 [qr 1, d1, d2, qi v3, qi v4, d5] [] (c0 :: bk0 zf za zi zm zd zv zt zr zh zj zp zn zab zw zu zz zaa zo zc ze zq zs zb zx zy zg zk zl []) (none, (c0 :: bk0 w_o_kwChars w_o_kwLen w_o_kwRepl w_o_pend w_o_child w_o_delta w_o_fail w_o_depth w_o_term w_o_outMask w_o_queue w_o_text w_o_masks w_o_out w_o_tail w_o_maxKw w_o_maxLen w_o_phaseNow w_o_count w_o_pendLen w_o_nodeCount w_o_longestKw w_o_n w_o_state w_o_total w_o_outLen w_o_commitPos w_o_tailLen []), 0, 0) := by
  intro zf za zi zm zd zv zt zr zh zj zp zn zab zw zu zz zaa zo zc ze zq zs zb zx zy zg zk zl v3 v4 d1 d2 d5 w_o_kwChars w_o_kwLen w_o_kwRepl w_o_pend w_o_child w_o_delta w_o_fail w_o_depth w_o_term w_o_outMask w_o_queue w_o_text w_o_masks w_o_out w_o_tail w_o_maxKw w_o_maxLen w_o_phaseNow w_o_count w_o_pendLen w_o_nodeCount w_o_longestKw w_o_n w_o_state w_o_total w_o_outLen w_o_commitPos w_o_tailLen h
  unfold f_init_176 at h
  refine OEnds.adv hm_1 23 (pc' := 215) (L' := [qr 1, qu, qu, qi v3, qi v4, qi 0]) (S' := []) (H' := (c0 :: bk0 zf za zi zm zd zv zt zr zh zj zp zn zab zw zu v3 v4 0 0 0 1 1 zb zx zy zg zk zl [])) rfl ?_
  exact ok_init_215_0 (k237 := f_init_237) ok_init_237_0 100000 h
theorem ok_init_165_0 {c0 : ACell} : ∀ {zf za zi zm zd zv zt zr zh zj zp zn zab zw zu : List Int32} {zz zaa zo zc ze zq zs zb zx zy zg zk zl v3 v4 : Int32} {d1 d2 d5 : Slot} {w_o_kwChars w_o_kwLen w_o_kwRepl w_o_pend w_o_child w_o_delta w_o_fail w_o_depth w_o_term w_o_outMask w_o_queue w_o_text w_o_masks w_o_out w_o_tail : List Int32} {w_o_maxKw w_o_maxLen w_o_phaseNow w_o_count w_o_pendLen w_o_nodeCount w_o_longestKw w_o_n w_o_state w_o_total w_o_outLen w_o_commitPos : Int32} {w_o_tailLen : Int32}, f_init_165 zf za zi zm zd zv zt zr zh zj zp zn zab zw zu zz zaa zo zc ze zq zs zb zx zy zg zk zl v3 v4 = some (w_o_kwChars, w_o_kwLen, w_o_kwRepl, w_o_pend, w_o_child, w_o_delta, w_o_fail, w_o_depth, w_o_term, w_o_outMask, w_o_queue, w_o_text, w_o_masks, w_o_out, w_o_tail, w_o_maxKw, w_o_maxLen, w_o_phaseNow, w_o_count, w_o_pendLen, w_o_nodeCount, w_o_longestKw, w_o_n, w_o_state, w_o_total, w_o_outLen, w_o_commitPos, w_o_tailLen) → OEnds own_P 1 165 [qr 1, d1, d2, qi v3, qi v4, d5] [] (c0 :: bk0 zf za zi zm zd zv zt zr zh zj zp zn zab zw zu zz zaa zo zc ze zq zs zb zx zy zg zk zl []) (none, (c0 :: bk0 w_o_kwChars w_o_kwLen w_o_kwRepl w_o_pend w_o_child w_o_delta w_o_fail w_o_depth w_o_term w_o_outMask w_o_queue w_o_text w_o_masks w_o_out w_o_tail w_o_maxKw w_o_maxLen w_o_phaseNow w_o_count w_o_pendLen w_o_nodeCount w_o_longestKw w_o_n w_o_state w_o_total w_o_outLen w_o_commitPos w_o_tailLen []), 0, 0) := by
  intro zf za zi zm zd zv zt zr zh zj zp zn zab zw zu zz zaa zo zc ze zq zs zb zx zy zg zk zl v3 v4 d1 d2 d5 w_o_kwChars w_o_kwLen w_o_kwRepl w_o_pend w_o_child w_o_delta w_o_fail w_o_depth w_o_term w_o_outMask w_o_queue w_o_text w_o_masks w_o_out w_o_tail w_o_maxKw w_o_maxLen w_o_phaseNow w_o_count w_o_pendLen w_o_nodeCount w_o_longestKw w_o_n w_o_state w_o_total w_o_outLen w_o_commitPos w_o_tailLen h
  unfold f_init_165 at h
  refine OEnds.adv hm_1 2 (pc' := 169) (L' := [qr 1, qu, qu, qi v3, qi v4, qu]) (S' := [.int 8, .int v4]) (H' := (c0 :: bk0 zf za zi zm zd zv zt zr zh zj zp zn zab zw zu zz zaa zo zc ze zq zs zb zx zy zg zk zl [])) rfl ?_
  by_cases hc3 : (8 : Int32) < v4
  · simp only [if_pos hc3] at h
    refine OEnds.icmpF hm_1 rfl ((tlt hc3).2.2.2) ?_
    refine OEnds.adv hm_1 2 (pc' := 176) (L' := [qr 1, qu, qu, qi v3, qi 8, qu]) (S' := []) (H' := (c0 :: bk0 zf za zi zm zd zv zt zr zh zj zp zn zab zw zu zz zaa zo zc ze zq zs zb zx zy zg zk zl [])) rfl ?_
    exact ok_init_176_0 h
  · simp only [if_neg hc3] at h
    refine OEnds.icmpT hm_1 rfl (q := 176) rfl ((flt hc3).2.2.2) ?_
    show OEnds own_P 1 176 [qr 1, qu, qu, qi v3, qi v4, qu] [] (c0 :: bk0 zf za zi zm zd zv zt zr zh zj zp zn zab zw zu zz zaa zo zc ze zq zs zb zx zy zg zk zl []) _
    exact ok_init_176_0 h
theorem ok_init_153_0 {c0 : ACell} : ∀ {zf za zi zm zd zv zt zr zh zj zp zn zab zw zu : List Int32} {zz zaa zo zc ze zq zs zb zx zy zg zk zl v2 v3 : Int32} {d1 d4 d5 : Slot} {w_o_kwChars w_o_kwLen w_o_kwRepl w_o_pend w_o_child w_o_delta w_o_fail w_o_depth w_o_term w_o_outMask w_o_queue w_o_text w_o_masks w_o_out w_o_tail : List Int32} {w_o_maxKw w_o_maxLen w_o_phaseNow w_o_count w_o_pendLen w_o_nodeCount w_o_longestKw w_o_n w_o_state w_o_total w_o_outLen w_o_commitPos : Int32} {w_o_tailLen : Int32}, f_init_153 zf za zi zm zd zv zt zr zh zj zp zn zab zw zu zz zaa zo zc ze zq zs zb zx zy zg zk zl v2 v3 = some (w_o_kwChars, w_o_kwLen, w_o_kwRepl, w_o_pend, w_o_child, w_o_delta, w_o_fail, w_o_depth, w_o_term, w_o_outMask, w_o_queue, w_o_text, w_o_masks, w_o_out, w_o_tail, w_o_maxKw, w_o_maxLen, w_o_phaseNow, w_o_count, w_o_pendLen, w_o_nodeCount, w_o_longestKw, w_o_n, w_o_state, w_o_total, w_o_outLen, w_o_commitPos, w_o_tailLen) → OEnds own_P 1 153 [qr 1, d1, qi v2, qi v3, d4, d5] [] (c0 :: bk0 zf za zi zm zd zv zt zr zh zj zp zn zab zw zu zz zaa zo zc ze zq zs zb zx zy zg zk zl []) (none, (c0 :: bk0 w_o_kwChars w_o_kwLen w_o_kwRepl w_o_pend w_o_child w_o_delta w_o_fail w_o_depth w_o_term w_o_outMask w_o_queue w_o_text w_o_masks w_o_out w_o_tail w_o_maxKw w_o_maxLen w_o_phaseNow w_o_count w_o_pendLen w_o_nodeCount w_o_longestKw w_o_n w_o_state w_o_total w_o_outLen w_o_commitPos w_o_tailLen []), 0, 0) := by
  intro zf za zi zm zd zv zt zr zh zj zp zn zab zw zu zz zaa zo zc ze zq zs zb zx zy zg zk zl v2 v3 d1 d4 d5 w_o_kwChars w_o_kwLen w_o_kwRepl w_o_pend w_o_child w_o_delta w_o_fail w_o_depth w_o_term w_o_outMask w_o_queue w_o_text w_o_masks w_o_out w_o_tail w_o_maxKw w_o_maxLen w_o_phaseNow w_o_count w_o_pendLen w_o_nodeCount w_o_longestKw w_o_n w_o_state w_o_total w_o_outLen w_o_commitPos w_o_tailLen h
  unfold f_init_153 at h
  refine OEnds.adv hm_1 4 (pc' := 159) (L' := [qr 1, qu, qi v2, qi v3, qi v2, qu]) (S' := [.int 1, .int v2]) (H' := (c0 :: bk0 zf za zi zm zd zv zt zr zh zj zp zn zab zw zu zz zaa zo zc ze zq zs zb zx zy zg zk zl [])) rfl ?_
  by_cases hc4 : v2 < (1 : Int32)
  · simp only [if_pos hc4] at h
    refine OEnds.icmpF hm_1 rfl ((tlt hc4).2.1) ?_
    refine OEnds.adv hm_1 2 (pc' := 165) (L' := [qr 1, qu, qi v2, qi v3, qi 1, qu]) (S' := []) (H' := (c0 :: bk0 zf za zi zm zd zv zt zr zh zj zp zn zab zw zu zz zaa zo zc ze zq zs zb zx zy zg zk zl [])) rfl ?_
    exact ok_init_165_0 h
  · simp only [if_neg hc4] at h
    refine OEnds.icmpT hm_1 rfl (q := 165) rfl ((flt hc4).2.1) ?_
    show OEnds own_P 1 165 [qr 1, qu, qi v2, qi v3, qi v2, qu] [] (c0 :: bk0 zf za zi zm zd zv zt zr zh zj zp zn zab zw zu zz zaa zo zc ze zq zs zb zx zy zg zk zl []) _
    exact ok_init_165_0 h
theorem ok_init_144_0 {c0 : ACell} : ∀ {zf za zi zm zd zv zt zr zh zj zp zn zab zw zu : List Int32} {zz zaa zo zc ze zq zs zb zx zy zg zk zl v2 v3 : Int32} {d1 d4 d5 : Slot} {w_o_kwChars w_o_kwLen w_o_kwRepl w_o_pend w_o_child w_o_delta w_o_fail w_o_depth w_o_term w_o_outMask w_o_queue w_o_text w_o_masks w_o_out w_o_tail : List Int32} {w_o_maxKw w_o_maxLen w_o_phaseNow w_o_count w_o_pendLen w_o_nodeCount w_o_longestKw w_o_n w_o_state w_o_total w_o_outLen w_o_commitPos : Int32} {w_o_tailLen : Int32}, f_init_144 zf za zi zm zd zv zt zr zh zj zp zn zab zw zu zz zaa zo zc ze zq zs zb zx zy zg zk zl v2 v3 = some (w_o_kwChars, w_o_kwLen, w_o_kwRepl, w_o_pend, w_o_child, w_o_delta, w_o_fail, w_o_depth, w_o_term, w_o_outMask, w_o_queue, w_o_text, w_o_masks, w_o_out, w_o_tail, w_o_maxKw, w_o_maxLen, w_o_phaseNow, w_o_count, w_o_pendLen, w_o_nodeCount, w_o_longestKw, w_o_n, w_o_state, w_o_total, w_o_outLen, w_o_commitPos, w_o_tailLen) → OEnds own_P 1 144 [qr 1, d1, qi v2, qi v3, d4, d5] [] (c0 :: bk0 zf za zi zm zd zv zt zr zh zj zp zn zab zw zu zz zaa zo zc ze zq zs zb zx zy zg zk zl []) (none, (c0 :: bk0 w_o_kwChars w_o_kwLen w_o_kwRepl w_o_pend w_o_child w_o_delta w_o_fail w_o_depth w_o_term w_o_outMask w_o_queue w_o_text w_o_masks w_o_out w_o_tail w_o_maxKw w_o_maxLen w_o_phaseNow w_o_count w_o_pendLen w_o_nodeCount w_o_longestKw w_o_n w_o_state w_o_total w_o_outLen w_o_commitPos w_o_tailLen []), 0, 0) := by
  intro zf za zi zm zd zv zt zr zh zj zp zn zab zw zu zz zaa zo zc ze zq zs zb zx zy zg zk zl v2 v3 d1 d4 d5 w_o_kwChars w_o_kwLen w_o_kwRepl w_o_pend w_o_child w_o_delta w_o_fail w_o_depth w_o_term w_o_outMask w_o_queue w_o_text w_o_masks w_o_out w_o_tail w_o_maxKw w_o_maxLen w_o_phaseNow w_o_count w_o_pendLen w_o_nodeCount w_o_longestKw w_o_n w_o_state w_o_total w_o_outLen w_o_commitPos w_o_tailLen h
  unfold f_init_144 at h
  refine OEnds.adv hm_1 2 (pc' := 147) (L' := [qr 1, qu, qi v2, qi v3, qu, qu]) (S' := [.int 16, .int v3]) (H' := (c0 :: bk0 zf za zi zm zd zv zt zr zh zj zp zn zab zw zu zz zaa zo zc ze zq zs zb zx zy zg zk zl [])) rfl ?_
  by_cases hc5 : (16 : Int32) < v3
  · simp only [if_pos hc5] at h
    refine OEnds.icmpF hm_1 rfl ((tlt hc5).2.2.2) ?_
    refine OEnds.adv hm_1 2 (pc' := 153) (L' := [qr 1, qu, qi v2, qi 16, qu, qu]) (S' := []) (H' := (c0 :: bk0 zf za zi zm zd zv zt zr zh zj zp zn zab zw zu zz zaa zo zc ze zq zs zb zx zy zg zk zl [])) rfl ?_
    exact ok_init_153_0 h
  · simp only [if_neg hc5] at h
    refine OEnds.icmpT hm_1 rfl (q := 153) rfl ((flt hc5).2.2.2) ?_
    show OEnds own_P 1 153 [qr 1, qu, qi v2, qi v3, qu, qu] [] (c0 :: bk0 zf za zi zm zd zv zt zr zh zj zp zn zab zw zu zz zaa zo zc ze zq zs zb zx zy zg zk zl []) _
    exact ok_init_153_0 h
theorem ok_init_0 {c0 : ACell} {v1 v2 : Int32} {w_o_kwChars w_o_kwLen w_o_kwRepl w_o_pend w_o_child w_o_delta w_o_fail w_o_depth w_o_term w_o_outMask w_o_queue w_o_text w_o_masks w_o_out w_o_tail : List Int32} {w_o_maxKw w_o_maxLen w_o_phaseNow w_o_count w_o_pendLen w_o_nodeCount w_o_longestKw w_o_n w_o_state w_o_total w_o_outLen w_o_commitPos w_o_tailLen : Int32} (h : f_init v1 v2 = some (w_o_kwChars, w_o_kwLen, w_o_kwRepl, w_o_pend, w_o_child, w_o_delta, w_o_fail, w_o_depth, w_o_term, w_o_outMask, w_o_queue, w_o_text, w_o_masks, w_o_out, w_o_tail, w_o_maxKw, w_o_maxLen, w_o_phaseNow, w_o_count, w_o_pendLen, w_o_nodeCount, w_o_longestKw, w_o_n, w_o_state, w_o_total, w_o_outLen, w_o_commitPos, w_o_tailLen)) : OEnds own_P 1 0 [qr 1, qi v1, qi v2, qu, qu, qu] [] (c0 :: (.inl (0, [.null, .null, .null, .null, .null, .null, .null, .null, .null, .null, .null, .null, .null, .null, .null, .int 0, .int 0, .int 0, .int 0, .int 0, .int 0, .int 0, .int 0, .int 0, .int 0, .int 0, .int 0, .int 0]) : ACell) :: []) (none, (c0 :: bk0 w_o_kwChars w_o_kwLen w_o_kwRepl w_o_pend w_o_child w_o_delta w_o_fail w_o_depth w_o_term w_o_outMask w_o_queue w_o_text w_o_masks w_o_out w_o_tail w_o_maxKw w_o_maxLen w_o_phaseNow w_o_count w_o_pendLen w_o_nodeCount w_o_longestKw w_o_n w_o_state w_o_total w_o_outLen w_o_commitPos w_o_tailLen []), 15, 8249) := by
  unfold f_init at h
  refine OEnds.adv hm_1 1 (pc' := 1) (L' := [qr 1, qi v1, qi v2, qu, qu, qu]) (S' := [.ref 1]) (H' := (c0 :: (.inl (0, [.null, .null, .null, .null, .null, .null, .null, .null, .null, .null, .null, .null, .null, .null, .null, .int 0, .int 0, .int 0, .int 0, .int 0, .int 0, .int 0, .int 0, .int 0, .int 0, .int 0, .int 0, .int 0]) : ACell) :: [])) rfl ?_
  refine OEnds.oinit hm_1 rfl ⟨Nat.le_of_ble_eq_true rfl, Nat.le_of_ble_eq_true rfl⟩ ?_
  refine OEnds.adv hm_1 2 (pc' := 8) (L' := [qr 1, qi v1, qi v2, qu, qu, qu]) (S' := [.int 128, .ref 1]) (H' := (c0 :: (.inl (0, [.null, .null, .null, .null, .null, .null, .null, .null, .null, .null, .null, .null, .null, .null, .null, .int 0, .int 0, .int 0, .int 0, .int 0, .int 0, .int 0, .int 0, .int 0, .int 0, .int 0, .int 0, .int 0]) : ACell) :: [])) rfl ?_
  refine OEnds.made1 hm_1 rfl rfl (ks := 128) rfl rfl ?_
  refine OEnds.adv hm_1 3 (pc' := 16) (L' := [qr 1, qi v1, qi v2, qu, qu, qu]) (S' := [.int 16, .ref 1]) (H' := (c0 :: (.inl (0, [.ref 2, .null, .null, .null, .null, .null, .null, .null, .null, .null, .null, .null, .null, .null, .null, .int 0, .int 0, .int 0, .int 0, .int 0, .int 0, .int 0, .int 0, .int 0, .int 0, .int 0, .int 0, .int 0]) : ACell) :: .inr (.inl (false, (List.replicate 128 0))) :: [])) rfl ?_
  refine OEnds.made1 hm_1 rfl rfl (ks := 16) rfl rfl ?_
  refine OEnds.adv hm_1 3 (pc' := 24) (L' := [qr 1, qi v1, qi v2, qu, qu, qu]) (S' := [.int 16, .ref 1]) (H' := (c0 :: (.inl (0, [.ref 2, .ref 3, .null, .null, .null, .null, .null, .null, .null, .null, .null, .null, .null, .null, .null, .int 0, .int 0, .int 0, .int 0, .int 0, .int 0, .int 0, .int 0, .int 0, .int 0, .int 0, .int 0, .int 0]) : ACell) :: .inr (.inl (false, (List.replicate 128 0))) :: .inr (.inl (false, (List.replicate 16 0))) :: [])) rfl ?_
  refine OEnds.made1 hm_1 rfl rfl (ks := 16) rfl rfl ?_
  refine OEnds.adv hm_1 3 (pc' := 32) (L' := [qr 1, qi v1, qi v2, qu, qu, qu]) (S' := [.int 8, .ref 1]) (H' := (c0 :: (.inl (0, [.ref 2, .ref 3, .ref 4, .null, .null, .null, .null, .null, .null, .null, .null, .null, .null, .null, .null, .int 0, .int 0, .int 0, .int 0, .int 0, .int 0, .int 0, .int 0, .int 0, .int 0, .int 0, .int 0, .int 0]) : ACell) :: .inr (.inl (false, (List.replicate 128 0))) :: .inr (.inl (false, (List.replicate 16 0))) :: .inr (.inl (false, (List.replicate 16 0))) :: [])) rfl ?_
  refine OEnds.made1 hm_1 rfl rfl (ks := 8) rfl rfl ?_
  refine OEnds.adv hm_1 3 (pc' := 41) (L' := [qr 1, qi v1, qi v2, qu, qu, qu]) (S' := [.int 3354, .ref 1]) (H' := (c0 :: (.inl (0, [.ref 2, .ref 3, .ref 4, .ref 5, .null, .null, .null, .null, .null, .null, .null, .null, .null, .null, .null, .int 0, .int 0, .int 0, .int 0, .int 0, .int 0, .int 0, .int 0, .int 0, .int 0, .int 0, .int 0, .int 0]) : ACell) :: .inr (.inl (false, (List.replicate 128 0))) :: .inr (.inl (false, (List.replicate 16 0))) :: .inr (.inl (false, (List.replicate 16 0))) :: .inr (.inl (false, (List.replicate 8 0))) :: [])) rfl ?_
  refine OEnds.made1 hm_1 rfl rfl (ks := 3354) rfl rfl ?_
  refine OEnds.adv hm_1 3 (pc' := 50) (L' := [qr 1, qi v1, qi v2, qu, qu, qu]) (S' := [.int 3354, .ref 1]) (H' := (c0 :: (.inl (0, [.ref 2, .ref 3, .ref 4, .ref 5, .ref 6, .null, .null, .null, .null, .null, .null, .null, .null, .null, .null, .int 0, .int 0, .int 0, .int 0, .int 0, .int 0, .int 0, .int 0, .int 0, .int 0, .int 0, .int 0, .int 0]) : ACell) :: .inr (.inl (false, (List.replicate 128 0))) :: .inr (.inl (false, (List.replicate 16 0))) :: .inr (.inl (false, (List.replicate 16 0))) :: .inr (.inl (false, (List.replicate 8 0))) :: .inr (.inl (false, (List.replicate 3354 0))) :: [])) rfl ?_
  refine OEnds.made1 hm_1 rfl rfl (ks := 3354) rfl rfl ?_
  refine OEnds.adv hm_1 3 (pc' := 59) (L' := [qr 1, qi v1, qi v2, qu, qu, qu]) (S' := [.int 129, .ref 1]) (H' := (c0 :: (.inl (0, [.ref 2, .ref 3, .ref 4, .ref 5, .ref 6, .ref 7, .null, .null, .null, .null, .null, .null, .null, .null, .null, .int 0, .int 0, .int 0, .int 0, .int 0, .int 0, .int 0, .int 0, .int 0, .int 0, .int 0, .int 0, .int 0]) : ACell) :: .inr (.inl (false, (List.replicate 128 0))) :: .inr (.inl (false, (List.replicate 16 0))) :: .inr (.inl (false, (List.replicate 16 0))) :: .inr (.inl (false, (List.replicate 8 0))) :: .inr (.inl (false, (List.replicate 3354 0))) :: .inr (.inl (false, (List.replicate 3354 0))) :: [])) rfl ?_
  refine OEnds.made1 hm_1 rfl rfl (ks := 129) rfl rfl ?_
  refine OEnds.adv hm_1 3 (pc' := 68) (L' := [qr 1, qi v1, qi v2, qu, qu, qu]) (S' := [.int 129, .ref 1]) (H' := (c0 :: (.inl (0, [.ref 2, .ref 3, .ref 4, .ref 5, .ref 6, .ref 7, .ref 8, .null, .null, .null, .null, .null, .null, .null, .null, .int 0, .int 0, .int 0, .int 0, .int 0, .int 0, .int 0, .int 0, .int 0, .int 0, .int 0, .int 0, .int 0]) : ACell) :: .inr (.inl (false, (List.replicate 128 0))) :: .inr (.inl (false, (List.replicate 16 0))) :: .inr (.inl (false, (List.replicate 16 0))) :: .inr (.inl (false, (List.replicate 8 0))) :: .inr (.inl (false, (List.replicate 3354 0))) :: .inr (.inl (false, (List.replicate 3354 0))) :: .inr (.inl (false, (List.replicate 129 0))) :: [])) rfl ?_
  refine OEnds.made1 hm_1 rfl rfl (ks := 129) rfl rfl ?_
  refine OEnds.adv hm_1 3 (pc' := 77) (L' := [qr 1, qi v1, qi v2, qu, qu, qu]) (S' := [.int 129, .ref 1]) (H' := (c0 :: (.inl (0, [.ref 2, .ref 3, .ref 4, .ref 5, .ref 6, .ref 7, .ref 8, .ref 9, .null, .null, .null, .null, .null, .null, .null, .int 0, .int 0, .int 0, .int 0, .int 0, .int 0, .int 0, .int 0, .int 0, .int 0, .int 0, .int 0, .int 0]) : ACell) :: .inr (.inl (false, (List.replicate 128 0))) :: .inr (.inl (false, (List.replicate 16 0))) :: .inr (.inl (false, (List.replicate 16 0))) :: .inr (.inl (false, (List.replicate 8 0))) :: .inr (.inl (false, (List.replicate 3354 0))) :: .inr (.inl (false, (List.replicate 3354 0))) :: .inr (.inl (false, (List.replicate 129 0))) :: .inr (.inl (false, (List.replicate 129 0))) :: [])) rfl ?_
  refine OEnds.made1 hm_1 rfl rfl (ks := 129) rfl rfl ?_
  refine OEnds.adv hm_1 3 (pc' := 86) (L' := [qr 1, qi v1, qi v2, qu, qu, qu]) (S' := [.int 129, .ref 1]) (H' := (c0 :: (.inl (0, [.ref 2, .ref 3, .ref 4, .ref 5, .ref 6, .ref 7, .ref 8, .ref 9, .ref 10, .null, .null, .null, .null, .null, .null, .int 0, .int 0, .int 0, .int 0, .int 0, .int 0, .int 0, .int 0, .int 0, .int 0, .int 0, .int 0, .int 0]) : ACell) :: .inr (.inl (false, (List.replicate 128 0))) :: .inr (.inl (false, (List.replicate 16 0))) :: .inr (.inl (false, (List.replicate 16 0))) :: .inr (.inl (false, (List.replicate 8 0))) :: .inr (.inl (false, (List.replicate 3354 0))) :: .inr (.inl (false, (List.replicate 3354 0))) :: .inr (.inl (false, (List.replicate 129 0))) :: .inr (.inl (false, (List.replicate 129 0))) :: .inr (.inl (false, (List.replicate 129 0))) :: [])) rfl ?_
  refine OEnds.made1 hm_1 rfl rfl (ks := 129) rfl rfl ?_
  refine OEnds.adv hm_1 3 (pc' := 95) (L' := [qr 1, qi v1, qi v2, qu, qu, qu]) (S' := [.int 129, .ref 1]) (H' := (c0 :: (.inl (0, [.ref 2, .ref 3, .ref 4, .ref 5, .ref 6, .ref 7, .ref 8, .ref 9, .ref 10, .ref 11, .null, .null, .null, .null, .null, .int 0, .int 0, .int 0, .int 0, .int 0, .int 0, .int 0, .int 0, .int 0, .int 0, .int 0, .int 0, .int 0]) : ACell) :: .inr (.inl (false, (List.replicate 128 0))) :: .inr (.inl (false, (List.replicate 16 0))) :: .inr (.inl (false, (List.replicate 16 0))) :: .inr (.inl (false, (List.replicate 8 0))) :: .inr (.inl (false, (List.replicate 3354 0))) :: .inr (.inl (false, (List.replicate 3354 0))) :: .inr (.inl (false, (List.replicate 129 0))) :: .inr (.inl (false, (List.replicate 129 0))) :: .inr (.inl (false, (List.replicate 129 0))) :: .inr (.inl (false, (List.replicate 129 0))) :: [])) rfl ?_
  refine OEnds.made1 hm_1 rfl rfl (ks := 129) rfl rfl ?_
  refine OEnds.adv hm_1 3 (pc' := 104) (L' := [qr 1, qi v1, qi v2, qu, qu, qu]) (S' := [.int 240, .ref 1]) (H' := (c0 :: (.inl (0, [.ref 2, .ref 3, .ref 4, .ref 5, .ref 6, .ref 7, .ref 8, .ref 9, .ref 10, .ref 11, .ref 12, .null, .null, .null, .null, .int 0, .int 0, .int 0, .int 0, .int 0, .int 0, .int 0, .int 0, .int 0, .int 0, .int 0, .int 0, .int 0]) : ACell) :: .inr (.inl (false, (List.replicate 128 0))) :: .inr (.inl (false, (List.replicate 16 0))) :: .inr (.inl (false, (List.replicate 16 0))) :: .inr (.inl (false, (List.replicate 8 0))) :: .inr (.inl (false, (List.replicate 3354 0))) :: .inr (.inl (false, (List.replicate 3354 0))) :: .inr (.inl (false, (List.replicate 129 0))) :: .inr (.inl (false, (List.replicate 129 0))) :: .inr (.inl (false, (List.replicate 129 0))) :: .inr (.inl (false, (List.replicate 129 0))) :: .inr (.inl (false, (List.replicate 129 0))) :: [])) rfl ?_
  refine OEnds.made1 hm_1 rfl rfl (ks := 240) rfl rfl ?_
  refine OEnds.adv hm_1 3 (pc' := 113) (L' := [qr 1, qi v1, qi v2, qu, qu, qu]) (S' := [.int 240, .ref 1]) (H' := (c0 :: (.inl (0, [.ref 2, .ref 3, .ref 4, .ref 5, .ref 6, .ref 7, .ref 8, .ref 9, .ref 10, .ref 11, .ref 12, .ref 13, .null, .null, .null, .int 0, .int 0, .int 0, .int 0, .int 0, .int 0, .int 0, .int 0, .int 0, .int 0, .int 0, .int 0, .int 0]) : ACell) :: .inr (.inl (false, (List.replicate 128 0))) :: .inr (.inl (false, (List.replicate 16 0))) :: .inr (.inl (false, (List.replicate 16 0))) :: .inr (.inl (false, (List.replicate 8 0))) :: .inr (.inl (false, (List.replicate 3354 0))) :: .inr (.inl (false, (List.replicate 3354 0))) :: .inr (.inl (false, (List.replicate 129 0))) :: .inr (.inl (false, (List.replicate 129 0))) :: .inr (.inl (false, (List.replicate 129 0))) :: .inr (.inl (false, (List.replicate 129 0))) :: .inr (.inl (false, (List.replicate 129 0))) :: .inr (.inl (false, (List.replicate 240 0))) :: [])) rfl ?_
  refine OEnds.made1 hm_1 rfl rfl (ks := 240) rfl rfl ?_
  refine OEnds.adv hm_1 3 (pc' := 122) (L' := [qr 1, qi v1, qi v2, qu, qu, qu]) (S' := [.int 240, .ref 1]) (H' := (c0 :: (.inl (0, [.ref 2, .ref 3, .ref 4, .ref 5, .ref 6, .ref 7, .ref 8, .ref 9, .ref 10, .ref 11, .ref 12, .ref 13, .ref 14, .null, .null, .int 0, .int 0, .int 0, .int 0, .int 0, .int 0, .int 0, .int 0, .int 0, .int 0, .int 0, .int 0, .int 0]) : ACell) :: .inr (.inl (false, (List.replicate 128 0))) :: .inr (.inl (false, (List.replicate 16 0))) :: .inr (.inl (false, (List.replicate 16 0))) :: .inr (.inl (false, (List.replicate 8 0))) :: .inr (.inl (false, (List.replicate 3354 0))) :: .inr (.inl (false, (List.replicate 3354 0))) :: .inr (.inl (false, (List.replicate 129 0))) :: .inr (.inl (false, (List.replicate 129 0))) :: .inr (.inl (false, (List.replicate 129 0))) :: .inr (.inl (false, (List.replicate 129 0))) :: .inr (.inl (false, (List.replicate 129 0))) :: .inr (.inl (false, (List.replicate 240 0))) :: .inr (.inl (false, (List.replicate 240 0))) :: [])) rfl ?_
  refine OEnds.made1 hm_1 rfl rfl (ks := 240) rfl rfl ?_
  refine OEnds.adv hm_1 3 (pc' := 130) (L' := [qr 1, qi v1, qi v2, qu, qu, qu]) (S' := [.int 8, .ref 1]) (H' := (c0 :: (.inl (0, [.ref 2, .ref 3, .ref 4, .ref 5, .ref 6, .ref 7, .ref 8, .ref 9, .ref 10, .ref 11, .ref 12, .ref 13, .ref 14, .ref 15, .null, .int 0, .int 0, .int 0, .int 0, .int 0, .int 0, .int 0, .int 0, .int 0, .int 0, .int 0, .int 0, .int 0]) : ACell) :: .inr (.inl (false, (List.replicate 128 0))) :: .inr (.inl (false, (List.replicate 16 0))) :: .inr (.inl (false, (List.replicate 16 0))) :: .inr (.inl (false, (List.replicate 8 0))) :: .inr (.inl (false, (List.replicate 3354 0))) :: .inr (.inl (false, (List.replicate 3354 0))) :: .inr (.inl (false, (List.replicate 129 0))) :: .inr (.inl (false, (List.replicate 129 0))) :: .inr (.inl (false, (List.replicate 129 0))) :: .inr (.inl (false, (List.replicate 129 0))) :: .inr (.inl (false, (List.replicate 129 0))) :: .inr (.inl (false, (List.replicate 240 0))) :: .inr (.inl (false, (List.replicate 240 0))) :: .inr (.inl (false, (List.replicate 240 0))) :: [])) rfl ?_
  refine OEnds.made1 hm_1 rfl rfl (ks := 8) rfl rfl ?_
  refine OEnds.adv hm_1 5 (pc' := 139) (L' := [qr 1, qi v1, qi v2, qi v1, qu, qu]) (S' := [.int 1, .int v1]) (H' := (c0 :: bk0 (List.replicate 128 0) (List.replicate 16 0) (List.replicate 16 0) (List.replicate 8 0) (List.replicate 3354 0) (List.replicate 3354 0) (List.replicate 129 0) (List.replicate 129 0) (List.replicate 129 0) (List.replicate 129 0) (List.replicate 129 0) (List.replicate 240 0) (List.replicate 240 0) (List.replicate 240 0) (List.replicate 8 0) 0 0 0 0 0 0 0 0 0 0 0 0 0 [])) rfl ?_
  by_cases hc6 : v1 < (1 : Int32)
  · simp only [if_pos hc6] at h
    refine OEnds.icmpF hm_1 rfl ((tlt hc6).2.1) ?_
    refine OEnds.adv hm_1 2 (pc' := 144) (L' := [qr 1, qi v1, qi v2, qi 1, qu, qu]) (S' := []) (H' := (c0 :: bk0 (List.replicate 128 0) (List.replicate 16 0) (List.replicate 16 0) (List.replicate 8 0) (List.replicate 3354 0) (List.replicate 3354 0) (List.replicate 129 0) (List.replicate 129 0) (List.replicate 129 0) (List.replicate 129 0) (List.replicate 129 0) (List.replicate 240 0) (List.replicate 240 0) (List.replicate 240 0) (List.replicate 8 0) 0 0 0 0 0 0 0 0 0 0 0 0 0 [])) rfl ?_
    exact ok_init_144_0 h
  · simp only [if_neg hc6] at h
    refine OEnds.icmpT hm_1 rfl (q := 144) rfl ((flt hc6).2.1) ?_
    show OEnds own_P 1 144 [qr 1, qi v1, qi v2, qi v1, qu, qu] [] (c0 :: bk0 (List.replicate 128 0) (List.replicate 16 0) (List.replicate 16 0) (List.replicate 8 0) (List.replicate 3354 0) (List.replicate 3354 0) (List.replicate 129 0) (List.replicate 129 0) (List.replicate 129 0) (List.replicate 129 0) (List.replicate 129 0) (List.replicate 240 0) (List.replicate 240 0) (List.replicate 240 0) (List.replicate 8 0) 0 0 0 0 0 0 0 0 0 0 0 0 0 []) _
    exact ok_init_144_0 h
theorem ok_isPrintable_0 {zf za zi zm zd zv zt zr zh zj zp zn zab zw zu : List Int32} {zz zaa zo zc ze zq zs zb zx zy zg zk zl : Int32} {c0 : ACell} {po : List ACell} {v1 res : Int32} (h : f_isPrintable v1 = some res) : OEnds own_P 7 0 [qr 1, qi v1] [] (c0 :: bk0 zf za zi zm zd zv zt zr zh zj zp zn zab zw zu zz zaa zo zc ze zq zs zb zx zy zg zk zl po) (some (.int res), (c0 :: bk0 zf za zi zm zd zv zt zr zh zj zp zn zab zw zu zz zaa zo zc ze zq zs zb zx zy zg zk zl po), 0, 0) := by
  unfold f_isPrintable at h
  refine OEnds.adv hm_7 2 (pc' := 3) (L' := [qr 1, qi v1]) (S' := [.int 32, .int v1]) (H' := (c0 :: bk0 zf za zi zm zd zv zt zr zh zj zp zn zab zw zu zz zaa zo zc ze zq zs zb zx zy zg zk zl po)) rfl ?_
  by_cases hc7 : v1 < (32 : Int32)
  · simp only [if_pos hc7] at h
    refine OEnds.icmpT hm_7 rfl (q := 16) rfl ((tlt hc7).1) ?_
    refine OEnds.adv hm_7 1 (pc' := 17) (L' := [qr 1, qi v1]) (S' := [.int 0]) (H' := (c0 :: bk0 zf za zi zm zd zv zt zr zh zj zp zn zab zw zu zz zaa zo zc ze zq zs zb zx zy zg zk zl po)) rfl ?_
    cases h
    exact OEnds.iret hm_7 rfl rfl
  · simp only [if_neg hc7] at h
    refine OEnds.icmpF hm_7 rfl ((flt hc7).1) ?_
    refine OEnds.adv hm_7 2 (pc' := 9) (L' := [qr 1, qi v1]) (S' := [.int 126, .int v1]) (H' := (c0 :: bk0 zf za zi zm zd zv zt zr zh zj zp zn zab zw zu zz zaa zo zc ze zq zs zb zx zy zg zk zl po)) rfl ?_
    by_cases hc8 : (126 : Int32) < v1
    · simp only [if_pos hc8] at h
      refine OEnds.icmpT hm_7 rfl (q := 16) rfl ((tlt hc8).2.2.1) ?_
      refine OEnds.adv hm_7 1 (pc' := 17) (L' := [qr 1, qi v1]) (S' := [.int 0]) (H' := (c0 :: bk0 zf za zi zm zd zv zt zr zh zj zp zn zab zw zu zz zaa zo zc ze zq zs zb zx zy zg zk zl po)) rfl ?_
      cases h
      exact OEnds.iret hm_7 rfl rfl
    · simp only [if_neg hc8] at h
      refine OEnds.icmpF hm_7 rfl ((flt hc8).2.2.1) ?_
      refine OEnds.adv hm_7 2 (pc' := 17) (L' := [qr 1, qi v1]) (S' := [.int 1]) (H' := (c0 :: bk0 zf za zi zm zd zv zt zr zh zj zp zn zab zw zu zz zaa zo zc ze zq zs zb zx zy zg zk zl po)) rfl ?_
      cases h
      exact OEnds.iret hm_7 rfl rfl
theorem ok_pendingEquals_22_0 {zf za zi zm zd zv zt zr zh zj zp zn zab zw zu : List Int32} {zz zaa zo zc ze zq zs zb zx zy zg zk zl : Int32} {c0 : ACell} {po : List ACell} : ∀ (n : Nat), ∀ {v2 v3 : Int32} {d1 : Slot} {res : Int32}, f_pendingEquals_22 zf za zm ze n v2 v3 = some res → OEnds own_P 25 22 [qr 1, d1, qi v2, qi v3] [] (c0 :: bk0 zf za zi zm zd zv zt zr zh zj zp zn zab zw zu zz zaa zo zc ze zq zs zb zx zy zg zk zl po) (some (.int res), (c0 :: bk0 zf za zi zm zd zv zt zr zh zj zp zn zab zw zu zz zaa zo zc ze zq zs zb zx zy zg zk zl po), 0, 0) := by
  intro n
  induction n with
  | zero => intro v2 v3 d1 res h; cases h
  | succ n ih =>
    intro v2 v3 d1 res h
    unfold f_pendingEquals_22 at h
    refine OEnds.adv hm_25 3 (pc' := 27) (L' := [qr 1, qu, qi v2, qi v3]) (S' := [.int ze, .int v3]) (H' := (c0 :: bk0 zf za zi zm zd zv zt zr zh zj zp zn zab zw zu zz zaa zo zc ze zq zs zb zx zy zg zk zl po)) rfl ?_
    by_cases hc9 : v3 < ze
    · simp only [if_pos hc9] at h
      refine OEnds.icmpF hm_25 rfl ((tlt hc9).2.1) ?_
      refine OEnds.adv hm_25 2 (pc' := 33) (L' := [qr 1, qu, qi v2, qi v3]) (S' := [.int 8, .int v3]) (H' := (c0 :: bk0 zf za zi zm zd zv zt zr zh zj zp zn zab zw zu zz zaa zo zc ze zq zs zb zx zy zg zk zl po)) rfl ?_
      by_cases hc10 : v3 < (8 : Int32)
      · simp only [if_pos hc10] at h
        refine OEnds.icmpF hm_25 rfl ((tlt hc10).2.1) ?_
        refine OEnds.adv hm_25 5 (pc' := 43) (L' := [qr 1, qu, qi v2, qi v3]) (S' := [.int (v2 + v3), .ref 2]) (H' := (c0 :: bk0 zf za zi zm zd zv zt zr zh zj zp zn zab zw zu zz zaa zo zc ze zq zs zb zx zy zg zk zl po)) rfl ?_
        obtain ⟨x11, hx11, h⟩ := bnd h
        refine OEnds.plain hm_25 rfl rfl (x_iaload rfl hx11) ?_
        refine OEnds.adv hm_25 3 (pc' := 49) (L' := [qr 1, qu, qi v2, qi v3]) (S' := [.int v3, .ref 5, .int x11]) (H' := (c0 :: bk0 zf za zi zm zd zv zt zr zh zj zp zn zab zw zu zz zaa zo zc ze zq zs zb zx zy zg zk zl po)) rfl ?_
        obtain ⟨x12, hx12, h⟩ := bnd h
        refine OEnds.plain hm_25 rfl rfl (x_iaload rfl hx12) ?_
        show OEnds own_P 25 50 [qr 1, qu, qi v2, qi v3] [.int x12, .int x11] (c0 :: bk0 zf za zi zm zd zv zt zr zh zj zp zn zab zw zu zz zaa zo zc ze zq zs zb zx zy zg zk zl po) _
        by_cases hc11 : x11 = x12
        · simp only [if_pos hc11] at h
          refine OEnds.icmpT hm_25 rfl (q := 55) rfl ((teq hc11).1) ?_
          refine OEnds.adv hm_25 2 (pc' := 22) (L' := [qr 1, qu, qi v2, qi (v3 + (1 : Int32))]) (S' := []) (H' := (c0 :: bk0 zf za zi zm zd zv zt zr zh zj zp zn zab zw zu zz zaa zo zc ze zq zs zb zx zy zg zk zl po)) rfl ?_
          exact ih h
        · simp only [if_neg hc11] at h
          refine OEnds.icmpF hm_25 rfl ((feq hc11).1) ?_
          refine OEnds.adv hm_25 1 (pc' := 54) (L' := [qr 1, qu, qi v2, qi v3]) (S' := [.int 0]) (H' := (c0 :: bk0 zf za zi zm zd zv zt zr zh zj zp zn zab zw zu zz zaa zo zc ze zq zs zb zx zy zg zk zl po)) rfl ?_
          cases h
          exact OEnds.iret hm_25 rfl rfl
      · simp only [if_neg hc10] at h
        refine OEnds.icmpT hm_25 rfl (q := 61) rfl ((flt hc10).2.1) ?_
        refine OEnds.adv hm_25 1 (pc' := 62) (L' := [qr 1, qu, qi v2, qi v3]) (S' := [.int 1]) (H' := (c0 :: bk0 zf za zi zm zd zv zt zr zh zj zp zn zab zw zu zz zaa zo zc ze zq zs zb zx zy zg zk zl po)) rfl ?_
        cases h
        exact OEnds.iret hm_25 rfl rfl
    · simp only [if_neg hc9] at h
      refine OEnds.icmpT hm_25 rfl (q := 61) rfl ((flt hc9).2.1) ?_
      refine OEnds.adv hm_25 1 (pc' := 62) (L' := [qr 1, qu, qi v2, qi v3]) (S' := [.int 1]) (H' := (c0 :: bk0 zf za zi zm zd zv zt zr zh zj zp zn zab zw zu zz zaa zo zc ze zq zs zb zx zy zg zk zl po)) rfl ?_
      cases h
      exact OEnds.iret hm_25 rfl rfl
theorem ok_pendingEquals_0 {zf za zi zm zd zv zt zr zh zj zp zn zab zw zu : List Int32} {zz zaa zo zc ze zq zs zb zx zy zg zk zl : Int32} {c0 : ACell} {po : List ACell} {v1 res : Int32} (h : f_pendingEquals zf za zm ze v1 = some res) : OEnds own_P 25 0 [qr 1, qi v1, qu, qu] [] (c0 :: bk0 zf za zi zm zd zv zt zr zh zj zp zn zab zw zu zz zaa zo zc ze zq zs zb zx zy zg zk zl po) (some (.int res), (c0 :: bk0 zf za zi zm zd zv zt zr zh zj zp zn zab zw zu zz zaa zo zc ze zq zs zb zx zy zg zk zl po), 0, 0) := by
  unfold f_pendingEquals at h
  refine OEnds.adv hm_25 3 (pc' := 5) (L' := [qr 1, qi v1, qu, qu]) (S' := [.int v1, .ref 3]) (H' := (c0 :: bk0 zf za zi zm zd zv zt zr zh zj zp zn zab zw zu zz zaa zo zc ze zq zs zb zx zy zg zk zl po)) rfl ?_
  obtain ⟨x10, hx10, h⟩ := bnd h
  refine OEnds.plain hm_25 rfl rfl (x_iaload rfl hx10) ?_
  refine OEnds.adv hm_25 2 (pc' := 10) (L' := [qr 1, qi v1, qu, qu]) (S' := [.int ze, .int x10]) (H' := (c0 :: bk0 zf za zi zm zd zv zt zr zh zj zp zn zab zw zu zz zaa zo zc ze zq zs zb zx zy zg zk zl po)) rfl ?_
  by_cases hc12 : x10 = ze
  · simp only [if_pos hc12] at h
    refine OEnds.icmpT hm_25 rfl (q := 15) rfl ((teq hc12).1) ?_
    refine OEnds.adv hm_25 6 (pc' := 22) (L' := [qr 1, qi v1, qi (v1 * (8 : Int32)), qi 0]) (S' := []) (H' := (c0 :: bk0 zf za zi zm zd zv zt zr zh zj zp zn zab zw zu zz zaa zo zc ze zq zs zb zx zy zg zk zl po)) rfl ?_
    exact ok_pendingEquals_22_0 100000 h
  · simp only [if_neg hc12] at h
    refine OEnds.icmpF hm_25 rfl ((feq hc12).1) ?_
    refine OEnds.adv hm_25 1 (pc' := 14) (L' := [qr 1, qi v1, qu, qu]) (S' := [.int 0]) (H' := (c0 :: bk0 zf za zi zm zd zv zt zr zh zj zp zn zab zw zu zz zaa zo zc ze zq zs zb zx zy zg zk zl po)) rfl ?_
    cases h
    exact OEnds.iret hm_25 rfl rfl
theorem ok_pendingIsDuplicate_2_0 {zf za zi zm zd zv zt zr zh zj zp zn zab zw zu : List Int32} {zz zaa zo zc ze zq zs zb zx zy zg zk zl : Int32} {c0 : ACell} {po : List ACell} : ∀ (n : Nat), ∀ {v1 : Int32} {res : Int32}, f_pendingIsDuplicate_2 zf za zm zc ze n v1 = some res → OEnds own_P 8 2 [qr 1, qi v1] [] (c0 :: bk0 zf za zi zm zd zv zt zr zh zj zp zn zab zw zu zz zaa zo zc ze zq zs zb zx zy zg zk zl po) (some (.int res), (c0 :: bk0 zf za zi zm zd zv zt zr zh zj zp zn zab zw zu zz zaa zo zc ze zq zs zb zx zy zg zk zl po), 0, 0) := by
  intro n
  induction n with
  | zero => intro v1 res h; cases h
  | succ n ih =>
    intro v1 res h
    unfold f_pendingIsDuplicate_2 at h
    refine OEnds.adv hm_8 3 (pc' := 7) (L' := [qr 1, qi v1]) (S' := [.int zc, .int v1]) (H' := (c0 :: bk0 zf za zi zm zd zv zt zr zh zj zp zn zab zw zu zz zaa zo zc ze zq zs zb zx zy zg zk zl po)) rfl ?_
    by_cases hc13 : v1 < zc
    · simp only [if_pos hc13] at h
      refine OEnds.icmpF hm_8 rfl ((tlt hc13).2.1) ?_
      refine OEnds.adv hm_8 2 (pc' := 13) (L' := [qr 1, qi v1]) (S' := [.int 16, .int v1]) (H' := (c0 :: bk0 zf za zi zm zd zv zt zr zh zj zp zn zab zw zu zz zaa zo zc ze zq zs zb zx zy zg zk zl po)) rfl ?_
      by_cases hc14 : v1 < (16 : Int32)
      · simp only [if_pos hc14] at h
        refine OEnds.icmpF hm_8 rfl ((tlt hc14).2.1) ?_
        refine OEnds.adv hm_8 2 (pc' := 18) (L' := [qr 1, qi v1]) (S' := [.int v1, .ref 1]) (H' := (c0 :: bk0 zf za zi zm zd zv zt zr zh zj zp zn zab zw zu zz zaa zo zc ze zq zs zb zx zy zg zk zl po)) rfl ?_
        obtain ⟨r13, hq15, h⟩ := bnd h
        refine OEnds.call0 hm_8 rfl rfl (by decide) rfl (as := [.ref 1, .int v1]) (rest := []) rfl rfl (ok_pendingEquals_0 hq15) ?_
        show OEnds own_P 8 21 [qr 1, qi v1] [.int r13] (c0 :: bk0 zf za zi zm zd zv zt zr zh zj zp zn zab zw zu zz zaa zo zc ze zq zs zb zx zy zg zk zl po) _
        by_cases hc16 : r13 = (0 : Int32)
        · simp only [if_pos hc16] at h
          refine OEnds.ifT hm_8 rfl (q := 26) rfl ((teq hc16).1) ?_
          refine OEnds.adv hm_8 2 (pc' := 2) (L' := [qr 1, qi (v1 + (1 : Int32))]) (S' := []) (H' := (c0 :: bk0 zf za zi zm zd zv zt zr zh zj zp zn zab zw zu zz zaa zo zc ze zq zs zb zx zy zg zk zl po)) rfl ?_
          exact ih h
        · simp only [if_neg hc16] at h
          refine OEnds.ifF hm_8 rfl ((feq hc16).1) ?_
          refine OEnds.adv hm_8 1 (pc' := 25) (L' := [qr 1, qi v1]) (S' := [.int 1]) (H' := (c0 :: bk0 zf za zi zm zd zv zt zr zh zj zp zn zab zw zu zz zaa zo zc ze zq zs zb zx zy zg zk zl po)) rfl ?_
          cases h
          exact OEnds.iret hm_8 rfl rfl
      · simp only [if_neg hc14] at h
        refine OEnds.icmpT hm_8 rfl (q := 32) rfl ((flt hc14).2.1) ?_
        refine OEnds.adv hm_8 1 (pc' := 33) (L' := [qr 1, qi v1]) (S' := [.int 0]) (H' := (c0 :: bk0 zf za zi zm zd zv zt zr zh zj zp zn zab zw zu zz zaa zo zc ze zq zs zb zx zy zg zk zl po)) rfl ?_
        cases h
        exact OEnds.iret hm_8 rfl rfl
    · simp only [if_neg hc13] at h
      refine OEnds.icmpT hm_8 rfl (q := 32) rfl ((flt hc13).2.1) ?_
      refine OEnds.adv hm_8 1 (pc' := 33) (L' := [qr 1, qi v1]) (S' := [.int 0]) (H' := (c0 :: bk0 zf za zi zm zd zv zt zr zh zj zp zn zab zw zu zz zaa zo zc ze zq zs zb zx zy zg zk zl po)) rfl ?_
      cases h
      exact OEnds.iret hm_8 rfl rfl
theorem ok_pendingIsDuplicate_0 {zf za zi zm zd zv zt zr zh zj zp zn zab zw zu : List Int32} {zz zaa zo zc ze zq zs zb zx zy zg zk zl : Int32} {c0 : ACell} {po : List ACell} {res : Int32} (h : f_pendingIsDuplicate zf za zm zc ze = some res) : OEnds own_P 8 0 [qr 1, qu] [] (c0 :: bk0 zf za zi zm zd zv zt zr zh zj zp zn zab zw zu zz zaa zo zc ze zq zs zb zx zy zg zk zl po) (some (.int res), (c0 :: bk0 zf za zi zm zd zv zt zr zh zj zp zn zab zw zu zz zaa zo zc ze zq zs zb zx zy zg zk zl po), 0, 0) := by
  unfold f_pendingIsDuplicate at h
  refine OEnds.adv hm_8 2 (pc' := 2) (L' := [qr 1, qi 0]) (S' := []) (H' := (c0 :: bk0 zf za zi zm zd zv zt zr zh zj zp zn zab zw zu zz zaa zo zc ze zq zs zb zx zy zg zk zl po)) rfl ?_
  exact ok_pendingIsDuplicate_2_0 100000 h
theorem ok_storePending_44_0 {zm zd zv zt zr zh zj zp zn zab zw zu : List Int32} {zz zaa zo zq zs zb zx zy zg zk zl : Int32} {c0 : ACell} {po : List ACell} : ∀ {zf za zi : List Int32} {zc ze v1 : Int32} {d2 d3 : Slot} {w_o_kwChars w_o_kwLen w_o_kwRepl : List Int32} {w_o_count : Int32} {w_o_pendLen : Int32}, f_storePending_44 zm zf za zi zc ze v1 = some (w_o_kwChars, w_o_kwLen, w_o_kwRepl, w_o_count, w_o_pendLen) → OEnds own_P 9 44 [qr 1, qi v1, d2, d3] [] (c0 :: bk0 zf za zi zm zd zv zt zr zh zj zp zn zab zw zu zz zaa zo zc ze zq zs zb zx zy zg zk zl po) (none, (c0 :: bk0 w_o_kwChars w_o_kwLen w_o_kwRepl zm zd zv zt zr zh zj zp zn zab zw zu zz zaa zo w_o_count w_o_pendLen zq zs zb zx zy zg zk zl po), 0, 0) := by
  intro zf za zi zc ze v1 d2 d3 w_o_kwChars w_o_kwLen w_o_kwRepl w_o_count w_o_pendLen h
  unfold f_storePending_44 at h
  refine OEnds.adv hm_9 6 (pc' := 56) (L' := [qr 1, qi v1, qu, qu]) (S' := [.int ze, .int zc, .ref 3]) (H' := (c0 :: bk0 zf za zi zm zd zv zt zr zh zj zp zn zab zw zu zz zaa zo zc ze zq zs zb zx zy zg zk zl po)) rfl ?_
  obtain ⟨A16, hA16, h⟩ := bnd h
  refine OEnds.plain hm_9 rfl rfl (x_iastore rfl (Nat.le_of_ble_eq_true rfl) hA16) ?_
  refine OEnds.adv hm_9 5 (pc' := 66) (L' := [qr 1, qi v1, qu, qu]) (S' := [.int v1, .int zc, .ref 4]) (H' := (c0 :: bk0 zf A16 zi zm zd zv zt zr zh zj zp zn zab zw zu zz zaa zo zc ze zq zs zb zx zy zg zk zl po)) rfl ?_
  obtain ⟨A17, hA17, h⟩ := bnd h
  refine OEnds.plain hm_9 rfl rfl (x_iastore rfl (Nat.le_of_ble_eq_true rfl) hA17) ?_
  refine OEnds.adv hm_9 9 (pc' := 82) (L' := [qr 1, qi v1, qu, qu]) (S' := []) (H' := (c0 :: bk0 zf A16 A17 zm zd zv zt zr zh zj zp zn zab zw zu zz zaa zo (zc + (1 : Int32)) 0 zq zs zb zx zy zg zk zl po)) rfl ?_
  cases h
  exact OEnds.vret hm_9 rfl rfl
theorem ok_storePending_10_0 {zm zd zv zt zr zh zj zp zn zab zw zu : List Int32} {zz zaa zo zq zs zb zx zy zg zk zl : Int32} {c0 : ACell} {po : List ACell} {k44 : List Int32 → List Int32 → List Int32 → Int32 → Int32 → Int32 → Option (List Int32 × List Int32 × List Int32 × Int32 × Int32)} (hk44 : ∀ {zf za zi : List Int32} {zc ze v1 : Int32} {d2 d3 : Slot} {w_o_kwChars w_o_kwLen w_o_kwRepl : List Int32} {w_o_count : Int32} {w_o_pendLen : Int32}, k44 zf za zi zc ze v1 = some (w_o_kwChars, w_o_kwLen, w_o_kwRepl, w_o_count, w_o_pendLen) → OEnds own_P 9 44 [qr 1, qi v1, d2, d3] [] (c0 :: bk0 zf za zi zm zd zv zt zr zh zj zp zn zab zw zu zz zaa zo zc ze zq zs zb zx zy zg zk zl po) (none, (c0 :: bk0 w_o_kwChars w_o_kwLen w_o_kwRepl zm zd zv zt zr zh zj zp zn zab zw zu zz zaa zo w_o_count w_o_pendLen zq zs zb zx zy zg zk zl po), 0, 0)) : ∀ (n : Nat), ∀ {zf za zi : List Int32} {zc ze v1 v2 v3 : Int32} {w_o_kwChars w_o_kwLen w_o_kwRepl : List Int32} {w_o_count : Int32} {w_o_pendLen : Int32}, f_storePending_10 k44 zm n zf za zi zc ze v1 v2 v3 = some (w_o_kwChars, w_o_kwLen, w_o_kwRepl, w_o_count, w_o_pendLen) → OEnds own_P 9 10 [qr 1, qi v1, qi v2, qi v3] [] (c0 :: bk0 zf za zi zm zd zv zt zr zh zj zp zn zab zw zu zz zaa zo zc ze zq zs zb zx zy zg zk zl po) (none, (c0 :: bk0 w_o_kwChars w_o_kwLen w_o_kwRepl zm zd zv zt zr zh zj zp zn zab zw zu zz zaa zo w_o_count w_o_pendLen zq zs zb zx zy zg zk zl po), 0, 0) := by
  intro n
  induction n with
  | zero => intro zf za zi zc ze v1 v2 v3 w_o_kwChars w_o_kwLen w_o_kwRepl w_o_count w_o_pendLen h; cases h
  | succ n ih =>
    intro zf za zi zc ze v1 v2 v3 w_o_kwChars w_o_kwLen w_o_kwRepl w_o_count w_o_pendLen h
    unfold f_storePending_10 at h
    refine OEnds.adv hm_9 3 (pc' := 15) (L' := [qr 1, qi v1, qi v2, qi v3]) (S' := [.int ze, .int v3]) (H' := (c0 :: bk0 zf za zi zm zd zv zt zr zh zj zp zn zab zw zu zz zaa zo zc ze zq zs zb zx zy zg zk zl po)) rfl ?_
    by_cases hc17 : v3 < ze
    · simp only [if_pos hc17] at h
      refine OEnds.icmpF hm_9 rfl ((tlt hc17).2.1) ?_
      refine OEnds.adv hm_9 2 (pc' := 21) (L' := [qr 1, qi v1, qi v2, qi v3]) (S' := [.int 8, .int v3]) (H' := (c0 :: bk0 zf za zi zm zd zv zt zr zh zj zp zn zab zw zu zz zaa zo zc ze zq zs zb zx zy zg zk zl po)) rfl ?_
      by_cases hc18 : v3 < (8 : Int32)
      · simp only [if_pos hc18] at h
        refine OEnds.icmpF hm_9 rfl ((tlt hc18).2.1) ?_
        refine OEnds.adv hm_9 8 (pc' := 36) (L' := [qr 1, qi v1, qi v2, qi v3]) (S' := [.int v3, .ref 5, .int (v2 + v3), .ref 2]) (H' := (c0 :: bk0 zf za zi zm zd zv zt zr zh zj zp zn zab zw zu zz zaa zo zc ze zq zs zb zx zy zg zk zl po)) rfl ?_
        obtain ⟨x14, hx14, h⟩ := bnd h
        refine OEnds.plain hm_9 rfl rfl (x_iaload rfl hx14) ?_
        show OEnds own_P 9 37 [qr 1, qi v1, qi v2, qi v3] [.int x14, .int (v2 + v3), .ref 2] (c0 :: bk0 zf za zi zm zd zv zt zr zh zj zp zn zab zw zu zz zaa zo zc ze zq zs zb zx zy zg zk zl po) _
        obtain ⟨A15, hA15, h⟩ := bnd h
        refine OEnds.plain hm_9 rfl rfl (x_iastore rfl (Nat.le_of_ble_eq_true rfl) hA15) ?_
        refine OEnds.adv hm_9 2 (pc' := 10) (L' := [qr 1, qi v1, qi v2, qi (v3 + (1 : Int32))]) (S' := []) (H' := (c0 :: bk0 A15 za zi zm zd zv zt zr zh zj zp zn zab zw zu zz zaa zo zc ze zq zs zb zx zy zg zk zl po)) rfl ?_
        exact ih h
      · simp only [if_neg hc18] at h
        refine OEnds.icmpT hm_9 rfl (q := 44) rfl ((flt hc18).2.1) ?_
        show OEnds own_P 9 44 [qr 1, qi v1, qi v2, qi v3] [] (c0 :: bk0 zf za zi zm zd zv zt zr zh zj zp zn zab zw zu zz zaa zo zc ze zq zs zb zx zy zg zk zl po) _
        exact hk44 h
    · simp only [if_neg hc17] at h
      refine OEnds.icmpT hm_9 rfl (q := 44) rfl ((flt hc17).2.1) ?_
      show OEnds own_P 9 44 [qr 1, qi v1, qi v2, qi v3] [] (c0 :: bk0 zf za zi zm zd zv zt zr zh zj zp zn zab zw zu zz zaa zo zc ze zq zs zb zx zy zg zk zl po) _
      exact hk44 h
theorem ok_storePending_0 {zm zd zv zt zr zh zj zp zn zab zw zu : List Int32} {zz zaa zo zq zs zb zx zy zg zk zl : Int32} {c0 : ACell} {po : List ACell} {zf za zi : List Int32} {zc ze v1 : Int32} {w_o_kwChars w_o_kwLen w_o_kwRepl : List Int32} {w_o_count w_o_pendLen : Int32} (h : f_storePending zm zf za zi zc ze v1 = some (w_o_kwChars, w_o_kwLen, w_o_kwRepl, w_o_count, w_o_pendLen)) : OEnds own_P 9 0 [qr 1, qi v1, qu, qu] [] (c0 :: bk0 zf za zi zm zd zv zt zr zh zj zp zn zab zw zu zz zaa zo zc ze zq zs zb zx zy zg zk zl po) (none, (c0 :: bk0 w_o_kwChars w_o_kwLen w_o_kwRepl zm zd zv zt zr zh zj zp zn zab zw zu zz zaa zo w_o_count w_o_pendLen zq zs zb zx zy zg zk zl po), 0, 0) := by
  unfold f_storePending at h
  refine OEnds.adv hm_9 7 (pc' := 10) (L' := [qr 1, qi v1, qi (zc * (8 : Int32)), qi 0]) (S' := []) (H' := (c0 :: bk0 zf za zi zm zd zv zt zr zh zj zp zn zab zw zu zz zaa zo zc ze zq zs zb zx zy zg zk zl po)) rfl ?_
  exact ok_storePending_10_0 (k44 := f_storePending_44 zm) ok_storePending_44_0 100000 h
theorem ok_endKeyword_0 {zm zd zv zt zr zh zj zp zn zab zw zu : List Int32} {zz zaa zo zq zs zb zx zy zg zk zl : Int32} {c0 : ACell} {po : List ACell} {zf za zi : List Int32} {zc ze v1 res : Int32} {w_o_kwChars w_o_kwLen w_o_kwRepl : List Int32} {w_o_count w_o_pendLen : Int32} (h : f_endKeyword zm zo zf za zi zc ze v1 = some (res, w_o_kwChars, w_o_kwLen, w_o_kwRepl, w_o_count, w_o_pendLen)) : OEnds own_P 6 0 [qr 1, qi v1] [] (c0 :: bk0 zf za zi zm zd zv zt zr zh zj zp zn zab zw zu zz zaa zo zc ze zq zs zb zx zy zg zk zl po) (some (.int res), (c0 :: bk0 w_o_kwChars w_o_kwLen w_o_kwRepl zm zd zv zt zr zh zj zp zn zab zw zu zz zaa zo w_o_count w_o_pendLen zq zs zb zx zy zg zk zl po), 0, 0) := by
  unfold f_endKeyword at h
  refine OEnds.adv hm_6 2 (pc' := 4) (L' := [qr 1, qi v1]) (S' := [.int zo]) (H' := (c0 :: bk0 zf za zi zm zd zv zt zr zh zj zp zn zab zw zu zz zaa zo zc ze zq zs zb zx zy zg zk zl po)) rfl ?_
  by_cases hc19 : zo = (0 : Int32)
  · simp only [if_pos hc19] at h
    refine OEnds.ifT hm_6 rfl (q := 9) rfl ((teq hc19).1) ?_
    refine OEnds.adv hm_6 2 (pc' := 13) (L' := [qr 1, qi v1]) (S' := [.int ze]) (H' := (c0 :: bk0 zf za zi zm zd zv zt zr zh zj zp zn zab zw zu zz zaa zo zc ze zq zs zb zx zy zg zk zl po)) rfl ?_
    by_cases hc20 : ze = (0 : Int32)
    · simp only [if_pos hc20] at h
      refine OEnds.ifF hm_6 rfl ((teq hc20).2) ?_
      refine OEnds.adv hm_6 1 (pc' := 18) (L' := [qr 1, qi v1]) (S' := [.int (-4)]) (H' := (c0 :: bk0 zf za zi zm zd zv zt zr zh zj zp zn zab zw zu zz zaa zo zc ze zq zs zb zx zy zg zk zl po)) rfl ?_
      cases h
      exact OEnds.iret hm_6 rfl rfl
    · simp only [if_neg hc20] at h
      refine OEnds.ifT hm_6 rfl (q := 19) rfl ((feq hc20).2) ?_
      refine OEnds.adv hm_6 2 (pc' := 21) (L' := [qr 1, qi v1]) (S' := [.int v1, .ref 1]) (H' := (c0 :: bk0 zf za zi zm zd zv zt zr zh zj zp zn zab zw zu zz zaa zo zc ze zq zs zb zx zy zg zk zl po)) rfl ?_
      obtain ⟨r18, hq21, h⟩ := bnd h
      refine OEnds.call0 hm_6 rfl rfl (by decide) rfl (as := [.ref 1, .int v1]) (rest := []) rfl rfl (ok_isPrintable_0 hq21) ?_
      show OEnds own_P 6 24 [qr 1, qi v1] [.int r18] (c0 :: bk0 zf za zi zm zd zv zt zr zh zj zp zn zab zw zu zz zaa zo zc ze zq zs zb zx zy zg zk zl po) _
      by_cases hc22 : r18 = (0 : Int32)
      · simp only [if_pos hc22] at h
        refine OEnds.ifF hm_6 rfl ((teq hc22).2) ?_
        refine OEnds.adv hm_6 1 (pc' := 29) (L' := [qr 1, qi v1]) (S' := [.int (-6)]) (H' := (c0 :: bk0 zf za zi zm zd zv zt zr zh zj zp zn zab zw zu zz zaa zo zc ze zq zs zb zx zy zg zk zl po)) rfl ?_
        cases h
        exact OEnds.iret hm_6 rfl rfl
      · simp only [if_neg hc22] at h
        refine OEnds.ifT hm_6 rfl (q := 30) rfl ((feq hc22).2) ?_
        refine OEnds.adv hm_6 1 (pc' := 31) (L' := [qr 1, qi v1]) (S' := [.ref 1]) (H' := (c0 :: bk0 zf za zi zm zd zv zt zr zh zj zp zn zab zw zu zz zaa zo zc ze zq zs zb zx zy zg zk zl po)) rfl ?_
        obtain ⟨r19, hq23, h⟩ := bnd h
        refine OEnds.call0 hm_6 rfl rfl (by decide) rfl (as := [.ref 1]) (rest := []) rfl rfl (ok_pendingIsDuplicate_0 hq23) ?_
        show OEnds own_P 6 34 [qr 1, qi v1] [.int r19] (c0 :: bk0 zf za zi zm zd zv zt zr zh zj zp zn zab zw zu zz zaa zo zc ze zq zs zb zx zy zg zk zl po) _
        by_cases hc24 : r19 = (0 : Int32)
        · simp only [if_pos hc24] at h
          refine OEnds.ifT hm_6 rfl (q := 40) rfl ((teq hc24).1) ?_
          refine OEnds.adv hm_6 3 (pc' := 46) (L' := [qr 1, qi v1]) (S' := [.int 16, .int zc]) (H' := (c0 :: bk0 zf za zi zm zd zv zt zr zh zj zp zn zab zw zu zz zaa zo zc ze zq zs zb zx zy zg zk zl po)) rfl ?_
          by_cases hc25 : zc < (16 : Int32)
          · simp only [if_pos hc25] at h
            refine OEnds.icmpT hm_6 rfl (q := 52) rfl ((tlt hc25).1) ?_
            refine OEnds.adv hm_6 2 (pc' := 54) (L' := [qr 1, qi v1]) (S' := [.int v1, .ref 1]) (H' := (c0 :: bk0 zf za zi zm zd zv zt zr zh zj zp zn zab zw zu zz zaa zo zc ze zq zs zb zx zy zg zk zl po)) rfl ?_
            obtain ⟨⟨s20, s21, s22, s23, s24⟩, hq26, h⟩ := bnd h
            refine OEnds.call0 hm_6 rfl rfl (by decide) rfl (as := [.ref 1, .int v1]) (rest := []) rfl rfl (ok_storePending_0 hq26) ?_
            refine OEnds.adv hm_6 4 (pc' := 63) (L' := [qr 1, qi v1]) (S' := [.int (s23 - (1 : Int32))]) (H' := (c0 :: bk0 s20 s21 s22 zm zd zv zt zr zh zj zp zn zab zw zu zz zaa zo s23 s24 zq zs zb zx zy zg zk zl po)) rfl ?_
            cases h
            exact OEnds.iret hm_6 rfl rfl
          · simp only [if_neg hc25] at h
            refine OEnds.icmpF hm_6 rfl ((flt hc25).1) ?_
            refine OEnds.adv hm_6 1 (pc' := 51) (L' := [qr 1, qi v1]) (S' := [.int (-3)]) (H' := (c0 :: bk0 zf za zi zm zd zv zt zr zh zj zp zn zab zw zu zz zaa zo zc ze zq zs zb zx zy zg zk zl po)) rfl ?_
            cases h
            exact OEnds.iret hm_6 rfl rfl
        · simp only [if_neg hc24] at h
          refine OEnds.ifF hm_6 rfl ((feq hc24).1) ?_
          refine OEnds.adv hm_6 1 (pc' := 39) (L' := [qr 1, qi v1]) (S' := [.int (-5)]) (H' := (c0 :: bk0 zf za zi zm zd zv zt zr zh zj zp zn zab zw zu zz zaa zo zc ze zq zs zb zx zy zg zk zl po)) rfl ?_
          cases h
          exact OEnds.iret hm_6 rfl rfl
  · simp only [if_neg hc19] at h
    refine OEnds.ifF hm_6 rfl ((feq hc19).1) ?_
    refine OEnds.adv hm_6 1 (pc' := 8) (L' := [qr 1, qi v1]) (S' := [.int (-1)]) (H' := (c0 :: bk0 zf za zi zm zd zv zt zr zh zj zp zn zab zw zu zz zaa zo zc ze zq zs zb zx zy zg zk zl po)) rfl ?_
    cases h
    exact OEnds.iret hm_6 rfl rfl
theorem ok_insertKeyword_137_0 {zf za zi zm zv zt zp zn zab zw zu : List Int32} {zz zaa zo zc ze zs zb zx zy zg zk zl : Int32} {c0 : ACell} {po : List ACell} : ∀ {zd zr zh zj : List Int32} {zq v1 v2 : Int32} {d3 d4 d5 d6 : Slot} {w_o_child w_o_depth w_o_term w_o_outMask : List Int32} {w_o_nodeCount : Int32}, f_insertKeyword_137 zf za zd zr zh zj zq v1 v2 = some (w_o_child, w_o_depth, w_o_term, w_o_outMask, w_o_nodeCount) → OEnds own_P 11 137 [qr 1, qi v1, qi v2, d3, d4, d5, d6] [] (c0 :: bk0 zf za zi zm zd zv zt zr zh zj zp zn zab zw zu zz zaa zo zc ze zq zs zb zx zy zg zk zl po) (none, (c0 :: bk0 zf za zi zm w_o_child zv zt w_o_depth w_o_term w_o_outMask zp zn zab zw zu zz zaa zo zc ze w_o_nodeCount zs zb zx zy zg zk zl po), 0, 0) := by
  intro zd zr zh zj zq v1 v2 d3 d4 d5 d6 w_o_child w_o_depth w_o_term w_o_outMask w_o_nodeCount h
  unfold f_insertKeyword_137 at h
  refine OEnds.adv hm_11 4 (pc' := 143) (L' := [qr 1, qi v1, qi v2, qu, qu, qu, qu]) (S' := [.int v1, .int v2, .ref 10]) (H' := (c0 :: bk0 zf za zi zm zd zv zt zr zh zj zp zn zab zw zu zz zaa zo zc ze zq zs zb zx zy zg zk zl po)) rfl ?_
  obtain ⟨A32, hA32, h⟩ := bnd h
  refine OEnds.plain hm_11 rfl rfl (x_iastore rfl (Nat.le_of_ble_eq_true rfl) hA32) ?_
  refine OEnds.adv hm_11 6 (pc' := 154) (L' := [qr 1, qi v1, qi v2, qu, qu, qu, qu]) (S' := [.int v2, .ref 11, .int v2, .ref 11]) (H' := (c0 :: bk0 zf za zi zm zd zv zt zr A32 zj zp zn zab zw zu zz zaa zo zc ze zq zs zb zx zy zg zk zl po)) rfl ?_
  obtain ⟨x33, hx33, h⟩ := bnd h
  refine OEnds.plain hm_11 rfl rfl (x_iaload rfl hx33) ?_
  refine OEnds.adv hm_11 4 (pc' := 159) (L' := [qr 1, qi v1, qi v2, qu, qu, qu, qu]) (S' := [.int (x33 ||| ((1 : Int32) <<< (v1 &&& 31))), .int v2, .ref 11]) (H' := (c0 :: bk0 zf za zi zm zd zv zt zr A32 zj zp zn zab zw zu zz zaa zo zc ze zq zs zb zx zy zg zk zl po)) rfl ?_
  obtain ⟨A34, hA34, h⟩ := bnd h
  refine OEnds.plain hm_11 rfl rfl (x_iastore rfl (Nat.le_of_ble_eq_true rfl) hA34) ?_
  show OEnds own_P 11 160 [qr 1, qi v1, qi v2, qu, qu, qu, qu] [] (c0 :: bk0 zf za zi zm zd zv zt zr A32 A34 zp zn zab zw zu zz zaa zo zc ze zq zs zb zx zy zg zk zl po) _
  cases h
  exact OEnds.vret hm_11 rfl rfl
theorem ok_insertKeyword_123_0 {zf za zi zm zv zt zp zn zab zw zu : List Int32} {zz zaa zo zc ze zs zb zx zy zg zk zl : Int32} {c0 : ACell} {po : List ACell} {kb : List Int32 → List Int32 → List Int32 → List Int32 → Int32 → Int32 → Int32 → Int32 → Int32 → Option (List Int32 × List Int32 × List Int32 × List Int32 × Int32)} {k137 : List Int32 → List Int32 → List Int32 → List Int32 → Int32 → Int32 → Int32 → Option (List Int32 × List Int32 × List Int32 × List Int32 × Int32)} (hkb : ∀ {zd zr zh zj : List Int32} {zq v1 v2 v3 v4 : Int32} {d5 d6 : Slot} {w_o_child w_o_depth w_o_term w_o_outMask : List Int32} {w_o_nodeCount : Int32}, kb zd zr zh zj zq v1 v2 v3 v4 = some (w_o_child, w_o_depth, w_o_term, w_o_outMask, w_o_nodeCount) → OEnds own_P 11 10 [qr 1, qi v1, qi v2, qi v3, qi v4, d5, d6] [] (c0 :: bk0 zf za zi zm zd zv zt zr zh zj zp zn zab zw zu zz zaa zo zc ze zq zs zb zx zy zg zk zl po) (none, (c0 :: bk0 zf za zi zm w_o_child zv zt w_o_depth w_o_term w_o_outMask zp zn zab zw zu zz zaa zo zc ze w_o_nodeCount zs zb zx zy zg zk zl po), 0, 0)) (hk137 : ∀ {zd zr zh zj : List Int32} {zq v1 v2 : Int32} {d3 d4 d5 d6 : Slot} {w_o_child w_o_depth w_o_term w_o_outMask : List Int32} {w_o_nodeCount : Int32}, k137 zd zr zh zj zq v1 v2 = some (w_o_child, w_o_depth, w_o_term, w_o_outMask, w_o_nodeCount) → OEnds own_P 11 137 [qr 1, qi v1, qi v2, d3, d4, d5, d6] [] (c0 :: bk0 zf za zi zm zd zv zt zr zh zj zp zn zab zw zu zz zaa zo zc ze zq zs zb zx zy zg zk zl po) (none, (c0 :: bk0 zf za zi zm w_o_child zv zt w_o_depth w_o_term w_o_outMask zp zn zab zw zu zz zaa zo zc ze w_o_nodeCount zs zb zx zy zg zk zl po), 0, 0)) : ∀ {zd zr zh zj : List Int32} {zq v1 v3 v4 v6 : Int32} {d2 d5 : Slot} {w_o_child w_o_depth w_o_term w_o_outMask : List Int32} {w_o_nodeCount : Int32}, f_insertKeyword_123 kb k137 zf za zd zr zh zj zq v1 v3 v4 v6 = some (w_o_child, w_o_depth, w_o_term, w_o_outMask, w_o_nodeCount) → OEnds own_P 11 123 [qr 1, qi v1, d2, qi v3, qi v4, d5, qi v6] [] (c0 :: bk0 zf za zi zm zd zv zt zr zh zj zp zn zab zw zu zz zaa zo zc ze zq zs zb zx zy zg zk zl po) (none, (c0 :: bk0 zf za zi zm w_o_child zv zt w_o_depth w_o_term w_o_outMask zp zn zab zw zu zz zaa zo zc ze w_o_nodeCount zs zb zx zy zg zk zl po), 0, 0) := by
  intro zd zr zh zj zq v1 v3 v4 v6 d2 d5 w_o_child w_o_depth w_o_term w_o_outMask w_o_nodeCount h
  unfold f_insertKeyword_123 at h
  refine OEnds.adv hm_11 3 (pc' := 129) (L' := [qr 1, qi v1, qu, qi v3, qi v4, qu, qi v6]) (S' := [.int v6, .ref 6]) (H' := (c0 :: bk0 zf za zi zm zd zv zt zr zh zj zp zn zab zw zu zz zaa zo zc ze zq zs zb zx zy zg zk zl po)) rfl ?_
  obtain ⟨x31, hx31, h⟩ := bnd h
  refine OEnds.plain hm_11 rfl rfl (x_iaload rfl hx31) ?_
  refine OEnds.adv hm_11 3 (pc' := 10) (L' := [qr 1, qi v1, qi x31, qi v3, qi (v4 + (1 : Int32)), qu, qi v6]) (S' := []) (H' := (c0 :: bk0 zf za zi zm zd zv zt zr zh zj zp zn zab zw zu zz zaa zo zc ze zq zs zb zx zy zg zk zl po)) rfl ?_
  exact hkb h
theorem ok_insertKeyword_10_0 {zf za zi zm zv zt zp zn zab zw zu : List Int32} {zz zaa zo zc ze zs zb zx zy zg zk zl : Int32} {c0 : ACell} {po : List ACell} {k137 : List Int32 → List Int32 → List Int32 → List Int32 → Int32 → Int32 → Int32 → Option (List Int32 × List Int32 × List Int32 × List Int32 × Int32)} (hk137 : ∀ {zd zr zh zj : List Int32} {zq v1 v2 : Int32} {d3 d4 d5 d6 : Slot} {w_o_child w_o_depth w_o_term w_o_outMask : List Int32} {w_o_nodeCount : Int32}, k137 zd zr zh zj zq v1 v2 = some (w_o_child, w_o_depth, w_o_term, w_o_outMask, w_o_nodeCount) → OEnds own_P 11 137 [qr 1, qi v1, qi v2, d3, d4, d5, d6] [] (c0 :: bk0 zf za zi zm zd zv zt zr zh zj zp zn zab zw zu zz zaa zo zc ze zq zs zb zx zy zg zk zl po) (none, (c0 :: bk0 zf za zi zm w_o_child zv zt w_o_depth w_o_term w_o_outMask zp zn zab zw zu zz zaa zo zc ze w_o_nodeCount zs zb zx zy zg zk zl po), 0, 0)) : ∀ (n : Nat), ∀ {zd zr zh zj : List Int32} {zq v1 v2 v3 v4 : Int32} {d5 d6 : Slot} {w_o_child w_o_depth w_o_term w_o_outMask : List Int32} {w_o_nodeCount : Int32}, f_insertKeyword_10 k137 zf za n zd zr zh zj zq v1 v2 v3 v4 = some (w_o_child, w_o_depth, w_o_term, w_o_outMask, w_o_nodeCount) → OEnds own_P 11 10 [qr 1, qi v1, qi v2, qi v3, qi v4, d5, d6] [] (c0 :: bk0 zf za zi zm zd zv zt zr zh zj zp zn zab zw zu zz zaa zo zc ze zq zs zb zx zy zg zk zl po) (none, (c0 :: bk0 zf za zi zm w_o_child zv zt w_o_depth w_o_term w_o_outMask zp zn zab zw zu zz zaa zo zc ze w_o_nodeCount zs zb zx zy zg zk zl po), 0, 0) := by
  intro n
  induction n with
  | zero => intro zd zr zh zj zq v1 v2 v3 v4 d5 d6 w_o_child w_o_depth w_o_term w_o_outMask w_o_nodeCount h; cases h
  | succ n ih =>
    intro zd zr zh zj zq v1 v2 v3 v4 d5 d6 w_o_child w_o_depth w_o_term w_o_outMask w_o_nodeCount h
    unfold f_insertKeyword_10 at h
    refine OEnds.adv hm_11 4 (pc' := 17) (L' := [qr 1, qi v1, qi v2, qi v3, qi v4, qu, qu]) (S' := [.int v1, .ref 3, .int v4]) (H' := (c0 :: bk0 zf za zi zm zd zv zt zr zh zj zp zn zab zw zu zz zaa zo zc ze zq zs zb zx zy zg zk zl po)) rfl ?_
    obtain ⟨x25, hx25, h⟩ := bnd h
    refine OEnds.plain hm_11 rfl rfl (x_iaload rfl hx25) ?_
    show OEnds own_P 11 18 [qr 1, qi v1, qi v2, qi v3, qi v4, qu, qu] [.int x25, .int v4] (c0 :: bk0 zf za zi zm zd zv zt zr zh zj zp zn zab zw zu zz zaa zo zc ze zq zs zb zx zy zg zk zl po) _
    by_cases hc27 : v4 < x25
    · simp only [if_pos hc27] at h
      refine OEnds.icmpF hm_11 rfl ((tlt hc27).2.1) ?_
      refine OEnds.adv hm_11 2 (pc' := 25) (L' := [qr 1, qi v1, qi v2, qi v3, qi v4, qu, qu]) (S' := [.int 8, .int v4]) (H' := (c0 :: bk0 zf za zi zm zd zv zt zr zh zj zp zn zab zw zu zz zaa zo zc ze zq zs zb zx zy zg zk zl po)) rfl ?_
      by_cases hc28 : v4 < (8 : Int32)
      · simp only [if_pos hc28] at h
        refine OEnds.icmpF hm_11 rfl ((tlt hc28).2.1) ?_
        refine OEnds.adv hm_11 5 (pc' := 36) (L' := [qr 1, qi v1, qi v2, qi v3, qi v4, qu, qu]) (S' := [.int (v3 + v4), .ref 2]) (H' := (c0 :: bk0 zf za zi zm zd zv zt zr zh zj zp zn zab zw zu zz zaa zo zc ze zq zs zb zx zy zg zk zl po)) rfl ?_
        obtain ⟨x26, hx26, h⟩ := bnd h
        refine OEnds.plain hm_11 rfl rfl (x_iaload rfl hx26) ?_
        refine OEnds.adv hm_11 4 (pc' := 44) (L' := [qr 1, qi v1, qi v2, qi v3, qi v4, qi (x26 - (97 : Int32)), qu]) (S' := [.int (x26 - (97 : Int32))]) (H' := (c0 :: bk0 zf za zi zm zd zv zt zr zh zj zp zn zab zw zu zz zaa zo zc ze zq zs zb zx zy zg zk zl po)) rfl ?_
        by_cases hc29 : (x26 - (97 : Int32)) < (0 : Int32)
        · simp only [if_pos hc29] at h
          refine OEnds.ifT hm_11 rfl (q := 54) rfl ((tlt hc29).1) ?_
          show OEnds own_P 11 54 [qr 1, qi v1, qi v2, qi v3, qi v4, qi (x26 - (97 : Int32)), qu] [] (c0 :: bk0 zf za zi zm zd zv zt zr zh zj zp zn zab zw zu zz zaa zo zc ze zq zs zb zx zy zg zk zl po) _
          cases h
          exact OEnds.vret hm_11 rfl rfl
        · simp only [if_neg hc29] at h
          refine OEnds.ifF hm_11 rfl ((flt hc29).1) ?_
          refine OEnds.adv hm_11 2 (pc' := 51) (L' := [qr 1, qi v1, qi v2, qi v3, qi v4, qi (x26 - (97 : Int32)), qu]) (S' := [.int 26, .int (x26 - (97 : Int32))]) (H' := (c0 :: bk0 zf za zi zm zd zv zt zr zh zj zp zn zab zw zu zz zaa zo zc ze zq zs zb zx zy zg zk zl po)) rfl ?_
          by_cases hc30 : (x26 - (97 : Int32)) < (26 : Int32)
          · simp only [if_pos hc30] at h
            refine OEnds.icmpT hm_11 rfl (q := 55) rfl ((tlt hc30).1) ?_
            refine OEnds.adv hm_11 9 (pc' := 70) (L' := [qr 1, qi v1, qi v2, qi v3, qi v4, qi (x26 - (97 : Int32)), qi ((v2 * (26 : Int32)) + (x26 - (97 : Int32)))]) (S' := [.int ((v2 * (26 : Int32)) + (x26 - (97 : Int32))), .ref 6]) (H' := (c0 :: bk0 zf za zi zm zd zv zt zr zh zj zp zn zab zw zu zz zaa zo zc ze zq zs zb zx zy zg zk zl po)) rfl ?_
            obtain ⟨x27, hx27, h⟩ := bnd h
            refine OEnds.plain hm_11 rfl rfl (x_iaload rfl hx27) ?_
            show OEnds own_P 11 71 [qr 1, qi v1, qi v2, qi v3, qi v4, qi (x26 - (97 : Int32)), qi ((v2 * (26 : Int32)) + (x26 - (97 : Int32)))] [.int x27] (c0 :: bk0 zf za zi zm zd zv zt zr zh zj zp zn zab zw zu zz zaa zo zc ze zq zs zb zx zy zg zk zl po) _
            by_cases hc31 : x27 = (0 : Int32)
            · simp only [if_pos hc31] at h
              refine OEnds.ifF hm_11 rfl ((teq hc31).2) ?_
              refine OEnds.adv hm_11 3 (pc' := 81) (L' := [qr 1, qi v1, qi v2, qi v3, qi v4, qi (x26 - (97 : Int32)), qi ((v2 * (26 : Int32)) + (x26 - (97 : Int32)))]) (S' := [.int 129, .int zq]) (H' := (c0 :: bk0 zf za zi zm zd zv zt zr zh zj zp zn zab zw zu zz zaa zo zc ze zq zs zb zx zy zg zk zl po)) rfl ?_
              by_cases hc32 : zq < (129 : Int32)
              · simp only [if_pos hc32] at h
                refine OEnds.icmpT hm_11 rfl (q := 85) rfl ((tlt hc32).1) ?_
                refine OEnds.adv hm_11 5 (pc' := 95) (L' := [qr 1, qi v1, qi v2, qi v3, qi v4, qi (x26 - (97 : Int32)), qi ((v2 * (26 : Int32)) + (x26 - (97 : Int32)))]) (S' := [.int zq, .int ((v2 * (26 : Int32)) + (x26 - (97 : Int32))), .ref 6]) (H' := (c0 :: bk0 zf za zi zm zd zv zt zr zh zj zp zn zab zw zu zz zaa zo zc ze zq zs zb zx zy zg zk zl po)) rfl ?_
                obtain ⟨A28, hA28, h⟩ := bnd h
                refine OEnds.plain hm_11 rfl rfl (x_iastore rfl (Nat.le_of_ble_eq_true rfl) hA28) ?_
                refine OEnds.adv hm_11 7 (pc' := 109) (L' := [qr 1, qi v1, qi v2, qi v3, qi v4, qi (x26 - (97 : Int32)), qi ((v2 * (26 : Int32)) + (x26 - (97 : Int32)))]) (S' := [.int v2, .ref 9, .int zq, .ref 9]) (H' := (c0 :: bk0 zf za zi zm A28 zv zt zr zh zj zp zn zab zw zu zz zaa zo zc ze zq zs zb zx zy zg zk zl po)) rfl ?_
                obtain ⟨x29, hx29, h⟩ := bnd h
                refine OEnds.plain hm_11 rfl rfl (x_iaload rfl hx29) ?_
                refine OEnds.adv hm_11 2 (pc' := 112) (L' := [qr 1, qi v1, qi v2, qi v3, qi v4, qi (x26 - (97 : Int32)), qi ((v2 * (26 : Int32)) + (x26 - (97 : Int32)))]) (S' := [.int (x29 + (1 : Int32)), .int zq, .ref 9]) (H' := (c0 :: bk0 zf za zi zm A28 zv zt zr zh zj zp zn zab zw zu zz zaa zo zc ze zq zs zb zx zy zg zk zl po)) rfl ?_
                obtain ⟨A30, hA30, h⟩ := bnd h
                refine OEnds.plain hm_11 rfl rfl (x_iastore rfl (Nat.le_of_ble_eq_true rfl) hA30) ?_
                refine OEnds.adv hm_11 6 (pc' := 123) (L' := [qr 1, qi v1, qi v2, qi v3, qi v4, qi (x26 - (97 : Int32)), qi ((v2 * (26 : Int32)) + (x26 - (97 : Int32)))]) (S' := []) (H' := (c0 :: bk0 zf za zi zm A28 zv zt A30 zh zj zp zn zab zw zu zz zaa zo zc ze (zq + (1 : Int32)) zs zb zx zy zg zk zl po)) rfl ?_
                exact ok_insertKeyword_123_0 ih hk137 h
              · simp only [if_neg hc32] at h
                refine OEnds.icmpF hm_11 rfl ((flt hc32).1) ?_
                show OEnds own_P 11 84 [qr 1, qi v1, qi v2, qi v3, qi v4, qi (x26 - (97 : Int32)), qi ((v2 * (26 : Int32)) + (x26 - (97 : Int32)))] [] (c0 :: bk0 zf za zi zm zd zv zt zr zh zj zp zn zab zw zu zz zaa zo zc ze zq zs zb zx zy zg zk zl po) _
                cases h
                exact OEnds.vret hm_11 rfl rfl
            · simp only [if_neg hc31] at h
              refine OEnds.ifT hm_11 rfl (q := 123) rfl ((feq hc31).2) ?_
              show OEnds own_P 11 123 [qr 1, qi v1, qi v2, qi v3, qi v4, qi (x26 - (97 : Int32)), qi ((v2 * (26 : Int32)) + (x26 - (97 : Int32)))] [] (c0 :: bk0 zf za zi zm zd zv zt zr zh zj zp zn zab zw zu zz zaa zo zc ze zq zs zb zx zy zg zk zl po) _
              exact ok_insertKeyword_123_0 ih hk137 h
          · simp only [if_neg hc30] at h
            refine OEnds.icmpF hm_11 rfl ((flt hc30).1) ?_
            show OEnds own_P 11 54 [qr 1, qi v1, qi v2, qi v3, qi v4, qi (x26 - (97 : Int32)), qu] [] (c0 :: bk0 zf za zi zm zd zv zt zr zh zj zp zn zab zw zu zz zaa zo zc ze zq zs zb zx zy zg zk zl po) _
            cases h
            exact OEnds.vret hm_11 rfl rfl
      · simp only [if_neg hc28] at h
        refine OEnds.icmpT hm_11 rfl (q := 137) rfl ((flt hc28).2.1) ?_
        show OEnds own_P 11 137 [qr 1, qi v1, qi v2, qi v3, qi v4, qu, qu] [] (c0 :: bk0 zf za zi zm zd zv zt zr zh zj zp zn zab zw zu zz zaa zo zc ze zq zs zb zx zy zg zk zl po) _
        exact hk137 h
    · simp only [if_neg hc27] at h
      refine OEnds.icmpT hm_11 rfl (q := 137) rfl ((flt hc27).2.1) ?_
      show OEnds own_P 11 137 [qr 1, qi v1, qi v2, qi v3, qi v4, qu, qu] [] (c0 :: bk0 zf za zi zm zd zv zt zr zh zj zp zn zab zw zu zz zaa zo zc ze zq zs zb zx zy zg zk zl po) _
      exact hk137 h
theorem ok_insertKeyword_0 {zf za zi zm zv zt zp zn zab zw zu : List Int32} {zz zaa zo zc ze zs zb zx zy zg zk zl : Int32} {c0 : ACell} {po : List ACell} {zd zr zh zj : List Int32} {zq v1 : Int32} {w_o_child w_o_depth w_o_term w_o_outMask : List Int32} {w_o_nodeCount : Int32} (h : f_insertKeyword zf za zd zr zh zj zq v1 = some (w_o_child, w_o_depth, w_o_term, w_o_outMask, w_o_nodeCount)) : OEnds own_P 11 0 [qr 1, qi v1, qu, qu, qu, qu, qu] [] (c0 :: bk0 zf za zi zm zd zv zt zr zh zj zp zn zab zw zu zz zaa zo zc ze zq zs zb zx zy zg zk zl po) (none, (c0 :: bk0 zf za zi zm w_o_child zv zt w_o_depth w_o_term w_o_outMask zp zn zab zw zu zz zaa zo zc ze w_o_nodeCount zs zb zx zy zg zk zl po), 0, 0) := by
  unfold f_insertKeyword at h
  refine OEnds.adv hm_11 8 (pc' := 10) (L' := [qr 1, qi v1, qi 0, qi (v1 * (8 : Int32)), qi 0, qu, qu]) (S' := []) (H' := (c0 :: bk0 zf za zi zm zd zv zt zr zh zj zp zn zab zw zu zz zaa zo zc ze zq zs zb zx zy zg zk zl po)) rfl ?_
  exact ok_insertKeyword_10_0 (k137 := f_insertKeyword_137 zf za) ok_insertKeyword_137_0 100000 h
theorem ok_buildTrie_12_0 {zf za zi zm zv zt zp zn zab zw zu : List Int32} {zz zaa zo zc ze zb zx zy zg zk zl : Int32} {c0 : ACell} {po : List ACell} : ∀ (n : Nat), ∀ {zd zr zh zj : List Int32} {zq zs v1 : Int32} {w_o_child w_o_depth w_o_term w_o_outMask : List Int32} {w_o_nodeCount : Int32} {w_o_longestKw : Int32}, f_buildTrie_12 zf za zc n zd zr zh zj zq zs v1 = some (w_o_child, w_o_depth, w_o_term, w_o_outMask, w_o_nodeCount, w_o_longestKw) → OEnds own_P 10 12 [qr 1, qi v1] [] (c0 :: bk0 zf za zi zm zd zv zt zr zh zj zp zn zab zw zu zz zaa zo zc ze zq zs zb zx zy zg zk zl po) (none, (c0 :: bk0 zf za zi zm w_o_child zv zt w_o_depth w_o_term w_o_outMask zp zn zab zw zu zz zaa zo zc ze w_o_nodeCount w_o_longestKw zb zx zy zg zk zl po), 0, 0) := by
  intro n
  induction n with
  | zero => intro zd zr zh zj zq zs v1 w_o_child w_o_depth w_o_term w_o_outMask w_o_nodeCount w_o_longestKw h; cases h
  | succ n ih =>
    intro zd zr zh zj zq zs v1 w_o_child w_o_depth w_o_term w_o_outMask w_o_nodeCount w_o_longestKw h
    unfold f_buildTrie_12 at h
    refine OEnds.adv hm_10 3 (pc' := 17) (L' := [qr 1, qi v1]) (S' := [.int zc, .int v1]) (H' := (c0 :: bk0 zf za zi zm zd zv zt zr zh zj zp zn zab zw zu zz zaa zo zc ze zq zs zb zx zy zg zk zl po)) rfl ?_
    by_cases hc33 : v1 < zc
    · simp only [if_pos hc33] at h
      refine OEnds.icmpF hm_10 rfl ((tlt hc33).2.1) ?_
      refine OEnds.adv hm_10 2 (pc' := 23) (L' := [qr 1, qi v1]) (S' := [.int 16, .int v1]) (H' := (c0 :: bk0 zf za zi zm zd zv zt zr zh zj zp zn zab zw zu zz zaa zo zc ze zq zs zb zx zy zg zk zl po)) rfl ?_
      by_cases hc34 : v1 < (16 : Int32)
      · simp only [if_pos hc34] at h
        refine OEnds.icmpF hm_10 rfl ((tlt hc34).2.1) ?_
        refine OEnds.adv hm_10 2 (pc' := 28) (L' := [qr 1, qi v1]) (S' := [.int v1, .ref 1]) (H' := (c0 :: bk0 zf za zi zm zd zv zt zr zh zj zp zn zab zw zu zz zaa zo zc ze zq zs zb zx zy zg zk zl po)) rfl ?_
        obtain ⟨⟨s35, s36, s37, s38, s39⟩, hq35, h⟩ := bnd h
        refine OEnds.call0 hm_10 rfl rfl (by decide) rfl (as := [.ref 1, .int v1]) (rest := []) rfl rfl (ok_insertKeyword_0 hq35) ?_
        refine OEnds.adv hm_10 3 (pc' := 36) (L' := [qr 1, qi v1]) (S' := [.int v1, .ref 3]) (H' := (c0 :: bk0 zf za zi zm s35 zv zt s36 s37 s38 zp zn zab zw zu zz zaa zo zc ze s39 zs zb zx zy zg zk zl po)) rfl ?_
        obtain ⟨x40, hx40, h⟩ := bnd h
        refine OEnds.plain hm_10 rfl rfl (x_iaload rfl hx40) ?_
        refine OEnds.adv hm_10 2 (pc' := 41) (L' := [qr 1, qi v1]) (S' := [.int zs, .int x40]) (H' := (c0 :: bk0 zf za zi zm s35 zv zt s36 s37 s38 zp zn zab zw zu zz zaa zo zc ze s39 zs zb zx zy zg zk zl po)) rfl ?_
        by_cases hc36 : zs < x40
        · simp only [if_pos hc36] at h
          refine OEnds.icmpF hm_10 rfl ((tlt hc36).2.2.2) ?_
          refine OEnds.adv hm_10 4 (pc' := 50) (L' := [qr 1, qi v1]) (S' := [.int v1, .ref 3, .ref 1]) (H' := (c0 :: bk0 zf za zi zm s35 zv zt s36 s37 s38 zp zn zab zw zu zz zaa zo zc ze s39 zs zb zx zy zg zk zl po)) rfl ?_
          obtain ⟨x41, hx41, h⟩ := bnd h
          refine OEnds.plain hm_10 rfl rfl (x_iaload rfl hx41) ?_
          refine OEnds.adv hm_10 3 (pc' := 12) (L' := [qr 1, qi (v1 + (1 : Int32))]) (S' := []) (H' := (c0 :: bk0 zf za zi zm s35 zv zt s36 s37 s38 zp zn zab zw zu zz zaa zo zc ze s39 x41 zb zx zy zg zk zl po)) rfl ?_
          exact ih h
        · simp only [if_neg hc36] at h
          refine OEnds.icmpT hm_10 rfl (q := 54) rfl ((flt hc36).2.2.2) ?_
          refine OEnds.adv hm_10 2 (pc' := 12) (L' := [qr 1, qi (v1 + (1 : Int32))]) (S' := []) (H' := (c0 :: bk0 zf za zi zm s35 zv zt s36 s37 s38 zp zn zab zw zu zz zaa zo zc ze s39 zs zb zx zy zg zk zl po)) rfl ?_
          exact ih h
      · simp only [if_neg hc34] at h
        refine OEnds.icmpT hm_10 rfl (q := 60) rfl ((flt hc34).2.1) ?_
        show OEnds own_P 10 60 [qr 1, qi v1] [] (c0 :: bk0 zf za zi zm zd zv zt zr zh zj zp zn zab zw zu zz zaa zo zc ze zq zs zb zx zy zg zk zl po) _
        cases h
        exact OEnds.vret hm_10 rfl rfl
    · simp only [if_neg hc33] at h
      refine OEnds.icmpT hm_10 rfl (q := 60) rfl ((flt hc33).2.1) ?_
      show OEnds own_P 10 60 [qr 1, qi v1] [] (c0 :: bk0 zf za zi zm zd zv zt zr zh zj zp zn zab zw zu zz zaa zo zc ze zq zs zb zx zy zg zk zl po) _
      cases h
      exact OEnds.vret hm_10 rfl rfl
theorem ok_buildTrie_0 {zf za zi zm zv zt zp zn zab zw zu : List Int32} {zz zaa zo zc ze zb zx zy zg zk zl : Int32} {c0 : ACell} {po : List ACell} {zd zr zh zj : List Int32} {zq zs : Int32} {w_o_child w_o_depth w_o_term w_o_outMask : List Int32} {w_o_nodeCount w_o_longestKw : Int32} (h : f_buildTrie zf za zc zd zr zh zj zq zs = some (w_o_child, w_o_depth, w_o_term, w_o_outMask, w_o_nodeCount, w_o_longestKw)) : OEnds own_P 10 0 [qr 1, qu] [] (c0 :: bk0 zf za zi zm zd zv zt zr zh zj zp zn zab zw zu zz zaa zo zc ze zq zs zb zx zy zg zk zl po) (none, (c0 :: bk0 zf za zi zm w_o_child zv zt w_o_depth w_o_term w_o_outMask zp zn zab zw zu zz zaa zo zc ze w_o_nodeCount w_o_longestKw zb zx zy zg zk zl po), 0, 0) := by
  unfold f_buildTrie at h
  refine OEnds.adv hm_10 8 (pc' := 12) (L' := [qr 1, qi 0]) (S' := []) (H' := (c0 :: bk0 zf za zi zm zd zv zt zr zh zj zp zn zab zw zu zz zaa zo zc ze 1 1 zb zx zy zg zk zl po)) rfl ?_
  exact ok_buildTrie_12_0 100000 h
theorem ok_expandNode_58_0 {zf za zi zm zd zr zh zn zab zw zu : List Int32} {zz zaa zo zc ze zq zs zb zx zy zg zk zl : Int32} {c0 : ACell} {po : List ACell} : ∀ (n : Nat), ∀ {zv zt zj zp : List Int32} {v1 v3 v4 v5 : Int32} {d2 d6 d7 : Slot} {res : Int32} {w_o_delta w_o_fail w_o_outMask : List Int32} {w_o_queue : List Int32}, f_expandNode_58 zd n zv zt zj zp v1 v3 v4 v5 = some (res, w_o_delta, w_o_fail, w_o_outMask, w_o_queue) → OEnds own_P 13 58 [qr 1, qi v1, d2, qi v3, qi v4, qi v5, d6, d7] [] (c0 :: bk0 zf za zi zm zd zv zt zr zh zj zp zn zab zw zu zz zaa zo zc ze zq zs zb zx zy zg zk zl po) (some (.int res), (c0 :: bk0 zf za zi zm zd w_o_delta w_o_fail zr zh w_o_outMask w_o_queue zn zab zw zu zz zaa zo zc ze zq zs zb zx zy zg zk zl po), 0, 0) := by
  intro n
  induction n with
  | zero => intro zv zt zj zp v1 v3 v4 v5 d2 d6 d7 res w_o_delta w_o_fail w_o_outMask w_o_queue h; cases h
  | succ n ih =>
    intro zv zt zj zp v1 v3 v4 v5 d2 d6 d7 res w_o_delta w_o_fail w_o_outMask w_o_queue h
    unfold f_expandNode_58 at h
    refine OEnds.adv hm_13 2 (pc' := 62) (L' := [qr 1, qi v1, qu, qi v3, qi v4, qi v5, qu, qu]) (S' := [.int 26, .int v5]) (H' := (c0 :: bk0 zf za zi zm zd zv zt zr zh zj zp zn zab zw zu zz zaa zo zc ze zq zs zb zx zy zg zk zl po)) rfl ?_
    by_cases hc37 : v5 < (26 : Int32)
    · simp only [if_pos hc37] at h
      refine OEnds.icmpF hm_13 rfl ((tlt hc37).2.1) ?_
      refine OEnds.adv hm_13 7 (pc' := 76) (L' := [qr 1, qi v1, qu, qi v3, qi v4, qi v5, qu, qu]) (S' := [.int ((v1 * (26 : Int32)) + v5), .ref 6]) (H' := (c0 :: bk0 zf za zi zm zd zv zt zr zh zj zp zn zab zw zu zz zaa zo zc ze zq zs zb zx zy zg zk zl po)) rfl ?_
      obtain ⟨x46, hx46, h⟩ := bnd h
      refine OEnds.plain hm_13 rfl rfl (x_iaload rfl hx46) ?_
      refine OEnds.adv hm_13 8 (pc' := 90) (L' := [qr 1, qi v1, qu, qi v3, qi v4, qi v5, qi x46, qu]) (S' := [.int ((v3 * (26 : Int32)) + v5), .ref 7]) (H' := (c0 :: bk0 zf za zi zm zd zv zt zr zh zj zp zn zab zw zu zz zaa zo zc ze zq zs zb zx zy zg zk zl po)) rfl ?_
      obtain ⟨x47, hx47, h⟩ := bnd h
      refine OEnds.plain hm_13 rfl rfl (x_iaload rfl hx47) ?_
      refine OEnds.adv hm_13 2 (pc' := 95) (L' := [qr 1, qi v1, qu, qi v3, qi v4, qi v5, qi x46, qi x47]) (S' := [.int x46]) (H' := (c0 :: bk0 zf za zi zm zd zv zt zr zh zj zp zn zab zw zu zz zaa zo zc ze zq zs zb zx zy zg zk zl po)) rfl ?_
      by_cases hc38 : x46 = (0 : Int32)
      · simp only [if_pos hc38] at h
        refine OEnds.ifT hm_13 rfl (q := 144) rfl ((teq hc38).1) ?_
        refine OEnds.adv hm_13 8 (pc' := 157) (L' := [qr 1, qi v1, qu, qi v3, qi v4, qi v5, qi x46, qi x47]) (S' := [.int x47, .int ((v1 * (26 : Int32)) + v5), .ref 7]) (H' := (c0 :: bk0 zf za zi zm zd zv zt zr zh zj zp zn zab zw zu zz zaa zo zc ze zq zs zb zx zy zg zk zl po)) rfl ?_
        obtain ⟨A48, hA48, h⟩ := bnd h
        refine OEnds.plain hm_13 rfl rfl (x_iastore rfl (Nat.le_of_ble_eq_true rfl) hA48) ?_
        refine OEnds.adv hm_13 2 (pc' := 58) (L' := [qr 1, qi v1, qu, qi v3, qi v4, qi (v5 + (1 : Int32)), qi x46, qi x47]) (S' := []) (H' := (c0 :: bk0 zf za zi zm zd A48 zt zr zh zj zp zn zab zw zu zz zaa zo zc ze zq zs zb zx zy zg zk zl po)) rfl ?_
        exact ih h
      · simp only [if_neg hc38] at h
        refine OEnds.ifF hm_13 rfl ((feq hc38).1) ?_
        refine OEnds.adv hm_13 4 (pc' := 106) (L' := [qr 1, qi v1, qu, qi v3, qi v4, qi v5, qi x46, qi x47]) (S' := [.int x47, .int x46, .ref 8]) (H' := (c0 :: bk0 zf za zi zm zd zv zt zr zh zj zp zn zab zw zu zz zaa zo zc ze zq zs zb zx zy zg zk zl po)) rfl ?_
        obtain ⟨A49, hA49, h⟩ := bnd h
        refine OEnds.plain hm_13 rfl rfl (x_iastore rfl (Nat.le_of_ble_eq_true rfl) hA49) ?_
        refine OEnds.adv hm_13 8 (pc' := 120) (L' := [qr 1, qi v1, qu, qi v3, qi v4, qi v5, qi x46, qi x47]) (S' := [.int x46, .int ((v1 * (26 : Int32)) + v5), .ref 7]) (H' := (c0 :: bk0 zf za zi zm zd zv A49 zr zh zj zp zn zab zw zu zz zaa zo zc ze zq zs zb zx zy zg zk zl po)) rfl ?_
        obtain ⟨A50, hA50, h⟩ := bnd h
        refine OEnds.plain hm_13 rfl rfl (x_iastore rfl (Nat.le_of_ble_eq_true rfl) hA50) ?_
        refine OEnds.adv hm_13 2 (pc' := 126) (L' := [qr 1, qi v1, qu, qi v3, qi v4, qi v5, qi x46, qi x47]) (S' := [.int 129, .int v4]) (H' := (c0 :: bk0 zf za zi zm zd A50 A49 zr zh zj zp zn zab zw zu zz zaa zo zc ze zq zs zb zx zy zg zk zl po)) rfl ?_
        by_cases hc39 : v4 < (129 : Int32)
        · simp only [if_pos hc39] at h
          refine OEnds.icmpF hm_13 rfl ((tlt hc39).2.1) ?_
          refine OEnds.adv hm_13 4 (pc' := 137) (L' := [qr 1, qi v1, qu, qi v3, qi v4, qi v5, qi x46, qi x47]) (S' := [.int x46, .int v4, .ref 12]) (H' := (c0 :: bk0 zf za zi zm zd A50 A49 zr zh zj zp zn zab zw zu zz zaa zo zc ze zq zs zb zx zy zg zk zl po)) rfl ?_
          obtain ⟨A51, hA51, h⟩ := bnd h
          refine OEnds.plain hm_13 rfl rfl (x_iastore rfl (Nat.le_of_ble_eq_true rfl) hA51) ?_
          refine OEnds.adv hm_13 4 (pc' := 58) (L' := [qr 1, qi v1, qu, qi v3, qi (v4 + (1 : Int32)), qi (v5 + (1 : Int32)), qi x46, qi x47]) (S' := []) (H' := (c0 :: bk0 zf za zi zm zd A50 A49 zr zh zj A51 zn zab zw zu zz zaa zo zc ze zq zs zb zx zy zg zk zl po)) rfl ?_
          exact ih h
        · simp only [if_neg hc39] at h
          refine OEnds.icmpT hm_13 rfl (q := 158) rfl ((flt hc39).2.1) ?_
          refine OEnds.adv hm_13 2 (pc' := 58) (L' := [qr 1, qi v1, qu, qi v3, qi v4, qi (v5 + (1 : Int32)), qi x46, qi x47]) (S' := []) (H' := (c0 :: bk0 zf za zi zm zd A50 A49 zr zh zj zp zn zab zw zu zz zaa zo zc ze zq zs zb zx zy zg zk zl po)) rfl ?_
          exact ih h
    · simp only [if_neg hc37] at h
      refine OEnds.icmpT hm_13 rfl (q := 164) rfl ((flt hc37).2.1) ?_
      refine OEnds.adv hm_13 1 (pc' := 166) (L' := [qr 1, qi v1, qu, qi v3, qi v4, qi v5, qu, qu]) (S' := [.int v4]) (H' := (c0 :: bk0 zf za zi zm zd zv zt zr zh zj zp zn zab zw zu zz zaa zo zc ze zq zs zb zx zy zg zk zl po)) rfl ?_
      cases h
      exact OEnds.iret hm_13 rfl rfl
theorem ok_expandNode_33_0 {zf za zi zm zd zr zh zn zab zw zu : List Int32} {zz zaa zo zc ze zq zs zb zx zy zg zk zl : Int32} {c0 : ACell} {po : List ACell} : ∀ {zv zt zj zp : List Int32} {v1 v2 v3 : Int32} {d4 d5 d6 d7 : Slot} {res : Int32} {w_o_delta w_o_fail w_o_outMask : List Int32} {w_o_queue : List Int32}, f_expandNode_33 zd zv zt zj zp v1 v2 v3 = some (res, w_o_delta, w_o_fail, w_o_outMask, w_o_queue) → OEnds own_P 13 33 [qr 1, qi v1, qi v2, qi v3, d4, d5, d6, d7] [] (c0 :: bk0 zf za zi zm zd zv zt zr zh zj zp zn zab zw zu zz zaa zo zc ze zq zs zb zx zy zg zk zl po) (some (.int res), (c0 :: bk0 zf za zi zm zd w_o_delta w_o_fail zr zh w_o_outMask w_o_queue zn zab zw zu zz zaa zo zc ze zq zs zb zx zy zg zk zl po), 0, 0) := by
  intro zv zt zj zp v1 v2 v3 d4 d5 d6 d7 res w_o_delta w_o_fail w_o_outMask w_o_queue h
  unfold f_expandNode_33 at h
  refine OEnds.adv hm_13 6 (pc' := 43) (L' := [qr 1, qi v1, qi v2, qi v3, qu, qu, qu, qu]) (S' := [.int v1, .ref 11, .int v1, .ref 11]) (H' := (c0 :: bk0 zf za zi zm zd zv zt zr zh zj zp zn zab zw zu zz zaa zo zc ze zq zs zb zx zy zg zk zl po)) rfl ?_
  obtain ⟨x43, hx43, h⟩ := bnd h
  refine OEnds.plain hm_13 rfl rfl (x_iaload rfl hx43) ?_
  refine OEnds.adv hm_13 3 (pc' := 49) (L' := [qr 1, qi v1, qi v2, qi v3, qu, qu, qu, qu]) (S' := [.int v3, .ref 11, .int x43, .int v1, .ref 11]) (H' := (c0 :: bk0 zf za zi zm zd zv zt zr zh zj zp zn zab zw zu zz zaa zo zc ze zq zs zb zx zy zg zk zl po)) rfl ?_
  obtain ⟨x44, hx44, h⟩ := bnd h
  refine OEnds.plain hm_13 rfl rfl (x_iaload rfl hx44) ?_
  refine OEnds.adv hm_13 1 (pc' := 51) (L' := [qr 1, qi v1, qi v2, qi v3, qu, qu, qu, qu]) (S' := [.int (x43 ||| x44), .int v1, .ref 11]) (H' := (c0 :: bk0 zf za zi zm zd zv zt zr zh zj zp zn zab zw zu zz zaa zo zc ze zq zs zb zx zy zg zk zl po)) rfl ?_
  obtain ⟨A45, hA45, h⟩ := bnd h
  refine OEnds.plain hm_13 rfl rfl (x_iastore rfl (Nat.le_of_ble_eq_true rfl) hA45) ?_
  refine OEnds.adv hm_13 4 (pc' := 58) (L' := [qr 1, qi v1, qi v2, qi v3, qi v2, qi 0, qu, qu]) (S' := []) (H' := (c0 :: bk0 zf za zi zm zd zv zt zr zh A45 zp zn zab zw zu zz zaa zo zc ze zq zs zb zx zy zg zk zl po)) rfl ?_
  exact ok_expandNode_58_0 100000 h
theorem ok_expandNode_0 {zf za zi zm zd zr zh zn zab zw zu : List Int32} {zz zaa zo zc ze zq zs zb zx zy zg zk zl : Int32} {c0 : ACell} {po : List ACell} {zv zt zj zp : List Int32} {v1 v2 res : Int32} {w_o_delta w_o_fail w_o_outMask w_o_queue : List Int32} (h : f_expandNode zd zv zt zj zp v1 v2 = some (res, w_o_delta, w_o_fail, w_o_outMask, w_o_queue)) : OEnds own_P 13 0 [qr 1, qi v1, qi v2, qu, qu, qu, qu, qu] [] (c0 :: bk0 zf za zi zm zd zv zt zr zh zj zp zn zab zw zu zz zaa zo zc ze zq zs zb zx zy zg zk zl po) (some (.int res), (c0 :: bk0 zf za zi zm zd w_o_delta w_o_fail zr zh w_o_outMask w_o_queue zn zab zw zu zz zaa zo zc ze zq zs zb zx zy zg zk zl po), 0, 0) := by
  unfold f_expandNode at h
  refine OEnds.adv hm_13 1 (pc' := 1) (L' := [qr 1, qi v1, qi v2, qu, qu, qu, qu, qu]) (S' := [.int v1]) (H' := (c0 :: bk0 zf za zi zm zd zv zt zr zh zj zp zn zab zw zu zz zaa zo zc ze zq zs zb zx zy zg zk zl po)) rfl ?_
  by_cases hc40 : (0 : Int32) < v1
  · simp only [if_pos hc40] at h
    refine OEnds.ifF hm_13 rfl ((tlt hc40).2.2.2) ?_
    refine OEnds.adv hm_13 2 (pc' := 8) (L' := [qr 1, qi v1, qi v2, qu, qu, qu, qu, qu]) (S' := [.int 129, .int v1]) (H' := (c0 :: bk0 zf za zi zm zd zv zt zr zh zj zp zn zab zw zu zz zaa zo zc ze zq zs zb zx zy zg zk zl po)) rfl ?_
    by_cases hc41 : v1 < (129 : Int32)
    · simp only [if_pos hc41] at h
      refine OEnds.icmpT hm_13 rfl (q := 13) rfl ((tlt hc41).1) ?_
      refine OEnds.adv hm_13 3 (pc' := 18) (L' := [qr 1, qi v1, qi v2, qu, qu, qu, qu, qu]) (S' := [.int v1, .ref 8]) (H' := (c0 :: bk0 zf za zi zm zd zv zt zr zh zj zp zn zab zw zu zz zaa zo zc ze zq zs zb zx zy zg zk zl po)) rfl ?_
      obtain ⟨x42, hx42, h⟩ := bnd h
      refine OEnds.plain hm_13 rfl rfl (x_iaload rfl hx42) ?_
      refine OEnds.adv hm_13 2 (pc' := 21) (L' := [qr 1, qi v1, qi v2, qi x42, qu, qu, qu, qu]) (S' := [.int x42]) (H' := (c0 :: bk0 zf za zi zm zd zv zt zr zh zj zp zn zab zw zu zz zaa zo zc ze zq zs zb zx zy zg zk zl po)) rfl ?_
      by_cases hc42 : x42 < (0 : Int32)
      · simp only [if_pos hc42] at h
        refine OEnds.ifT hm_13 rfl (q := 31) rfl ((tlt hc42).1) ?_
        refine OEnds.adv hm_13 2 (pc' := 33) (L' := [qr 1, qi v1, qi v2, qi 0, qu, qu, qu, qu]) (S' := []) (H' := (c0 :: bk0 zf za zi zm zd zv zt zr zh zj zp zn zab zw zu zz zaa zo zc ze zq zs zb zx zy zg zk zl po)) rfl ?_
        exact ok_expandNode_33_0 h
      · simp only [if_neg hc42] at h
        refine OEnds.ifF hm_13 rfl ((flt hc42).1) ?_
        refine OEnds.adv hm_13 2 (pc' := 28) (L' := [qr 1, qi v1, qi v2, qi x42, qu, qu, qu, qu]) (S' := [.int 129, .int x42]) (H' := (c0 :: bk0 zf za zi zm zd zv zt zr zh zj zp zn zab zw zu zz zaa zo zc ze zq zs zb zx zy zg zk zl po)) rfl ?_
        by_cases hc43 : x42 < (129 : Int32)
        · simp only [if_pos hc43] at h
          refine OEnds.icmpT hm_13 rfl (q := 33) rfl ((tlt hc43).1) ?_
          show OEnds own_P 13 33 [qr 1, qi v1, qi v2, qi x42, qu, qu, qu, qu] [] (c0 :: bk0 zf za zi zm zd zv zt zr zh zj zp zn zab zw zu zz zaa zo zc ze zq zs zb zx zy zg zk zl po) _
          exact ok_expandNode_33_0 h
        · simp only [if_neg hc43] at h
          refine OEnds.icmpF hm_13 rfl ((flt hc43).1) ?_
          refine OEnds.adv hm_13 2 (pc' := 33) (L' := [qr 1, qi v1, qi v2, qi 0, qu, qu, qu, qu]) (S' := []) (H' := (c0 :: bk0 zf za zi zm zd zv zt zr zh zj zp zn zab zw zu zz zaa zo zc ze zq zs zb zx zy zg zk zl po)) rfl ?_
          exact ok_expandNode_33_0 h
    · simp only [if_neg hc41] at h
      refine OEnds.icmpF hm_13 rfl ((flt hc41).1) ?_
      refine OEnds.adv hm_13 1 (pc' := 12) (L' := [qr 1, qi v1, qi v2, qu, qu, qu, qu, qu]) (S' := [.int v2]) (H' := (c0 :: bk0 zf za zi zm zd zv zt zr zh zj zp zn zab zw zu zz zaa zo zc ze zq zs zb zx zy zg zk zl po)) rfl ?_
      cases h
      exact OEnds.iret hm_13 rfl rfl
  · simp only [if_neg hc40] at h
    refine OEnds.ifT hm_13 rfl (q := 11) rfl ((flt hc40).2.2.2) ?_
    refine OEnds.adv hm_13 1 (pc' := 12) (L' := [qr 1, qi v1, qi v2, qu, qu, qu, qu, qu]) (S' := [.int v2]) (H' := (c0 :: bk0 zf za zi zm zd zv zt zr zh zj zp zn zab zw zu zz zaa zo zc ze zq zs zb zx zy zg zk zl po)) rfl ?_
    cases h
    exact OEnds.iret hm_13 rfl rfl
theorem ok_computeLinks_74_0 {zf za zi zm zd zr zh zn zab zw zu : List Int32} {zz zaa zo zc ze zq zs zb zx zy zg zk zl : Int32} {c0 : ACell} {po : List ACell} : ∀ (n : Nat), ∀ {zv zt zj zp : List Int32} {v1 v2 v3 : Int32} {d4 : Slot} {w_o_delta w_o_fail w_o_outMask : List Int32} {w_o_queue : List Int32}, f_computeLinks_74 zd n zv zt zj zp v1 v2 v3 = some (w_o_delta, w_o_fail, w_o_outMask, w_o_queue) → OEnds own_P 12 74 [qr 1, qi v1, qi v2, qi v3, d4] [] (c0 :: bk0 zf za zi zm zd zv zt zr zh zj zp zn zab zw zu zz zaa zo zc ze zq zs zb zx zy zg zk zl po) (none, (c0 :: bk0 zf za zi zm zd w_o_delta w_o_fail zr zh w_o_outMask w_o_queue zn zab zw zu zz zaa zo zc ze zq zs zb zx zy zg zk zl po), 0, 0) := by
  intro n
  induction n with
  | zero => intro zv zt zj zp v1 v2 v3 d4 w_o_delta w_o_fail w_o_outMask w_o_queue h; cases h
  | succ n ih =>
    intro zv zt zj zp v1 v2 v3 d4 w_o_delta w_o_fail w_o_outMask w_o_queue h
    unfold f_computeLinks_74 at h
    refine OEnds.adv hm_12 2 (pc' := 78) (L' := [qr 1, qi v1, qi v2, qi v3, qu]) (S' := [.int 129, .int v3]) (H' := (c0 :: bk0 zf za zi zm zd zv zt zr zh zj zp zn zab zw zu zz zaa zo zc ze zq zs zb zx zy zg zk zl po)) rfl ?_
    by_cases hc44 : v3 < (129 : Int32)
    · simp only [if_pos hc44] at h
      refine OEnds.icmpF hm_12 rfl ((tlt hc44).2.1) ?_
      refine OEnds.adv hm_12 2 (pc' := 83) (L' := [qr 1, qi v1, qi v2, qi v3, qu]) (S' := [.int v2, .int v1]) (H' := (c0 :: bk0 zf za zi zm zd zv zt zr zh zj zp zn zab zw zu zz zaa zo zc ze zq zs zb zx zy zg zk zl po)) rfl ?_
      by_cases hc45 : v1 < v2
      · simp only [if_pos hc45] at h
        refine OEnds.icmpT hm_12 rfl (q := 87) rfl ((tlt hc45).1) ?_
        refine OEnds.adv hm_12 3 (pc' := 92) (L' := [qr 1, qi v1, qi v2, qi v3, qu]) (S' := [.int v1, .ref 12]) (H' := (c0 :: bk0 zf za zi zm zd zv zt zr zh zj zp zn zab zw zu zz zaa zo zc ze zq zs zb zx zy zg zk zl po)) rfl ?_
        obtain ⟨x57, hx57, h⟩ := bnd h
        refine OEnds.plain hm_12 rfl rfl (x_iaload rfl hx57) ?_
        refine OEnds.adv hm_12 5 (pc' := 102) (L' := [qr 1, qi (v1 + (1 : Int32)), qi v2, qi v3, qi x57]) (S' := [.int v2, .int x57, .ref 1]) (H' := (c0 :: bk0 zf za zi zm zd zv zt zr zh zj zp zn zab zw zu zz zaa zo zc ze zq zs zb zx zy zg zk zl po)) rfl ?_
        obtain ⟨⟨r58, s59, s60, s61, s62⟩, hq46, h⟩ := bnd h
        refine OEnds.call0 hm_12 rfl rfl (by decide) rfl (as := [.ref 1, .int x57, .int v2]) (rest := []) rfl rfl (ok_expandNode_0 hq46) ?_
        refine OEnds.adv hm_12 3 (pc' := 74) (L' := [qr 1, qi (v1 + (1 : Int32)), qi r58, qi (v3 + (1 : Int32)), qi x57]) (S' := []) (H' := (c0 :: bk0 zf za zi zm zd s59 s60 zr zh s61 s62 zn zab zw zu zz zaa zo zc ze zq zs zb zx zy zg zk zl po)) rfl ?_
        exact ih h
      · simp only [if_neg hc45] at h
        refine OEnds.icmpF hm_12 rfl ((flt hc45).1) ?_
        show OEnds own_P 12 86 [qr 1, qi v1, qi v2, qi v3, qu] [] (c0 :: bk0 zf za zi zm zd zv zt zr zh zj zp zn zab zw zu zz zaa zo zc ze zq zs zb zx zy zg zk zl po) _
        cases h
        exact OEnds.vret hm_12 rfl rfl
    · simp only [if_neg hc44] at h
      refine OEnds.icmpT hm_12 rfl (q := 112) rfl ((flt hc44).2.1) ?_
      show OEnds own_P 12 112 [qr 1, qi v1, qi v2, qi v3, qu] [] (c0 :: bk0 zf za zi zm zd zv zt zr zh zj zp zn zab zw zu zz zaa zo zc ze zq zs zb zx zy zg zk zl po) _
      cases h
      exact OEnds.vret hm_12 rfl rfl
theorem ok_computeLinks_13_0 {zf za zi zm zd zr zh zn zab zw zu : List Int32} {zz zaa zo zc ze zq zs zb zx zy zg zk zl : Int32} {c0 : ACell} {po : List ACell} {k74 : List Int32 → List Int32 → List Int32 → List Int32 → Int32 → Int32 → Int32 → Option (List Int32 × List Int32 × List Int32 × List Int32)} (hk74 : ∀ {zv zt zj zp : List Int32} {v1 v2 v3 : Int32} {d4 : Slot} {w_o_delta w_o_fail w_o_outMask : List Int32} {w_o_queue : List Int32}, k74 zv zt zj zp v1 v2 v3 = some (w_o_delta, w_o_fail, w_o_outMask, w_o_queue) → OEnds own_P 12 74 [qr 1, qi v1, qi v2, qi v3, d4] [] (c0 :: bk0 zf za zi zm zd zv zt zr zh zj zp zn zab zw zu zz zaa zo zc ze zq zs zb zx zy zg zk zl po) (none, (c0 :: bk0 zf za zi zm zd w_o_delta w_o_fail zr zh w_o_outMask w_o_queue zn zab zw zu zz zaa zo zc ze zq zs zb zx zy zg zk zl po), 0, 0)) : ∀ (n : Nat), ∀ {zv zt zj zp : List Int32} {v1 v2 v3 : Int32} {d4 : Slot} {w_o_delta w_o_fail w_o_outMask : List Int32} {w_o_queue : List Int32}, f_computeLinks_13 k74 zd n zv zt zj zp v1 v2 v3 = some (w_o_delta, w_o_fail, w_o_outMask, w_o_queue) → OEnds own_P 12 13 [qr 1, qi v1, qi v2, qi v3, d4] [] (c0 :: bk0 zf za zi zm zd zv zt zr zh zj zp zn zab zw zu zz zaa zo zc ze zq zs zb zx zy zg zk zl po) (none, (c0 :: bk0 zf za zi zm zd w_o_delta w_o_fail zr zh w_o_outMask w_o_queue zn zab zw zu zz zaa zo zc ze zq zs zb zx zy zg zk zl po), 0, 0) := by
  intro n
  induction n with
  | zero => intro zv zt zj zp v1 v2 v3 d4 w_o_delta w_o_fail w_o_outMask w_o_queue h; cases h
  | succ n ih =>
    intro zv zt zj zp v1 v2 v3 d4 w_o_delta w_o_fail w_o_outMask w_o_queue h
    unfold f_computeLinks_13 at h
    refine OEnds.adv hm_12 2 (pc' := 16) (L' := [qr 1, qi v1, qi v2, qi v3, qu]) (S' := [.int 26, .int v3]) (H' := (c0 :: bk0 zf za zi zm zd zv zt zr zh zj zp zn zab zw zu zz zaa zo zc ze zq zs zb zx zy zg zk zl po)) rfl ?_
    by_cases hc47 : v3 < (26 : Int32)
    · simp only [if_pos hc47] at h
      refine OEnds.icmpF hm_12 rfl ((tlt hc47).2.1) ?_
      refine OEnds.adv hm_12 3 (pc' := 24) (L' := [qr 1, qi v1, qi v2, qi v3, qu]) (S' := [.int v3, .ref 6]) (H' := (c0 :: bk0 zf za zi zm zd zv zt zr zh zj zp zn zab zw zu zz zaa zo zc ze zq zs zb zx zy zg zk zl po)) rfl ?_
      obtain ⟨x53, hx53, h⟩ := bnd h
      refine OEnds.plain hm_12 rfl rfl (x_iaload rfl hx53) ?_
      refine OEnds.adv hm_12 5 (pc' := 34) (L' := [qr 1, qi v1, qi v2, qi v3, qi x53]) (S' := [.int x53, .int v3, .ref 7]) (H' := (c0 :: bk0 zf za zi zm zd zv zt zr zh zj zp zn zab zw zu zz zaa zo zc ze zq zs zb zx zy zg zk zl po)) rfl ?_
      obtain ⟨A54, hA54, h⟩ := bnd h
      refine OEnds.plain hm_12 rfl rfl (x_iastore rfl (Nat.le_of_ble_eq_true rfl) hA54) ?_
      refine OEnds.adv hm_12 1 (pc' := 37) (L' := [qr 1, qi v1, qi v2, qi v3, qi x53]) (S' := [.int x53]) (H' := (c0 :: bk0 zf za zi zm zd A54 zt zr zh zj zp zn zab zw zu zz zaa zo zc ze zq zs zb zx zy zg zk zl po)) rfl ?_
      by_cases hc48 : x53 = (0 : Int32)
      · simp only [if_pos hc48] at h
        refine OEnds.ifT hm_12 rfl (q := 66) rfl ((teq hc48).1) ?_
        refine OEnds.adv hm_12 2 (pc' := 13) (L' := [qr 1, qi v1, qi v2, qi (v3 + (1 : Int32)), qi x53]) (S' := []) (H' := (c0 :: bk0 zf za zi zm zd A54 zt zr zh zj zp zn zab zw zu zz zaa zo zc ze zq zs zb zx zy zg zk zl po)) rfl ?_
        exact ih h
      · simp only [if_neg hc48] at h
        refine OEnds.ifF hm_12 rfl ((feq hc48).1) ?_
        refine OEnds.adv hm_12 2 (pc' := 44) (L' := [qr 1, qi v1, qi v2, qi v3, qi x53]) (S' := [.int 129, .int v2]) (H' := (c0 :: bk0 zf za zi zm zd A54 zt zr zh zj zp zn zab zw zu zz zaa zo zc ze zq zs zb zx zy zg zk zl po)) rfl ?_
        by_cases hc49 : v2 < (129 : Int32)
        · simp only [if_pos hc49] at h
          refine OEnds.icmpF hm_12 rfl ((tlt hc49).2.1) ?_
          refine OEnds.adv hm_12 4 (pc' := 54) (L' := [qr 1, qi v1, qi v2, qi v3, qi x53]) (S' := [.int 0, .int x53, .ref 8]) (H' := (c0 :: bk0 zf za zi zm zd A54 zt zr zh zj zp zn zab zw zu zz zaa zo zc ze zq zs zb zx zy zg zk zl po)) rfl ?_
          obtain ⟨A55, hA55, h⟩ := bnd h
          refine OEnds.plain hm_12 rfl rfl (x_iastore rfl (Nat.le_of_ble_eq_true rfl) hA55) ?_
          refine OEnds.adv hm_12 4 (pc' := 62) (L' := [qr 1, qi v1, qi v2, qi v3, qi x53]) (S' := [.int x53, .int v2, .ref 12]) (H' := (c0 :: bk0 zf za zi zm zd A54 A55 zr zh zj zp zn zab zw zu zz zaa zo zc ze zq zs zb zx zy zg zk zl po)) rfl ?_
          obtain ⟨A56, hA56, h⟩ := bnd h
          refine OEnds.plain hm_12 rfl rfl (x_iastore rfl (Nat.le_of_ble_eq_true rfl) hA56) ?_
          refine OEnds.adv hm_12 3 (pc' := 13) (L' := [qr 1, qi v1, qi (v2 + (1 : Int32)), qi (v3 + (1 : Int32)), qi x53]) (S' := []) (H' := (c0 :: bk0 zf za zi zm zd A54 A55 zr zh zj A56 zn zab zw zu zz zaa zo zc ze zq zs zb zx zy zg zk zl po)) rfl ?_
          exact ih h
        · simp only [if_neg hc49] at h
          refine OEnds.icmpT hm_12 rfl (q := 66) rfl ((flt hc49).2.1) ?_
          refine OEnds.adv hm_12 2 (pc' := 13) (L' := [qr 1, qi v1, qi v2, qi (v3 + (1 : Int32)), qi x53]) (S' := []) (H' := (c0 :: bk0 zf za zi zm zd A54 zt zr zh zj zp zn zab zw zu zz zaa zo zc ze zq zs zb zx zy zg zk zl po)) rfl ?_
          exact ih h
    · simp only [if_neg hc47] at h
      refine OEnds.icmpT hm_12 rfl (q := 72) rfl ((flt hc47).2.1) ?_
      refine OEnds.adv hm_12 2 (pc' := 74) (L' := [qr 1, qi v1, qi v2, qi 0, qu]) (S' := []) (H' := (c0 :: bk0 zf za zi zm zd zv zt zr zh zj zp zn zab zw zu zz zaa zo zc ze zq zs zb zx zy zg zk zl po)) rfl ?_
      exact hk74 h
theorem ok_computeLinks_0 {zf za zi zm zd zr zh zn zab zw zu : List Int32} {zz zaa zo zc ze zq zs zb zx zy zg zk zl : Int32} {c0 : ACell} {po : List ACell} {zv zt zj zp w_o_delta w_o_fail w_o_outMask w_o_queue : List Int32} (h : f_computeLinks zd zv zt zj zp = some (w_o_delta, w_o_fail, w_o_outMask, w_o_queue)) : OEnds own_P 12 0 [qr 1, qu, qu, qu, qu] [] (c0 :: bk0 zf za zi zm zd zv zt zr zh zj zp zn zab zw zu zz zaa zo zc ze zq zs zb zx zy zg zk zl po) (none, (c0 :: bk0 zf za zi zm zd w_o_delta w_o_fail zr zh w_o_outMask w_o_queue zn zab zw zu zz zaa zo zc ze zq zs zb zx zy zg zk zl po), 0, 0) := by
  unfold f_computeLinks at h
  refine OEnds.adv hm_12 8 (pc' := 10) (L' := [qr 1, qi 0, qi 0, qu, qu]) (S' := [.int 0, .int 0, .ref 8]) (H' := (c0 :: bk0 zf za zi zm zd zv zt zr zh zj zp zn zab zw zu zz zaa zo zc ze zq zs zb zx zy zg zk zl po)) rfl ?_
  obtain ⟨A52, hA52, h⟩ := bnd h
  refine OEnds.plain hm_12 rfl rfl (x_iastore rfl (Nat.le_of_ble_eq_true rfl) hA52) ?_
  refine OEnds.adv hm_12 2 (pc' := 13) (L' := [qr 1, qi 0, qi 0, qi 0, qu]) (S' := []) (H' := (c0 :: bk0 zf za zi zm zd zv A52 zr zh zj zp zn zab zw zu zz zaa zo zc ze zq zs zb zx zy zg zk zl po)) rfl ?_
  exact ok_computeLinks_13_0 (k74 := f_computeLinks_74 zd 100000) (ok_computeLinks_74_0 100000) 100000 h
theorem ok_build_0 {zf za zi zm zn zab zw zu : List Int32} {zz zaa zc ze : Int32} {c0 : ACell} {po : List ACell} {zd zv zt zr zh zj zp : List Int32} {zo zq zs zb zx zy zg zk zl res : Int32} {w_o_child w_o_delta w_o_fail w_o_depth w_o_term w_o_outMask w_o_queue : List Int32} {w_o_phaseNow w_o_nodeCount w_o_longestKw w_o_n w_o_state w_o_total w_o_outLen w_o_commitPos w_o_tailLen : Int32} (h : f_build zf za zc ze zd zv zt zr zh zj zp zo zq zs zb zx zy zg zk zl = some (res, w_o_child, w_o_delta, w_o_fail, w_o_depth, w_o_term, w_o_outMask, w_o_queue, w_o_phaseNow, w_o_nodeCount, w_o_longestKw, w_o_n, w_o_state, w_o_total, w_o_outLen, w_o_commitPos, w_o_tailLen)) : OEnds own_P 3 0 [qr 1] [] (c0 :: bk0 zf za zi zm zd zv zt zr zh zj zp zn zab zw zu zz zaa zo zc ze zq zs zb zx zy zg zk zl po) (some (.int res), (c0 :: bk0 zf za zi zm w_o_child w_o_delta w_o_fail w_o_depth w_o_term w_o_outMask w_o_queue zn zab zw zu zz zaa w_o_phaseNow zc ze w_o_nodeCount w_o_longestKw w_o_n w_o_state w_o_total w_o_outLen w_o_commitPos w_o_tailLen po), 0, 0) := by
  unfold f_build at h
  refine OEnds.adv hm_3 2 (pc' := 4) (L' := [qr 1]) (S' := [.int zo]) (H' := (c0 :: bk0 zf za zi zm zd zv zt zr zh zj zp zn zab zw zu zz zaa zo zc ze zq zs zb zx zy zg zk zl po)) rfl ?_
  by_cases hc50 : zo = (0 : Int32)
  · simp only [if_pos hc50] at h
    refine OEnds.ifT hm_3 rfl (q := 9) rfl ((teq hc50).1) ?_
    refine OEnds.adv hm_3 2 (pc' := 13) (L' := [qr 1]) (S' := [.int ze]) (H' := (c0 :: bk0 zf za zi zm zd zv zt zr zh zj zp zn zab zw zu zz zaa zo zc ze zq zs zb zx zy zg zk zl po)) rfl ?_
    by_cases hc51 : ze = (0 : Int32)
    · simp only [if_pos hc51] at h
      refine OEnds.ifT hm_3 rfl (q := 19) rfl ((teq hc51).1) ?_
      refine OEnds.adv hm_3 2 (pc' := 23) (L' := [qr 1]) (S' := [.int zc]) (H' := (c0 :: bk0 zf za zi zm zd zv zt zr zh zj zp zn zab zw zu zz zaa zo zc ze zq zs zb zx zy zg zk zl po)) rfl ?_
      by_cases hc52 : zc = (0 : Int32)
      · simp only [if_pos hc52] at h
        refine OEnds.ifF hm_3 rfl ((teq hc52).2) ?_
        refine OEnds.adv hm_3 1 (pc' := 28) (L' := [qr 1]) (S' := [.int (-4)]) (H' := (c0 :: bk0 zf za zi zm zd zv zt zr zh zj zp zn zab zw zu zz zaa zo zc ze zq zs zb zx zy zg zk zl po)) rfl ?_
        cases h
        exact OEnds.iret hm_3 rfl rfl
      · simp only [if_neg hc52] at h
        refine OEnds.ifT hm_3 rfl (q := 29) rfl ((feq hc52).2) ?_
        refine OEnds.adv hm_3 1 (pc' := 30) (L' := [qr 1]) (S' := [.ref 1]) (H' := (c0 :: bk0 zf za zi zm zd zv zt zr zh zj zp zn zab zw zu zz zaa zo zc ze zq zs zb zx zy zg zk zl po)) rfl ?_
        obtain ⟨⟨s63, s64, s65, s66, s67, s68⟩, hq53, h⟩ := bnd h
        refine OEnds.call0 hm_3 rfl rfl (by decide) rfl (as := [.ref 1]) (rest := []) rfl rfl (ok_buildTrie_0 hq53) ?_
        refine OEnds.adv hm_3 1 (pc' := 34) (L' := [qr 1]) (S' := [.ref 1]) (H' := (c0 :: bk0 zf za zi zm s63 zv zt s64 s65 s66 zp zn zab zw zu zz zaa zo zc ze s67 s68 zb zx zy zg zk zl po)) rfl ?_
        obtain ⟨⟨s69, s70, s71, s72⟩, hq54, h⟩ := bnd h
        refine OEnds.call0 hm_3 rfl rfl (by decide) rfl (as := [.ref 1]) (rest := []) rfl rfl (ok_computeLinks_0 hq54) ?_
        refine OEnds.adv hm_3 4 (pc' := 43) (L' := [qr 1]) (S' := [.ref 1]) (H' := (c0 :: bk0 zf za zi zm s63 s69 s70 s64 s65 s71 s72 zn zab zw zu zz zaa 1 zc ze s67 s68 zb zx zy zg zk zl po)) rfl ?_
        obtain ⟨⟨s73, s74, s75, s76, s77, s78⟩, hq55, h⟩ := bnd h
        refine OEnds.call0 hm_3 rfl rfl (by decide) rfl (as := [.ref 1]) (rest := []) rfl rfl (ok_clearText_0 hq55) ?_
        refine OEnds.adv hm_3 1 (pc' := 47) (L' := [qr 1]) (S' := [.int 0]) (H' := (c0 :: bk0 zf za zi zm s63 s69 s70 s64 s65 s71 s72 zn zab zw zu zz zaa 1 zc ze s67 s68 s73 s74 s75 s76 s77 s78 po)) rfl ?_
        cases h
        exact OEnds.iret hm_3 rfl rfl
    · simp only [if_neg hc51] at h
      refine OEnds.ifF hm_3 rfl ((feq hc51).1) ?_
      refine OEnds.adv hm_3 1 (pc' := 18) (L' := [qr 1]) (S' := [.int (-7)]) (H' := (c0 :: bk0 zf za zi zm zd zv zt zr zh zj zp zn zab zw zu zz zaa zo zc ze zq zs zb zx zy zg zk zl po)) rfl ?_
      cases h
      exact OEnds.iret hm_3 rfl rfl
  · simp only [if_neg hc50] at h
    refine OEnds.ifF hm_3 rfl ((feq hc50).1) ?_
    refine OEnds.adv hm_3 1 (pc' := 8) (L' := [qr 1]) (S' := [.int (-1)]) (H' := (c0 :: bk0 zf za zi zm zd zv zt zr zh zj zp zn zab zw zu zz zaa zo zc ze zq zs zb zx zy zg zk zl po)) rfl ?_
    cases h
    exact OEnds.iret hm_3 rfl rfl
theorem ok_resetText_0 {zf za zi zm zd zv zt zr zh zj zp zn zab zw zu : List Int32} {zz zaa zo zc ze zq zs : Int32} {c0 : ACell} {po : List ACell} {zb zx zy zg zk zl res w_o_n w_o_state w_o_total w_o_outLen w_o_commitPos w_o_tailLen : Int32} (h : f_resetText zo zb zx zy zg zk zl = some (res, w_o_n, w_o_state, w_o_total, w_o_outLen, w_o_commitPos, w_o_tailLen)) : OEnds own_P 23 0 [qr 1] [] (c0 :: bk0 zf za zi zm zd zv zt zr zh zj zp zn zab zw zu zz zaa zo zc ze zq zs zb zx zy zg zk zl po) (some (.int res), (c0 :: bk0 zf za zi zm zd zv zt zr zh zj zp zn zab zw zu zz zaa zo zc ze zq zs w_o_n w_o_state w_o_total w_o_outLen w_o_commitPos w_o_tailLen po), 0, 0) := by
  unfold f_resetText at h
  refine OEnds.adv hm_23 3 (pc' := 5) (L' := [qr 1]) (S' := [.int 1, .int zo]) (H' := (c0 :: bk0 zf za zi zm zd zv zt zr zh zj zp zn zab zw zu zz zaa zo zc ze zq zs zb zx zy zg zk zl po)) rfl ?_
  by_cases hc56 : zo = (1 : Int32)
  · simp only [if_pos hc56] at h
    refine OEnds.icmpT hm_23 rfl (q := 10) rfl ((teq hc56).1) ?_
    refine OEnds.adv hm_23 1 (pc' := 11) (L' := [qr 1]) (S' := [.ref 1]) (H' := (c0 :: bk0 zf za zi zm zd zv zt zr zh zj zp zn zab zw zu zz zaa zo zc ze zq zs zb zx zy zg zk zl po)) rfl ?_
    obtain ⟨⟨s79, s80, s81, s82, s83, s84⟩, hq57, h⟩ := bnd h
    refine OEnds.call0 hm_23 rfl rfl (by decide) rfl (as := [.ref 1]) (rest := []) rfl rfl (ok_clearText_0 hq57) ?_
    refine OEnds.adv hm_23 1 (pc' := 15) (L' := [qr 1]) (S' := [.int 0]) (H' := (c0 :: bk0 zf za zi zm zd zv zt zr zh zj zp zn zab zw zu zz zaa zo zc ze zq zs s79 s80 s81 s82 s83 s84 po)) rfl ?_
    cases h
    exact OEnds.iret hm_23 rfl rfl
  · simp only [if_neg hc56] at h
    refine OEnds.icmpF hm_23 rfl ((feq hc56).1) ?_
    refine OEnds.adv hm_23 1 (pc' := 9) (L' := [qr 1]) (S' := [.int (-1)]) (H' := (c0 :: bk0 zf za zi zm zd zv zt zr zh zj zp zn zab zw zu zz zaa zo zc ze zq zs zb zx zy zg zk zl po)) rfl ?_
    cases h
    exact OEnds.iret hm_23 rfl rfl
theorem ok_isLetter_0 {zf za zi zm zd zv zt zr zh zj zp zn zab zw zu : List Int32} {zz zaa zo zc ze zq zs zb zx zy zg zk zl : Int32} {c0 : ACell} {po : List ACell} {v1 res : Int32} (h : f_isLetter v1 = some res) : OEnds own_P 5 0 [qr 1, qi v1] [] (c0 :: bk0 zf za zi zm zd zv zt zr zh zj zp zn zab zw zu zz zaa zo zc ze zq zs zb zx zy zg zk zl po) (some (.int res), (c0 :: bk0 zf za zi zm zd zv zt zr zh zj zp zn zab zw zu zz zaa zo zc ze zq zs zb zx zy zg zk zl po), 0, 0) := by
  unfold f_isLetter at h
  refine OEnds.adv hm_5 2 (pc' := 3) (L' := [qr 1, qi v1]) (S' := [.int 97, .int v1]) (H' := (c0 :: bk0 zf za zi zm zd zv zt zr zh zj zp zn zab zw zu zz zaa zo zc ze zq zs zb zx zy zg zk zl po)) rfl ?_
  by_cases hc58 : v1 < (97 : Int32)
  · simp only [if_pos hc58] at h
    refine OEnds.icmpT hm_5 rfl (q := 16) rfl ((tlt hc58).1) ?_
    refine OEnds.adv hm_5 1 (pc' := 17) (L' := [qr 1, qi v1]) (S' := [.int 0]) (H' := (c0 :: bk0 zf za zi zm zd zv zt zr zh zj zp zn zab zw zu zz zaa zo zc ze zq zs zb zx zy zg zk zl po)) rfl ?_
    cases h
    exact OEnds.iret hm_5 rfl rfl
  · simp only [if_neg hc58] at h
    refine OEnds.icmpF hm_5 rfl ((flt hc58).1) ?_
    refine OEnds.adv hm_5 2 (pc' := 9) (L' := [qr 1, qi v1]) (S' := [.int 122, .int v1]) (H' := (c0 :: bk0 zf za zi zm zd zv zt zr zh zj zp zn zab zw zu zz zaa zo zc ze zq zs zb zx zy zg zk zl po)) rfl ?_
    by_cases hc59 : (122 : Int32) < v1
    · simp only [if_pos hc59] at h
      refine OEnds.icmpT hm_5 rfl (q := 16) rfl ((tlt hc59).2.2.1) ?_
      refine OEnds.adv hm_5 1 (pc' := 17) (L' := [qr 1, qi v1]) (S' := [.int 0]) (H' := (c0 :: bk0 zf za zi zm zd zv zt zr zh zj zp zn zab zw zu zz zaa zo zc ze zq zs zb zx zy zg zk zl po)) rfl ?_
      cases h
      exact OEnds.iret hm_5 rfl rfl
    · simp only [if_neg hc59] at h
      refine OEnds.icmpF hm_5 rfl ((flt hc59).2.2.1) ?_
      refine OEnds.adv hm_5 2 (pc' := 17) (L' := [qr 1, qi v1]) (S' := [.int 1]) (H' := (c0 :: bk0 zf za zi zm zd zv zt zr zh zj zp zn zab zw zu zz zaa zo zc ze zq zs zb zx zy zg zk zl po)) rfl ?_
      cases h
      exact OEnds.iret hm_5 rfl rfl
theorem ok_addChar_0 {zf za zi zd zv zt zr zh zj zp zn zab zw zu : List Int32} {zz zaa zo zc zq zs zb zx zy zg zk zl : Int32} {c0 : ACell} {po : List ACell} {zm : List Int32} {ze v1 res : Int32} {w_o_pend : List Int32} {w_o_pendLen : Int32} (h : f_addChar zz zaa zo zc zm ze v1 = some (res, w_o_pend, w_o_pendLen)) : OEnds own_P 4 0 [qr 1, qi v1] [] (c0 :: bk0 zf za zi zm zd zv zt zr zh zj zp zn zab zw zu zz zaa zo zc ze zq zs zb zx zy zg zk zl po) (some (.int res), (c0 :: bk0 zf za zi w_o_pend zd zv zt zr zh zj zp zn zab zw zu zz zaa zo zc w_o_pendLen zq zs zb zx zy zg zk zl po), 0, 0) := by
  unfold f_addChar at h
  refine OEnds.adv hm_4 2 (pc' := 4) (L' := [qr 1, qi v1]) (S' := [.int zo]) (H' := (c0 :: bk0 zf za zi zm zd zv zt zr zh zj zp zn zab zw zu zz zaa zo zc ze zq zs zb zx zy zg zk zl po)) rfl ?_
  by_cases hc60 : zo = (0 : Int32)
  · simp only [if_pos hc60] at h
    refine OEnds.ifT hm_4 rfl (q := 9) rfl ((teq hc60).1) ?_
    refine OEnds.adv hm_4 2 (pc' := 11) (L' := [qr 1, qi v1]) (S' := [.int v1, .ref 1]) (H' := (c0 :: bk0 zf za zi zm zd zv zt zr zh zj zp zn zab zw zu zz zaa zo zc ze zq zs zb zx zy zg zk zl po)) rfl ?_
    obtain ⟨r8, hq61, h⟩ := bnd h
    refine OEnds.call0 hm_4 rfl rfl (by decide) rfl (as := [.ref 1, .int v1]) (rest := []) rfl rfl (ok_isLetter_0 hq61) ?_
    show OEnds own_P 4 14 [qr 1, qi v1] [.int r8] (c0 :: bk0 zf za zi zm zd zv zt zr zh zj zp zn zab zw zu zz zaa zo zc ze zq zs zb zx zy zg zk zl po) _
    by_cases hc62 : r8 = (0 : Int32)
    · simp only [if_pos hc62] at h
      refine OEnds.ifF hm_4 rfl ((teq hc62).2) ?_
      refine OEnds.adv hm_4 1 (pc' := 19) (L' := [qr 1, qi v1]) (S' := [.int (-2)]) (H' := (c0 :: bk0 zf za zi zm zd zv zt zr zh zj zp zn zab zw zu zz zaa zo zc ze zq zs zb zx zy zg zk zl po)) rfl ?_
      cases h
      exact OEnds.iret hm_4 rfl rfl
    · simp only [if_neg hc62] at h
      refine OEnds.ifT hm_4 rfl (q := 20) rfl ((feq hc62).2) ?_
      refine OEnds.adv hm_4 4 (pc' := 28) (L' := [qr 1, qi v1]) (S' := [.int zz, .int zc]) (H' := (c0 :: bk0 zf za zi zm zd zv zt zr zh zj zp zn zab zw zu zz zaa zo zc ze zq zs zb zx zy zg zk zl po)) rfl ?_
      by_cases hc63 : zc < zz
      · simp only [if_pos hc63] at h
        refine OEnds.icmpT hm_4 rfl (q := 34) rfl ((tlt hc63).1) ?_
        refine OEnds.adv hm_4 4 (pc' := 42) (L' := [qr 1, qi v1]) (S' := [.int zaa, .int ze]) (H' := (c0 :: bk0 zf za zi zm zd zv zt zr zh zj zp zn zab zw zu zz zaa zo zc ze zq zs zb zx zy zg zk zl po)) rfl ?_
        by_cases hc64 : ze < zaa
        · simp only [if_pos hc64] at h
          refine OEnds.icmpF hm_4 rfl ((tlt hc64).2.1) ?_
          refine OEnds.adv hm_4 3 (pc' := 51) (L' := [qr 1, qi v1]) (S' := [.int 8, .int ze]) (H' := (c0 :: bk0 zf za zi zm zd zv zt zr zh zj zp zn zab zw zu zz zaa zo zc ze zq zs zb zx zy zg zk zl po)) rfl ?_
          by_cases hc65 : ze < (8 : Int32)
          · simp only [if_pos hc65] at h
            refine OEnds.icmpT hm_4 rfl (q := 57) rfl ((tlt hc65).1) ?_
            refine OEnds.adv hm_4 5 (pc' := 66) (L' := [qr 1, qi v1]) (S' := [.int v1, .int ze, .ref 5]) (H' := (c0 :: bk0 zf za zi zm zd zv zt zr zh zj zp zn zab zw zu zz zaa zo zc ze zq zs zb zx zy zg zk zl po)) rfl ?_
            obtain ⟨A9, hA9, h⟩ := bnd h
            refine OEnds.plain hm_4 rfl rfl (x_iastore rfl (Nat.le_of_ble_eq_true rfl) hA9) ?_
            refine OEnds.adv hm_4 8 (pc' := 81) (L' := [qr 1, qi v1]) (S' := [.int (ze + (1 : Int32))]) (H' := (c0 :: bk0 zf za zi A9 zd zv zt zr zh zj zp zn zab zw zu zz zaa zo zc (ze + (1 : Int32)) zq zs zb zx zy zg zk zl po)) rfl ?_
            cases h
            exact OEnds.iret hm_4 rfl rfl
          · simp only [if_neg hc65] at h
            refine OEnds.icmpF hm_4 rfl ((flt hc65).1) ?_
            refine OEnds.adv hm_4 1 (pc' := 56) (L' := [qr 1, qi v1]) (S' := [.int (-3)]) (H' := (c0 :: bk0 zf za zi zm zd zv zt zr zh zj zp zn zab zw zu zz zaa zo zc ze zq zs zb zx zy zg zk zl po)) rfl ?_
            cases h
            exact OEnds.iret hm_4 rfl rfl
        · simp only [if_neg hc64] at h
          refine OEnds.icmpT hm_4 rfl (q := 54) rfl ((flt hc64).2.1) ?_
          refine OEnds.adv hm_4 1 (pc' := 56) (L' := [qr 1, qi v1]) (S' := [.int (-3)]) (H' := (c0 :: bk0 zf za zi zm zd zv zt zr zh zj zp zn zab zw zu zz zaa zo zc ze zq zs zb zx zy zg zk zl po)) rfl ?_
          cases h
          exact OEnds.iret hm_4 rfl rfl
      · simp only [if_neg hc63] at h
        refine OEnds.icmpF hm_4 rfl ((flt hc63).1) ?_
        refine OEnds.adv hm_4 1 (pc' := 33) (L' := [qr 1, qi v1]) (S' := [.int (-3)]) (H' := (c0 :: bk0 zf za zi zm zd zv zt zr zh zj zp zn zab zw zu zz zaa zo zc ze zq zs zb zx zy zg zk zl po)) rfl ?_
        cases h
        exact OEnds.iret hm_4 rfl rfl
  · simp only [if_neg hc60] at h
    refine OEnds.ifF hm_4 rfl ((feq hc60).1) ?_
    refine OEnds.adv hm_4 1 (pc' := 8) (L' := [qr 1, qi v1]) (S' := [.int (-1)]) (H' := (c0 :: bk0 zf za zi zm zd zv zt zr zh zj zp zn zab zw zu zz zaa zo zc ze zq zs zb zx zy zg zk zl po)) rfl ?_
    cases h
    exact OEnds.iret hm_4 rfl rfl
theorem ok_nextState_0 {zf za zi zm zd zv zt zr zh zj zp zn zab zw zu : List Int32} {zz zaa zo zc ze zq zs zb zx zy zg zk zl : Int32} {c0 : ACell} {po : List ACell} {v1 v2 res : Int32} (h : f_nextState zv v1 v2 = some res) : OEnds own_P 26 0 [qr 1, qi v1, qi v2] [] (c0 :: bk0 zf za zi zm zd zv zt zr zh zj zp zn zab zw zu zz zaa zo zc ze zq zs zb zx zy zg zk zl po) (some (.int res), (c0 :: bk0 zf za zi zm zd zv zt zr zh zj zp zn zab zw zu zz zaa zo zc ze zq zs zb zx zy zg zk zl po), 0, 0) := by
  unfold f_nextState at h
  refine OEnds.adv hm_26 2 (pc' := 2) (L' := [qr 1, qi v1, qi v2]) (S' := [.int v2, .ref 1]) (H' := (c0 :: bk0 zf za zi zm zd zv zt zr zh zj zp zn zab zw zu zz zaa zo zc ze zq zs zb zx zy zg zk zl po)) rfl ?_
  obtain ⟨r85, hq66, h⟩ := bnd h
  refine OEnds.call0 hm_26 rfl rfl (by decide) rfl (as := [.ref 1, .int v2]) (rest := []) rfl rfl (ok_isLetter_0 hq66) ?_
  show OEnds own_P 26 5 [qr 1, qi v1, qi v2] [.int r85] (c0 :: bk0 zf za zi zm zd zv zt zr zh zj zp zn zab zw zu zz zaa zo zc ze zq zs zb zx zy zg zk zl po) _
  by_cases hc67 : r85 = (0 : Int32)
  · simp only [if_pos hc67] at h
    refine OEnds.ifF hm_26 rfl ((teq hc67).2) ?_
    refine OEnds.adv hm_26 1 (pc' := 9) (L' := [qr 1, qi v1, qi v2]) (S' := [.int 0]) (H' := (c0 :: bk0 zf za zi zm zd zv zt zr zh zj zp zn zab zw zu zz zaa zo zc ze zq zs zb zx zy zg zk zl po)) rfl ?_
    cases h
    exact OEnds.iret hm_26 rfl rfl
  · simp only [if_neg hc67] at h
    refine OEnds.ifT hm_26 rfl (q := 10) rfl ((feq hc67).2) ?_
    refine OEnds.adv hm_26 1 (pc' := 11) (L' := [qr 1, qi v1, qi v2]) (S' := [.int v1]) (H' := (c0 :: bk0 zf za zi zm zd zv zt zr zh zj zp zn zab zw zu zz zaa zo zc ze zq zs zb zx zy zg zk zl po)) rfl ?_
    by_cases hc68 : v1 < (0 : Int32)
    · simp only [if_pos hc68] at h
      refine OEnds.ifT hm_26 rfl (q := 21) rfl ((tlt hc68).1) ?_
      refine OEnds.adv hm_26 1 (pc' := 22) (L' := [qr 1, qi v1, qi v2]) (S' := [.int 0]) (H' := (c0 :: bk0 zf za zi zm zd zv zt zr zh zj zp zn zab zw zu zz zaa zo zc ze zq zs zb zx zy zg zk zl po)) rfl ?_
      cases h
      exact OEnds.iret hm_26 rfl rfl
    · simp only [if_neg hc68] at h
      refine OEnds.ifF hm_26 rfl ((flt hc68).1) ?_
      refine OEnds.adv hm_26 2 (pc' := 18) (L' := [qr 1, qi v1, qi v2]) (S' := [.int 129, .int v1]) (H' := (c0 :: bk0 zf za zi zm zd zv zt zr zh zj zp zn zab zw zu zz zaa zo zc ze zq zs zb zx zy zg zk zl po)) rfl ?_
      by_cases hc69 : v1 < (129 : Int32)
      · simp only [if_pos hc69] at h
        refine OEnds.icmpT hm_26 rfl (q := 23) rfl ((tlt hc69).1) ?_
        refine OEnds.adv hm_26 9 (pc' := 36) (L' := [qr 1, qi v1, qi v2]) (S' := [.int ((v1 * (26 : Int32)) + (v2 - (97 : Int32))), .ref 7]) (H' := (c0 :: bk0 zf za zi zm zd zv zt zr zh zj zp zn zab zw zu zz zaa zo zc ze zq zs zb zx zy zg zk zl po)) rfl ?_
        obtain ⟨x86, hx86, h⟩ := bnd h
        refine OEnds.plain hm_26 rfl rfl (x_iaload rfl hx86) ?_
        show OEnds own_P 26 37 [qr 1, qi v1, qi v2] [.int x86] (c0 :: bk0 zf za zi zm zd zv zt zr zh zj zp zn zab zw zu zz zaa zo zc ze zq zs zb zx zy zg zk zl po) _
        cases h
        exact OEnds.iret hm_26 rfl rfl
      · simp only [if_neg hc69] at h
        refine OEnds.icmpF hm_26 rfl ((flt hc69).1) ?_
        refine OEnds.adv hm_26 1 (pc' := 22) (L' := [qr 1, qi v1, qi v2]) (S' := [.int 0]) (H' := (c0 :: bk0 zf za zi zm zd zv zt zr zh zj zp zn zab zw zu zz zaa zo zc ze zq zs zb zx zy zg zk zl po)) rfl ?_
        cases h
        exact OEnds.iret hm_26 rfl rfl
theorem ok_popCount_4_0 {zf za zi zm zd zv zt zr zh zj zp zn zab zw zu : List Int32} {zz zaa zo zc ze zq zs zb zx zy zg zk zl : Int32} {c0 : ACell} {po : List ACell} : ∀ (n : Nat), ∀ {v1 v2 v3 : Int32} {d0 : Slot} {res : Int32}, f_popCount_4 n v1 v2 v3 = some res → OEnds own_P 27 4 [d0, qi v1, qi v2, qi v3] [] (c0 :: bk0 zf za zi zm zd zv zt zr zh zj zp zn zab zw zu zz zaa zo zc ze zq zs zb zx zy zg zk zl po) (some (.int res), (c0 :: bk0 zf za zi zm zd zv zt zr zh zj zp zn zab zw zu zz zaa zo zc ze zq zs zb zx zy zg zk zl po), 0, 0) := by
  intro n
  induction n with
  | zero => intro v1 v2 v3 d0 res h; cases h
  | succ n ih =>
    intro v1 v2 v3 d0 res h
    unfold f_popCount_4 at h
    refine OEnds.adv hm_27 2 (pc' := 7) (L' := [qu, qi v1, qi v2, qi v3]) (S' := [.int 16, .int v3]) (H' := (c0 :: bk0 zf za zi zm zd zv zt zr zh zj zp zn zab zw zu zz zaa zo zc ze zq zs zb zx zy zg zk zl po)) rfl ?_
    by_cases hc70 : v3 < (16 : Int32)
    · simp only [if_pos hc70] at h
      refine OEnds.icmpF hm_27 rfl ((tlt hc70).2.1) ?_
      refine OEnds.adv hm_27 5 (pc' := 15) (L' := [qu, qi v1, qi v2, qi v3]) (S' := [.int ((v1 >>> (v3 &&& 31)) &&& (1 : Int32))]) (H' := (c0 :: bk0 zf za zi zm zd zv zt zr zh zj zp zn zab zw zu zz zaa zo zc ze zq zs zb zx zy zg zk zl po)) rfl ?_
      by_cases hc71 : ((v1 >>> (v3 &&& 31)) &&& (1 : Int32)) = (0 : Int32)
      · simp only [if_pos hc71] at h
        refine OEnds.ifT hm_27 rfl (q := 21) rfl ((teq hc71).1) ?_
        refine OEnds.adv hm_27 2 (pc' := 4) (L' := [qu, qi v1, qi v2, qi (v3 + (1 : Int32))]) (S' := []) (H' := (c0 :: bk0 zf za zi zm zd zv zt zr zh zj zp zn zab zw zu zz zaa zo zc ze zq zs zb zx zy zg zk zl po)) rfl ?_
        exact ih h
      · simp only [if_neg hc71] at h
        refine OEnds.ifF hm_27 rfl ((feq hc71).1) ?_
        refine OEnds.adv hm_27 3 (pc' := 4) (L' := [qu, qi v1, qi (v2 + (1 : Int32)), qi (v3 + (1 : Int32))]) (S' := []) (H' := (c0 :: bk0 zf za zi zm zd zv zt zr zh zj zp zn zab zw zu zz zaa zo zc ze zq zs zb zx zy zg zk zl po)) rfl ?_
        exact ih h
    · simp only [if_neg hc70] at h
      refine OEnds.icmpT hm_27 rfl (q := 27) rfl ((flt hc70).2.1) ?_
      refine OEnds.adv hm_27 1 (pc' := 28) (L' := [qu, qi v1, qi v2, qi v3]) (S' := [.int v2]) (H' := (c0 :: bk0 zf za zi zm zd zv zt zr zh zj zp zn zab zw zu zz zaa zo zc ze zq zs zb zx zy zg zk zl po)) rfl ?_
      cases h
      exact OEnds.iret hm_27 rfl rfl
theorem ok_popCount_0 {zf za zi zm zd zv zt zr zh zj zp zn zab zw zu : List Int32} {zz zaa zo zc ze zq zs zb zx zy zg zk zl : Int32} {c0 : ACell} {po : List ACell} {v1 res : Int32} (h : f_popCount v1 = some res) : OEnds own_P 27 0 [qr 1, qi v1, qu, qu] [] (c0 :: bk0 zf za zi zm zd zv zt zr zh zj zp zn zab zw zu zz zaa zo zc ze zq zs zb zx zy zg zk zl po) (some (.int res), (c0 :: bk0 zf za zi zm zd zv zt zr zh zj zp zn zab zw zu zz zaa zo zc ze zq zs zb zx zy zg zk zl po), 0, 0) := by
  unfold f_popCount at h
  refine OEnds.adv hm_27 4 (pc' := 4) (L' := [qr 1, qi v1, qi 0, qi 0]) (S' := []) (H' := (c0 :: bk0 zf za zi zm zd zv zt zr zh zj zp zn zab zw zu zz zaa zo zc ze zq zs zb zx zy zg zk zl po)) rfl ?_
  exact ok_popCount_4_0 100000 h
theorem ok_longestAt_7_0 {zf za zi zm zd zv zt zr zh zj zp zn zab zw zu : List Int32} {zz zaa zo zc ze zq zs zb zx zy zg zk zl : Int32} {c0 : ACell} {po : List ACell} : ∀ (n : Nat), ∀ {v1 v2 v3 v4 : Int32} {d5 d6 d7 : Slot} {res : Int32}, f_longestAt_7 zd zh zn zb n v1 v2 v3 v4 = some res → OEnds own_P 30 7 [qr 1, qi v1, qi v2, qi v3, qi v4, d5, d6, d7] [] (c0 :: bk0 zf za zi zm zd zv zt zr zh zj zp zn zab zw zu zz zaa zo zc ze zq zs zb zx zy zg zk zl po) (some (.int res), (c0 :: bk0 zf za zi zm zd zv zt zr zh zj zp zn zab zw zu zz zaa zo zc ze zq zs zb zx zy zg zk zl po), 0, 0) := by
  intro n
  induction n with
  | zero => intro v1 v2 v3 v4 d5 d6 d7 res h; cases h
  | succ n ih =>
    intro v1 v2 v3 v4 d5 d6 d7 res h
    unfold f_longestAt_7 at h
    refine OEnds.adv hm_30 2 (pc' := 11) (L' := [qr 1, qi v1, qi v2, qi v3, qi v4, qu, qu, qu]) (S' := [.int 8, .int v4]) (H' := (c0 :: bk0 zf za zi zm zd zv zt zr zh zj zp zn zab zw zu zz zaa zo zc ze zq zs zb zx zy zg zk zl po)) rfl ?_
    by_cases hc72 : v4 < (8 : Int32)
    · simp only [if_pos hc72] at h
      refine OEnds.icmpF hm_30 rfl ((tlt hc72).2.1) ?_
      refine OEnds.adv hm_30 5 (pc' := 22) (L' := [qr 1, qi v1, qi v2, qi v3, qi v4, qi (v1 + v4), qu, qu]) (S' := [.int (v1 + v4)]) (H' := (c0 :: bk0 zf za zi zm zd zv zt zr zh zj zp zn zab zw zu zz zaa zo zc ze zq zs zb zx zy zg zk zl po)) rfl ?_
      by_cases hc73 : (v1 + v4) < (0 : Int32)
      · simp only [if_pos hc73] at h
        refine OEnds.ifT hm_30 rfl (q := 34) rfl ((tlt hc73).1) ?_
        refine OEnds.adv hm_30 1 (pc' := 35) (L' := [qr 1, qi v1, qi v2, qi v3, qi v4, qi (v1 + v4), qu, qu]) (S' := [.int v2]) (H' := (c0 :: bk0 zf za zi zm zd zv zt zr zh zj zp zn zab zw zu zz zaa zo zc ze zq zs zb zx zy zg zk zl po)) rfl ?_
        cases h
        exact OEnds.iret hm_30 rfl rfl
      · simp only [if_neg hc73] at h
        refine OEnds.ifF hm_30 rfl ((flt hc73).1) ?_
        refine OEnds.adv hm_30 3 (pc' := 31) (L' := [qr 1, qi v1, qi v2, qi v3, qi v4, qi (v1 + v4), qu, qu]) (S' := [.int zb, .int (v1 + v4)]) (H' := (c0 :: bk0 zf za zi zm zd zv zt zr zh zj zp zn zab zw zu zz zaa zo zc ze zq zs zb zx zy zg zk zl po)) rfl ?_
        by_cases hc74 : (v1 + v4) < zb
        · simp only [if_pos hc74] at h
          refine OEnds.icmpT hm_30 rfl (q := 36) rfl ((tlt hc74).1) ?_
          refine OEnds.adv hm_30 3 (pc' := 42) (L' := [qr 1, qi v1, qi v2, qi v3, qi v4, qi (v1 + v4), qu, qu]) (S' := [.int (v1 + v4), .ref 13]) (H' := (c0 :: bk0 zf za zi zm zd zv zt zr zh zj zp zn zab zw zu zz zaa zo zc ze zq zs zb zx zy zg zk zl po)) rfl ?_
          obtain ⟨x87, hx87, h⟩ := bnd h
          refine OEnds.plain hm_30 rfl rfl (x_iaload rfl hx87) ?_
          refine OEnds.adv hm_30 3 (pc' := 48) (L' := [qr 1, qi v1, qi v2, qi v3, qi v4, qi (v1 + v4), qi x87, qu]) (S' := [.int x87, .ref 1]) (H' := (c0 :: bk0 zf za zi zm zd zv zt zr zh zj zp zn zab zw zu zz zaa zo zc ze zq zs zb zx zy zg zk zl po)) rfl ?_
          obtain ⟨r88, hq75, h⟩ := bnd h
          refine OEnds.call0 hm_30 rfl rfl (by decide) rfl (as := [.ref 1, .int x87]) (rest := []) rfl rfl (ok_isLetter_0 hq75) ?_
          show OEnds own_P 30 51 [qr 1, qi v1, qi v2, qi v3, qi v4, qi (v1 + v4), qi x87, qu] [.int r88] (c0 :: bk0 zf za zi zm zd zv zt zr zh zj zp zn zab zw zu zz zaa zo zc ze zq zs zb zx zy zg zk zl po) _
          by_cases hc76 : r88 = (0 : Int32)
          · simp only [if_pos hc76] at h
            refine OEnds.ifF hm_30 rfl ((teq hc76).2) ?_
            refine OEnds.adv hm_30 1 (pc' := 55) (L' := [qr 1, qi v1, qi v2, qi v3, qi v4, qi (v1 + v4), qi x87, qu]) (S' := [.int v2]) (H' := (c0 :: bk0 zf za zi zm zd zv zt zr zh zj zp zn zab zw zu zz zaa zo zc ze zq zs zb zx zy zg zk zl po)) rfl ?_
            cases h
            exact OEnds.iret hm_30 rfl rfl
          · simp only [if_neg hc76] at h
            refine OEnds.ifT hm_30 rfl (q := 56) rfl ((feq hc76).2) ?_
            refine OEnds.adv hm_30 9 (pc' := 70) (L' := [qr 1, qi v1, qi v2, qi v3, qi v4, qi (v1 + v4), qi x87, qu]) (S' := [.int ((v3 * (26 : Int32)) + (x87 - (97 : Int32))), .ref 6]) (H' := (c0 :: bk0 zf za zi zm zd zv zt zr zh zj zp zn zab zw zu zz zaa zo zc ze zq zs zb zx zy zg zk zl po)) rfl ?_
            obtain ⟨x89, hx89, h⟩ := bnd h
            refine OEnds.plain hm_30 rfl rfl (x_iaload rfl hx89) ?_
            refine OEnds.adv hm_30 2 (pc' := 75) (L' := [qr 1, qi v1, qi v2, qi v3, qi v4, qi (v1 + v4), qi x87, qi x89]) (S' := [.int x89]) (H' := (c0 :: bk0 zf za zi zm zd zv zt zr zh zj zp zn zab zw zu zz zaa zo zc ze zq zs zb zx zy zg zk zl po)) rfl ?_
            by_cases hc77 : x89 = (0 : Int32)
            · simp only [if_pos hc77] at h
              refine OEnds.ifF hm_30 rfl ((teq hc77).2) ?_
              refine OEnds.adv hm_30 1 (pc' := 79) (L' := [qr 1, qi v1, qi v2, qi v3, qi v4, qi (v1 + v4), qi x87, qi x89]) (S' := [.int v2]) (H' := (c0 :: bk0 zf za zi zm zd zv zt zr zh zj zp zn zab zw zu zz zaa zo zc ze zq zs zb zx zy zg zk zl po)) rfl ?_
              cases h
              exact OEnds.iret hm_30 rfl rfl
            · simp only [if_neg hc77] at h
              refine OEnds.ifT hm_30 rfl (q := 80) rfl ((feq hc77).2) ?_
              refine OEnds.adv hm_30 5 (pc' := 88) (L' := [qr 1, qi v1, qi v2, qi x89, qi v4, qi (v1 + v4), qi x87, qi x89]) (S' := [.int x89, .ref 10]) (H' := (c0 :: bk0 zf za zi zm zd zv zt zr zh zj zp zn zab zw zu zz zaa zo zc ze zq zs zb zx zy zg zk zl po)) rfl ?_
              obtain ⟨x90, hx90, h⟩ := bnd h
              refine OEnds.plain hm_30 rfl rfl (x_iaload rfl hx90) ?_
              show OEnds own_P 30 89 [qr 1, qi v1, qi v2, qi x89, qi v4, qi (v1 + v4), qi x87, qi x89] [.int x90] (c0 :: bk0 zf za zi zm zd zv zt zr zh zj zp zn zab zw zu zz zaa zo zc ze zq zs zb zx zy zg zk zl po) _
              by_cases hc78 : x90 < (0 : Int32)
              · simp only [if_pos hc78] at h
                refine OEnds.ifT hm_30 rfl (q := 99) rfl ((tlt hc78).1) ?_
                refine OEnds.adv hm_30 2 (pc' := 7) (L' := [qr 1, qi v1, qi v2, qi x89, qi (v4 + (1 : Int32)), qi (v1 + v4), qi x87, qi x89]) (S' := []) (H' := (c0 :: bk0 zf za zi zm zd zv zt zr zh zj zp zn zab zw zu zz zaa zo zc ze zq zs zb zx zy zg zk zl po)) rfl ?_
                exact ih h
              · simp only [if_neg hc78] at h
                refine OEnds.ifF hm_30 rfl ((flt hc78).1) ?_
                refine OEnds.adv hm_30 3 (pc' := 97) (L' := [qr 1, qi v1, qi v2, qi x89, qi v4, qi (v1 + v4), qi x87, qi x89]) (S' := [.int x89, .ref 10]) (H' := (c0 :: bk0 zf za zi zm zd zv zt zr zh zj zp zn zab zw zu zz zaa zo zc ze zq zs zb zx zy zg zk zl po)) rfl ?_
                obtain ⟨x91, hx91, h⟩ := bnd h
                refine OEnds.plain hm_30 rfl rfl (x_iaload rfl hx91) ?_
                refine OEnds.adv hm_30 3 (pc' := 7) (L' := [qr 1, qi v1, qi x91, qi x89, qi (v4 + (1 : Int32)), qi (v1 + v4), qi x87, qi x89]) (S' := []) (H' := (c0 :: bk0 zf za zi zm zd zv zt zr zh zj zp zn zab zw zu zz zaa zo zc ze zq zs zb zx zy zg zk zl po)) rfl ?_
                exact ih h
        · simp only [if_neg hc74] at h
          refine OEnds.icmpF hm_30 rfl ((flt hc74).1) ?_
          refine OEnds.adv hm_30 1 (pc' := 35) (L' := [qr 1, qi v1, qi v2, qi v3, qi v4, qi (v1 + v4), qu, qu]) (S' := [.int v2]) (H' := (c0 :: bk0 zf za zi zm zd zv zt zr zh zj zp zn zab zw zu zz zaa zo zc ze zq zs zb zx zy zg zk zl po)) rfl ?_
          cases h
          exact OEnds.iret hm_30 rfl rfl
    · simp only [if_neg hc72] at h
      refine OEnds.icmpT hm_30 rfl (q := 105) rfl ((flt hc72).2.1) ?_
      refine OEnds.adv hm_30 1 (pc' := 106) (L' := [qr 1, qi v1, qi v2, qi v3, qi v4, qu, qu, qu]) (S' := [.int v2]) (H' := (c0 :: bk0 zf za zi zm zd zv zt zr zh zj zp zn zab zw zu zz zaa zo zc ze zq zs zb zx zy zg zk zl po)) rfl ?_
      cases h
      exact OEnds.iret hm_30 rfl rfl
theorem ok_longestAt_0 {zf za zi zm zd zv zt zr zh zj zp zn zab zw zu : List Int32} {zz zaa zo zc ze zq zs zb zx zy zg zk zl : Int32} {c0 : ACell} {po : List ACell} {v1 res : Int32} (h : f_longestAt zd zh zn zb v1 = some res) : OEnds own_P 30 0 [qr 1, qi v1, qu, qu, qu, qu, qu, qu] [] (c0 :: bk0 zf za zi zm zd zv zt zr zh zj zp zn zab zw zu zz zaa zo zc ze zq zs zb zx zy zg zk zl po) (some (.int res), (c0 :: bk0 zf za zi zm zd zv zt zr zh zj zp zn zab zw zu zz zaa zo zc ze zq zs zb zx zy zg zk zl po), 0, 0) := by
  unfold f_longestAt at h
  refine OEnds.adv hm_30 6 (pc' := 7) (L' := [qr 1, qi v1, qi (-1), qi 0, qi 0, qu, qu, qu]) (S' := []) (H' := (c0 :: bk0 zf za zi zm zd zv zt zr zh zj zp zn zab zw zu zz zaa zo zc ze zq zs zb zx zy zg zk zl po)) rfl ?_
  exact ok_longestAt_7_0 100000 h
theorem ok_commitOne_74_0 {zf za zi zm zd zv zt zr zh zj zp zn zab zu : List Int32} {zz zaa zo zc ze zq zs zb zx zy zl : Int32} {c0 : ACell} {po : List ACell} : ∀ {zw : List Int32} {zg zk : Int32} {d1 : Slot} {w_o_out : List Int32} {w_o_outLen : Int32} {w_o_commitPos : Int32}, f_commitOne_74 za zi zd zh zn zb zw zg zk = some (w_o_out, w_o_outLen, w_o_commitPos) → OEnds own_P 31 74 [qr 1, d1] [] (c0 :: bk0 zf za zi zm zd zv zt zr zh zj zp zn zab zw zu zz zaa zo zc ze zq zs zb zx zy zg zk zl po) (none, (c0 :: bk0 zf za zi zm zd zv zt zr zh zj zp zn zab w_o_out zu zz zaa zo zc ze zq zs zb zx zy w_o_outLen w_o_commitPos zl po), 0, 0) := by
  intro zw zg zk d1 w_o_out w_o_outLen w_o_commitPos h
  unfold f_commitOne_74 at h
  refine OEnds.adv hm_31 6 (pc' := 84) (L' := [qr 1, qu]) (S' := []) (H' := (c0 :: bk0 zf za zi zm zd zv zt zr zh zj zp zn zab zw zu zz zaa zo zc ze zq zs zb zx zy (zg + (1 : Int32)) zk zl po)) rfl ?_
  cases h
  exact OEnds.vret hm_31 rfl rfl
theorem ok_commitOne_0 {zf za zi zm zd zv zt zr zh zj zp zn zab zu : List Int32} {zz zaa zo zc ze zq zs zb zx zy zl : Int32} {c0 : ACell} {po : List ACell} {zw : List Int32} {zg zk : Int32} {w_o_out : List Int32} {w_o_outLen w_o_commitPos : Int32} (h : f_commitOne za zi zd zh zn zb zw zg zk = some (w_o_out, w_o_outLen, w_o_commitPos)) : OEnds own_P 31 0 [qr 1, qu] [] (c0 :: bk0 zf za zi zm zd zv zt zr zh zj zp zn zab zw zu zz zaa zo zc ze zq zs zb zx zy zg zk zl po) (none, (c0 :: bk0 zf za zi zm zd zv zt zr zh zj zp zn zab w_o_out zu zz zaa zo zc ze zq zs zb zx zy w_o_outLen w_o_commitPos zl po), 0, 0) := by
  unfold f_commitOne at h
  refine OEnds.adv hm_31 3 (pc' := 5) (L' := [qr 1, qu]) (S' := [.int zk, .ref 1]) (H' := (c0 :: bk0 zf za zi zm zd zv zt zr zh zj zp zn zab zw zu zz zaa zo zc ze zq zs zb zx zy zg zk zl po)) rfl ?_
  obtain ⟨r92, hq79, h⟩ := bnd h
  refine OEnds.call0 hm_31 rfl rfl (by decide) rfl (as := [.ref 1, .int zk]) (rest := []) rfl rfl (ok_longestAt_0 hq79) ?_
  refine OEnds.adv hm_31 2 (pc' := 10) (L' := [qr 1, qi r92]) (S' := [.int r92]) (H' := (c0 :: bk0 zf za zi zm zd zv zt zr zh zj zp zn zab zw zu zz zaa zo zc ze zq zs zb zx zy zg zk zl po)) rfl ?_
  by_cases hc80 : r92 < (0 : Int32)
  · simp only [if_pos hc80] at h
    refine OEnds.ifT hm_31 rfl (q := 46) rfl ((tlt hc80).1) ?_
    refine OEnds.adv hm_31 8 (pc' := 62) (L' := [qr 1, qi r92]) (S' := [.int zk, .ref 13, .int zg, .ref 15]) (H' := (c0 :: bk0 zf za zi zm zd zv zt zr zh zj zp zn zab zw zu zz zaa zo zc ze zq zs zb zx zy zg zk zl po)) rfl ?_
    obtain ⟨x93, hx93, h⟩ := bnd h
    refine OEnds.plain hm_31 rfl rfl (x_iaload rfl hx93) ?_
    show OEnds own_P 31 63 [qr 1, qi r92] [.int x93, .int zg, .ref 15] (c0 :: bk0 zf za zi zm zd zv zt zr zh zj zp zn zab zw zu zz zaa zo zc ze zq zs zb zx zy zg zk zl po) _
    obtain ⟨A94, hA94, h⟩ := bnd h
    refine OEnds.plain hm_31 rfl rfl (x_iastore rfl (Nat.le_of_ble_eq_true rfl) hA94) ?_
    refine OEnds.adv hm_31 6 (pc' := 74) (L' := [qr 1, qi r92]) (S' := []) (H' := (c0 :: bk0 zf za zi zm zd zv zt zr zh zj zp zn zab A94 zu zz zaa zo zc ze zq zs zb zx zy zg (zk + (1 : Int32)) zl po)) rfl ?_
    exact ok_commitOne_74_0 h
  · simp only [if_neg hc80] at h
    refine OEnds.ifF hm_31 rfl ((flt hc80).1) ?_
    refine OEnds.adv hm_31 7 (pc' := 26) (L' := [qr 1, qi r92]) (S' := [.int r92, .ref 4, .int zg, .ref 15]) (H' := (c0 :: bk0 zf za zi zm zd zv zt zr zh zj zp zn zab zw zu zz zaa zo zc ze zq zs zb zx zy zg zk zl po)) rfl ?_
    obtain ⟨x95, hx95, h⟩ := bnd h
    refine OEnds.plain hm_31 rfl rfl (x_iaload rfl hx95) ?_
    show OEnds own_P 31 27 [qr 1, qi r92] [.int x95, .int zg, .ref 15] (c0 :: bk0 zf za zi zm zd zv zt zr zh zj zp zn zab zw zu zz zaa zo zc ze zq zs zb zx zy zg zk zl po) _
    obtain ⟨A96, hA96, h⟩ := bnd h
    refine OEnds.plain hm_31 rfl rfl (x_iastore rfl (Nat.le_of_ble_eq_true rfl) hA96) ?_
    refine OEnds.adv hm_31 6 (pc' := 38) (L' := [qr 1, qi r92]) (S' := [.int r92, .ref 3, .int zk, .ref 1]) (H' := (c0 :: bk0 zf za zi zm zd zv zt zr zh zj zp zn zab A96 zu zz zaa zo zc ze zq zs zb zx zy zg zk zl po)) rfl ?_
    obtain ⟨x97, hx97, h⟩ := bnd h
    refine OEnds.plain hm_31 rfl rfl (x_iaload rfl hx97) ?_
    refine OEnds.adv hm_31 3 (pc' := 74) (L' := [qr 1, qi r92]) (S' := []) (H' := (c0 :: bk0 zf za zi zm zd zv zt zr zh zj zp zn zab A96 zu zz zaa zo zc ze zq zs zb zx zy zg (zk + x97) zl po)) rfl ?_
    exact ok_commitOne_74_0 h
theorem ok_commitReady_2_0 {zf za zi zm zd zv zt zr zh zj zp zn zab zu : List Int32} {zz zaa zo zc ze zq zs zb zx zy zl : Int32} {c0 : ACell} {po : List ACell} : ∀ (n : Nat), ∀ {zw : List Int32} {zg zk v1 : Int32} {w_o_out : List Int32} {w_o_outLen : Int32} {w_o_commitPos : Int32}, f_commitReady_2 za zi zd zh zn zs zb n zw zg zk v1 = some (w_o_out, w_o_outLen, w_o_commitPos) → OEnds own_P 28 2 [qr 1, qi v1] [] (c0 :: bk0 zf za zi zm zd zv zt zr zh zj zp zn zab zw zu zz zaa zo zc ze zq zs zb zx zy zg zk zl po) (none, (c0 :: bk0 zf za zi zm zd zv zt zr zh zj zp zn zab w_o_out zu zz zaa zo zc ze zq zs zb zx zy w_o_outLen w_o_commitPos zl po), 0, 0) := by
  intro n
  induction n with
  | zero => intro zw zg zk v1 w_o_out w_o_outLen w_o_commitPos h; cases h
  | succ n ih =>
    intro zw zg zk v1 w_o_out w_o_outLen w_o_commitPos h
    unfold f_commitReady_2 at h
    refine OEnds.adv hm_28 2 (pc' := 6) (L' := [qr 1, qi v1]) (S' := [.int 240, .int v1]) (H' := (c0 :: bk0 zf za zi zm zd zv zt zr zh zj zp zn zab zw zu zz zaa zo zc ze zq zs zb zx zy zg zk zl po)) rfl ?_
    by_cases hc81 : v1 < (240 : Int32)
    · simp only [if_pos hc81] at h
      refine OEnds.icmpF hm_28 rfl ((tlt hc81).2.1) ?_
      refine OEnds.adv hm_28 2 (pc' := 13) (L' := [qr 1, qi v1]) (S' := [.int zk]) (H' := (c0 :: bk0 zf za zi zm zd zv zt zr zh zj zp zn zab zw zu zz zaa zo zc ze zq zs zb zx zy zg zk zl po)) rfl ?_
      by_cases hc82 : zk < (0 : Int32)
      · simp only [if_pos hc82] at h
        refine OEnds.ifT hm_28 rfl (q := 43) rfl ((tlt hc82).1) ?_
        show OEnds own_P 28 43 [qr 1, qi v1] [] (c0 :: bk0 zf za zi zm zd zv zt zr zh zj zp zn zab zw zu zz zaa zo zc ze zq zs zb zx zy zg zk zl po) _
        cases h
        exact OEnds.vret hm_28 rfl rfl
      · simp only [if_neg hc82] at h
        refine OEnds.ifF hm_28 rfl ((flt hc82).1) ?_
        refine OEnds.adv hm_28 4 (pc' := 24) (L' := [qr 1, qi v1]) (S' := [.int zb, .int zk]) (H' := (c0 :: bk0 zf za zi zm zd zv zt zr zh zj zp zn zab zw zu zz zaa zo zc ze zq zs zb zx zy zg zk zl po)) rfl ?_
        by_cases hc83 : zk < zb
        · simp only [if_pos hc83] at h
          refine OEnds.icmpF hm_28 rfl ((tlt hc83).2.1) ?_
          refine OEnds.adv hm_28 7 (pc' := 40) (L' := [qr 1, qi v1]) (S' := [.int zb, .int (zk + zs)]) (H' := (c0 :: bk0 zf za zi zm zd zv zt zr zh zj zp zn zab zw zu zz zaa zo zc ze zq zs zb zx zy zg zk zl po)) rfl ?_
          by_cases hc84 : zb < (zk + zs)
          · simp only [if_pos hc84] at h
            refine OEnds.icmpF hm_28 rfl ((tlt hc84).2.2.2) ?_
            show OEnds own_P 28 43 [qr 1, qi v1] [] (c0 :: bk0 zf za zi zm zd zv zt zr zh zj zp zn zab zw zu zz zaa zo zc ze zq zs zb zx zy zg zk zl po) _
            cases h
            exact OEnds.vret hm_28 rfl rfl
          · simp only [if_neg hc84] at h
            refine OEnds.icmpT hm_28 rfl (q := 44) rfl ((flt hc84).2.2.2) ?_
            refine OEnds.adv hm_28 3 (pc' := 51) (L' := [qr 1, qi v1]) (S' := [.int 240, .int zg]) (H' := (c0 :: bk0 zf za zi zm zd zv zt zr zh zj zp zn zab zw zu zz zaa zo zc ze zq zs zb zx zy zg zk zl po)) rfl ?_
            by_cases hc85 : zg < (240 : Int32)
            · simp only [if_pos hc85] at h
              refine OEnds.icmpT hm_28 rfl (q := 55) rfl ((tlt hc85).1) ?_
              refine OEnds.adv hm_28 1 (pc' := 56) (L' := [qr 1, qi v1]) (S' := [.ref 1]) (H' := (c0 :: bk0 zf za zi zm zd zv zt zr zh zj zp zn zab zw zu zz zaa zo zc ze zq zs zb zx zy zg zk zl po)) rfl ?_
              obtain ⟨⟨s98, s99, s100⟩, hq86, h⟩ := bnd h
              refine OEnds.call0 hm_28 rfl rfl (by decide) rfl (as := [.ref 1]) (rest := []) rfl rfl (ok_commitOne_0 hq86) ?_
              refine OEnds.adv hm_28 2 (pc' := 2) (L' := [qr 1, qi (v1 + (1 : Int32))]) (S' := []) (H' := (c0 :: bk0 zf za zi zm zd zv zt zr zh zj zp zn zab s98 zu zz zaa zo zc ze zq zs zb zx zy s99 s100 zl po)) rfl ?_
              exact ih h
            · simp only [if_neg hc85] at h
              refine OEnds.icmpF hm_28 rfl ((flt hc85).1) ?_
              show OEnds own_P 28 54 [qr 1, qi v1] [] (c0 :: bk0 zf za zi zm zd zv zt zr zh zj zp zn zab zw zu zz zaa zo zc ze zq zs zb zx zy zg zk zl po) _
              cases h
              exact OEnds.vret hm_28 rfl rfl
        · simp only [if_neg hc83] at h
          refine OEnds.icmpT hm_28 rfl (q := 43) rfl ((flt hc83).2.1) ?_
          show OEnds own_P 28 43 [qr 1, qi v1] [] (c0 :: bk0 zf za zi zm zd zv zt zr zh zj zp zn zab zw zu zz zaa zo zc ze zq zs zb zx zy zg zk zl po) _
          cases h
          exact OEnds.vret hm_28 rfl rfl
    · simp only [if_neg hc81] at h
      refine OEnds.icmpT hm_28 rfl (q := 65) rfl ((flt hc81).2.1) ?_
      show OEnds own_P 28 65 [qr 1, qi v1] [] (c0 :: bk0 zf za zi zm zd zv zt zr zh zj zp zn zab zw zu zz zaa zo zc ze zq zs zb zx zy zg zk zl po) _
      cases h
      exact OEnds.vret hm_28 rfl rfl
theorem ok_commitReady_0 {zf za zi zm zd zv zt zr zh zj zp zn zab zu : List Int32} {zz zaa zo zc ze zq zs zb zx zy zl : Int32} {c0 : ACell} {po : List ACell} {zw : List Int32} {zg zk : Int32} {w_o_out : List Int32} {w_o_outLen w_o_commitPos : Int32} (h : f_commitReady za zi zd zh zn zs zb zw zg zk = some (w_o_out, w_o_outLen, w_o_commitPos)) : OEnds own_P 28 0 [qr 1, qu] [] (c0 :: bk0 zf za zi zm zd zv zt zr zh zj zp zn zab zw zu zz zaa zo zc ze zq zs zb zx zy zg zk zl po) (none, (c0 :: bk0 zf za zi zm zd zv zt zr zh zj zp zn zab w_o_out zu zz zaa zo zc ze zq zs zb zx zy w_o_outLen w_o_commitPos zl po), 0, 0) := by
  unfold f_commitReady at h
  refine OEnds.adv hm_28 2 (pc' := 2) (L' := [qr 1, qi 0]) (S' := []) (H' := (c0 :: bk0 zf za zi zm zd zv zt zr zh zj zp zn zab zw zu zz zaa zo zc ze zq zs zb zx zy zg zk zl po)) rfl ?_
  exact ok_commitReady_2_0 100000 h
theorem ok_rebuildTail_95_0 {zf za zi zm zd zv zt zr zh zj zp zn zab zw : List Int32} {zz zaa zo zc ze zq zs zb zx zy zg zk : Int32} {c0 : ACell} {po : List ACell} {kb : List Int32 → Int32 → Int32 → Int32 → Option (List Int32 × Int32)} (hkb : ∀ {zu : List Int32} {zl v1 v2 : Int32} {d3 : Slot} {w_o_tail : List Int32} {w_o_tailLen : Int32}, kb zu zl v1 v2 = some (w_o_tail, w_o_tailLen) → OEnds own_P 29 12 [qr 1, qi v1, qi v2, d3] [] (c0 :: bk0 zf za zi zm zd zv zt zr zh zj zp zn zab zw zu zz zaa zo zc ze zq zs zb zx zy zg zk zl po) (none, (c0 :: bk0 zf za zi zm zd zv zt zr zh zj zp zn zab zw w_o_tail zz zaa zo zc ze zq zs zb zx zy zg zk w_o_tailLen po), 0, 0)) : ∀ {zu : List Int32} {zl v1 v2 : Int32} {d3 : Slot} {w_o_tail : List Int32} {w_o_tailLen : Int32}, f_rebuildTail_95 kb za zi zd zh zn zb zk zu zl v1 v2 = some (w_o_tail, w_o_tailLen) → OEnds own_P 29 95 [qr 1, qi v1, qi v2, d3] [] (c0 :: bk0 zf za zi zm zd zv zt zr zh zj zp zn zab zw zu zz zaa zo zc ze zq zs zb zx zy zg zk zl po) (none, (c0 :: bk0 zf za zi zm zd zv zt zr zh zj zp zn zab zw w_o_tail zz zaa zo zc ze zq zs zb zx zy zg zk w_o_tailLen po), 0, 0) := by
  intro zu zl v1 v2 d3 w_o_tail w_o_tailLen h
  unfold f_rebuildTail_95 at h
  refine OEnds.adv hm_29 8 (pc' := 12) (L' := [qr 1, qi v1, qi (v2 + (1 : Int32)), qu]) (S' := []) (H' := (c0 :: bk0 zf za zi zm zd zv zt zr zh zj zp zn zab zw zu zz zaa zo zc ze zq zs zb zx zy zg zk (zl + (1 : Int32)) po)) rfl ?_
  exact hkb h
theorem ok_rebuildTail_12_0 {zf za zi zm zd zv zt zr zh zj zp zn zab zw : List Int32} {zz zaa zo zc ze zq zs zb zx zy zg zk : Int32} {c0 : ACell} {po : List ACell} : ∀ (n : Nat), ∀ {zu : List Int32} {zl v1 v2 : Int32} {d3 : Slot} {w_o_tail : List Int32} {w_o_tailLen : Int32}, f_rebuildTail_12 za zi zd zh zn zb zk n zu zl v1 v2 = some (w_o_tail, w_o_tailLen) → OEnds own_P 29 12 [qr 1, qi v1, qi v2, d3] [] (c0 :: bk0 zf za zi zm zd zv zt zr zh zj zp zn zab zw zu zz zaa zo zc ze zq zs zb zx zy zg zk zl po) (none, (c0 :: bk0 zf za zi zm zd zv zt zr zh zj zp zn zab zw w_o_tail zz zaa zo zc ze zq zs zb zx zy zg zk w_o_tailLen po), 0, 0) := by
  intro n
  induction n with
  | zero => intro zu zl v1 v2 d3 w_o_tail w_o_tailLen h; cases h
  | succ n ih =>
    intro zu zl v1 v2 d3 w_o_tail w_o_tailLen h
    unfold f_rebuildTail_12 at h
    refine OEnds.adv hm_29 2 (pc' := 15) (L' := [qr 1, qi v1, qi v2, qu]) (S' := [.int 8, .int v2]) (H' := (c0 :: bk0 zf za zi zm zd zv zt zr zh zj zp zn zab zw zu zz zaa zo zc ze zq zs zb zx zy zg zk zl po)) rfl ?_
    by_cases hc87 : v2 < (8 : Int32)
    · simp only [if_pos hc87] at h
      refine OEnds.icmpF hm_29 rfl ((tlt hc87).2.1) ?_
      refine OEnds.adv hm_29 1 (pc' := 19) (L' := [qr 1, qi v1, qi v2, qu]) (S' := [.int v1]) (H' := (c0 :: bk0 zf za zi zm zd zv zt zr zh zj zp zn zab zw zu zz zaa zo zc ze zq zs zb zx zy zg zk zl po)) rfl ?_
      by_cases hc88 : v1 < (0 : Int32)
      · simp only [if_pos hc88] at h
        refine OEnds.ifT hm_29 rfl (q := 39) rfl ((tlt hc88).1) ?_
        show OEnds own_P 29 39 [qr 1, qi v1, qi v2, qu] [] (c0 :: bk0 zf za zi zm zd zv zt zr zh zj zp zn zab zw zu zz zaa zo zc ze zq zs zb zx zy zg zk zl po) _
        cases h
        exact OEnds.vret hm_29 rfl rfl
      · simp only [if_neg hc88] at h
        refine OEnds.ifF hm_29 rfl ((flt hc88).1) ?_
        refine OEnds.adv hm_29 3 (pc' := 27) (L' := [qr 1, qi v1, qi v2, qu]) (S' := [.int zb, .int v1]) (H' := (c0 :: bk0 zf za zi zm zd zv zt zr zh zj zp zn zab zw zu zz zaa zo zc ze zq zs zb zx zy zg zk zl po)) rfl ?_
        by_cases hc89 : v1 < zb
        · simp only [if_pos hc89] at h
          refine OEnds.icmpF hm_29 rfl ((tlt hc89).2.1) ?_
          refine OEnds.adv hm_29 3 (pc' := 36) (L' := [qr 1, qi v1, qi v2, qu]) (S' := [.int 8, .int zl]) (H' := (c0 :: bk0 zf za zi zm zd zv zt zr zh zj zp zn zab zw zu zz zaa zo zc ze zq zs zb zx zy zg zk zl po)) rfl ?_
          by_cases hc90 : zl < (8 : Int32)
          · simp only [if_pos hc90] at h
            refine OEnds.icmpT hm_29 rfl (q := 40) rfl ((tlt hc90).1) ?_
            refine OEnds.adv hm_29 2 (pc' := 42) (L' := [qr 1, qi v1, qi v2, qu]) (S' := [.int v1, .ref 1]) (H' := (c0 :: bk0 zf za zi zm zd zv zt zr zh zj zp zn zab zw zu zz zaa zo zc ze zq zs zb zx zy zg zk zl po)) rfl ?_
            obtain ⟨r101, hq91, h⟩ := bnd h
            refine OEnds.call0 hm_29 rfl rfl (by decide) rfl (as := [.ref 1, .int v1]) (rest := []) rfl rfl (ok_longestAt_0 hq91) ?_
            refine OEnds.adv hm_29 2 (pc' := 47) (L' := [qr 1, qi v1, qi v2, qi r101]) (S' := [.int r101]) (H' := (c0 :: bk0 zf za zi zm zd zv zt zr zh zj zp zn zab zw zu zz zaa zo zc ze zq zs zb zx zy zg zk zl po)) rfl ?_
            by_cases hc92 : r101 < (0 : Int32)
            · simp only [if_pos hc92] at h
              refine OEnds.ifT hm_29 rfl (q := 77) rfl ((tlt hc92).1) ?_
              refine OEnds.adv hm_29 7 (pc' := 90) (L' := [qr 1, qi v1, qi v2, qi r101]) (S' := [.int v1, .ref 13, .int zl, .ref 16]) (H' := (c0 :: bk0 zf za zi zm zd zv zt zr zh zj zp zn zab zw zu zz zaa zo zc ze zq zs zb zx zy zg zk zl po)) rfl ?_
              obtain ⟨x102, hx102, h⟩ := bnd h
              refine OEnds.plain hm_29 rfl rfl (x_iaload rfl hx102) ?_
              show OEnds own_P 29 91 [qr 1, qi v1, qi v2, qi r101] [.int x102, .int zl, .ref 16] (c0 :: bk0 zf za zi zm zd zv zt zr zh zj zp zn zab zw zu zz zaa zo zc ze zq zs zb zx zy zg zk zl po) _
              obtain ⟨A103, hA103, h⟩ := bnd h
              refine OEnds.plain hm_29 rfl rfl (x_iastore rfl (Nat.le_of_ble_eq_true rfl) hA103) ?_
              refine OEnds.adv hm_29 1 (pc' := 95) (L' := [qr 1, qi (v1 + (1 : Int32)), qi v2, qi r101]) (S' := []) (H' := (c0 :: bk0 zf za zi zm zd zv zt zr zh zj zp zn zab zw A103 zz zaa zo zc ze zq zs zb zx zy zg zk zl po)) rfl ?_
              exact ok_rebuildTail_95_0 ih h
            · simp only [if_neg hc92] at h
              refine OEnds.ifF hm_29 rfl ((flt hc92).1) ?_
              refine OEnds.adv hm_29 7 (pc' := 63) (L' := [qr 1, qi v1, qi v2, qi r101]) (S' := [.int r101, .ref 4, .int zl, .ref 16]) (H' := (c0 :: bk0 zf za zi zm zd zv zt zr zh zj zp zn zab zw zu zz zaa zo zc ze zq zs zb zx zy zg zk zl po)) rfl ?_
              obtain ⟨x104, hx104, h⟩ := bnd h
              refine OEnds.plain hm_29 rfl rfl (x_iaload rfl hx104) ?_
              show OEnds own_P 29 64 [qr 1, qi v1, qi v2, qi r101] [.int x104, .int zl, .ref 16] (c0 :: bk0 zf za zi zm zd zv zt zr zh zj zp zn zab zw zu zz zaa zo zc ze zq zs zb zx zy zg zk zl po) _
              obtain ⟨A105, hA105, h⟩ := bnd h
              refine OEnds.plain hm_29 rfl rfl (x_iastore rfl (Nat.le_of_ble_eq_true rfl) hA105) ?_
              refine OEnds.adv hm_29 4 (pc' := 71) (L' := [qr 1, qi v1, qi v2, qi r101]) (S' := [.int r101, .ref 3, .int v1]) (H' := (c0 :: bk0 zf za zi zm zd zv zt zr zh zj zp zn zab zw A105 zz zaa zo zc ze zq zs zb zx zy zg zk zl po)) rfl ?_
              obtain ⟨x106, hx106, h⟩ := bnd h
              refine OEnds.plain hm_29 rfl rfl (x_iaload rfl hx106) ?_
              refine OEnds.adv hm_29 3 (pc' := 95) (L' := [qr 1, qi (v1 + x106), qi v2, qi r101]) (S' := []) (H' := (c0 :: bk0 zf za zi zm zd zv zt zr zh zj zp zn zab zw A105 zz zaa zo zc ze zq zs zb zx zy zg zk zl po)) rfl ?_
              exact ok_rebuildTail_95_0 ih h
          · simp only [if_neg hc90] at h
            refine OEnds.icmpF hm_29 rfl ((flt hc90).1) ?_
            show OEnds own_P 29 39 [qr 1, qi v1, qi v2, qu] [] (c0 :: bk0 zf za zi zm zd zv zt zr zh zj zp zn zab zw zu zz zaa zo zc ze zq zs zb zx zy zg zk zl po) _
            cases h
            exact OEnds.vret hm_29 rfl rfl
        · simp only [if_neg hc89] at h
          refine OEnds.icmpT hm_29 rfl (q := 39) rfl ((flt hc89).2.1) ?_
          show OEnds own_P 29 39 [qr 1, qi v1, qi v2, qu] [] (c0 :: bk0 zf za zi zm zd zv zt zr zh zj zp zn zab zw zu zz zaa zo zc ze zq zs zb zx zy zg zk zl po) _
          cases h
          exact OEnds.vret hm_29 rfl rfl
    · simp only [if_neg hc87] at h
      refine OEnds.icmpT hm_29 rfl (q := 111) rfl ((flt hc87).2.1) ?_
      show OEnds own_P 29 111 [qr 1, qi v1, qi v2, qu] [] (c0 :: bk0 zf za zi zm zd zv zt zr zh zj zp zn zab zw zu zz zaa zo zc ze zq zs zb zx zy zg zk zl po) _
      cases h
      exact OEnds.vret hm_29 rfl rfl
theorem ok_rebuildTail_0 {zf za zi zm zd zv zt zr zh zj zp zn zab zw : List Int32} {zz zaa zo zc ze zq zs zb zx zy zg zk : Int32} {c0 : ACell} {po : List ACell} {zu : List Int32} {zl : Int32} {w_o_tail : List Int32} {w_o_tailLen : Int32} (h : f_rebuildTail za zi zd zh zn zb zk zu zl = some (w_o_tail, w_o_tailLen)) : OEnds own_P 29 0 [qr 1, qu, qu, qu] [] (c0 :: bk0 zf za zi zm zd zv zt zr zh zj zp zn zab zw zu zz zaa zo zc ze zq zs zb zx zy zg zk zl po) (none, (c0 :: bk0 zf za zi zm zd zv zt zr zh zj zp zn zab zw w_o_tail zz zaa zo zc ze zq zs zb zx zy zg zk w_o_tailLen po), 0, 0) := by
  unfold f_rebuildTail at h
  refine OEnds.adv hm_29 8 (pc' := 12) (L' := [qr 1, qi zk, qi 0, qu]) (S' := []) (H' := (c0 :: bk0 zf za zi zm zd zv zt zr zh zj zp zn zab zw zu zz zaa zo zc ze zq zs zb zx zy zg zk 0 po)) rfl ?_
  exact ok_rebuildTail_12_0 100000 h
theorem ok_feed_0 {zf za zi zm zd zv zt zr zh zj zp : List Int32} {zz zaa zo zc ze zq zs : Int32} {c0 : ACell} {po : List ACell} {zn zab zw zu : List Int32} {zb zx zy zg zk zl v1 res : Int32} {w_o_text w_o_masks w_o_out w_o_tail : List Int32} {w_o_n w_o_state w_o_total w_o_outLen w_o_commitPos w_o_tailLen : Int32} (h : f_feed za zi zd zv zh zj zo zs zn zab zw zu zb zx zy zg zk zl v1 = some (res, w_o_text, w_o_masks, w_o_out, w_o_tail, w_o_n, w_o_state, w_o_total, w_o_outLen, w_o_commitPos, w_o_tailLen)) : OEnds own_P 24 0 [qr 1, qi v1, qu, qu] [] (c0 :: bk0 zf za zi zm zd zv zt zr zh zj zp zn zab zw zu zz zaa zo zc ze zq zs zb zx zy zg zk zl po) (some (.int res), (c0 :: bk0 zf za zi zm zd zv zt zr zh zj zp w_o_text w_o_masks w_o_out w_o_tail zz zaa zo zc ze zq zs w_o_n w_o_state w_o_total w_o_outLen w_o_commitPos w_o_tailLen po), 0, 0) := by
  unfold f_feed at h
  refine OEnds.adv hm_24 3 (pc' := 5) (L' := [qr 1, qi v1, qu, qu]) (S' := [.int 1, .int zo]) (H' := (c0 :: bk0 zf za zi zm zd zv zt zr zh zj zp zn zab zw zu zz zaa zo zc ze zq zs zb zx zy zg zk zl po)) rfl ?_
  by_cases hc93 : zo = (1 : Int32)
  · simp only [if_pos hc93] at h
    refine OEnds.icmpT hm_24 rfl (q := 10) rfl ((teq hc93).1) ?_
    refine OEnds.adv hm_24 2 (pc' := 12) (L' := [qr 1, qi v1, qu, qu]) (S' := [.int v1, .ref 1]) (H' := (c0 :: bk0 zf za zi zm zd zv zt zr zh zj zp zn zab zw zu zz zaa zo zc ze zq zs zb zx zy zg zk zl po)) rfl ?_
    obtain ⟨r107, hq94, h⟩ := bnd h
    refine OEnds.call0 hm_24 rfl rfl (by decide) rfl (as := [.ref 1, .int v1]) (rest := []) rfl rfl (ok_isPrintable_0 hq94) ?_
    show OEnds own_P 24 15 [qr 1, qi v1, qu, qu] [.int r107] (c0 :: bk0 zf za zi zm zd zv zt zr zh zj zp zn zab zw zu zz zaa zo zc ze zq zs zb zx zy zg zk zl po) _
    by_cases hc95 : r107 = (0 : Int32)
    · simp only [if_pos hc95] at h
      refine OEnds.ifF hm_24 rfl ((teq hc95).2) ?_
      refine OEnds.adv hm_24 1 (pc' := 20) (L' := [qr 1, qi v1, qu, qu]) (S' := [.int (-2)]) (H' := (c0 :: bk0 zf za zi zm zd zv zt zr zh zj zp zn zab zw zu zz zaa zo zc ze zq zs zb zx zy zg zk zl po)) rfl ?_
      cases h
      exact OEnds.iret hm_24 rfl rfl
    · simp only [if_neg hc95] at h
      refine OEnds.ifT hm_24 rfl (q := 21) rfl ((feq hc95).2) ?_
      refine OEnds.adv hm_24 3 (pc' := 28) (L' := [qr 1, qi v1, qu, qu]) (S' := [.int 240, .int zb]) (H' := (c0 :: bk0 zf za zi zm zd zv zt zr zh zj zp zn zab zw zu zz zaa zo zc ze zq zs zb zx zy zg zk zl po)) rfl ?_
      by_cases hc96 : zb < (240 : Int32)
      · simp only [if_pos hc96] at h
        refine OEnds.icmpT hm_24 rfl (q := 34) rfl ((tlt hc96).1) ?_
        refine OEnds.adv hm_24 5 (pc' := 41) (L' := [qr 1, qi v1, qu, qu]) (S' := [.int v1, .int zx, .ref 1, .ref 1]) (H' := (c0 :: bk0 zf za zi zm zd zv zt zr zh zj zp zn zab zw zu zz zaa zo zc ze zq zs zb zx zy zg zk zl po)) rfl ?_
        obtain ⟨r108, hq97, h⟩ := bnd h
        refine OEnds.call0 hm_24 rfl rfl (by decide) rfl (as := [.ref 1, .int zx, .int v1]) (rest := [.ref 1]) rfl rfl (ok_nextState_0 hq97) ?_
        refine OEnds.adv hm_24 5 (pc' := 55) (L' := [qr 1, qi v1, qu, qu]) (S' := [.int r108, .ref 11]) (H' := (c0 :: bk0 zf za zi zm zd zv zt zr zh zj zp zn zab zw zu zz zaa zo zc ze zq zs zb r108 zy zg zk zl po)) rfl ?_
        obtain ⟨x109, hx109, h⟩ := bnd h
        refine OEnds.plain hm_24 rfl rfl (x_iaload rfl hx109) ?_
        refine OEnds.adv hm_24 6 (pc' := 66) (L' := [qr 1, qi v1, qi x109, qu]) (S' := [.int v1, .int zb, .ref 13]) (H' := (c0 :: bk0 zf za zi zm zd zv zt zr zh zj zp zn zab zw zu zz zaa zo zc ze zq zs zb r108 zy zg zk zl po)) rfl ?_
        obtain ⟨A110, hA110, h⟩ := bnd h
        refine OEnds.plain hm_24 rfl rfl (x_iastore rfl (Nat.le_of_ble_eq_true rfl) hA110) ?_
        refine OEnds.adv hm_24 5 (pc' := 76) (L' := [qr 1, qi v1, qi x109, qu]) (S' := [.int x109, .int zb, .ref 14]) (H' := (c0 :: bk0 zf za zi zm zd zv zt zr zh zj zp A110 zab zw zu zz zaa zo zc ze zq zs zb r108 zy zg zk zl po)) rfl ?_
        obtain ⟨A111, hA111, h⟩ := bnd h
        refine OEnds.plain hm_24 rfl rfl (x_iastore rfl (Nat.le_of_ble_eq_true rfl) hA111) ?_
        refine OEnds.adv hm_24 8 (pc' := 89) (L' := [qr 1, qi v1, qi x109, qu]) (S' := [.int x109, .ref 1]) (H' := (c0 :: bk0 zf za zi zm zd zv zt zr zh zj zp A110 A111 zw zu zz zaa zo zc ze zq zs (zb + (1 : Int32)) r108 zy zg zk zl po)) rfl ?_
        obtain ⟨r112, hq98, h⟩ := bnd h
        refine OEnds.call0 hm_24 rfl rfl (by decide) rfl (as := [.ref 1, .int x109]) (rest := []) rfl rfl (ok_popCount_0 hq98) ?_
        refine OEnds.adv hm_24 8 (pc' := 104) (L' := [qr 1, qi v1, qi x109, qi r112]) (S' := [.ref 1]) (H' := (c0 :: bk0 zf za zi zm zd zv zt zr zh zj zp A110 A111 zw zu zz zaa zo zc ze zq zs (zb + (1 : Int32)) r108 (zy + r112) zg zk zl po)) rfl ?_
        obtain ⟨⟨s113, s114, s115⟩, hq99, h⟩ := bnd h
        refine OEnds.call0 hm_24 rfl rfl (by decide) rfl (as := [.ref 1]) (rest := []) rfl rfl (ok_commitReady_0 hq99) ?_
        refine OEnds.adv hm_24 1 (pc' := 108) (L' := [qr 1, qi v1, qi x109, qi r112]) (S' := [.ref 1]) (H' := (c0 :: bk0 zf za zi zm zd zv zt zr zh zj zp A110 A111 s113 zu zz zaa zo zc ze zq zs (zb + (1 : Int32)) r108 (zy + r112) s114 s115 zl po)) rfl ?_
        obtain ⟨⟨s116, s117⟩, hq100, h⟩ := bnd h
        refine OEnds.call0 hm_24 rfl rfl (by decide) rfl (as := [.ref 1]) (rest := []) rfl rfl (ok_rebuildTail_0 hq100) ?_
        refine OEnds.adv hm_24 1 (pc' := 112) (L' := [qr 1, qi v1, qi x109, qi r112]) (S' := [.int r112]) (H' := (c0 :: bk0 zf za zi zm zd zv zt zr zh zj zp A110 A111 s113 s116 zz zaa zo zc ze zq zs (zb + (1 : Int32)) r108 (zy + r112) s114 s115 s117 po)) rfl ?_
        cases h
        exact OEnds.iret hm_24 rfl rfl
      · simp only [if_neg hc96] at h
        refine OEnds.icmpF hm_24 rfl ((flt hc96).1) ?_
        refine OEnds.adv hm_24 1 (pc' := 33) (L' := [qr 1, qi v1, qu, qu]) (S' := [.int (-3)]) (H' := (c0 :: bk0 zf za zi zm zd zv zt zr zh zj zp zn zab zw zu zz zaa zo zc ze zq zs zb zx zy zg zk zl po)) rfl ?_
        cases h
        exact OEnds.iret hm_24 rfl rfl
  · simp only [if_neg hc93] at h
    refine OEnds.icmpF hm_24 rfl ((feq hc93).1) ?_
    refine OEnds.adv hm_24 1 (pc' := 9) (L' := [qr 1, qi v1, qu, qu]) (S' := [.int (-1)]) (H' := (c0 :: bk0 zf za zi zm zd zv zt zr zh zj zp zn zab zw zu zz zaa zo zc ze zq zs zb zx zy zg zk zl po)) rfl ?_
    cases h
    exact OEnds.iret hm_24 rfl rfl
theorem ok_phase_0 {zf za zi zm zd zv zt zr zh zj zp zn zab zw zu : List Int32} {zz zaa zo zc ze zq zs zb zx zy zg zk zl : Int32} {c0 : ACell} {po : List ACell} {res : Int32} (h : f_phase zo = some res) : OEnds own_P 14 0 [qr 1] [] (c0 :: bk0 zf za zi zm zd zv zt zr zh zj zp zn zab zw zu zz zaa zo zc ze zq zs zb zx zy zg zk zl po) (some (.int res), (c0 :: bk0 zf za zi zm zd zv zt zr zh zj zp zn zab zw zu zz zaa zo zc ze zq zs zb zx zy zg zk zl po), 0, 0) := by
  unfold f_phase at h
  refine OEnds.adv hm_14 2 (pc' := 4) (L' := [qr 1]) (S' := [.int zo]) (H' := (c0 :: bk0 zf za zi zm zd zv zt zr zh zj zp zn zab zw zu zz zaa zo zc ze zq zs zb zx zy zg zk zl po)) rfl ?_
  cases h
  exact OEnds.iret hm_14 rfl rfl
theorem ok_clearText_1 {zf za zi zm zd zv zt zr zh zj zp zn zab zw zu : List Int32} {zz zaa zo zc ze zq zs : Int32} {c0 c1 c2 c3 c4 c5 c6 c7 c8 c9 c10 c11 c12 c13 c14 c15 c16 : ACell} {po : List ACell} {zb zx zy zg zk zl w_o_n w_o_state w_o_total w_o_outLen w_o_commitPos w_o_tailLen : Int32} (h : f_clearText zb zx zy zg zk zl = some (w_o_n, w_o_state, w_o_total, w_o_outLen, w_o_commitPos, w_o_tailLen)) : OEnds own_P 2 0 [qr 17] [] (c0 :: c1 :: c2 :: c3 :: c4 :: c5 :: c6 :: c7 :: c8 :: c9 :: c10 :: c11 :: c12 :: c13 :: c14 :: c15 :: c16 :: bk1 zf za zi zm zd zv zt zr zh zj zp zn zab zw zu zz zaa zo zc ze zq zs zb zx zy zg zk zl po) (none, (c0 :: c1 :: c2 :: c3 :: c4 :: c5 :: c6 :: c7 :: c8 :: c9 :: c10 :: c11 :: c12 :: c13 :: c14 :: c15 :: c16 :: bk1 zf za zi zm zd zv zt zr zh zj zp zn zab zw zu zz zaa zo zc ze zq zs w_o_n w_o_state w_o_total w_o_outLen w_o_commitPos w_o_tailLen po), 0, 0) := by
  unfold f_clearText at h
  refine OEnds.adv hm_2 18 (pc' := 30) (L' := [qr 17]) (S' := []) (H' := (c0 :: c1 :: c2 :: c3 :: c4 :: c5 :: c6 :: c7 :: c8 :: c9 :: c10 :: c11 :: c12 :: c13 :: c14 :: c15 :: c16 :: bk1 zf za zi zm zd zv zt zr zh zj zp zn zab zw zu zz zaa zo zc ze zq zs 0 0 0 0 0 0 po)) rfl ?_
  cases h
  exact OEnds.vret hm_2 rfl rfl
theorem ok_init_237_1 {c0 c1 c2 c3 c4 c5 c6 c7 c8 c9 c10 c11 c12 c13 c14 c15 c16 : ACell} : ∀ {zf za zi zm zd zv zt zr zh zj zp zn zab zw zu : List Int32} {zz zaa zo zc ze zq zs zb zx zy zg zk zl : Int32} {d1 d2 d3 d4 d5 : Slot} {w_o_kwChars w_o_kwLen w_o_kwRepl w_o_pend w_o_child w_o_delta w_o_fail w_o_depth w_o_term w_o_outMask w_o_queue w_o_text w_o_masks w_o_out w_o_tail : List Int32} {w_o_maxKw w_o_maxLen w_o_phaseNow w_o_count w_o_pendLen w_o_nodeCount w_o_longestKw w_o_n w_o_state w_o_total w_o_outLen w_o_commitPos : Int32} {w_o_tailLen : Int32}, f_init_237 zf za zi zm zd zv zt zr zh zj zp zn zab zw zu zz zaa zo zc ze zq zs zb zx zy zg zk zl = some (w_o_kwChars, w_o_kwLen, w_o_kwRepl, w_o_pend, w_o_child, w_o_delta, w_o_fail, w_o_depth, w_o_term, w_o_outMask, w_o_queue, w_o_text, w_o_masks, w_o_out, w_o_tail, w_o_maxKw, w_o_maxLen, w_o_phaseNow, w_o_count, w_o_pendLen, w_o_nodeCount, w_o_longestKw, w_o_n, w_o_state, w_o_total, w_o_outLen, w_o_commitPos, w_o_tailLen) → OEnds own_P 1 237 [qr 17, d1, d2, d3, d4, d5] [] (c0 :: c1 :: c2 :: c3 :: c4 :: c5 :: c6 :: c7 :: c8 :: c9 :: c10 :: c11 :: c12 :: c13 :: c14 :: c15 :: c16 :: bk1 zf za zi zm zd zv zt zr zh zj zp zn zab zw zu zz zaa zo zc ze zq zs zb zx zy zg zk zl []) (none, (c0 :: c1 :: c2 :: c3 :: c4 :: c5 :: c6 :: c7 :: c8 :: c9 :: c10 :: c11 :: c12 :: c13 :: c14 :: c15 :: c16 :: bk1 w_o_kwChars w_o_kwLen w_o_kwRepl w_o_pend w_o_child w_o_delta w_o_fail w_o_depth w_o_term w_o_outMask w_o_queue w_o_text w_o_masks w_o_out w_o_tail w_o_maxKw w_o_maxLen w_o_phaseNow w_o_count w_o_pendLen w_o_nodeCount w_o_longestKw w_o_n w_o_state w_o_total w_o_outLen w_o_commitPos w_o_tailLen []), 0, 0) := by
  intro zf za zi zm zd zv zt zr zh zj zp zn zab zw zu zz zaa zo zc ze zq zs zb zx zy zg zk zl d1 d2 d3 d4 d5 w_o_kwChars w_o_kwLen w_o_kwRepl w_o_pend w_o_child w_o_delta w_o_fail w_o_depth w_o_term w_o_outMask w_o_queue w_o_text w_o_masks w_o_out w_o_tail w_o_maxKw w_o_maxLen w_o_phaseNow w_o_count w_o_pendLen w_o_nodeCount w_o_longestKw w_o_n w_o_state w_o_total w_o_outLen w_o_commitPos w_o_tailLen h
  unfold f_init_237 at h
  refine OEnds.adv hm_1 1 (pc' := 238) (L' := [qr 17, qu, qu, qu, qu, qu]) (S' := [.ref 17]) (H' := (c0 :: c1 :: c2 :: c3 :: c4 :: c5 :: c6 :: c7 :: c8 :: c9 :: c10 :: c11 :: c12 :: c13 :: c14 :: c15 :: c16 :: bk1 zf za zi zm zd zv zt zr zh zj zp zn zab zw zu zz zaa zo zc ze zq zs zb zx zy zg zk zl [])) rfl ?_
  obtain ⟨⟨s2, s3, s4, s5, s6, s7⟩, hq101, h⟩ := bnd h
  refine OEnds.call0 hm_1 rfl rfl (by decide) rfl (as := [.ref 17]) (rest := []) rfl rfl (ok_clearText_1 hq101) ?_
  show OEnds own_P 1 241 [qr 17, qu, qu, qu, qu, qu] [] (c0 :: c1 :: c2 :: c3 :: c4 :: c5 :: c6 :: c7 :: c8 :: c9 :: c10 :: c11 :: c12 :: c13 :: c14 :: c15 :: c16 :: bk1 zf za zi zm zd zv zt zr zh zj zp zn zab zw zu zz zaa zo zc ze zq zs s2 s3 s4 s5 s6 s7 []) _
  cases h
  exact OEnds.vret hm_1 rfl rfl
theorem ok_init_215_1 {c0 c1 c2 c3 c4 c5 c6 c7 c8 c9 c10 c11 c12 c13 c14 c15 c16 : ACell} {k237 : List Int32 → List Int32 → List Int32 → List Int32 → List Int32 → List Int32 → List Int32 → List Int32 → List Int32 → List Int32 → List Int32 → List Int32 → List Int32 → List Int32 → List Int32 → Int32 → Int32 → Int32 → Int32 → Int32 → Int32 → Int32 → Int32 → Int32 → Int32 → Int32 → Int32 → Int32 → Option (List Int32 × List Int32 × List Int32 × List Int32 × List Int32 × List Int32 × List Int32 × List Int32 × List Int32 × List Int32 × List Int32 × List Int32 × List Int32 × List Int32 × List Int32 × Int32 × Int32 × Int32 × Int32 × Int32 × Int32 × Int32 × Int32 × Int32 × Int32 × Int32 × Int32 × Int32)} (hk237 : ∀ {zf za zi zm zd zv zt zr zh zj zp zn zab zw zu : List Int32} {zz zaa zo zc ze zq zs zb zx zy zg zk zl : Int32} {d1 d2 d3 d4 d5 : Slot} {w_o_kwChars w_o_kwLen w_o_kwRepl w_o_pend w_o_child w_o_delta w_o_fail w_o_depth w_o_term w_o_outMask w_o_queue w_o_text w_o_masks w_o_out w_o_tail : List Int32} {w_o_maxKw w_o_maxLen w_o_phaseNow w_o_count w_o_pendLen w_o_nodeCount w_o_longestKw w_o_n w_o_state w_o_total w_o_outLen w_o_commitPos : Int32} {w_o_tailLen : Int32}, k237 zf za zi zm zd zv zt zr zh zj zp zn zab zw zu zz zaa zo zc ze zq zs zb zx zy zg zk zl = some (w_o_kwChars, w_o_kwLen, w_o_kwRepl, w_o_pend, w_o_child, w_o_delta, w_o_fail, w_o_depth, w_o_term, w_o_outMask, w_o_queue, w_o_text, w_o_masks, w_o_out, w_o_tail, w_o_maxKw, w_o_maxLen, w_o_phaseNow, w_o_count, w_o_pendLen, w_o_nodeCount, w_o_longestKw, w_o_n, w_o_state, w_o_total, w_o_outLen, w_o_commitPos, w_o_tailLen) → OEnds own_P 1 237 [qr 17, d1, d2, d3, d4, d5] [] (c0 :: c1 :: c2 :: c3 :: c4 :: c5 :: c6 :: c7 :: c8 :: c9 :: c10 :: c11 :: c12 :: c13 :: c14 :: c15 :: c16 :: bk1 zf za zi zm zd zv zt zr zh zj zp zn zab zw zu zz zaa zo zc ze zq zs zb zx zy zg zk zl []) (none, (c0 :: c1 :: c2 :: c3 :: c4 :: c5 :: c6 :: c7 :: c8 :: c9 :: c10 :: c11 :: c12 :: c13 :: c14 :: c15 :: c16 :: bk1 w_o_kwChars w_o_kwLen w_o_kwRepl w_o_pend w_o_child w_o_delta w_o_fail w_o_depth w_o_term w_o_outMask w_o_queue w_o_text w_o_masks w_o_out w_o_tail w_o_maxKw w_o_maxLen w_o_phaseNow w_o_count w_o_pendLen w_o_nodeCount w_o_longestKw w_o_n w_o_state w_o_total w_o_outLen w_o_commitPos w_o_tailLen []), 0, 0)) : ∀ (n : Nat), ∀ {zf za zi zm zd zv zt zr zh zj zp zn zab zw zu : List Int32} {zz zaa zo zc ze zq zs zb zx zy zg zk zl v5 : Int32} {d1 d2 d3 d4 : Slot} {w_o_kwChars w_o_kwLen w_o_kwRepl w_o_pend w_o_child w_o_delta w_o_fail w_o_depth w_o_term w_o_outMask w_o_queue w_o_text w_o_masks w_o_out w_o_tail : List Int32} {w_o_maxKw w_o_maxLen w_o_phaseNow w_o_count w_o_pendLen w_o_nodeCount w_o_longestKw w_o_n w_o_state w_o_total w_o_outLen w_o_commitPos : Int32} {w_o_tailLen : Int32}, f_init_215 k237 n zf za zi zm zd zv zt zr zh zj zp zn zab zw zu zz zaa zo zc ze zq zs zb zx zy zg zk zl v5 = some (w_o_kwChars, w_o_kwLen, w_o_kwRepl, w_o_pend, w_o_child, w_o_delta, w_o_fail, w_o_depth, w_o_term, w_o_outMask, w_o_queue, w_o_text, w_o_masks, w_o_out, w_o_tail, w_o_maxKw, w_o_maxLen, w_o_phaseNow, w_o_count, w_o_pendLen, w_o_nodeCount, w_o_longestKw, w_o_n, w_o_state, w_o_total, w_o_outLen, w_o_commitPos, w_o_tailLen) → OEnds own_P 1 215 [qr 17, d1, d2, d3, d4, qi v5] [] (c0 :: c1 :: c2 :: c3 :: c4 :: c5 :: c6 :: c7 :: c8 :: c9 :: c10 :: c11 :: c12 :: c13 :: c14 :: c15 :: c16 :: bk1 zf za zi zm zd zv zt zr zh zj zp zn zab zw zu zz zaa zo zc ze zq zs zb zx zy zg zk zl []) (none, (c0 :: c1 :: c2 :: c3 :: c4 :: c5 :: c6 :: c7 :: c8 :: c9 :: c10 :: c11 :: c12 :: c13 :: c14 :: c15 :: c16 :: bk1 w_o_kwChars w_o_kwLen w_o_kwRepl w_o_pend w_o_child w_o_delta w_o_fail w_o_depth w_o_term w_o_outMask w_o_queue w_o_text w_o_masks w_o_out w_o_tail w_o_maxKw w_o_maxLen w_o_phaseNow w_o_count w_o_pendLen w_o_nodeCount w_o_longestKw w_o_n w_o_state w_o_total w_o_outLen w_o_commitPos w_o_tailLen []), 0, 0) := by
  intro n
  induction n with
  | zero => intro zf za zi zm zd zv zt zr zh zj zp zn zab zw zu zz zaa zo zc ze zq zs zb zx zy zg zk zl v5 d1 d2 d3 d4 w_o_kwChars w_o_kwLen w_o_kwRepl w_o_pend w_o_child w_o_delta w_o_fail w_o_depth w_o_term w_o_outMask w_o_queue w_o_text w_o_masks w_o_out w_o_tail w_o_maxKw w_o_maxLen w_o_phaseNow w_o_count w_o_pendLen w_o_nodeCount w_o_longestKw w_o_n w_o_state w_o_total w_o_outLen w_o_commitPos w_o_tailLen h; cases h
  | succ n ih =>
    intro zf za zi zm zd zv zt zr zh zj zp zn zab zw zu zz zaa zo zc ze zq zs zb zx zy zg zk zl v5 d1 d2 d3 d4 w_o_kwChars w_o_kwLen w_o_kwRepl w_o_pend w_o_child w_o_delta w_o_fail w_o_depth w_o_term w_o_outMask w_o_queue w_o_text w_o_masks w_o_out w_o_tail w_o_maxKw w_o_maxLen w_o_phaseNow w_o_count w_o_pendLen w_o_nodeCount w_o_longestKw w_o_n w_o_state w_o_total w_o_outLen w_o_commitPos w_o_tailLen h
    unfold f_init_215 at h
    refine OEnds.adv hm_1 2 (pc' := 220) (L' := [qr 17, qu, qu, qu, qu, qi v5]) (S' := [.int 129, .int v5]) (H' := (c0 :: c1 :: c2 :: c3 :: c4 :: c5 :: c6 :: c7 :: c8 :: c9 :: c10 :: c11 :: c12 :: c13 :: c14 :: c15 :: c16 :: bk1 zf za zi zm zd zv zt zr zh zj zp zn zab zw zu zz zaa zo zc ze zq zs zb zx zy zg zk zl [])) rfl ?_
    by_cases hc102 : v5 < (129 : Int32)
    · simp only [if_pos hc102] at h
      refine OEnds.icmpF hm_1 rfl ((tlt hc102).2.1) ?_
      refine OEnds.adv hm_1 4 (pc' := 230) (L' := [qr 17, qu, qu, qu, qu, qi v5]) (S' := [.int (-1), .int v5, .ref 26]) (H' := (c0 :: c1 :: c2 :: c3 :: c4 :: c5 :: c6 :: c7 :: c8 :: c9 :: c10 :: c11 :: c12 :: c13 :: c14 :: c15 :: c16 :: bk1 zf za zi zm zd zv zt zr zh zj zp zn zab zw zu zz zaa zo zc ze zq zs zb zx zy zg zk zl [])) rfl ?_
      obtain ⟨A1, hA1, h⟩ := bnd h
      refine OEnds.plain hm_1 rfl rfl (x_iastore rfl (Nat.le_of_ble_eq_true rfl) hA1) ?_
      refine OEnds.adv hm_1 2 (pc' := 215) (L' := [qr 17, qu, qu, qu, qu, qi (v5 + (1 : Int32))]) (S' := []) (H' := (c0 :: c1 :: c2 :: c3 :: c4 :: c5 :: c6 :: c7 :: c8 :: c9 :: c10 :: c11 :: c12 :: c13 :: c14 :: c15 :: c16 :: bk1 zf za zi zm zd zv zt zr A1 zj zp zn zab zw zu zz zaa zo zc ze zq zs zb zx zy zg zk zl [])) rfl ?_
      exact ih h
    · simp only [if_neg hc102] at h
      refine OEnds.icmpT hm_1 rfl (q := 237) rfl ((flt hc102).2.1) ?_
      show OEnds own_P 1 237 [qr 17, qu, qu, qu, qu, qi v5] [] (c0 :: c1 :: c2 :: c3 :: c4 :: c5 :: c6 :: c7 :: c8 :: c9 :: c10 :: c11 :: c12 :: c13 :: c14 :: c15 :: c16 :: bk1 zf za zi zm zd zv zt zr zh zj zp zn zab zw zu zz zaa zo zc ze zq zs zb zx zy zg zk zl []) _
      exact hk237 h
theorem ok_init_176_1 {c0 c1 c2 c3 c4 c5 c6 c7 c8 c9 c10 c11 c12 c13 c14 c15 c16 : ACell} : ∀ {zf za zi zm zd zv zt zr zh zj zp zn zab zw zu : List Int32} {zz zaa zo zc ze zq zs zb zx zy zg zk zl v3 v4 : Int32} {d1 d2 d5 : Slot} {w_o_kwChars w_o_kwLen w_o_kwRepl w_o_pend w_o_child w_o_delta w_o_fail w_o_depth w_o_term w_o_outMask w_o_queue w_o_text w_o_masks w_o_out w_o_tail : List Int32} {w_o_maxKw w_o_maxLen w_o_phaseNow w_o_count w_o_pendLen w_o_nodeCount w_o_longestKw w_o_n w_o_state w_o_total w_o_outLen w_o_commitPos : Int32} {w_o_tailLen : Int32}, f_init_176 zf za zi zm zd zv zt zr zh zj zp zn zab zw zu zz zaa zo zc ze zq zs zb zx zy zg zk zl v3 v4 = some (w_o_kwChars, w_o_kwLen, w_o_kwRepl, w_o_pend, w_o_child, w_o_delta, w_o_fail, w_o_depth, w_o_term, w_o_outMask, w_o_queue, w_o_text, w_o_masks, w_o_out, w_o_tail, w_o_maxKw, w_o_maxLen, w_o_phaseNow, w_o_count, w_o_pendLen, w_o_nodeCount, w_o_longestKw, w_o_n, w_o_state, w_o_total, w_o_outLen, w_o_commitPos, w_o_tailLen) → OEnds own_P 1 176 [qr 17, d1, d2, qi v3, qi v4, d5] [] (c0 :: c1 :: c2 :: c3 :: c4 :: c5 :: c6 :: c7 :: c8 :: c9 :: c10 :: c11 :: c12 :: c13 :: c14 :: c15 :: c16 :: bk1 zf za zi zm zd zv zt zr zh zj zp zn zab zw zu zz zaa zo zc ze zq zs zb zx zy zg zk zl []) (none, (c0 :: c1 :: c2 :: c3 :: c4 :: c5 :: c6 :: c7 :: c8 :: c9 :: c10 :: c11 :: c12 :: c13 :: c14 :: c15 :: c16 :: bk1 w_o_kwChars w_o_kwLen w_o_kwRepl w_o_pend w_o_child w_o_delta w_o_fail w_o_depth w_o_term w_o_outMask w_o_queue w_o_text w_o_masks w_o_out w_o_tail w_o_maxKw w_o_maxLen w_o_phaseNow w_o_count w_o_pendLen w_o_nodeCount w_o_longestKw w_o_n w_o_state w_o_total w_o_outLen w_o_commitPos w_o_tailLen []), 0, 0) := by
  intro zf za zi zm zd zv zt zr zh zj zp zn zab zw zu zz zaa zo zc ze zq zs zb zx zy zg zk zl v3 v4 d1 d2 d5 w_o_kwChars w_o_kwLen w_o_kwRepl w_o_pend w_o_child w_o_delta w_o_fail w_o_depth w_o_term w_o_outMask w_o_queue w_o_text w_o_masks w_o_out w_o_tail w_o_maxKw w_o_maxLen w_o_phaseNow w_o_count w_o_pendLen w_o_nodeCount w_o_longestKw w_o_n w_o_state w_o_total w_o_outLen w_o_commitPos w_o_tailLen h
  unfold f_init_176 at h
  refine OEnds.adv hm_1 23 (pc' := 215) (L' := [qr 17, qu, qu, qi v3, qi v4, qi 0]) (S' := []) (H' := (c0 :: c1 :: c2 :: c3 :: c4 :: c5 :: c6 :: c7 :: c8 :: c9 :: c10 :: c11 :: c12 :: c13 :: c14 :: c15 :: c16 :: bk1 zf za zi zm zd zv zt zr zh zj zp zn zab zw zu v3 v4 0 0 0 1 1 zb zx zy zg zk zl [])) rfl ?_
  exact ok_init_215_1 (k237 := f_init_237) ok_init_237_1 100000 h
theorem ok_init_165_1 {c0 c1 c2 c3 c4 c5 c6 c7 c8 c9 c10 c11 c12 c13 c14 c15 c16 : ACell} : ∀ {zf za zi zm zd zv zt zr zh zj zp zn zab zw zu : List Int32} {zz zaa zo zc ze zq zs zb zx zy zg zk zl v3 v4 : Int32} {d1 d2 d5 : Slot} {w_o_kwChars w_o_kwLen w_o_kwRepl w_o_pend w_o_child w_o_delta w_o_fail w_o_depth w_o_term w_o_outMask w_o_queue w_o_text w_o_masks w_o_out w_o_tail : List Int32} {w_o_maxKw w_o_maxLen w_o_phaseNow w_o_count w_o_pendLen w_o_nodeCount w_o_longestKw w_o_n w_o_state w_o_total w_o_outLen w_o_commitPos : Int32} {w_o_tailLen : Int32}, f_init_165 zf za zi zm zd zv zt zr zh zj zp zn zab zw zu zz zaa zo zc ze zq zs zb zx zy zg zk zl v3 v4 = some (w_o_kwChars, w_o_kwLen, w_o_kwRepl, w_o_pend, w_o_child, w_o_delta, w_o_fail, w_o_depth, w_o_term, w_o_outMask, w_o_queue, w_o_text, w_o_masks, w_o_out, w_o_tail, w_o_maxKw, w_o_maxLen, w_o_phaseNow, w_o_count, w_o_pendLen, w_o_nodeCount, w_o_longestKw, w_o_n, w_o_state, w_o_total, w_o_outLen, w_o_commitPos, w_o_tailLen) → OEnds own_P 1 165 [qr 17, d1, d2, qi v3, qi v4, d5] [] (c0 :: c1 :: c2 :: c3 :: c4 :: c5 :: c6 :: c7 :: c8 :: c9 :: c10 :: c11 :: c12 :: c13 :: c14 :: c15 :: c16 :: bk1 zf za zi zm zd zv zt zr zh zj zp zn zab zw zu zz zaa zo zc ze zq zs zb zx zy zg zk zl []) (none, (c0 :: c1 :: c2 :: c3 :: c4 :: c5 :: c6 :: c7 :: c8 :: c9 :: c10 :: c11 :: c12 :: c13 :: c14 :: c15 :: c16 :: bk1 w_o_kwChars w_o_kwLen w_o_kwRepl w_o_pend w_o_child w_o_delta w_o_fail w_o_depth w_o_term w_o_outMask w_o_queue w_o_text w_o_masks w_o_out w_o_tail w_o_maxKw w_o_maxLen w_o_phaseNow w_o_count w_o_pendLen w_o_nodeCount w_o_longestKw w_o_n w_o_state w_o_total w_o_outLen w_o_commitPos w_o_tailLen []), 0, 0) := by
  intro zf za zi zm zd zv zt zr zh zj zp zn zab zw zu zz zaa zo zc ze zq zs zb zx zy zg zk zl v3 v4 d1 d2 d5 w_o_kwChars w_o_kwLen w_o_kwRepl w_o_pend w_o_child w_o_delta w_o_fail w_o_depth w_o_term w_o_outMask w_o_queue w_o_text w_o_masks w_o_out w_o_tail w_o_maxKw w_o_maxLen w_o_phaseNow w_o_count w_o_pendLen w_o_nodeCount w_o_longestKw w_o_n w_o_state w_o_total w_o_outLen w_o_commitPos w_o_tailLen h
  unfold f_init_165 at h
  refine OEnds.adv hm_1 2 (pc' := 169) (L' := [qr 17, qu, qu, qi v3, qi v4, qu]) (S' := [.int 8, .int v4]) (H' := (c0 :: c1 :: c2 :: c3 :: c4 :: c5 :: c6 :: c7 :: c8 :: c9 :: c10 :: c11 :: c12 :: c13 :: c14 :: c15 :: c16 :: bk1 zf za zi zm zd zv zt zr zh zj zp zn zab zw zu zz zaa zo zc ze zq zs zb zx zy zg zk zl [])) rfl ?_
  by_cases hc103 : (8 : Int32) < v4
  · simp only [if_pos hc103] at h
    refine OEnds.icmpF hm_1 rfl ((tlt hc103).2.2.2) ?_
    refine OEnds.adv hm_1 2 (pc' := 176) (L' := [qr 17, qu, qu, qi v3, qi 8, qu]) (S' := []) (H' := (c0 :: c1 :: c2 :: c3 :: c4 :: c5 :: c6 :: c7 :: c8 :: c9 :: c10 :: c11 :: c12 :: c13 :: c14 :: c15 :: c16 :: bk1 zf za zi zm zd zv zt zr zh zj zp zn zab zw zu zz zaa zo zc ze zq zs zb zx zy zg zk zl [])) rfl ?_
    exact ok_init_176_1 h
  · simp only [if_neg hc103] at h
    refine OEnds.icmpT hm_1 rfl (q := 176) rfl ((flt hc103).2.2.2) ?_
    show OEnds own_P 1 176 [qr 17, qu, qu, qi v3, qi v4, qu] [] (c0 :: c1 :: c2 :: c3 :: c4 :: c5 :: c6 :: c7 :: c8 :: c9 :: c10 :: c11 :: c12 :: c13 :: c14 :: c15 :: c16 :: bk1 zf za zi zm zd zv zt zr zh zj zp zn zab zw zu zz zaa zo zc ze zq zs zb zx zy zg zk zl []) _
    exact ok_init_176_1 h
theorem ok_init_153_1 {c0 c1 c2 c3 c4 c5 c6 c7 c8 c9 c10 c11 c12 c13 c14 c15 c16 : ACell} : ∀ {zf za zi zm zd zv zt zr zh zj zp zn zab zw zu : List Int32} {zz zaa zo zc ze zq zs zb zx zy zg zk zl v2 v3 : Int32} {d1 d4 d5 : Slot} {w_o_kwChars w_o_kwLen w_o_kwRepl w_o_pend w_o_child w_o_delta w_o_fail w_o_depth w_o_term w_o_outMask w_o_queue w_o_text w_o_masks w_o_out w_o_tail : List Int32} {w_o_maxKw w_o_maxLen w_o_phaseNow w_o_count w_o_pendLen w_o_nodeCount w_o_longestKw w_o_n w_o_state w_o_total w_o_outLen w_o_commitPos : Int32} {w_o_tailLen : Int32}, f_init_153 zf za zi zm zd zv zt zr zh zj zp zn zab zw zu zz zaa zo zc ze zq zs zb zx zy zg zk zl v2 v3 = some (w_o_kwChars, w_o_kwLen, w_o_kwRepl, w_o_pend, w_o_child, w_o_delta, w_o_fail, w_o_depth, w_o_term, w_o_outMask, w_o_queue, w_o_text, w_o_masks, w_o_out, w_o_tail, w_o_maxKw, w_o_maxLen, w_o_phaseNow, w_o_count, w_o_pendLen, w_o_nodeCount, w_o_longestKw, w_o_n, w_o_state, w_o_total, w_o_outLen, w_o_commitPos, w_o_tailLen) → OEnds own_P 1 153 [qr 17, d1, qi v2, qi v3, d4, d5] [] (c0 :: c1 :: c2 :: c3 :: c4 :: c5 :: c6 :: c7 :: c8 :: c9 :: c10 :: c11 :: c12 :: c13 :: c14 :: c15 :: c16 :: bk1 zf za zi zm zd zv zt zr zh zj zp zn zab zw zu zz zaa zo zc ze zq zs zb zx zy zg zk zl []) (none, (c0 :: c1 :: c2 :: c3 :: c4 :: c5 :: c6 :: c7 :: c8 :: c9 :: c10 :: c11 :: c12 :: c13 :: c14 :: c15 :: c16 :: bk1 w_o_kwChars w_o_kwLen w_o_kwRepl w_o_pend w_o_child w_o_delta w_o_fail w_o_depth w_o_term w_o_outMask w_o_queue w_o_text w_o_masks w_o_out w_o_tail w_o_maxKw w_o_maxLen w_o_phaseNow w_o_count w_o_pendLen w_o_nodeCount w_o_longestKw w_o_n w_o_state w_o_total w_o_outLen w_o_commitPos w_o_tailLen []), 0, 0) := by
  intro zf za zi zm zd zv zt zr zh zj zp zn zab zw zu zz zaa zo zc ze zq zs zb zx zy zg zk zl v2 v3 d1 d4 d5 w_o_kwChars w_o_kwLen w_o_kwRepl w_o_pend w_o_child w_o_delta w_o_fail w_o_depth w_o_term w_o_outMask w_o_queue w_o_text w_o_masks w_o_out w_o_tail w_o_maxKw w_o_maxLen w_o_phaseNow w_o_count w_o_pendLen w_o_nodeCount w_o_longestKw w_o_n w_o_state w_o_total w_o_outLen w_o_commitPos w_o_tailLen h
  unfold f_init_153 at h
  refine OEnds.adv hm_1 4 (pc' := 159) (L' := [qr 17, qu, qi v2, qi v3, qi v2, qu]) (S' := [.int 1, .int v2]) (H' := (c0 :: c1 :: c2 :: c3 :: c4 :: c5 :: c6 :: c7 :: c8 :: c9 :: c10 :: c11 :: c12 :: c13 :: c14 :: c15 :: c16 :: bk1 zf za zi zm zd zv zt zr zh zj zp zn zab zw zu zz zaa zo zc ze zq zs zb zx zy zg zk zl [])) rfl ?_
  by_cases hc104 : v2 < (1 : Int32)
  · simp only [if_pos hc104] at h
    refine OEnds.icmpF hm_1 rfl ((tlt hc104).2.1) ?_
    refine OEnds.adv hm_1 2 (pc' := 165) (L' := [qr 17, qu, qi v2, qi v3, qi 1, qu]) (S' := []) (H' := (c0 :: c1 :: c2 :: c3 :: c4 :: c5 :: c6 :: c7 :: c8 :: c9 :: c10 :: c11 :: c12 :: c13 :: c14 :: c15 :: c16 :: bk1 zf za zi zm zd zv zt zr zh zj zp zn zab zw zu zz zaa zo zc ze zq zs zb zx zy zg zk zl [])) rfl ?_
    exact ok_init_165_1 h
  · simp only [if_neg hc104] at h
    refine OEnds.icmpT hm_1 rfl (q := 165) rfl ((flt hc104).2.1) ?_
    show OEnds own_P 1 165 [qr 17, qu, qi v2, qi v3, qi v2, qu] [] (c0 :: c1 :: c2 :: c3 :: c4 :: c5 :: c6 :: c7 :: c8 :: c9 :: c10 :: c11 :: c12 :: c13 :: c14 :: c15 :: c16 :: bk1 zf za zi zm zd zv zt zr zh zj zp zn zab zw zu zz zaa zo zc ze zq zs zb zx zy zg zk zl []) _
    exact ok_init_165_1 h
theorem ok_init_144_1 {c0 c1 c2 c3 c4 c5 c6 c7 c8 c9 c10 c11 c12 c13 c14 c15 c16 : ACell} : ∀ {zf za zi zm zd zv zt zr zh zj zp zn zab zw zu : List Int32} {zz zaa zo zc ze zq zs zb zx zy zg zk zl v2 v3 : Int32} {d1 d4 d5 : Slot} {w_o_kwChars w_o_kwLen w_o_kwRepl w_o_pend w_o_child w_o_delta w_o_fail w_o_depth w_o_term w_o_outMask w_o_queue w_o_text w_o_masks w_o_out w_o_tail : List Int32} {w_o_maxKw w_o_maxLen w_o_phaseNow w_o_count w_o_pendLen w_o_nodeCount w_o_longestKw w_o_n w_o_state w_o_total w_o_outLen w_o_commitPos : Int32} {w_o_tailLen : Int32}, f_init_144 zf za zi zm zd zv zt zr zh zj zp zn zab zw zu zz zaa zo zc ze zq zs zb zx zy zg zk zl v2 v3 = some (w_o_kwChars, w_o_kwLen, w_o_kwRepl, w_o_pend, w_o_child, w_o_delta, w_o_fail, w_o_depth, w_o_term, w_o_outMask, w_o_queue, w_o_text, w_o_masks, w_o_out, w_o_tail, w_o_maxKw, w_o_maxLen, w_o_phaseNow, w_o_count, w_o_pendLen, w_o_nodeCount, w_o_longestKw, w_o_n, w_o_state, w_o_total, w_o_outLen, w_o_commitPos, w_o_tailLen) → OEnds own_P 1 144 [qr 17, d1, qi v2, qi v3, d4, d5] [] (c0 :: c1 :: c2 :: c3 :: c4 :: c5 :: c6 :: c7 :: c8 :: c9 :: c10 :: c11 :: c12 :: c13 :: c14 :: c15 :: c16 :: bk1 zf za zi zm zd zv zt zr zh zj zp zn zab zw zu zz zaa zo zc ze zq zs zb zx zy zg zk zl []) (none, (c0 :: c1 :: c2 :: c3 :: c4 :: c5 :: c6 :: c7 :: c8 :: c9 :: c10 :: c11 :: c12 :: c13 :: c14 :: c15 :: c16 :: bk1 w_o_kwChars w_o_kwLen w_o_kwRepl w_o_pend w_o_child w_o_delta w_o_fail w_o_depth w_o_term w_o_outMask w_o_queue w_o_text w_o_masks w_o_out w_o_tail w_o_maxKw w_o_maxLen w_o_phaseNow w_o_count w_o_pendLen w_o_nodeCount w_o_longestKw w_o_n w_o_state w_o_total w_o_outLen w_o_commitPos w_o_tailLen []), 0, 0) := by
  intro zf za zi zm zd zv zt zr zh zj zp zn zab zw zu zz zaa zo zc ze zq zs zb zx zy zg zk zl v2 v3 d1 d4 d5 w_o_kwChars w_o_kwLen w_o_kwRepl w_o_pend w_o_child w_o_delta w_o_fail w_o_depth w_o_term w_o_outMask w_o_queue w_o_text w_o_masks w_o_out w_o_tail w_o_maxKw w_o_maxLen w_o_phaseNow w_o_count w_o_pendLen w_o_nodeCount w_o_longestKw w_o_n w_o_state w_o_total w_o_outLen w_o_commitPos w_o_tailLen h
  unfold f_init_144 at h
  refine OEnds.adv hm_1 2 (pc' := 147) (L' := [qr 17, qu, qi v2, qi v3, qu, qu]) (S' := [.int 16, .int v3]) (H' := (c0 :: c1 :: c2 :: c3 :: c4 :: c5 :: c6 :: c7 :: c8 :: c9 :: c10 :: c11 :: c12 :: c13 :: c14 :: c15 :: c16 :: bk1 zf za zi zm zd zv zt zr zh zj zp zn zab zw zu zz zaa zo zc ze zq zs zb zx zy zg zk zl [])) rfl ?_
  by_cases hc105 : (16 : Int32) < v3
  · simp only [if_pos hc105] at h
    refine OEnds.icmpF hm_1 rfl ((tlt hc105).2.2.2) ?_
    refine OEnds.adv hm_1 2 (pc' := 153) (L' := [qr 17, qu, qi v2, qi 16, qu, qu]) (S' := []) (H' := (c0 :: c1 :: c2 :: c3 :: c4 :: c5 :: c6 :: c7 :: c8 :: c9 :: c10 :: c11 :: c12 :: c13 :: c14 :: c15 :: c16 :: bk1 zf za zi zm zd zv zt zr zh zj zp zn zab zw zu zz zaa zo zc ze zq zs zb zx zy zg zk zl [])) rfl ?_
    exact ok_init_153_1 h
  · simp only [if_neg hc105] at h
    refine OEnds.icmpT hm_1 rfl (q := 153) rfl ((flt hc105).2.2.2) ?_
    show OEnds own_P 1 153 [qr 17, qu, qi v2, qi v3, qu, qu] [] (c0 :: c1 :: c2 :: c3 :: c4 :: c5 :: c6 :: c7 :: c8 :: c9 :: c10 :: c11 :: c12 :: c13 :: c14 :: c15 :: c16 :: bk1 zf za zi zm zd zv zt zr zh zj zp zn zab zw zu zz zaa zo zc ze zq zs zb zx zy zg zk zl []) _
    exact ok_init_153_1 h
theorem ok_init_1 {c0 c1 c2 c3 c4 c5 c6 c7 c8 c9 c10 c11 c12 c13 c14 c15 c16 : ACell} {v1 v2 : Int32} {w_o_kwChars w_o_kwLen w_o_kwRepl w_o_pend w_o_child w_o_delta w_o_fail w_o_depth w_o_term w_o_outMask w_o_queue w_o_text w_o_masks w_o_out w_o_tail : List Int32} {w_o_maxKw w_o_maxLen w_o_phaseNow w_o_count w_o_pendLen w_o_nodeCount w_o_longestKw w_o_n w_o_state w_o_total w_o_outLen w_o_commitPos w_o_tailLen : Int32} (h : f_init v1 v2 = some (w_o_kwChars, w_o_kwLen, w_o_kwRepl, w_o_pend, w_o_child, w_o_delta, w_o_fail, w_o_depth, w_o_term, w_o_outMask, w_o_queue, w_o_text, w_o_masks, w_o_out, w_o_tail, w_o_maxKw, w_o_maxLen, w_o_phaseNow, w_o_count, w_o_pendLen, w_o_nodeCount, w_o_longestKw, w_o_n, w_o_state, w_o_total, w_o_outLen, w_o_commitPos, w_o_tailLen)) : OEnds own_P 1 0 [qr 17, qi v1, qi v2, qu, qu, qu] [] (c0 :: c1 :: c2 :: c3 :: c4 :: c5 :: c6 :: c7 :: c8 :: c9 :: c10 :: c11 :: c12 :: c13 :: c14 :: c15 :: c16 :: (.inl (0, [.null, .null, .null, .null, .null, .null, .null, .null, .null, .null, .null, .null, .null, .null, .null, .int 0, .int 0, .int 0, .int 0, .int 0, .int 0, .int 0, .int 0, .int 0, .int 0, .int 0, .int 0, .int 0]) : ACell) :: []) (none, (c0 :: c1 :: c2 :: c3 :: c4 :: c5 :: c6 :: c7 :: c8 :: c9 :: c10 :: c11 :: c12 :: c13 :: c14 :: c15 :: c16 :: bk1 w_o_kwChars w_o_kwLen w_o_kwRepl w_o_pend w_o_child w_o_delta w_o_fail w_o_depth w_o_term w_o_outMask w_o_queue w_o_text w_o_masks w_o_out w_o_tail w_o_maxKw w_o_maxLen w_o_phaseNow w_o_count w_o_pendLen w_o_nodeCount w_o_longestKw w_o_n w_o_state w_o_total w_o_outLen w_o_commitPos w_o_tailLen []), 15, 8249) := by
  unfold f_init at h
  refine OEnds.adv hm_1 1 (pc' := 1) (L' := [qr 17, qi v1, qi v2, qu, qu, qu]) (S' := [.ref 17]) (H' := (c0 :: c1 :: c2 :: c3 :: c4 :: c5 :: c6 :: c7 :: c8 :: c9 :: c10 :: c11 :: c12 :: c13 :: c14 :: c15 :: c16 :: (.inl (0, [.null, .null, .null, .null, .null, .null, .null, .null, .null, .null, .null, .null, .null, .null, .null, .int 0, .int 0, .int 0, .int 0, .int 0, .int 0, .int 0, .int 0, .int 0, .int 0, .int 0, .int 0, .int 0]) : ACell) :: [])) rfl ?_
  refine OEnds.oinit hm_1 rfl ⟨Nat.le_of_ble_eq_true rfl, Nat.le_of_ble_eq_true rfl⟩ ?_
  refine OEnds.adv hm_1 2 (pc' := 8) (L' := [qr 17, qi v1, qi v2, qu, qu, qu]) (S' := [.int 128, .ref 17]) (H' := (c0 :: c1 :: c2 :: c3 :: c4 :: c5 :: c6 :: c7 :: c8 :: c9 :: c10 :: c11 :: c12 :: c13 :: c14 :: c15 :: c16 :: (.inl (0, [.null, .null, .null, .null, .null, .null, .null, .null, .null, .null, .null, .null, .null, .null, .null, .int 0, .int 0, .int 0, .int 0, .int 0, .int 0, .int 0, .int 0, .int 0, .int 0, .int 0, .int 0, .int 0]) : ACell) :: [])) rfl ?_
  refine OEnds.made1 hm_1 rfl rfl (ks := 128) rfl rfl ?_
  refine OEnds.adv hm_1 3 (pc' := 16) (L' := [qr 17, qi v1, qi v2, qu, qu, qu]) (S' := [.int 16, .ref 17]) (H' := (c0 :: c1 :: c2 :: c3 :: c4 :: c5 :: c6 :: c7 :: c8 :: c9 :: c10 :: c11 :: c12 :: c13 :: c14 :: c15 :: c16 :: (.inl (0, [.ref 18, .null, .null, .null, .null, .null, .null, .null, .null, .null, .null, .null, .null, .null, .null, .int 0, .int 0, .int 0, .int 0, .int 0, .int 0, .int 0, .int 0, .int 0, .int 0, .int 0, .int 0, .int 0]) : ACell) :: .inr (.inl (false, (List.replicate 128 0))) :: [])) rfl ?_
  refine OEnds.made1 hm_1 rfl rfl (ks := 16) rfl rfl ?_
  refine OEnds.adv hm_1 3 (pc' := 24) (L' := [qr 17, qi v1, qi v2, qu, qu, qu]) (S' := [.int 16, .ref 17]) (H' := (c0 :: c1 :: c2 :: c3 :: c4 :: c5 :: c6 :: c7 :: c8 :: c9 :: c10 :: c11 :: c12 :: c13 :: c14 :: c15 :: c16 :: (.inl (0, [.ref 18, .ref 19, .null, .null, .null, .null, .null, .null, .null, .null, .null, .null, .null, .null, .null, .int 0, .int 0, .int 0, .int 0, .int 0, .int 0, .int 0, .int 0, .int 0, .int 0, .int 0, .int 0, .int 0]) : ACell) :: .inr (.inl (false, (List.replicate 128 0))) :: .inr (.inl (false, (List.replicate 16 0))) :: [])) rfl ?_
  refine OEnds.made1 hm_1 rfl rfl (ks := 16) rfl rfl ?_
  refine OEnds.adv hm_1 3 (pc' := 32) (L' := [qr 17, qi v1, qi v2, qu, qu, qu]) (S' := [.int 8, .ref 17]) (H' := (c0 :: c1 :: c2 :: c3 :: c4 :: c5 :: c6 :: c7 :: c8 :: c9 :: c10 :: c11 :: c12 :: c13 :: c14 :: c15 :: c16 :: (.inl (0, [.ref 18, .ref 19, .ref 20, .null, .null, .null, .null, .null, .null, .null, .null, .null, .null, .null, .null, .int 0, .int 0, .int 0, .int 0, .int 0, .int 0, .int 0, .int 0, .int 0, .int 0, .int 0, .int 0, .int 0]) : ACell) :: .inr (.inl (false, (List.replicate 128 0))) :: .inr (.inl (false, (List.replicate 16 0))) :: .inr (.inl (false, (List.replicate 16 0))) :: [])) rfl ?_
  refine OEnds.made1 hm_1 rfl rfl (ks := 8) rfl rfl ?_
  refine OEnds.adv hm_1 3 (pc' := 41) (L' := [qr 17, qi v1, qi v2, qu, qu, qu]) (S' := [.int 3354, .ref 17]) (H' := (c0 :: c1 :: c2 :: c3 :: c4 :: c5 :: c6 :: c7 :: c8 :: c9 :: c10 :: c11 :: c12 :: c13 :: c14 :: c15 :: c16 :: (.inl (0, [.ref 18, .ref 19, .ref 20, .ref 21, .null, .null, .null, .null, .null, .null, .null, .null, .null, .null, .null, .int 0, .int 0, .int 0, .int 0, .int 0, .int 0, .int 0, .int 0, .int 0, .int 0, .int 0, .int 0, .int 0]) : ACell) :: .inr (.inl (false, (List.replicate 128 0))) :: .inr (.inl (false, (List.replicate 16 0))) :: .inr (.inl (false, (List.replicate 16 0))) :: .inr (.inl (false, (List.replicate 8 0))) :: [])) rfl ?_
  refine OEnds.made1 hm_1 rfl rfl (ks := 3354) rfl rfl ?_
  refine OEnds.adv hm_1 3 (pc' := 50) (L' := [qr 17, qi v1, qi v2, qu, qu, qu]) (S' := [.int 3354, .ref 17]) (H' := (c0 :: c1 :: c2 :: c3 :: c4 :: c5 :: c6 :: c7 :: c8 :: c9 :: c10 :: c11 :: c12 :: c13 :: c14 :: c15 :: c16 :: (.inl (0, [.ref 18, .ref 19, .ref 20, .ref 21, .ref 22, .null, .null, .null, .null, .null, .null, .null, .null, .null, .null, .int 0, .int 0, .int 0, .int 0, .int 0, .int 0, .int 0, .int 0, .int 0, .int 0, .int 0, .int 0, .int 0]) : ACell) :: .inr (.inl (false, (List.replicate 128 0))) :: .inr (.inl (false, (List.replicate 16 0))) :: .inr (.inl (false, (List.replicate 16 0))) :: .inr (.inl (false, (List.replicate 8 0))) :: .inr (.inl (false, (List.replicate 3354 0))) :: [])) rfl ?_
  refine OEnds.made1 hm_1 rfl rfl (ks := 3354) rfl rfl ?_
  refine OEnds.adv hm_1 3 (pc' := 59) (L' := [qr 17, qi v1, qi v2, qu, qu, qu]) (S' := [.int 129, .ref 17]) (H' := (c0 :: c1 :: c2 :: c3 :: c4 :: c5 :: c6 :: c7 :: c8 :: c9 :: c10 :: c11 :: c12 :: c13 :: c14 :: c15 :: c16 :: (.inl (0, [.ref 18, .ref 19, .ref 20, .ref 21, .ref 22, .ref 23, .null, .null, .null, .null, .null, .null, .null, .null, .null, .int 0, .int 0, .int 0, .int 0, .int 0, .int 0, .int 0, .int 0, .int 0, .int 0, .int 0, .int 0, .int 0]) : ACell) :: .inr (.inl (false, (List.replicate 128 0))) :: .inr (.inl (false, (List.replicate 16 0))) :: .inr (.inl (false, (List.replicate 16 0))) :: .inr (.inl (false, (List.replicate 8 0))) :: .inr (.inl (false, (List.replicate 3354 0))) :: .inr (.inl (false, (List.replicate 3354 0))) :: [])) rfl ?_
  refine OEnds.made1 hm_1 rfl rfl (ks := 129) rfl rfl ?_
  refine OEnds.adv hm_1 3 (pc' := 68) (L' := [qr 17, qi v1, qi v2, qu, qu, qu]) (S' := [.int 129, .ref 17]) (H' := (c0 :: c1 :: c2 :: c3 :: c4 :: c5 :: c6 :: c7 :: c8 :: c9 :: c10 :: c11 :: c12 :: c13 :: c14 :: c15 :: c16 :: (.inl (0, [.ref 18, .ref 19, .ref 20, .ref 21, .ref 22, .ref 23, .ref 24, .null, .null, .null, .null, .null, .null, .null, .null, .int 0, .int 0, .int 0, .int 0, .int 0, .int 0, .int 0, .int 0, .int 0, .int 0, .int 0, .int 0, .int 0]) : ACell) :: .inr (.inl (false, (List.replicate 128 0))) :: .inr (.inl (false, (List.replicate 16 0))) :: .inr (.inl (false, (List.replicate 16 0))) :: .inr (.inl (false, (List.replicate 8 0))) :: .inr (.inl (false, (List.replicate 3354 0))) :: .inr (.inl (false, (List.replicate 3354 0))) :: .inr (.inl (false, (List.replicate 129 0))) :: [])) rfl ?_
  refine OEnds.made1 hm_1 rfl rfl (ks := 129) rfl rfl ?_
  refine OEnds.adv hm_1 3 (pc' := 77) (L' := [qr 17, qi v1, qi v2, qu, qu, qu]) (S' := [.int 129, .ref 17]) (H' := (c0 :: c1 :: c2 :: c3 :: c4 :: c5 :: c6 :: c7 :: c8 :: c9 :: c10 :: c11 :: c12 :: c13 :: c14 :: c15 :: c16 :: (.inl (0, [.ref 18, .ref 19, .ref 20, .ref 21, .ref 22, .ref 23, .ref 24, .ref 25, .null, .null, .null, .null, .null, .null, .null, .int 0, .int 0, .int 0, .int 0, .int 0, .int 0, .int 0, .int 0, .int 0, .int 0, .int 0, .int 0, .int 0]) : ACell) :: .inr (.inl (false, (List.replicate 128 0))) :: .inr (.inl (false, (List.replicate 16 0))) :: .inr (.inl (false, (List.replicate 16 0))) :: .inr (.inl (false, (List.replicate 8 0))) :: .inr (.inl (false, (List.replicate 3354 0))) :: .inr (.inl (false, (List.replicate 3354 0))) :: .inr (.inl (false, (List.replicate 129 0))) :: .inr (.inl (false, (List.replicate 129 0))) :: [])) rfl ?_
  refine OEnds.made1 hm_1 rfl rfl (ks := 129) rfl rfl ?_
  refine OEnds.adv hm_1 3 (pc' := 86) (L' := [qr 17, qi v1, qi v2, qu, qu, qu]) (S' := [.int 129, .ref 17]) (H' := (c0 :: c1 :: c2 :: c3 :: c4 :: c5 :: c6 :: c7 :: c8 :: c9 :: c10 :: c11 :: c12 :: c13 :: c14 :: c15 :: c16 :: (.inl (0, [.ref 18, .ref 19, .ref 20, .ref 21, .ref 22, .ref 23, .ref 24, .ref 25, .ref 26, .null, .null, .null, .null, .null, .null, .int 0, .int 0, .int 0, .int 0, .int 0, .int 0, .int 0, .int 0, .int 0, .int 0, .int 0, .int 0, .int 0]) : ACell) :: .inr (.inl (false, (List.replicate 128 0))) :: .inr (.inl (false, (List.replicate 16 0))) :: .inr (.inl (false, (List.replicate 16 0))) :: .inr (.inl (false, (List.replicate 8 0))) :: .inr (.inl (false, (List.replicate 3354 0))) :: .inr (.inl (false, (List.replicate 3354 0))) :: .inr (.inl (false, (List.replicate 129 0))) :: .inr (.inl (false, (List.replicate 129 0))) :: .inr (.inl (false, (List.replicate 129 0))) :: [])) rfl ?_
  refine OEnds.made1 hm_1 rfl rfl (ks := 129) rfl rfl ?_
  refine OEnds.adv hm_1 3 (pc' := 95) (L' := [qr 17, qi v1, qi v2, qu, qu, qu]) (S' := [.int 129, .ref 17]) (H' := (c0 :: c1 :: c2 :: c3 :: c4 :: c5 :: c6 :: c7 :: c8 :: c9 :: c10 :: c11 :: c12 :: c13 :: c14 :: c15 :: c16 :: (.inl (0, [.ref 18, .ref 19, .ref 20, .ref 21, .ref 22, .ref 23, .ref 24, .ref 25, .ref 26, .ref 27, .null, .null, .null, .null, .null, .int 0, .int 0, .int 0, .int 0, .int 0, .int 0, .int 0, .int 0, .int 0, .int 0, .int 0, .int 0, .int 0]) : ACell) :: .inr (.inl (false, (List.replicate 128 0))) :: .inr (.inl (false, (List.replicate 16 0))) :: .inr (.inl (false, (List.replicate 16 0))) :: .inr (.inl (false, (List.replicate 8 0))) :: .inr (.inl (false, (List.replicate 3354 0))) :: .inr (.inl (false, (List.replicate 3354 0))) :: .inr (.inl (false, (List.replicate 129 0))) :: .inr (.inl (false, (List.replicate 129 0))) :: .inr (.inl (false, (List.replicate 129 0))) :: .inr (.inl (false, (List.replicate 129 0))) :: [])) rfl ?_
  refine OEnds.made1 hm_1 rfl rfl (ks := 129) rfl rfl ?_
  refine OEnds.adv hm_1 3 (pc' := 104) (L' := [qr 17, qi v1, qi v2, qu, qu, qu]) (S' := [.int 240, .ref 17]) (H' := (c0 :: c1 :: c2 :: c3 :: c4 :: c5 :: c6 :: c7 :: c8 :: c9 :: c10 :: c11 :: c12 :: c13 :: c14 :: c15 :: c16 :: (.inl (0, [.ref 18, .ref 19, .ref 20, .ref 21, .ref 22, .ref 23, .ref 24, .ref 25, .ref 26, .ref 27, .ref 28, .null, .null, .null, .null, .int 0, .int 0, .int 0, .int 0, .int 0, .int 0, .int 0, .int 0, .int 0, .int 0, .int 0, .int 0, .int 0]) : ACell) :: .inr (.inl (false, (List.replicate 128 0))) :: .inr (.inl (false, (List.replicate 16 0))) :: .inr (.inl (false, (List.replicate 16 0))) :: .inr (.inl (false, (List.replicate 8 0))) :: .inr (.inl (false, (List.replicate 3354 0))) :: .inr (.inl (false, (List.replicate 3354 0))) :: .inr (.inl (false, (List.replicate 129 0))) :: .inr (.inl (false, (List.replicate 129 0))) :: .inr (.inl (false, (List.replicate 129 0))) :: .inr (.inl (false, (List.replicate 129 0))) :: .inr (.inl (false, (List.replicate 129 0))) :: [])) rfl ?_
  refine OEnds.made1 hm_1 rfl rfl (ks := 240) rfl rfl ?_
  refine OEnds.adv hm_1 3 (pc' := 113) (L' := [qr 17, qi v1, qi v2, qu, qu, qu]) (S' := [.int 240, .ref 17]) (H' := (c0 :: c1 :: c2 :: c3 :: c4 :: c5 :: c6 :: c7 :: c8 :: c9 :: c10 :: c11 :: c12 :: c13 :: c14 :: c15 :: c16 :: (.inl (0, [.ref 18, .ref 19, .ref 20, .ref 21, .ref 22, .ref 23, .ref 24, .ref 25, .ref 26, .ref 27, .ref 28, .ref 29, .null, .null, .null, .int 0, .int 0, .int 0, .int 0, .int 0, .int 0, .int 0, .int 0, .int 0, .int 0, .int 0, .int 0, .int 0]) : ACell) :: .inr (.inl (false, (List.replicate 128 0))) :: .inr (.inl (false, (List.replicate 16 0))) :: .inr (.inl (false, (List.replicate 16 0))) :: .inr (.inl (false, (List.replicate 8 0))) :: .inr (.inl (false, (List.replicate 3354 0))) :: .inr (.inl (false, (List.replicate 3354 0))) :: .inr (.inl (false, (List.replicate 129 0))) :: .inr (.inl (false, (List.replicate 129 0))) :: .inr (.inl (false, (List.replicate 129 0))) :: .inr (.inl (false, (List.replicate 129 0))) :: .inr (.inl (false, (List.replicate 129 0))) :: .inr (.inl (false, (List.replicate 240 0))) :: [])) rfl ?_
  refine OEnds.made1 hm_1 rfl rfl (ks := 240) rfl rfl ?_
  refine OEnds.adv hm_1 3 (pc' := 122) (L' := [qr 17, qi v1, qi v2, qu, qu, qu]) (S' := [.int 240, .ref 17]) (H' := (c0 :: c1 :: c2 :: c3 :: c4 :: c5 :: c6 :: c7 :: c8 :: c9 :: c10 :: c11 :: c12 :: c13 :: c14 :: c15 :: c16 :: (.inl (0, [.ref 18, .ref 19, .ref 20, .ref 21, .ref 22, .ref 23, .ref 24, .ref 25, .ref 26, .ref 27, .ref 28, .ref 29, .ref 30, .null, .null, .int 0, .int 0, .int 0, .int 0, .int 0, .int 0, .int 0, .int 0, .int 0, .int 0, .int 0, .int 0, .int 0]) : ACell) :: .inr (.inl (false, (List.replicate 128 0))) :: .inr (.inl (false, (List.replicate 16 0))) :: .inr (.inl (false, (List.replicate 16 0))) :: .inr (.inl (false, (List.replicate 8 0))) :: .inr (.inl (false, (List.replicate 3354 0))) :: .inr (.inl (false, (List.replicate 3354 0))) :: .inr (.inl (false, (List.replicate 129 0))) :: .inr (.inl (false, (List.replicate 129 0))) :: .inr (.inl (false, (List.replicate 129 0))) :: .inr (.inl (false, (List.replicate 129 0))) :: .inr (.inl (false, (List.replicate 129 0))) :: .inr (.inl (false, (List.replicate 240 0))) :: .inr (.inl (false, (List.replicate 240 0))) :: [])) rfl ?_
  refine OEnds.made1 hm_1 rfl rfl (ks := 240) rfl rfl ?_
  refine OEnds.adv hm_1 3 (pc' := 130) (L' := [qr 17, qi v1, qi v2, qu, qu, qu]) (S' := [.int 8, .ref 17]) (H' := (c0 :: c1 :: c2 :: c3 :: c4 :: c5 :: c6 :: c7 :: c8 :: c9 :: c10 :: c11 :: c12 :: c13 :: c14 :: c15 :: c16 :: (.inl (0, [.ref 18, .ref 19, .ref 20, .ref 21, .ref 22, .ref 23, .ref 24, .ref 25, .ref 26, .ref 27, .ref 28, .ref 29, .ref 30, .ref 31, .null, .int 0, .int 0, .int 0, .int 0, .int 0, .int 0, .int 0, .int 0, .int 0, .int 0, .int 0, .int 0, .int 0]) : ACell) :: .inr (.inl (false, (List.replicate 128 0))) :: .inr (.inl (false, (List.replicate 16 0))) :: .inr (.inl (false, (List.replicate 16 0))) :: .inr (.inl (false, (List.replicate 8 0))) :: .inr (.inl (false, (List.replicate 3354 0))) :: .inr (.inl (false, (List.replicate 3354 0))) :: .inr (.inl (false, (List.replicate 129 0))) :: .inr (.inl (false, (List.replicate 129 0))) :: .inr (.inl (false, (List.replicate 129 0))) :: .inr (.inl (false, (List.replicate 129 0))) :: .inr (.inl (false, (List.replicate 129 0))) :: .inr (.inl (false, (List.replicate 240 0))) :: .inr (.inl (false, (List.replicate 240 0))) :: .inr (.inl (false, (List.replicate 240 0))) :: [])) rfl ?_
  refine OEnds.made1 hm_1 rfl rfl (ks := 8) rfl rfl ?_
  refine OEnds.adv hm_1 5 (pc' := 139) (L' := [qr 17, qi v1, qi v2, qi v1, qu, qu]) (S' := [.int 1, .int v1]) (H' := (c0 :: c1 :: c2 :: c3 :: c4 :: c5 :: c6 :: c7 :: c8 :: c9 :: c10 :: c11 :: c12 :: c13 :: c14 :: c15 :: c16 :: bk1 (List.replicate 128 0) (List.replicate 16 0) (List.replicate 16 0) (List.replicate 8 0) (List.replicate 3354 0) (List.replicate 3354 0) (List.replicate 129 0) (List.replicate 129 0) (List.replicate 129 0) (List.replicate 129 0) (List.replicate 129 0) (List.replicate 240 0) (List.replicate 240 0) (List.replicate 240 0) (List.replicate 8 0) 0 0 0 0 0 0 0 0 0 0 0 0 0 [])) rfl ?_
  by_cases hc106 : v1 < (1 : Int32)
  · simp only [if_pos hc106] at h
    refine OEnds.icmpF hm_1 rfl ((tlt hc106).2.1) ?_
    refine OEnds.adv hm_1 2 (pc' := 144) (L' := [qr 17, qi v1, qi v2, qi 1, qu, qu]) (S' := []) (H' := (c0 :: c1 :: c2 :: c3 :: c4 :: c5 :: c6 :: c7 :: c8 :: c9 :: c10 :: c11 :: c12 :: c13 :: c14 :: c15 :: c16 :: bk1 (List.replicate 128 0) (List.replicate 16 0) (List.replicate 16 0) (List.replicate 8 0) (List.replicate 3354 0) (List.replicate 3354 0) (List.replicate 129 0) (List.replicate 129 0) (List.replicate 129 0) (List.replicate 129 0) (List.replicate 129 0) (List.replicate 240 0) (List.replicate 240 0) (List.replicate 240 0) (List.replicate 8 0) 0 0 0 0 0 0 0 0 0 0 0 0 0 [])) rfl ?_
    exact ok_init_144_1 h
  · simp only [if_neg hc106] at h
    refine OEnds.icmpT hm_1 rfl (q := 144) rfl ((flt hc106).2.1) ?_
    show OEnds own_P 1 144 [qr 17, qi v1, qi v2, qi v1, qu, qu] [] (c0 :: c1 :: c2 :: c3 :: c4 :: c5 :: c6 :: c7 :: c8 :: c9 :: c10 :: c11 :: c12 :: c13 :: c14 :: c15 :: c16 :: bk1 (List.replicate 128 0) (List.replicate 16 0) (List.replicate 16 0) (List.replicate 8 0) (List.replicate 3354 0) (List.replicate 3354 0) (List.replicate 129 0) (List.replicate 129 0) (List.replicate 129 0) (List.replicate 129 0) (List.replicate 129 0) (List.replicate 240 0) (List.replicate 240 0) (List.replicate 240 0) (List.replicate 8 0) 0 0 0 0 0 0 0 0 0 0 0 0 0 []) _
    exact ok_init_144_1 h
theorem ok_keywordCount_0 {zf za zi zm zd zv zt zr zh zj zp zn zab zw zu : List Int32} {zz zaa zo zc ze zq zs zb zx zy zg zk zl : Int32} {c0 : ACell} {po : List ACell} {res : Int32} (h : f_keywordCount zc = some res) : OEnds own_P 15 0 [qr 1] [] (c0 :: bk0 zf za zi zm zd zv zt zr zh zj zp zn zab zw zu zz zaa zo zc ze zq zs zb zx zy zg zk zl po) (some (.int res), (c0 :: bk0 zf za zi zm zd zv zt zr zh zj zp zn zab zw zu zz zaa zo zc ze zq zs zb zx zy zg zk zl po), 0, 0) := by
  unfold f_keywordCount at h
  refine OEnds.adv hm_15 2 (pc' := 4) (L' := [qr 1]) (S' := [.int zc]) (H' := (c0 :: bk0 zf za zi zm zd zv zt zr zh zj zp zn zab zw zu zz zaa zo zc ze zq zs zb zx zy zg zk zl po)) rfl ?_
  cases h
  exact OEnds.iret hm_15 rfl rfl
theorem ok_keywordLength_19_0 {zf za zi zm zd zv zt zr zh zj zp zn zab zw zu : List Int32} {zz zaa zo zc ze zq zs zb zx zy zg zk zl : Int32} {c0 : ACell} {po : List ACell} : ∀ {v1 : Int32} {res : Int32}, f_keywordLength_19 za zc ze v1 = some res → OEnds own_P 16 19 [qr 1, qi v1] [] (c0 :: bk0 zf za zi zm zd zv zt zr zh zj zp zn zab zw zu zz zaa zo zc ze zq zs zb zx zy zg zk zl po) (some (.int res), (c0 :: bk0 zf za zi zm zd zv zt zr zh zj zp zn zab zw zu zz zaa zo zc ze zq zs zb zx zy zg zk zl po), 0, 0) := by
  intro v1 res h
  unfold f_keywordLength_19 at h
  refine OEnds.adv hm_16 3 (pc' := 24) (L' := [qr 1, qi v1]) (S' := [.int zc, .int v1]) (H' := (c0 :: bk0 zf za zi zm zd zv zt zr zh zj zp zn zab zw zu zz zaa zo zc ze zq zs zb zx zy zg zk zl po)) rfl ?_
  by_cases hc107 : v1 = zc
  · simp only [if_pos hc107] at h
    refine OEnds.icmpF hm_16 rfl ((teq hc107).2) ?_
    refine OEnds.adv hm_16 2 (pc' := 31) (L' := [qr 1, qi v1]) (S' := [.int ze]) (H' := (c0 :: bk0 zf za zi zm zd zv zt zr zh zj zp zn zab zw zu zz zaa zo zc ze zq zs zb zx zy zg zk zl po)) rfl ?_
    cases h
    exact OEnds.iret hm_16 rfl rfl
  · simp only [if_neg hc107] at h
    refine OEnds.icmpT hm_16 rfl (q := 32) rfl ((feq hc107).2) ?_
    refine OEnds.adv hm_16 1 (pc' := 33) (L' := [qr 1, qi v1]) (S' := [.int (-1)]) (H' := (c0 :: bk0 zf za zi zm zd zv zt zr zh zj zp zn zab zw zu zz zaa zo zc ze zq zs zb zx zy zg zk zl po)) rfl ?_
    cases h
    exact OEnds.iret hm_16 rfl rfl
theorem ok_keywordLength_0 {zf za zi zm zd zv zt zr zh zj zp zn zab zw zu : List Int32} {zz zaa zo zc ze zq zs zb zx zy zg zk zl : Int32} {c0 : ACell} {po : List ACell} {v1 res : Int32} (h : f_keywordLength za zc ze v1 = some res) : OEnds own_P 16 0 [qr 1, qi v1] [] (c0 :: bk0 zf za zi zm zd zv zt zr zh zj zp zn zab zw zu zz zaa zo zc ze zq zs zb zx zy zg zk zl po) (some (.int res), (c0 :: bk0 zf za zi zm zd zv zt zr zh zj zp zn zab zw zu zz zaa zo zc ze zq zs zb zx zy zg zk zl po), 0, 0) := by
  unfold f_keywordLength at h
  refine OEnds.adv hm_16 1 (pc' := 1) (L' := [qr 1, qi v1]) (S' := [.int v1]) (H' := (c0 :: bk0 zf za zi zm zd zv zt zr zh zj zp zn zab zw zu zz zaa zo zc ze zq zs zb zx zy zg zk zl po)) rfl ?_
  by_cases hc108 : v1 < (0 : Int32)
  · simp only [if_pos hc108] at h
    refine OEnds.ifT hm_16 rfl (q := 19) rfl ((tlt hc108).1) ?_
    show OEnds own_P 16 19 [qr 1, qi v1] [] (c0 :: bk0 zf za zi zm zd zv zt zr zh zj zp zn zab zw zu zz zaa zo zc ze zq zs zb zx zy zg zk zl po) _
    exact ok_keywordLength_19_0 h
  · simp only [if_neg hc108] at h
    refine OEnds.ifF hm_16 rfl ((flt hc108).1) ?_
    refine OEnds.adv hm_16 3 (pc' := 9) (L' := [qr 1, qi v1]) (S' := [.int zc, .int v1]) (H' := (c0 :: bk0 zf za zi zm zd zv zt zr zh zj zp zn zab zw zu zz zaa zo zc ze zq zs zb zx zy zg zk zl po)) rfl ?_
    by_cases hc109 : v1 < zc
    · simp only [if_pos hc109] at h
      refine OEnds.icmpF hm_16 rfl ((tlt hc109).2.1) ?_
      refine OEnds.adv hm_16 3 (pc' := 17) (L' := [qr 1, qi v1]) (S' := [.int v1, .ref 3]) (H' := (c0 :: bk0 zf za zi zm zd zv zt zr zh zj zp zn zab zw zu zz zaa zo zc ze zq zs zb zx zy zg zk zl po)) rfl ?_
      obtain ⟨x118, hx118, h⟩ := bnd h
      refine OEnds.plain hm_16 rfl rfl (x_iaload rfl hx118) ?_
      show OEnds own_P 16 18 [qr 1, qi v1] [.int x118] (c0 :: bk0 zf za zi zm zd zv zt zr zh zj zp zn zab zw zu zz zaa zo zc ze zq zs zb zx zy zg zk zl po) _
      cases h
      exact OEnds.iret hm_16 rfl rfl
    · simp only [if_neg hc109] at h
      refine OEnds.icmpT hm_16 rfl (q := 19) rfl ((flt hc109).2.1) ?_
      show OEnds own_P 16 19 [qr 1, qi v1] [] (c0 :: bk0 zf za zi zm zd zv zt zr zh zj zp zn zab zw zu zz zaa zo zc ze zq zs zb zx zy zg zk zl po) _
      exact ok_keywordLength_19_0 h
theorem ok_acceptedChar_0 {zf za zi zm zd zv zt zr zh zj zp zn zab zw zu : List Int32} {zz zaa zo zc ze zq zs zb zx zy zg zk zl : Int32} {c0 : ACell} {po : List ACell} {v1 v2 res : Int32} (h : f_acceptedChar zf za zi v1 v2 = some res) : OEnds own_P 18 0 [qr 1, qi v1, qi v2] [] (c0 :: bk0 zf za zi zm zd zv zt zr zh zj zp zn zab zw zu zz zaa zo zc ze zq zs zb zx zy zg zk zl po) (some (.int res), (c0 :: bk0 zf za zi zm zd zv zt zr zh zj zp zn zab zw zu zz zaa zo zc ze zq zs zb zx zy zg zk zl po), 0, 0) := by
  unfold f_acceptedChar at h
  refine OEnds.adv hm_18 2 (pc' := 2) (L' := [qr 1, qi v1, qi v2]) (S' := [.int (-1), .int v2]) (H' := (c0 :: bk0 zf za zi zm zd zv zt zr zh zj zp zn zab zw zu zz zaa zo zc ze zq zs zb zx zy zg zk zl po)) rfl ?_
  by_cases hc110 : v2 = (-1 : Int32)
  · simp only [if_pos hc110] at h
    refine OEnds.icmpF hm_18 rfl ((teq hc110).2) ?_
    refine OEnds.adv hm_18 3 (pc' := 10) (L' := [qr 1, qi v1, qi v2]) (S' := [.int v1, .ref 4]) (H' := (c0 :: bk0 zf za zi zm zd zv zt zr zh zj zp zn zab zw zu zz zaa zo zc ze zq zs zb zx zy zg zk zl po)) rfl ?_
    obtain ⟨x121, hx121, h⟩ := bnd h
    refine OEnds.plain hm_18 rfl rfl (x_iaload rfl hx121) ?_
    show OEnds own_P 18 11 [qr 1, qi v1, qi v2] [.int x121] (c0 :: bk0 zf za zi zm zd zv zt zr zh zj zp zn zab zw zu zz zaa zo zc ze zq zs zb zx zy zg zk zl po) _
    cases h
    exact OEnds.iret hm_18 rfl rfl
  · simp only [if_neg hc110] at h
    refine OEnds.icmpT hm_18 rfl (q := 12) rfl ((feq hc110).2) ?_
    refine OEnds.adv hm_18 1 (pc' := 13) (L' := [qr 1, qi v1, qi v2]) (S' := [.int v2]) (H' := (c0 :: bk0 zf za zi zm zd zv zt zr zh zj zp zn zab zw zu zz zaa zo zc ze zq zs zb zx zy zg zk zl po)) rfl ?_
    by_cases hc111 : v2 < (0 : Int32)
    · simp only [if_pos hc111] at h
      refine OEnds.ifT hm_18 rfl (q := 38) rfl ((tlt hc111).1) ?_
      refine OEnds.adv hm_18 1 (pc' := 39) (L' := [qr 1, qi v1, qi v2]) (S' := [.int (-1)]) (H' := (c0 :: bk0 zf za zi zm zd zv zt zr zh zj zp zn zab zw zu zz zaa zo zc ze zq zs zb zx zy zg zk zl po)) rfl ?_
      cases h
      exact OEnds.iret hm_18 rfl rfl
    · simp only [if_neg hc111] at h
      refine OEnds.ifF hm_18 rfl ((flt hc111).1) ?_
      refine OEnds.adv hm_18 4 (pc' := 22) (L' := [qr 1, qi v1, qi v2]) (S' := [.int v1, .ref 3, .int v2]) (H' := (c0 :: bk0 zf za zi zm zd zv zt zr zh zj zp zn zab zw zu zz zaa zo zc ze zq zs zb zx zy zg zk zl po)) rfl ?_
      obtain ⟨x119, hx119, h⟩ := bnd h
      refine OEnds.plain hm_18 rfl rfl (x_iaload rfl hx119) ?_
      show OEnds own_P 18 23 [qr 1, qi v1, qi v2] [.int x119, .int v2] (c0 :: bk0 zf za zi zm zd zv zt zr zh zj zp zn zab zw zu zz zaa zo zc ze zq zs zb zx zy zg zk zl po) _
      by_cases hc112 : v2 < x119
      · simp only [if_pos hc112] at h
        refine OEnds.icmpF hm_18 rfl ((tlt hc112).2.1) ?_
        refine OEnds.adv hm_18 7 (pc' := 36) (L' := [qr 1, qi v1, qi v2]) (S' := [.int ((v1 * (8 : Int32)) + v2), .ref 2]) (H' := (c0 :: bk0 zf za zi zm zd zv zt zr zh zj zp zn zab zw zu zz zaa zo zc ze zq zs zb zx zy zg zk zl po)) rfl ?_
        obtain ⟨x120, hx120, h⟩ := bnd h
        refine OEnds.plain hm_18 rfl rfl (x_iaload rfl hx120) ?_
        show OEnds own_P 18 37 [qr 1, qi v1, qi v2] [.int x120] (c0 :: bk0 zf za zi zm zd zv zt zr zh zj zp zn zab zw zu zz zaa zo zc ze zq zs zb zx zy zg zk zl po) _
        cases h
        exact OEnds.iret hm_18 rfl rfl
      · simp only [if_neg hc112] at h
        refine OEnds.icmpT hm_18 rfl (q := 38) rfl ((flt hc112).2.1) ?_
        refine OEnds.adv hm_18 1 (pc' := 39) (L' := [qr 1, qi v1, qi v2]) (S' := [.int (-1)]) (H' := (c0 :: bk0 zf za zi zm zd zv zt zr zh zj zp zn zab zw zu zz zaa zo zc ze zq zs zb zx zy zg zk zl po)) rfl ?_
        cases h
        exact OEnds.iret hm_18 rfl rfl
theorem ok_keywordChar_19_0 {zf za zi zm zd zv zt zr zh zj zp zn zab zw zu : List Int32} {zz zaa zo zc ze zq zs zb zx zy zg zk zl : Int32} {c0 : ACell} {po : List ACell} : ∀ {v1 v2 : Int32} {res : Int32}, f_keywordChar_19 zf za zi zm zc ze v1 v2 = some res → OEnds own_P 17 19 [qr 1, qi v1, qi v2] [] (c0 :: bk0 zf za zi zm zd zv zt zr zh zj zp zn zab zw zu zz zaa zo zc ze zq zs zb zx zy zg zk zl po) (some (.int res), (c0 :: bk0 zf za zi zm zd zv zt zr zh zj zp zn zab zw zu zz zaa zo zc ze zq zs zb zx zy zg zk zl po), 0, 0) := by
  intro v1 v2 res h
  unfold f_keywordChar_19 at h
  refine OEnds.adv hm_17 3 (pc' := 24) (L' := [qr 1, qi v1, qi v2]) (S' := [.int zc, .int v1]) (H' := (c0 :: bk0 zf za zi zm zd zv zt zr zh zj zp zn zab zw zu zz zaa zo zc ze zq zs zb zx zy zg zk zl po)) rfl ?_
  by_cases hc113 : v1 = zc
  · simp only [if_pos hc113] at h
    refine OEnds.icmpF hm_17 rfl ((teq hc113).2) ?_
    refine OEnds.adv hm_17 1 (pc' := 28) (L' := [qr 1, qi v1, qi v2]) (S' := [.int v2]) (H' := (c0 :: bk0 zf za zi zm zd zv zt zr zh zj zp zn zab zw zu zz zaa zo zc ze zq zs zb zx zy zg zk zl po)) rfl ?_
    by_cases hc114 : v2 < (0 : Int32)
    · simp only [if_pos hc114] at h
      refine OEnds.ifT hm_17 rfl (q := 46) rfl ((tlt hc114).1) ?_
      refine OEnds.adv hm_17 1 (pc' := 47) (L' := [qr 1, qi v1, qi v2]) (S' := [.int (-1)]) (H' := (c0 :: bk0 zf za zi zm zd zv zt zr zh zj zp zn zab zw zu zz zaa zo zc ze zq zs zb zx zy zg zk zl po)) rfl ?_
      cases h
      exact OEnds.iret hm_17 rfl rfl
    · simp only [if_neg hc114] at h
      refine OEnds.ifF hm_17 rfl ((flt hc114).1) ?_
      refine OEnds.adv hm_17 3 (pc' := 36) (L' := [qr 1, qi v1, qi v2]) (S' := [.int ze, .int v2]) (H' := (c0 :: bk0 zf za zi zm zd zv zt zr zh zj zp zn zab zw zu zz zaa zo zc ze zq zs zb zx zy zg zk zl po)) rfl ?_
      by_cases hc115 : v2 < ze
      · simp only [if_pos hc115] at h
        refine OEnds.icmpF hm_17 rfl ((tlt hc115).2.1) ?_
        refine OEnds.adv hm_17 3 (pc' := 44) (L' := [qr 1, qi v1, qi v2]) (S' := [.int v2, .ref 5]) (H' := (c0 :: bk0 zf za zi zm zd zv zt zr zh zj zp zn zab zw zu zz zaa zo zc ze zq zs zb zx zy zg zk zl po)) rfl ?_
        obtain ⟨x123, hx123, h⟩ := bnd h
        refine OEnds.plain hm_17 rfl rfl (x_iaload rfl hx123) ?_
        show OEnds own_P 17 45 [qr 1, qi v1, qi v2] [.int x123] (c0 :: bk0 zf za zi zm zd zv zt zr zh zj zp zn zab zw zu zz zaa zo zc ze zq zs zb zx zy zg zk zl po) _
        cases h
        exact OEnds.iret hm_17 rfl rfl
      · simp only [if_neg hc115] at h
        refine OEnds.icmpT hm_17 rfl (q := 46) rfl ((flt hc115).2.1) ?_
        refine OEnds.adv hm_17 1 (pc' := 47) (L' := [qr 1, qi v1, qi v2]) (S' := [.int (-1)]) (H' := (c0 :: bk0 zf za zi zm zd zv zt zr zh zj zp zn zab zw zu zz zaa zo zc ze zq zs zb zx zy zg zk zl po)) rfl ?_
        cases h
        exact OEnds.iret hm_17 rfl rfl
  · simp only [if_neg hc113] at h
    refine OEnds.icmpT hm_17 rfl (q := 46) rfl ((feq hc113).2) ?_
    refine OEnds.adv hm_17 1 (pc' := 47) (L' := [qr 1, qi v1, qi v2]) (S' := [.int (-1)]) (H' := (c0 :: bk0 zf za zi zm zd zv zt zr zh zj zp zn zab zw zu zz zaa zo zc ze zq zs zb zx zy zg zk zl po)) rfl ?_
    cases h
    exact OEnds.iret hm_17 rfl rfl
theorem ok_keywordChar_0 {zf za zi zm zd zv zt zr zh zj zp zn zab zw zu : List Int32} {zz zaa zo zc ze zq zs zb zx zy zg zk zl : Int32} {c0 : ACell} {po : List ACell} {v1 v2 res : Int32} (h : f_keywordChar zf za zi zm zc ze v1 v2 = some res) : OEnds own_P 17 0 [qr 1, qi v1, qi v2] [] (c0 :: bk0 zf za zi zm zd zv zt zr zh zj zp zn zab zw zu zz zaa zo zc ze zq zs zb zx zy zg zk zl po) (some (.int res), (c0 :: bk0 zf za zi zm zd zv zt zr zh zj zp zn zab zw zu zz zaa zo zc ze zq zs zb zx zy zg zk zl po), 0, 0) := by
  unfold f_keywordChar at h
  refine OEnds.adv hm_17 1 (pc' := 1) (L' := [qr 1, qi v1, qi v2]) (S' := [.int v1]) (H' := (c0 :: bk0 zf za zi zm zd zv zt zr zh zj zp zn zab zw zu zz zaa zo zc ze zq zs zb zx zy zg zk zl po)) rfl ?_
  by_cases hc116 : v1 < (0 : Int32)
  · simp only [if_pos hc116] at h
    refine OEnds.ifT hm_17 rfl (q := 19) rfl ((tlt hc116).1) ?_
    show OEnds own_P 17 19 [qr 1, qi v1, qi v2] [] (c0 :: bk0 zf za zi zm zd zv zt zr zh zj zp zn zab zw zu zz zaa zo zc ze zq zs zb zx zy zg zk zl po) _
    exact ok_keywordChar_19_0 h
  · simp only [if_neg hc116] at h
    refine OEnds.ifF hm_17 rfl ((flt hc116).1) ?_
    refine OEnds.adv hm_17 3 (pc' := 9) (L' := [qr 1, qi v1, qi v2]) (S' := [.int zc, .int v1]) (H' := (c0 :: bk0 zf za zi zm zd zv zt zr zh zj zp zn zab zw zu zz zaa zo zc ze zq zs zb zx zy zg zk zl po)) rfl ?_
    by_cases hc117 : v1 < zc
    · simp only [if_pos hc117] at h
      refine OEnds.icmpF hm_17 rfl ((tlt hc117).2.1) ?_
      refine OEnds.adv hm_17 3 (pc' := 15) (L' := [qr 1, qi v1, qi v2]) (S' := [.int v2, .int v1, .ref 1]) (H' := (c0 :: bk0 zf za zi zm zd zv zt zr zh zj zp zn zab zw zu zz zaa zo zc ze zq zs zb zx zy zg zk zl po)) rfl ?_
      obtain ⟨r122, hq118, h⟩ := bnd h
      refine OEnds.call0 hm_17 rfl rfl (by decide) rfl (as := [.ref 1, .int v1, .int v2]) (rest := []) rfl rfl (ok_acceptedChar_0 hq118) ?_
      show OEnds own_P 17 18 [qr 1, qi v1, qi v2] [.int r122] (c0 :: bk0 zf za zi zm zd zv zt zr zh zj zp zn zab zw zu zz zaa zo zc ze zq zs zb zx zy zg zk zl po) _
      cases h
      exact OEnds.iret hm_17 rfl rfl
    · simp only [if_neg hc117] at h
      refine OEnds.icmpT hm_17 rfl (q := 19) rfl ((flt hc117).2.1) ?_
      show OEnds own_P 17 19 [qr 1, qi v1, qi v2] [] (c0 :: bk0 zf za zi zm zd zv zt zr zh zj zp zn zab zw zu zz zaa zo zc ze zq zs zb zx zy zg zk zl po) _
      exact ok_keywordChar_19_0 h
theorem ok_isLetter_1 {zf za zi zm zd zv zt zr zh zj zp zn zab zw zu : List Int32} {zz zaa zo zc ze zq zs zb zx zy zg zk zl : Int32} {c0 c1 c2 c3 c4 c5 c6 c7 c8 c9 c10 c11 c12 c13 c14 c15 c16 : ACell} {po : List ACell} {v1 res : Int32} (h : f_isLetter v1 = some res) : OEnds own_P 5 0 [qr 17, qi v1] [] (c0 :: c1 :: c2 :: c3 :: c4 :: c5 :: c6 :: c7 :: c8 :: c9 :: c10 :: c11 :: c12 :: c13 :: c14 :: c15 :: c16 :: bk1 zf za zi zm zd zv zt zr zh zj zp zn zab zw zu zz zaa zo zc ze zq zs zb zx zy zg zk zl po) (some (.int res), (c0 :: c1 :: c2 :: c3 :: c4 :: c5 :: c6 :: c7 :: c8 :: c9 :: c10 :: c11 :: c12 :: c13 :: c14 :: c15 :: c16 :: bk1 zf za zi zm zd zv zt zr zh zj zp zn zab zw zu zz zaa zo zc ze zq zs zb zx zy zg zk zl po), 0, 0) := by
  unfold f_isLetter at h
  refine OEnds.adv hm_5 2 (pc' := 3) (L' := [qr 17, qi v1]) (S' := [.int 97, .int v1]) (H' := (c0 :: c1 :: c2 :: c3 :: c4 :: c5 :: c6 :: c7 :: c8 :: c9 :: c10 :: c11 :: c12 :: c13 :: c14 :: c15 :: c16 :: bk1 zf za zi zm zd zv zt zr zh zj zp zn zab zw zu zz zaa zo zc ze zq zs zb zx zy zg zk zl po)) rfl ?_
  by_cases hc119 : v1 < (97 : Int32)
  · simp only [if_pos hc119] at h
    refine OEnds.icmpT hm_5 rfl (q := 16) rfl ((tlt hc119).1) ?_
    refine OEnds.adv hm_5 1 (pc' := 17) (L' := [qr 17, qi v1]) (S' := [.int 0]) (H' := (c0 :: c1 :: c2 :: c3 :: c4 :: c5 :: c6 :: c7 :: c8 :: c9 :: c10 :: c11 :: c12 :: c13 :: c14 :: c15 :: c16 :: bk1 zf za zi zm zd zv zt zr zh zj zp zn zab zw zu zz zaa zo zc ze zq zs zb zx zy zg zk zl po)) rfl ?_
    cases h
    exact OEnds.iret hm_5 rfl rfl
  · simp only [if_neg hc119] at h
    refine OEnds.icmpF hm_5 rfl ((flt hc119).1) ?_
    refine OEnds.adv hm_5 2 (pc' := 9) (L' := [qr 17, qi v1]) (S' := [.int 122, .int v1]) (H' := (c0 :: c1 :: c2 :: c3 :: c4 :: c5 :: c6 :: c7 :: c8 :: c9 :: c10 :: c11 :: c12 :: c13 :: c14 :: c15 :: c16 :: bk1 zf za zi zm zd zv zt zr zh zj zp zn zab zw zu zz zaa zo zc ze zq zs zb zx zy zg zk zl po)) rfl ?_
    by_cases hc120 : (122 : Int32) < v1
    · simp only [if_pos hc120] at h
      refine OEnds.icmpT hm_5 rfl (q := 16) rfl ((tlt hc120).2.2.1) ?_
      refine OEnds.adv hm_5 1 (pc' := 17) (L' := [qr 17, qi v1]) (S' := [.int 0]) (H' := (c0 :: c1 :: c2 :: c3 :: c4 :: c5 :: c6 :: c7 :: c8 :: c9 :: c10 :: c11 :: c12 :: c13 :: c14 :: c15 :: c16 :: bk1 zf za zi zm zd zv zt zr zh zj zp zn zab zw zu zz zaa zo zc ze zq zs zb zx zy zg zk zl po)) rfl ?_
      cases h
      exact OEnds.iret hm_5 rfl rfl
    · simp only [if_neg hc120] at h
      refine OEnds.icmpF hm_5 rfl ((flt hc120).2.2.1) ?_
      refine OEnds.adv hm_5 2 (pc' := 17) (L' := [qr 17, qi v1]) (S' := [.int 1]) (H' := (c0 :: c1 :: c2 :: c3 :: c4 :: c5 :: c6 :: c7 :: c8 :: c9 :: c10 :: c11 :: c12 :: c13 :: c14 :: c15 :: c16 :: bk1 zf za zi zm zd zv zt zr zh zj zp zn zab zw zu zz zaa zo zc ze zq zs zb zx zy zg zk zl po)) rfl ?_
      cases h
      exact OEnds.iret hm_5 rfl rfl
theorem ok_addChar_1 {zf za zi zd zv zt zr zh zj zp zn zab zw zu : List Int32} {zz zaa zo zc zq zs zb zx zy zg zk zl : Int32} {c0 c1 c2 c3 c4 c5 c6 c7 c8 c9 c10 c11 c12 c13 c14 c15 c16 : ACell} {po : List ACell} {zm : List Int32} {ze v1 res : Int32} {w_o_pend : List Int32} {w_o_pendLen : Int32} (h : f_addChar zz zaa zo zc zm ze v1 = some (res, w_o_pend, w_o_pendLen)) : OEnds own_P 4 0 [qr 17, qi v1] [] (c0 :: c1 :: c2 :: c3 :: c4 :: c5 :: c6 :: c7 :: c8 :: c9 :: c10 :: c11 :: c12 :: c13 :: c14 :: c15 :: c16 :: bk1 zf za zi zm zd zv zt zr zh zj zp zn zab zw zu zz zaa zo zc ze zq zs zb zx zy zg zk zl po) (some (.int res), (c0 :: c1 :: c2 :: c3 :: c4 :: c5 :: c6 :: c7 :: c8 :: c9 :: c10 :: c11 :: c12 :: c13 :: c14 :: c15 :: c16 :: bk1 zf za zi w_o_pend zd zv zt zr zh zj zp zn zab zw zu zz zaa zo zc w_o_pendLen zq zs zb zx zy zg zk zl po), 0, 0) := by
  unfold f_addChar at h
  refine OEnds.adv hm_4 2 (pc' := 4) (L' := [qr 17, qi v1]) (S' := [.int zo]) (H' := (c0 :: c1 :: c2 :: c3 :: c4 :: c5 :: c6 :: c7 :: c8 :: c9 :: c10 :: c11 :: c12 :: c13 :: c14 :: c15 :: c16 :: bk1 zf za zi zm zd zv zt zr zh zj zp zn zab zw zu zz zaa zo zc ze zq zs zb zx zy zg zk zl po)) rfl ?_
  by_cases hc121 : zo = (0 : Int32)
  · simp only [if_pos hc121] at h
    refine OEnds.ifT hm_4 rfl (q := 9) rfl ((teq hc121).1) ?_
    refine OEnds.adv hm_4 2 (pc' := 11) (L' := [qr 17, qi v1]) (S' := [.int v1, .ref 17]) (H' := (c0 :: c1 :: c2 :: c3 :: c4 :: c5 :: c6 :: c7 :: c8 :: c9 :: c10 :: c11 :: c12 :: c13 :: c14 :: c15 :: c16 :: bk1 zf za zi zm zd zv zt zr zh zj zp zn zab zw zu zz zaa zo zc ze zq zs zb zx zy zg zk zl po)) rfl ?_
    obtain ⟨r8, hq122, h⟩ := bnd h
    refine OEnds.call0 hm_4 rfl rfl (by decide) rfl (as := [.ref 17, .int v1]) (rest := []) rfl rfl (ok_isLetter_1 hq122) ?_
    show OEnds own_P 4 14 [qr 17, qi v1] [.int r8] (c0 :: c1 :: c2 :: c3 :: c4 :: c5 :: c6 :: c7 :: c8 :: c9 :: c10 :: c11 :: c12 :: c13 :: c14 :: c15 :: c16 :: bk1 zf za zi zm zd zv zt zr zh zj zp zn zab zw zu zz zaa zo zc ze zq zs zb zx zy zg zk zl po) _
    by_cases hc123 : r8 = (0 : Int32)
    · simp only [if_pos hc123] at h
      refine OEnds.ifF hm_4 rfl ((teq hc123).2) ?_
      refine OEnds.adv hm_4 1 (pc' := 19) (L' := [qr 17, qi v1]) (S' := [.int (-2)]) (H' := (c0 :: c1 :: c2 :: c3 :: c4 :: c5 :: c6 :: c7 :: c8 :: c9 :: c10 :: c11 :: c12 :: c13 :: c14 :: c15 :: c16 :: bk1 zf za zi zm zd zv zt zr zh zj zp zn zab zw zu zz zaa zo zc ze zq zs zb zx zy zg zk zl po)) rfl ?_
      cases h
      exact OEnds.iret hm_4 rfl rfl
    · simp only [if_neg hc123] at h
      refine OEnds.ifT hm_4 rfl (q := 20) rfl ((feq hc123).2) ?_
      refine OEnds.adv hm_4 4 (pc' := 28) (L' := [qr 17, qi v1]) (S' := [.int zz, .int zc]) (H' := (c0 :: c1 :: c2 :: c3 :: c4 :: c5 :: c6 :: c7 :: c8 :: c9 :: c10 :: c11 :: c12 :: c13 :: c14 :: c15 :: c16 :: bk1 zf za zi zm zd zv zt zr zh zj zp zn zab zw zu zz zaa zo zc ze zq zs zb zx zy zg zk zl po)) rfl ?_
      by_cases hc124 : zc < zz
      · simp only [if_pos hc124] at h
        refine OEnds.icmpT hm_4 rfl (q := 34) rfl ((tlt hc124).1) ?_
        refine OEnds.adv hm_4 4 (pc' := 42) (L' := [qr 17, qi v1]) (S' := [.int zaa, .int ze]) (H' := (c0 :: c1 :: c2 :: c3 :: c4 :: c5 :: c6 :: c7 :: c8 :: c9 :: c10 :: c11 :: c12 :: c13 :: c14 :: c15 :: c16 :: bk1 zf za zi zm zd zv zt zr zh zj zp zn zab zw zu zz zaa zo zc ze zq zs zb zx zy zg zk zl po)) rfl ?_
        by_cases hc125 : ze < zaa
        · simp only [if_pos hc125] at h
          refine OEnds.icmpF hm_4 rfl ((tlt hc125).2.1) ?_
          refine OEnds.adv hm_4 3 (pc' := 51) (L' := [qr 17, qi v1]) (S' := [.int 8, .int ze]) (H' := (c0 :: c1 :: c2 :: c3 :: c4 :: c5 :: c6 :: c7 :: c8 :: c9 :: c10 :: c11 :: c12 :: c13 :: c14 :: c15 :: c16 :: bk1 zf za zi zm zd zv zt zr zh zj zp zn zab zw zu zz zaa zo zc ze zq zs zb zx zy zg zk zl po)) rfl ?_
          by_cases hc126 : ze < (8 : Int32)
          · simp only [if_pos hc126] at h
            refine OEnds.icmpT hm_4 rfl (q := 57) rfl ((tlt hc126).1) ?_
            refine OEnds.adv hm_4 5 (pc' := 66) (L' := [qr 17, qi v1]) (S' := [.int v1, .int ze, .ref 21]) (H' := (c0 :: c1 :: c2 :: c3 :: c4 :: c5 :: c6 :: c7 :: c8 :: c9 :: c10 :: c11 :: c12 :: c13 :: c14 :: c15 :: c16 :: bk1 zf za zi zm zd zv zt zr zh zj zp zn zab zw zu zz zaa zo zc ze zq zs zb zx zy zg zk zl po)) rfl ?_
            obtain ⟨A9, hA9, h⟩ := bnd h
            refine OEnds.plain hm_4 rfl rfl (x_iastore rfl (Nat.le_of_ble_eq_true rfl) hA9) ?_
            refine OEnds.adv hm_4 8 (pc' := 81) (L' := [qr 17, qi v1]) (S' := [.int (ze + (1 : Int32))]) (H' := (c0 :: c1 :: c2 :: c3 :: c4 :: c5 :: c6 :: c7 :: c8 :: c9 :: c10 :: c11 :: c12 :: c13 :: c14 :: c15 :: c16 :: bk1 zf za zi A9 zd zv zt zr zh zj zp zn zab zw zu zz zaa zo zc (ze + (1 : Int32)) zq zs zb zx zy zg zk zl po)) rfl ?_
            cases h
            exact OEnds.iret hm_4 rfl rfl
          · simp only [if_neg hc126] at h
            refine OEnds.icmpF hm_4 rfl ((flt hc126).1) ?_
            refine OEnds.adv hm_4 1 (pc' := 56) (L' := [qr 17, qi v1]) (S' := [.int (-3)]) (H' := (c0 :: c1 :: c2 :: c3 :: c4 :: c5 :: c6 :: c7 :: c8 :: c9 :: c10 :: c11 :: c12 :: c13 :: c14 :: c15 :: c16 :: bk1 zf za zi zm zd zv zt zr zh zj zp zn zab zw zu zz zaa zo zc ze zq zs zb zx zy zg zk zl po)) rfl ?_
            cases h
            exact OEnds.iret hm_4 rfl rfl
        · simp only [if_neg hc125] at h
          refine OEnds.icmpT hm_4 rfl (q := 54) rfl ((flt hc125).2.1) ?_
          refine OEnds.adv hm_4 1 (pc' := 56) (L' := [qr 17, qi v1]) (S' := [.int (-3)]) (H' := (c0 :: c1 :: c2 :: c3 :: c4 :: c5 :: c6 :: c7 :: c8 :: c9 :: c10 :: c11 :: c12 :: c13 :: c14 :: c15 :: c16 :: bk1 zf za zi zm zd zv zt zr zh zj zp zn zab zw zu zz zaa zo zc ze zq zs zb zx zy zg zk zl po)) rfl ?_
          cases h
          exact OEnds.iret hm_4 rfl rfl
      · simp only [if_neg hc124] at h
        refine OEnds.icmpF hm_4 rfl ((flt hc124).1) ?_
        refine OEnds.adv hm_4 1 (pc' := 33) (L' := [qr 17, qi v1]) (S' := [.int (-3)]) (H' := (c0 :: c1 :: c2 :: c3 :: c4 :: c5 :: c6 :: c7 :: c8 :: c9 :: c10 :: c11 :: c12 :: c13 :: c14 :: c15 :: c16 :: bk1 zf za zi zm zd zv zt zr zh zj zp zn zab zw zu zz zaa zo zc ze zq zs zb zx zy zg zk zl po)) rfl ?_
        cases h
        exact OEnds.iret hm_4 rfl rfl
  · simp only [if_neg hc121] at h
    refine OEnds.ifF hm_4 rfl ((feq hc121).1) ?_
    refine OEnds.adv hm_4 1 (pc' := 8) (L' := [qr 17, qi v1]) (S' := [.int (-1)]) (H' := (c0 :: c1 :: c2 :: c3 :: c4 :: c5 :: c6 :: c7 :: c8 :: c9 :: c10 :: c11 :: c12 :: c13 :: c14 :: c15 :: c16 :: bk1 zf za zi zm zd zv zt zr zh zj zp zn zab zw zu zz zaa zo zc ze zq zs zb zx zy zg zk zl po)) rfl ?_
    cases h
    exact OEnds.iret hm_4 rfl rfl
theorem ok_isPrintable_1 {zf za zi zm zd zv zt zr zh zj zp zn zab zw zu : List Int32} {zz zaa zo zc ze zq zs zb zx zy zg zk zl : Int32} {c0 c1 c2 c3 c4 c5 c6 c7 c8 c9 c10 c11 c12 c13 c14 c15 c16 : ACell} {po : List ACell} {v1 res : Int32} (h : f_isPrintable v1 = some res) : OEnds own_P 7 0 [qr 17, qi v1] [] (c0 :: c1 :: c2 :: c3 :: c4 :: c5 :: c6 :: c7 :: c8 :: c9 :: c10 :: c11 :: c12 :: c13 :: c14 :: c15 :: c16 :: bk1 zf za zi zm zd zv zt zr zh zj zp zn zab zw zu zz zaa zo zc ze zq zs zb zx zy zg zk zl po) (some (.int res), (c0 :: c1 :: c2 :: c3 :: c4 :: c5 :: c6 :: c7 :: c8 :: c9 :: c10 :: c11 :: c12 :: c13 :: c14 :: c15 :: c16 :: bk1 zf za zi zm zd zv zt zr zh zj zp zn zab zw zu zz zaa zo zc ze zq zs zb zx zy zg zk zl po), 0, 0) := by
  unfold f_isPrintable at h
  refine OEnds.adv hm_7 2 (pc' := 3) (L' := [qr 17, qi v1]) (S' := [.int 32, .int v1]) (H' := (c0 :: c1 :: c2 :: c3 :: c4 :: c5 :: c6 :: c7 :: c8 :: c9 :: c10 :: c11 :: c12 :: c13 :: c14 :: c15 :: c16 :: bk1 zf za zi zm zd zv zt zr zh zj zp zn zab zw zu zz zaa zo zc ze zq zs zb zx zy zg zk zl po)) rfl ?_
  by_cases hc127 : v1 < (32 : Int32)
  · simp only [if_pos hc127] at h
    refine OEnds.icmpT hm_7 rfl (q := 16) rfl ((tlt hc127).1) ?_
    refine OEnds.adv hm_7 1 (pc' := 17) (L' := [qr 17, qi v1]) (S' := [.int 0]) (H' := (c0 :: c1 :: c2 :: c3 :: c4 :: c5 :: c6 :: c7 :: c8 :: c9 :: c10 :: c11 :: c12 :: c13 :: c14 :: c15 :: c16 :: bk1 zf za zi zm zd zv zt zr zh zj zp zn zab zw zu zz zaa zo zc ze zq zs zb zx zy zg zk zl po)) rfl ?_
    cases h
    exact OEnds.iret hm_7 rfl rfl
  · simp only [if_neg hc127] at h
    refine OEnds.icmpF hm_7 rfl ((flt hc127).1) ?_
    refine OEnds.adv hm_7 2 (pc' := 9) (L' := [qr 17, qi v1]) (S' := [.int 126, .int v1]) (H' := (c0 :: c1 :: c2 :: c3 :: c4 :: c5 :: c6 :: c7 :: c8 :: c9 :: c10 :: c11 :: c12 :: c13 :: c14 :: c15 :: c16 :: bk1 zf za zi zm zd zv zt zr zh zj zp zn zab zw zu zz zaa zo zc ze zq zs zb zx zy zg zk zl po)) rfl ?_
    by_cases hc128 : (126 : Int32) < v1
    · simp only [if_pos hc128] at h
      refine OEnds.icmpT hm_7 rfl (q := 16) rfl ((tlt hc128).2.2.1) ?_
      refine OEnds.adv hm_7 1 (pc' := 17) (L' := [qr 17, qi v1]) (S' := [.int 0]) (H' := (c0 :: c1 :: c2 :: c3 :: c4 :: c5 :: c6 :: c7 :: c8 :: c9 :: c10 :: c11 :: c12 :: c13 :: c14 :: c15 :: c16 :: bk1 zf za zi zm zd zv zt zr zh zj zp zn zab zw zu zz zaa zo zc ze zq zs zb zx zy zg zk zl po)) rfl ?_
      cases h
      exact OEnds.iret hm_7 rfl rfl
    · simp only [if_neg hc128] at h
      refine OEnds.icmpF hm_7 rfl ((flt hc128).2.2.1) ?_
      refine OEnds.adv hm_7 2 (pc' := 17) (L' := [qr 17, qi v1]) (S' := [.int 1]) (H' := (c0 :: c1 :: c2 :: c3 :: c4 :: c5 :: c6 :: c7 :: c8 :: c9 :: c10 :: c11 :: c12 :: c13 :: c14 :: c15 :: c16 :: bk1 zf za zi zm zd zv zt zr zh zj zp zn zab zw zu zz zaa zo zc ze zq zs zb zx zy zg zk zl po)) rfl ?_
      cases h
      exact OEnds.iret hm_7 rfl rfl
theorem ok_pendingEquals_22_1 {zf za zi zm zd zv zt zr zh zj zp zn zab zw zu : List Int32} {zz zaa zo zc ze zq zs zb zx zy zg zk zl : Int32} {c0 c1 c2 c3 c4 c5 c6 c7 c8 c9 c10 c11 c12 c13 c14 c15 c16 : ACell} {po : List ACell} : ∀ (n : Nat), ∀ {v2 v3 : Int32} {d1 : Slot} {res : Int32}, f_pendingEquals_22 zf za zm ze n v2 v3 = some res → OEnds own_P 25 22 [qr 17, d1, qi v2, qi v3] [] (c0 :: c1 :: c2 :: c3 :: c4 :: c5 :: c6 :: c7 :: c8 :: c9 :: c10 :: c11 :: c12 :: c13 :: c14 :: c15 :: c16 :: bk1 zf za zi zm zd zv zt zr zh zj zp zn zab zw zu zz zaa zo zc ze zq zs zb zx zy zg zk zl po) (some (.int res), (c0 :: c1 :: c2 :: c3 :: c4 :: c5 :: c6 :: c7 :: c8 :: c9 :: c10 :: c11 :: c12 :: c13 :: c14 :: c15 :: c16 :: bk1 zf za zi zm zd zv zt zr zh zj zp zn zab zw zu zz zaa zo zc ze zq zs zb zx zy zg zk zl po), 0, 0) := by
  intro n
  induction n with
  | zero => intro v2 v3 d1 res h; cases h
  | succ n ih =>
    intro v2 v3 d1 res h
    unfold f_pendingEquals_22 at h
    refine OEnds.adv hm_25 3 (pc' := 27) (L' := [qr 17, qu, qi v2, qi v3]) (S' := [.int ze, .int v3]) (H' := (c0 :: c1 :: c2 :: c3 :: c4 :: c5 :: c6 :: c7 :: c8 :: c9 :: c10 :: c11 :: c12 :: c13 :: c14 :: c15 :: c16 :: bk1 zf za zi zm zd zv zt zr zh zj zp zn zab zw zu zz zaa zo zc ze zq zs zb zx zy zg zk zl po)) rfl ?_
    by_cases hc129 : v3 < ze
    · simp only [if_pos hc129] at h
      refine OEnds.icmpF hm_25 rfl ((tlt hc129).2.1) ?_
      refine OEnds.adv hm_25 2 (pc' := 33) (L' := [qr 17, qu, qi v2, qi v3]) (S' := [.int 8, .int v3]) (H' := (c0 :: c1 :: c2 :: c3 :: c4 :: c5 :: c6 :: c7 :: c8 :: c9 :: c10 :: c11 :: c12 :: c13 :: c14 :: c15 :: c16 :: bk1 zf za zi zm zd zv zt zr zh zj zp zn zab zw zu zz zaa zo zc ze zq zs zb zx zy zg zk zl po)) rfl ?_
      by_cases hc130 : v3 < (8 : Int32)
      · simp only [if_pos hc130] at h
        refine OEnds.icmpF hm_25 rfl ((tlt hc130).2.1) ?_
        refine OEnds.adv hm_25 5 (pc' := 43) (L' := [qr 17, qu, qi v2, qi v3]) (S' := [.int (v2 + v3), .ref 18]) (H' := (c0 :: c1 :: c2 :: c3 :: c4 :: c5 :: c6 :: c7 :: c8 :: c9 :: c10 :: c11 :: c12 :: c13 :: c14 :: c15 :: c16 :: bk1 zf za zi zm zd zv zt zr zh zj zp zn zab zw zu zz zaa zo zc ze zq zs zb zx zy zg zk zl po)) rfl ?_
        obtain ⟨x11, hx11, h⟩ := bnd h
        refine OEnds.plain hm_25 rfl rfl (x_iaload rfl hx11) ?_
        refine OEnds.adv hm_25 3 (pc' := 49) (L' := [qr 17, qu, qi v2, qi v3]) (S' := [.int v3, .ref 21, .int x11]) (H' := (c0 :: c1 :: c2 :: c3 :: c4 :: c5 :: c6 :: c7 :: c8 :: c9 :: c10 :: c11 :: c12 :: c13 :: c14 :: c15 :: c16 :: bk1 zf za zi zm zd zv zt zr zh zj zp zn zab zw zu zz zaa zo zc ze zq zs zb zx zy zg zk zl po)) rfl ?_
        obtain ⟨x12, hx12, h⟩ := bnd h
        refine OEnds.plain hm_25 rfl rfl (x_iaload rfl hx12) ?_
        show OEnds own_P 25 50 [qr 17, qu, qi v2, qi v3] [.int x12, .int x11] (c0 :: c1 :: c2 :: c3 :: c4 :: c5 :: c6 :: c7 :: c8 :: c9 :: c10 :: c11 :: c12 :: c13 :: c14 :: c15 :: c16 :: bk1 zf za zi zm zd zv zt zr zh zj zp zn zab zw zu zz zaa zo zc ze zq zs zb zx zy zg zk zl po) _
        by_cases hc131 : x11 = x12
        · simp only [if_pos hc131] at h
          refine OEnds.icmpT hm_25 rfl (q := 55) rfl ((teq hc131).1) ?_
          refine OEnds.adv hm_25 2 (pc' := 22) (L' := [qr 17, qu, qi v2, qi (v3 + (1 : Int32))]) (S' := []) (H' := (c0 :: c1 :: c2 :: c3 :: c4 :: c5 :: c6 :: c7 :: c8 :: c9 :: c10 :: c11 :: c12 :: c13 :: c14 :: c15 :: c16 :: bk1 zf za zi zm zd zv zt zr zh zj zp zn zab zw zu zz zaa zo zc ze zq zs zb zx zy zg zk zl po)) rfl ?_
          exact ih h
        · simp only [if_neg hc131] at h
          refine OEnds.icmpF hm_25 rfl ((feq hc131).1) ?_
          refine OEnds.adv hm_25 1 (pc' := 54) (L' := [qr 17, qu, qi v2, qi v3]) (S' := [.int 0]) (H' := (c0 :: c1 :: c2 :: c3 :: c4 :: c5 :: c6 :: c7 :: c8 :: c9 :: c10 :: c11 :: c12 :: c13 :: c14 :: c15 :: c16 :: bk1 zf za zi zm zd zv zt zr zh zj zp zn zab zw zu zz zaa zo zc ze zq zs zb zx zy zg zk zl po)) rfl ?_
          cases h
          exact OEnds.iret hm_25 rfl rfl
      · simp only [if_neg hc130] at h
        refine OEnds.icmpT hm_25 rfl (q := 61) rfl ((flt hc130).2.1) ?_
        refine OEnds.adv hm_25 1 (pc' := 62) (L' := [qr 17, qu, qi v2, qi v3]) (S' := [.int 1]) (H' := (c0 :: c1 :: c2 :: c3 :: c4 :: c5 :: c6 :: c7 :: c8 :: c9 :: c10 :: c11 :: c12 :: c13 :: c14 :: c15 :: c16 :: bk1 zf za zi zm zd zv zt zr zh zj zp zn zab zw zu zz zaa zo zc ze zq zs zb zx zy zg zk zl po)) rfl ?_
        cases h
        exact OEnds.iret hm_25 rfl rfl
    · simp only [if_neg hc129] at h
      refine OEnds.icmpT hm_25 rfl (q := 61) rfl ((flt hc129).2.1) ?_
      refine OEnds.adv hm_25 1 (pc' := 62) (L' := [qr 17, qu, qi v2, qi v3]) (S' := [.int 1]) (H' := (c0 :: c1 :: c2 :: c3 :: c4 :: c5 :: c6 :: c7 :: c8 :: c9 :: c10 :: c11 :: c12 :: c13 :: c14 :: c15 :: c16 :: bk1 zf za zi zm zd zv zt zr zh zj zp zn zab zw zu zz zaa zo zc ze zq zs zb zx zy zg zk zl po)) rfl ?_
      cases h
      exact OEnds.iret hm_25 rfl rfl
theorem ok_pendingEquals_1 {zf za zi zm zd zv zt zr zh zj zp zn zab zw zu : List Int32} {zz zaa zo zc ze zq zs zb zx zy zg zk zl : Int32} {c0 c1 c2 c3 c4 c5 c6 c7 c8 c9 c10 c11 c12 c13 c14 c15 c16 : ACell} {po : List ACell} {v1 res : Int32} (h : f_pendingEquals zf za zm ze v1 = some res) : OEnds own_P 25 0 [qr 17, qi v1, qu, qu] [] (c0 :: c1 :: c2 :: c3 :: c4 :: c5 :: c6 :: c7 :: c8 :: c9 :: c10 :: c11 :: c12 :: c13 :: c14 :: c15 :: c16 :: bk1 zf za zi zm zd zv zt zr zh zj zp zn zab zw zu zz zaa zo zc ze zq zs zb zx zy zg zk zl po) (some (.int res), (c0 :: c1 :: c2 :: c3 :: c4 :: c5 :: c6 :: c7 :: c8 :: c9 :: c10 :: c11 :: c12 :: c13 :: c14 :: c15 :: c16 :: bk1 zf za zi zm zd zv zt zr zh zj zp zn zab zw zu zz zaa zo zc ze zq zs zb zx zy zg zk zl po), 0, 0) := by
  unfold f_pendingEquals at h
  refine OEnds.adv hm_25 3 (pc' := 5) (L' := [qr 17, qi v1, qu, qu]) (S' := [.int v1, .ref 19]) (H' := (c0 :: c1 :: c2 :: c3 :: c4 :: c5 :: c6 :: c7 :: c8 :: c9 :: c10 :: c11 :: c12 :: c13 :: c14 :: c15 :: c16 :: bk1 zf za zi zm zd zv zt zr zh zj zp zn zab zw zu zz zaa zo zc ze zq zs zb zx zy zg zk zl po)) rfl ?_
  obtain ⟨x10, hx10, h⟩ := bnd h
  refine OEnds.plain hm_25 rfl rfl (x_iaload rfl hx10) ?_
  refine OEnds.adv hm_25 2 (pc' := 10) (L' := [qr 17, qi v1, qu, qu]) (S' := [.int ze, .int x10]) (H' := (c0 :: c1 :: c2 :: c3 :: c4 :: c5 :: c6 :: c7 :: c8 :: c9 :: c10 :: c11 :: c12 :: c13 :: c14 :: c15 :: c16 :: bk1 zf za zi zm zd zv zt zr zh zj zp zn zab zw zu zz zaa zo zc ze zq zs zb zx zy zg zk zl po)) rfl ?_
  by_cases hc132 : x10 = ze
  · simp only [if_pos hc132] at h
    refine OEnds.icmpT hm_25 rfl (q := 15) rfl ((teq hc132).1) ?_
    refine OEnds.adv hm_25 6 (pc' := 22) (L' := [qr 17, qi v1, qi (v1 * (8 : Int32)), qi 0]) (S' := []) (H' := (c0 :: c1 :: c2 :: c3 :: c4 :: c5 :: c6 :: c7 :: c8 :: c9 :: c10 :: c11 :: c12 :: c13 :: c14 :: c15 :: c16 :: bk1 zf za zi zm zd zv zt zr zh zj zp zn zab zw zu zz zaa zo zc ze zq zs zb zx zy zg zk zl po)) rfl ?_
    exact ok_pendingEquals_22_1 100000 h
  · simp only [if_neg hc132] at h
    refine OEnds.icmpF hm_25 rfl ((feq hc132).1) ?_
    refine OEnds.adv hm_25 1 (pc' := 14) (L' := [qr 17, qi v1, qu, qu]) (S' := [.int 0]) (H' := (c0 :: c1 :: c2 :: c3 :: c4 :: c5 :: c6 :: c7 :: c8 :: c9 :: c10 :: c11 :: c12 :: c13 :: c14 :: c15 :: c16 :: bk1 zf za zi zm zd zv zt zr zh zj zp zn zab zw zu zz zaa zo zc ze zq zs zb zx zy zg zk zl po)) rfl ?_
    cases h
    exact OEnds.iret hm_25 rfl rfl
theorem ok_pendingIsDuplicate_2_1 {zf za zi zm zd zv zt zr zh zj zp zn zab zw zu : List Int32} {zz zaa zo zc ze zq zs zb zx zy zg zk zl : Int32} {c0 c1 c2 c3 c4 c5 c6 c7 c8 c9 c10 c11 c12 c13 c14 c15 c16 : ACell} {po : List ACell} : ∀ (n : Nat), ∀ {v1 : Int32} {res : Int32}, f_pendingIsDuplicate_2 zf za zm zc ze n v1 = some res → OEnds own_P 8 2 [qr 17, qi v1] [] (c0 :: c1 :: c2 :: c3 :: c4 :: c5 :: c6 :: c7 :: c8 :: c9 :: c10 :: c11 :: c12 :: c13 :: c14 :: c15 :: c16 :: bk1 zf za zi zm zd zv zt zr zh zj zp zn zab zw zu zz zaa zo zc ze zq zs zb zx zy zg zk zl po) (some (.int res), (c0 :: c1 :: c2 :: c3 :: c4 :: c5 :: c6 :: c7 :: c8 :: c9 :: c10 :: c11 :: c12 :: c13 :: c14 :: c15 :: c16 :: bk1 zf za zi zm zd zv zt zr zh zj zp zn zab zw zu zz zaa zo zc ze zq zs zb zx zy zg zk zl po), 0, 0) := by
  intro n
  induction n with
  | zero => intro v1 res h; cases h
  | succ n ih =>
    intro v1 res h
    unfold f_pendingIsDuplicate_2 at h
    refine OEnds.adv hm_8 3 (pc' := 7) (L' := [qr 17, qi v1]) (S' := [.int zc, .int v1]) (H' := (c0 :: c1 :: c2 :: c3 :: c4 :: c5 :: c6 :: c7 :: c8 :: c9 :: c10 :: c11 :: c12 :: c13 :: c14 :: c15 :: c16 :: bk1 zf za zi zm zd zv zt zr zh zj zp zn zab zw zu zz zaa zo zc ze zq zs zb zx zy zg zk zl po)) rfl ?_
    by_cases hc133 : v1 < zc
    · simp only [if_pos hc133] at h
      refine OEnds.icmpF hm_8 rfl ((tlt hc133).2.1) ?_
      refine OEnds.adv hm_8 2 (pc' := 13) (L' := [qr 17, qi v1]) (S' := [.int 16, .int v1]) (H' := (c0 :: c1 :: c2 :: c3 :: c4 :: c5 :: c6 :: c7 :: c8 :: c9 :: c10 :: c11 :: c12 :: c13 :: c14 :: c15 :: c16 :: bk1 zf za zi zm zd zv zt zr zh zj zp zn zab zw zu zz zaa zo zc ze zq zs zb zx zy zg zk zl po)) rfl ?_
      by_cases hc134 : v1 < (16 : Int32)
      · simp only [if_pos hc134] at h
        refine OEnds.icmpF hm_8 rfl ((tlt hc134).2.1) ?_
        refine OEnds.adv hm_8 2 (pc' := 18) (L' := [qr 17, qi v1]) (S' := [.int v1, .ref 17]) (H' := (c0 :: c1 :: c2 :: c3 :: c4 :: c5 :: c6 :: c7 :: c8 :: c9 :: c10 :: c11 :: c12 :: c13 :: c14 :: c15 :: c16 :: bk1 zf za zi zm zd zv zt zr zh zj zp zn zab zw zu zz zaa zo zc ze zq zs zb zx zy zg zk zl po)) rfl ?_
        obtain ⟨r13, hq135, h⟩ := bnd h
        refine OEnds.call0 hm_8 rfl rfl (by decide) rfl (as := [.ref 17, .int v1]) (rest := []) rfl rfl (ok_pendingEquals_1 hq135) ?_
        show OEnds own_P 8 21 [qr 17, qi v1] [.int r13] (c0 :: c1 :: c2 :: c3 :: c4 :: c5 :: c6 :: c7 :: c8 :: c9 :: c10 :: c11 :: c12 :: c13 :: c14 :: c15 :: c16 :: bk1 zf za zi zm zd zv zt zr zh zj zp zn zab zw zu zz zaa zo zc ze zq zs zb zx zy zg zk zl po) _
        by_cases hc136 : r13 = (0 : Int32)
        · simp only [if_pos hc136] at h
          refine OEnds.ifT hm_8 rfl (q := 26) rfl ((teq hc136).1) ?_
          refine OEnds.adv hm_8 2 (pc' := 2) (L' := [qr 17, qi (v1 + (1 : Int32))]) (S' := []) (H' := (c0 :: c1 :: c2 :: c3 :: c4 :: c5 :: c6 :: c7 :: c8 :: c9 :: c10 :: c11 :: c12 :: c13 :: c14 :: c15 :: c16 :: bk1 zf za zi zm zd zv zt zr zh zj zp zn zab zw zu zz zaa zo zc ze zq zs zb zx zy zg zk zl po)) rfl ?_
          exact ih h
        · simp only [if_neg hc136] at h
          refine OEnds.ifF hm_8 rfl ((feq hc136).1) ?_
          refine OEnds.adv hm_8 1 (pc' := 25) (L' := [qr 17, qi v1]) (S' := [.int 1]) (H' := (c0 :: c1 :: c2 :: c3 :: c4 :: c5 :: c6 :: c7 :: c8 :: c9 :: c10 :: c11 :: c12 :: c13 :: c14 :: c15 :: c16 :: bk1 zf za zi zm zd zv zt zr zh zj zp zn zab zw zu zz zaa zo zc ze zq zs zb zx zy zg zk zl po)) rfl ?_
          cases h
          exact OEnds.iret hm_8 rfl rfl
      · simp only [if_neg hc134] at h
        refine OEnds.icmpT hm_8 rfl (q := 32) rfl ((flt hc134).2.1) ?_
        refine OEnds.adv hm_8 1 (pc' := 33) (L' := [qr 17, qi v1]) (S' := [.int 0]) (H' := (c0 :: c1 :: c2 :: c3 :: c4 :: c5 :: c6 :: c7 :: c8 :: c9 :: c10 :: c11 :: c12 :: c13 :: c14 :: c15 :: c16 :: bk1 zf za zi zm zd zv zt zr zh zj zp zn zab zw zu zz zaa zo zc ze zq zs zb zx zy zg zk zl po)) rfl ?_
        cases h
        exact OEnds.iret hm_8 rfl rfl
    · simp only [if_neg hc133] at h
      refine OEnds.icmpT hm_8 rfl (q := 32) rfl ((flt hc133).2.1) ?_
      refine OEnds.adv hm_8 1 (pc' := 33) (L' := [qr 17, qi v1]) (S' := [.int 0]) (H' := (c0 :: c1 :: c2 :: c3 :: c4 :: c5 :: c6 :: c7 :: c8 :: c9 :: c10 :: c11 :: c12 :: c13 :: c14 :: c15 :: c16 :: bk1 zf za zi zm zd zv zt zr zh zj zp zn zab zw zu zz zaa zo zc ze zq zs zb zx zy zg zk zl po)) rfl ?_
      cases h
      exact OEnds.iret hm_8 rfl rfl
theorem ok_pendingIsDuplicate_1 {zf za zi zm zd zv zt zr zh zj zp zn zab zw zu : List Int32} {zz zaa zo zc ze zq zs zb zx zy zg zk zl : Int32} {c0 c1 c2 c3 c4 c5 c6 c7 c8 c9 c10 c11 c12 c13 c14 c15 c16 : ACell} {po : List ACell} {res : Int32} (h : f_pendingIsDuplicate zf za zm zc ze = some res) : OEnds own_P 8 0 [qr 17, qu] [] (c0 :: c1 :: c2 :: c3 :: c4 :: c5 :: c6 :: c7 :: c8 :: c9 :: c10 :: c11 :: c12 :: c13 :: c14 :: c15 :: c16 :: bk1 zf za zi zm zd zv zt zr zh zj zp zn zab zw zu zz zaa zo zc ze zq zs zb zx zy zg zk zl po) (some (.int res), (c0 :: c1 :: c2 :: c3 :: c4 :: c5 :: c6 :: c7 :: c8 :: c9 :: c10 :: c11 :: c12 :: c13 :: c14 :: c15 :: c16 :: bk1 zf za zi zm zd zv zt zr zh zj zp zn zab zw zu zz zaa zo zc ze zq zs zb zx zy zg zk zl po), 0, 0) := by
  unfold f_pendingIsDuplicate at h
  refine OEnds.adv hm_8 2 (pc' := 2) (L' := [qr 17, qi 0]) (S' := []) (H' := (c0 :: c1 :: c2 :: c3 :: c4 :: c5 :: c6 :: c7 :: c8 :: c9 :: c10 :: c11 :: c12 :: c13 :: c14 :: c15 :: c16 :: bk1 zf za zi zm zd zv zt zr zh zj zp zn zab zw zu zz zaa zo zc ze zq zs zb zx zy zg zk zl po)) rfl ?_
  exact ok_pendingIsDuplicate_2_1 100000 h
theorem ok_storePending_44_1 {zm zd zv zt zr zh zj zp zn zab zw zu : List Int32} {zz zaa zo zq zs zb zx zy zg zk zl : Int32} {c0 c1 c2 c3 c4 c5 c6 c7 c8 c9 c10 c11 c12 c13 c14 c15 c16 : ACell} {po : List ACell} : ∀ {zf za zi : List Int32} {zc ze v1 : Int32} {d2 d3 : Slot} {w_o_kwChars w_o_kwLen w_o_kwRepl : List Int32} {w_o_count : Int32} {w_o_pendLen : Int32}, f_storePending_44 zm zf za zi zc ze v1 = some (w_o_kwChars, w_o_kwLen, w_o_kwRepl, w_o_count, w_o_pendLen) → OEnds own_P 9 44 [qr 17, qi v1, d2, d3] [] (c0 :: c1 :: c2 :: c3 :: c4 :: c5 :: c6 :: c7 :: c8 :: c9 :: c10 :: c11 :: c12 :: c13 :: c14 :: c15 :: c16 :: bk1 zf za zi zm zd zv zt zr zh zj zp zn zab zw zu zz zaa zo zc ze zq zs zb zx zy zg zk zl po) (none, (c0 :: c1 :: c2 :: c3 :: c4 :: c5 :: c6 :: c7 :: c8 :: c9 :: c10 :: c11 :: c12 :: c13 :: c14 :: c15 :: c16 :: bk1 w_o_kwChars w_o_kwLen w_o_kwRepl zm zd zv zt zr zh zj zp zn zab zw zu zz zaa zo w_o_count w_o_pendLen zq zs zb zx zy zg zk zl po), 0, 0) := by
  intro zf za zi zc ze v1 d2 d3 w_o_kwChars w_o_kwLen w_o_kwRepl w_o_count w_o_pendLen h
  unfold f_storePending_44 at h
  refine OEnds.adv hm_9 6 (pc' := 56) (L' := [qr 17, qi v1, qu, qu]) (S' := [.int ze, .int zc, .ref 19]) (H' := (c0 :: c1 :: c2 :: c3 :: c4 :: c5 :: c6 :: c7 :: c8 :: c9 :: c10 :: c11 :: c12 :: c13 :: c14 :: c15 :: c16 :: bk1 zf za zi zm zd zv zt zr zh zj zp zn zab zw zu zz zaa zo zc ze zq zs zb zx zy zg zk zl po)) rfl ?_
  obtain ⟨A16, hA16, h⟩ := bnd h
  refine OEnds.plain hm_9 rfl rfl (x_iastore rfl (Nat.le_of_ble_eq_true rfl) hA16) ?_
  refine OEnds.adv hm_9 5 (pc' := 66) (L' := [qr 17, qi v1, qu, qu]) (S' := [.int v1, .int zc, .ref 20]) (H' := (c0 :: c1 :: c2 :: c3 :: c4 :: c5 :: c6 :: c7 :: c8 :: c9 :: c10 :: c11 :: c12 :: c13 :: c14 :: c15 :: c16 :: bk1 zf A16 zi zm zd zv zt zr zh zj zp zn zab zw zu zz zaa zo zc ze zq zs zb zx zy zg zk zl po)) rfl ?_
  obtain ⟨A17, hA17, h⟩ := bnd h
  refine OEnds.plain hm_9 rfl rfl (x_iastore rfl (Nat.le_of_ble_eq_true rfl) hA17) ?_
  refine OEnds.adv hm_9 9 (pc' := 82) (L' := [qr 17, qi v1, qu, qu]) (S' := []) (H' := (c0 :: c1 :: c2 :: c3 :: c4 :: c5 :: c6 :: c7 :: c8 :: c9 :: c10 :: c11 :: c12 :: c13 :: c14 :: c15 :: c16 :: bk1 zf A16 A17 zm zd zv zt zr zh zj zp zn zab zw zu zz zaa zo (zc + (1 : Int32)) 0 zq zs zb zx zy zg zk zl po)) rfl ?_
  cases h
  exact OEnds.vret hm_9 rfl rfl
theorem ok_storePending_10_1 {zm zd zv zt zr zh zj zp zn zab zw zu : List Int32} {zz zaa zo zq zs zb zx zy zg zk zl : Int32} {c0 c1 c2 c3 c4 c5 c6 c7 c8 c9 c10 c11 c12 c13 c14 c15 c16 : ACell} {po : List ACell} {k44 : List Int32 → List Int32 → List Int32 → Int32 → Int32 → Int32 → Option (List Int32 × List Int32 × List Int32 × Int32 × Int32)} (hk44 : ∀ {zf za zi : List Int32} {zc ze v1 : Int32} {d2 d3 : Slot} {w_o_kwChars w_o_kwLen w_o_kwRepl : List Int32} {w_o_count : Int32} {w_o_pendLen : Int32}, k44 zf za zi zc ze v1 = some (w_o_kwChars, w_o_kwLen, w_o_kwRepl, w_o_count, w_o_pendLen) → OEnds own_P 9 44 [qr 17, qi v1, d2, d3] [] (c0 :: c1 :: c2 :: c3 :: c4 :: c5 :: c6 :: c7 :: c8 :: c9 :: c10 :: c11 :: c12 :: c13 :: c14 :: c15 :: c16 :: bk1 zf za zi zm zd zv zt zr zh zj zp zn zab zw zu zz zaa zo zc ze zq zs zb zx zy zg zk zl po) (none, (c0 :: c1 :: c2 :: c3 :: c4 :: c5 :: c6 :: c7 :: c8 :: c9 :: c10 :: c11 :: c12 :: c13 :: c14 :: c15 :: c16 :: bk1 w_o_kwChars w_o_kwLen w_o_kwRepl zm zd zv zt zr zh zj zp zn zab zw zu zz zaa zo w_o_count w_o_pendLen zq zs zb zx zy zg zk zl po), 0, 0)) : ∀ (n : Nat), ∀ {zf za zi : List Int32} {zc ze v1 v2 v3 : Int32} {w_o_kwChars w_o_kwLen w_o_kwRepl : List Int32} {w_o_count : Int32} {w_o_pendLen : Int32}, f_storePending_10 k44 zm n zf za zi zc ze v1 v2 v3 = some (w_o_kwChars, w_o_kwLen, w_o_kwRepl, w_o_count, w_o_pendLen) → OEnds own_P 9 10 [qr 17, qi v1, qi v2, qi v3] [] (c0 :: c1 :: c2 :: c3 :: c4 :: c5 :: c6 :: c7 :: c8 :: c9 :: c10 :: c11 :: c12 :: c13 :: c14 :: c15 :: c16 :: bk1 zf za zi zm zd zv zt zr zh zj zp zn zab zw zu zz zaa zo zc ze zq zs zb zx zy zg zk zl po) (none, (c0 :: c1 :: c2 :: c3 :: c4 :: c5 :: c6 :: c7 :: c8 :: c9 :: c10 :: c11 :: c12 :: c13 :: c14 :: c15 :: c16 :: bk1 w_o_kwChars w_o_kwLen w_o_kwRepl zm zd zv zt zr zh zj zp zn zab zw zu zz zaa zo w_o_count w_o_pendLen zq zs zb zx zy zg zk zl po), 0, 0) := by
  intro n
  induction n with
  | zero => intro zf za zi zc ze v1 v2 v3 w_o_kwChars w_o_kwLen w_o_kwRepl w_o_count w_o_pendLen h; cases h
  | succ n ih =>
    intro zf za zi zc ze v1 v2 v3 w_o_kwChars w_o_kwLen w_o_kwRepl w_o_count w_o_pendLen h
    unfold f_storePending_10 at h
    refine OEnds.adv hm_9 3 (pc' := 15) (L' := [qr 17, qi v1, qi v2, qi v3]) (S' := [.int ze, .int v3]) (H' := (c0 :: c1 :: c2 :: c3 :: c4 :: c5 :: c6 :: c7 :: c8 :: c9 :: c10 :: c11 :: c12 :: c13 :: c14 :: c15 :: c16 :: bk1 zf za zi zm zd zv zt zr zh zj zp zn zab zw zu zz zaa zo zc ze zq zs zb zx zy zg zk zl po)) rfl ?_
    by_cases hc137 : v3 < ze
    · simp only [if_pos hc137] at h
      refine OEnds.icmpF hm_9 rfl ((tlt hc137).2.1) ?_
      refine OEnds.adv hm_9 2 (pc' := 21) (L' := [qr 17, qi v1, qi v2, qi v3]) (S' := [.int 8, .int v3]) (H' := (c0 :: c1 :: c2 :: c3 :: c4 :: c5 :: c6 :: c7 :: c8 :: c9 :: c10 :: c11 :: c12 :: c13 :: c14 :: c15 :: c16 :: bk1 zf za zi zm zd zv zt zr zh zj zp zn zab zw zu zz zaa zo zc ze zq zs zb zx zy zg zk zl po)) rfl ?_
      by_cases hc138 : v3 < (8 : Int32)
      · simp only [if_pos hc138] at h
        refine OEnds.icmpF hm_9 rfl ((tlt hc138).2.1) ?_
        refine OEnds.adv hm_9 8 (pc' := 36) (L' := [qr 17, qi v1, qi v2, qi v3]) (S' := [.int v3, .ref 21, .int (v2 + v3), .ref 18]) (H' := (c0 :: c1 :: c2 :: c3 :: c4 :: c5 :: c6 :: c7 :: c8 :: c9 :: c10 :: c11 :: c12 :: c13 :: c14 :: c15 :: c16 :: bk1 zf za zi zm zd zv zt zr zh zj zp zn zab zw zu zz zaa zo zc ze zq zs zb zx zy zg zk zl po)) rfl ?_
        obtain ⟨x14, hx14, h⟩ := bnd h
        refine OEnds.plain hm_9 rfl rfl (x_iaload rfl hx14) ?_
        show OEnds own_P 9 37 [qr 17, qi v1, qi v2, qi v3] [.int x14, .int (v2 + v3), .ref 18] (c0 :: c1 :: c2 :: c3 :: c4 :: c5 :: c6 :: c7 :: c8 :: c9 :: c10 :: c11 :: c12 :: c13 :: c14 :: c15 :: c16 :: bk1 zf za zi zm zd zv zt zr zh zj zp zn zab zw zu zz zaa zo zc ze zq zs zb zx zy zg zk zl po) _
        obtain ⟨A15, hA15, h⟩ := bnd h
        refine OEnds.plain hm_9 rfl rfl (x_iastore rfl (Nat.le_of_ble_eq_true rfl) hA15) ?_
        refine OEnds.adv hm_9 2 (pc' := 10) (L' := [qr 17, qi v1, qi v2, qi (v3 + (1 : Int32))]) (S' := []) (H' := (c0 :: c1 :: c2 :: c3 :: c4 :: c5 :: c6 :: c7 :: c8 :: c9 :: c10 :: c11 :: c12 :: c13 :: c14 :: c15 :: c16 :: bk1 A15 za zi zm zd zv zt zr zh zj zp zn zab zw zu zz zaa zo zc ze zq zs zb zx zy zg zk zl po)) rfl ?_
        exact ih h
      · simp only [if_neg hc138] at h
        refine OEnds.icmpT hm_9 rfl (q := 44) rfl ((flt hc138).2.1) ?_
        show OEnds own_P 9 44 [qr 17, qi v1, qi v2, qi v3] [] (c0 :: c1 :: c2 :: c3 :: c4 :: c5 :: c6 :: c7 :: c8 :: c9 :: c10 :: c11 :: c12 :: c13 :: c14 :: c15 :: c16 :: bk1 zf za zi zm zd zv zt zr zh zj zp zn zab zw zu zz zaa zo zc ze zq zs zb zx zy zg zk zl po) _
        exact hk44 h
    · simp only [if_neg hc137] at h
      refine OEnds.icmpT hm_9 rfl (q := 44) rfl ((flt hc137).2.1) ?_
      show OEnds own_P 9 44 [qr 17, qi v1, qi v2, qi v3] [] (c0 :: c1 :: c2 :: c3 :: c4 :: c5 :: c6 :: c7 :: c8 :: c9 :: c10 :: c11 :: c12 :: c13 :: c14 :: c15 :: c16 :: bk1 zf za zi zm zd zv zt zr zh zj zp zn zab zw zu zz zaa zo zc ze zq zs zb zx zy zg zk zl po) _
      exact hk44 h
theorem ok_storePending_1 {zm zd zv zt zr zh zj zp zn zab zw zu : List Int32} {zz zaa zo zq zs zb zx zy zg zk zl : Int32} {c0 c1 c2 c3 c4 c5 c6 c7 c8 c9 c10 c11 c12 c13 c14 c15 c16 : ACell} {po : List ACell} {zf za zi : List Int32} {zc ze v1 : Int32} {w_o_kwChars w_o_kwLen w_o_kwRepl : List Int32} {w_o_count w_o_pendLen : Int32} (h : f_storePending zm zf za zi zc ze v1 = some (w_o_kwChars, w_o_kwLen, w_o_kwRepl, w_o_count, w_o_pendLen)) : OEnds own_P 9 0 [qr 17, qi v1, qu, qu] [] (c0 :: c1 :: c2 :: c3 :: c4 :: c5 :: c6 :: c7 :: c8 :: c9 :: c10 :: c11 :: c12 :: c13 :: c14 :: c15 :: c16 :: bk1 zf za zi zm zd zv zt zr zh zj zp zn zab zw zu zz zaa zo zc ze zq zs zb zx zy zg zk zl po) (none, (c0 :: c1 :: c2 :: c3 :: c4 :: c5 :: c6 :: c7 :: c8 :: c9 :: c10 :: c11 :: c12 :: c13 :: c14 :: c15 :: c16 :: bk1 w_o_kwChars w_o_kwLen w_o_kwRepl zm zd zv zt zr zh zj zp zn zab zw zu zz zaa zo w_o_count w_o_pendLen zq zs zb zx zy zg zk zl po), 0, 0) := by
  unfold f_storePending at h
  refine OEnds.adv hm_9 7 (pc' := 10) (L' := [qr 17, qi v1, qi (zc * (8 : Int32)), qi 0]) (S' := []) (H' := (c0 :: c1 :: c2 :: c3 :: c4 :: c5 :: c6 :: c7 :: c8 :: c9 :: c10 :: c11 :: c12 :: c13 :: c14 :: c15 :: c16 :: bk1 zf za zi zm zd zv zt zr zh zj zp zn zab zw zu zz zaa zo zc ze zq zs zb zx zy zg zk zl po)) rfl ?_
  exact ok_storePending_10_1 (k44 := f_storePending_44 zm) ok_storePending_44_1 100000 h
theorem ok_endKeyword_1 {zm zd zv zt zr zh zj zp zn zab zw zu : List Int32} {zz zaa zo zq zs zb zx zy zg zk zl : Int32} {c0 c1 c2 c3 c4 c5 c6 c7 c8 c9 c10 c11 c12 c13 c14 c15 c16 : ACell} {po : List ACell} {zf za zi : List Int32} {zc ze v1 res : Int32} {w_o_kwChars w_o_kwLen w_o_kwRepl : List Int32} {w_o_count w_o_pendLen : Int32} (h : f_endKeyword zm zo zf za zi zc ze v1 = some (res, w_o_kwChars, w_o_kwLen, w_o_kwRepl, w_o_count, w_o_pendLen)) : OEnds own_P 6 0 [qr 17, qi v1] [] (c0 :: c1 :: c2 :: c3 :: c4 :: c5 :: c6 :: c7 :: c8 :: c9 :: c10 :: c11 :: c12 :: c13 :: c14 :: c15 :: c16 :: bk1 zf za zi zm zd zv zt zr zh zj zp zn zab zw zu zz zaa zo zc ze zq zs zb zx zy zg zk zl po) (some (.int res), (c0 :: c1 :: c2 :: c3 :: c4 :: c5 :: c6 :: c7 :: c8 :: c9 :: c10 :: c11 :: c12 :: c13 :: c14 :: c15 :: c16 :: bk1 w_o_kwChars w_o_kwLen w_o_kwRepl zm zd zv zt zr zh zj zp zn zab zw zu zz zaa zo w_o_count w_o_pendLen zq zs zb zx zy zg zk zl po), 0, 0) := by
  unfold f_endKeyword at h
  refine OEnds.adv hm_6 2 (pc' := 4) (L' := [qr 17, qi v1]) (S' := [.int zo]) (H' := (c0 :: c1 :: c2 :: c3 :: c4 :: c5 :: c6 :: c7 :: c8 :: c9 :: c10 :: c11 :: c12 :: c13 :: c14 :: c15 :: c16 :: bk1 zf za zi zm zd zv zt zr zh zj zp zn zab zw zu zz zaa zo zc ze zq zs zb zx zy zg zk zl po)) rfl ?_
  by_cases hc139 : zo = (0 : Int32)
  · simp only [if_pos hc139] at h
    refine OEnds.ifT hm_6 rfl (q := 9) rfl ((teq hc139).1) ?_
    refine OEnds.adv hm_6 2 (pc' := 13) (L' := [qr 17, qi v1]) (S' := [.int ze]) (H' := (c0 :: c1 :: c2 :: c3 :: c4 :: c5 :: c6 :: c7 :: c8 :: c9 :: c10 :: c11 :: c12 :: c13 :: c14 :: c15 :: c16 :: bk1 zf za zi zm zd zv zt zr zh zj zp zn zab zw zu zz zaa zo zc ze zq zs zb zx zy zg zk zl po)) rfl ?_
    by_cases hc140 : ze = (0 : Int32)
    · simp only [if_pos hc140] at h
      refine OEnds.ifF hm_6 rfl ((teq hc140).2) ?_
      refine OEnds.adv hm_6 1 (pc' := 18) (L' := [qr 17, qi v1]) (S' := [.int (-4)]) (H' := (c0 :: c1 :: c2 :: c3 :: c4 :: c5 :: c6 :: c7 :: c8 :: c9 :: c10 :: c11 :: c12 :: c13 :: c14 :: c15 :: c16 :: bk1 zf za zi zm zd zv zt zr zh zj zp zn zab zw zu zz zaa zo zc ze zq zs zb zx zy zg zk zl po)) rfl ?_
      cases h
      exact OEnds.iret hm_6 rfl rfl
    · simp only [if_neg hc140] at h
      refine OEnds.ifT hm_6 rfl (q := 19) rfl ((feq hc140).2) ?_
      refine OEnds.adv hm_6 2 (pc' := 21) (L' := [qr 17, qi v1]) (S' := [.int v1, .ref 17]) (H' := (c0 :: c1 :: c2 :: c3 :: c4 :: c5 :: c6 :: c7 :: c8 :: c9 :: c10 :: c11 :: c12 :: c13 :: c14 :: c15 :: c16 :: bk1 zf za zi zm zd zv zt zr zh zj zp zn zab zw zu zz zaa zo zc ze zq zs zb zx zy zg zk zl po)) rfl ?_
      obtain ⟨r18, hq141, h⟩ := bnd h
      refine OEnds.call0 hm_6 rfl rfl (by decide) rfl (as := [.ref 17, .int v1]) (rest := []) rfl rfl (ok_isPrintable_1 hq141) ?_
      show OEnds own_P 6 24 [qr 17, qi v1] [.int r18] (c0 :: c1 :: c2 :: c3 :: c4 :: c5 :: c6 :: c7 :: c8 :: c9 :: c10 :: c11 :: c12 :: c13 :: c14 :: c15 :: c16 :: bk1 zf za zi zm zd zv zt zr zh zj zp zn zab zw zu zz zaa zo zc ze zq zs zb zx zy zg zk zl po) _
      by_cases hc142 : r18 = (0 : Int32)
      · simp only [if_pos hc142] at h
        refine OEnds.ifF hm_6 rfl ((teq hc142).2) ?_
        refine OEnds.adv hm_6 1 (pc' := 29) (L' := [qr 17, qi v1]) (S' := [.int (-6)]) (H' := (c0 :: c1 :: c2 :: c3 :: c4 :: c5 :: c6 :: c7 :: c8 :: c9 :: c10 :: c11 :: c12 :: c13 :: c14 :: c15 :: c16 :: bk1 zf za zi zm zd zv zt zr zh zj zp zn zab zw zu zz zaa zo zc ze zq zs zb zx zy zg zk zl po)) rfl ?_
        cases h
        exact OEnds.iret hm_6 rfl rfl
      · simp only [if_neg hc142] at h
        refine OEnds.ifT hm_6 rfl (q := 30) rfl ((feq hc142).2) ?_
        refine OEnds.adv hm_6 1 (pc' := 31) (L' := [qr 17, qi v1]) (S' := [.ref 17]) (H' := (c0 :: c1 :: c2 :: c3 :: c4 :: c5 :: c6 :: c7 :: c8 :: c9 :: c10 :: c11 :: c12 :: c13 :: c14 :: c15 :: c16 :: bk1 zf za zi zm zd zv zt zr zh zj zp zn zab zw zu zz zaa zo zc ze zq zs zb zx zy zg zk zl po)) rfl ?_
        obtain ⟨r19, hq143, h⟩ := bnd h
        refine OEnds.call0 hm_6 rfl rfl (by decide) rfl (as := [.ref 17]) (rest := []) rfl rfl (ok_pendingIsDuplicate_1 hq143) ?_
        show OEnds own_P 6 34 [qr 17, qi v1] [.int r19] (c0 :: c1 :: c2 :: c3 :: c4 :: c5 :: c6 :: c7 :: c8 :: c9 :: c10 :: c11 :: c12 :: c13 :: c14 :: c15 :: c16 :: bk1 zf za zi zm zd zv zt zr zh zj zp zn zab zw zu zz zaa zo zc ze zq zs zb zx zy zg zk zl po) _
        by_cases hc144 : r19 = (0 : Int32)
        · simp only [if_pos hc144] at h
          refine OEnds.ifT hm_6 rfl (q := 40) rfl ((teq hc144).1) ?_
          refine OEnds.adv hm_6 3 (pc' := 46) (L' := [qr 17, qi v1]) (S' := [.int 16, .int zc]) (H' := (c0 :: c1 :: c2 :: c3 :: c4 :: c5 :: c6 :: c7 :: c8 :: c9 :: c10 :: c11 :: c12 :: c13 :: c14 :: c15 :: c16 :: bk1 zf za zi zm zd zv zt zr zh zj zp zn zab zw zu zz zaa zo zc ze zq zs zb zx zy zg zk zl po)) rfl ?_
          by_cases hc145 : zc < (16 : Int32)
          · simp only [if_pos hc145] at h
            refine OEnds.icmpT hm_6 rfl (q := 52) rfl ((tlt hc145).1) ?_
            refine OEnds.adv hm_6 2 (pc' := 54) (L' := [qr 17, qi v1]) (S' := [.int v1, .ref 17]) (H' := (c0 :: c1 :: c2 :: c3 :: c4 :: c5 :: c6 :: c7 :: c8 :: c9 :: c10 :: c11 :: c12 :: c13 :: c14 :: c15 :: c16 :: bk1 zf za zi zm zd zv zt zr zh zj zp zn zab zw zu zz zaa zo zc ze zq zs zb zx zy zg zk zl po)) rfl ?_
            obtain ⟨⟨s20, s21, s22, s23, s24⟩, hq146, h⟩ := bnd h
            refine OEnds.call0 hm_6 rfl rfl (by decide) rfl (as := [.ref 17, .int v1]) (rest := []) rfl rfl (ok_storePending_1 hq146) ?_
            refine OEnds.adv hm_6 4 (pc' := 63) (L' := [qr 17, qi v1]) (S' := [.int (s23 - (1 : Int32))]) (H' := (c0 :: c1 :: c2 :: c3 :: c4 :: c5 :: c6 :: c7 :: c8 :: c9 :: c10 :: c11 :: c12 :: c13 :: c14 :: c15 :: c16 :: bk1 s20 s21 s22 zm zd zv zt zr zh zj zp zn zab zw zu zz zaa zo s23 s24 zq zs zb zx zy zg zk zl po)) rfl ?_
            cases h
            exact OEnds.iret hm_6 rfl rfl
          · simp only [if_neg hc145] at h
            refine OEnds.icmpF hm_6 rfl ((flt hc145).1) ?_
            refine OEnds.adv hm_6 1 (pc' := 51) (L' := [qr 17, qi v1]) (S' := [.int (-3)]) (H' := (c0 :: c1 :: c2 :: c3 :: c4 :: c5 :: c6 :: c7 :: c8 :: c9 :: c10 :: c11 :: c12 :: c13 :: c14 :: c15 :: c16 :: bk1 zf za zi zm zd zv zt zr zh zj zp zn zab zw zu zz zaa zo zc ze zq zs zb zx zy zg zk zl po)) rfl ?_
            cases h
            exact OEnds.iret hm_6 rfl rfl
        · simp only [if_neg hc144] at h
          refine OEnds.ifF hm_6 rfl ((feq hc144).1) ?_
          refine OEnds.adv hm_6 1 (pc' := 39) (L' := [qr 17, qi v1]) (S' := [.int (-5)]) (H' := (c0 :: c1 :: c2 :: c3 :: c4 :: c5 :: c6 :: c7 :: c8 :: c9 :: c10 :: c11 :: c12 :: c13 :: c14 :: c15 :: c16 :: bk1 zf za zi zm zd zv zt zr zh zj zp zn zab zw zu zz zaa zo zc ze zq zs zb zx zy zg zk zl po)) rfl ?_
          cases h
          exact OEnds.iret hm_6 rfl rfl
  · simp only [if_neg hc139] at h
    refine OEnds.ifF hm_6 rfl ((feq hc139).1) ?_
    refine OEnds.adv hm_6 1 (pc' := 8) (L' := [qr 17, qi v1]) (S' := [.int (-1)]) (H' := (c0 :: c1 :: c2 :: c3 :: c4 :: c5 :: c6 :: c7 :: c8 :: c9 :: c10 :: c11 :: c12 :: c13 :: c14 :: c15 :: c16 :: bk1 zf za zi zm zd zv zt zr zh zj zp zn zab zw zu zz zaa zo zc ze zq zs zb zx zy zg zk zl po)) rfl ?_
    cases h
    exact OEnds.iret hm_6 rfl rfl
theorem ok_insertKeyword_137_1 {zf za zi zm zv zt zp zn zab zw zu : List Int32} {zz zaa zo zc ze zs zb zx zy zg zk zl : Int32} {c0 c1 c2 c3 c4 c5 c6 c7 c8 c9 c10 c11 c12 c13 c14 c15 c16 : ACell} {po : List ACell} : ∀ {zd zr zh zj : List Int32} {zq v1 v2 : Int32} {d3 d4 d5 d6 : Slot} {w_o_child w_o_depth w_o_term w_o_outMask : List Int32} {w_o_nodeCount : Int32}, f_insertKeyword_137 zf za zd zr zh zj zq v1 v2 = some (w_o_child, w_o_depth, w_o_term, w_o_outMask, w_o_nodeCount) → OEnds own_P 11 137 [qr 17, qi v1, qi v2, d3, d4, d5, d6] [] (c0 :: c1 :: c2 :: c3 :: c4 :: c5 :: c6 :: c7 :: c8 :: c9 :: c10 :: c11 :: c12 :: c13 :: c14 :: c15 :: c16 :: bk1 zf za zi zm zd zv zt zr zh zj zp zn zab zw zu zz zaa zo zc ze zq zs zb zx zy zg zk zl po) (none, (c0 :: c1 :: c2 :: c3 :: c4 :: c5 :: c6 :: c7 :: c8 :: c9 :: c10 :: c11 :: c12 :: c13 :: c14 :: c15 :: c16 :: bk1 zf za zi zm w_o_child zv zt w_o_depth w_o_term w_o_outMask zp zn zab zw zu zz zaa zo zc ze w_o_nodeCount zs zb zx zy zg zk zl po), 0, 0) := by
  intro zd zr zh zj zq v1 v2 d3 d4 d5 d6 w_o_child w_o_depth w_o_term w_o_outMask w_o_nodeCount h
  unfold f_insertKeyword_137 at h
  refine OEnds.adv hm_11 4 (pc' := 143) (L' := [qr 17, qi v1, qi v2, qu, qu, qu, qu]) (S' := [.int v1, .int v2, .ref 26]) (H' := (c0 :: c1 :: c2 :: c3 :: c4 :: c5 :: c6 :: c7 :: c8 :: c9 :: c10 :: c11 :: c12 :: c13 :: c14 :: c15 :: c16 :: bk1 zf za zi zm zd zv zt zr zh zj zp zn zab zw zu zz zaa zo zc ze zq zs zb zx zy zg zk zl po)) rfl ?_
  obtain ⟨A32, hA32, h⟩ := bnd h
  refine OEnds.plain hm_11 rfl rfl (x_iastore rfl (Nat.le_of_ble_eq_true rfl) hA32) ?_
  refine OEnds.adv hm_11 6 (pc' := 154) (L' := [qr 17, qi v1, qi v2, qu, qu, qu, qu]) (S' := [.int v2, .ref 27, .int v2, .ref 27]) (H' := (c0 :: c1 :: c2 :: c3 :: c4 :: c5 :: c6 :: c7 :: c8 :: c9 :: c10 :: c11 :: c12 :: c13 :: c14 :: c15 :: c16 :: bk1 zf za zi zm zd zv zt zr A32 zj zp zn zab zw zu zz zaa zo zc ze zq zs zb zx zy zg zk zl po)) rfl ?_
  obtain ⟨x33, hx33, h⟩ := bnd h
  refine OEnds.plain hm_11 rfl rfl (x_iaload rfl hx33) ?_
  refine OEnds.adv hm_11 4 (pc' := 159) (L' := [qr 17, qi v1, qi v2, qu, qu, qu, qu]) (S' := [.int (x33 ||| ((1 : Int32) <<< (v1 &&& 31))), .int v2, .ref 27]) (H' := (c0 :: c1 :: c2 :: c3 :: c4 :: c5 :: c6 :: c7 :: c8 :: c9 :: c10 :: c11 :: c12 :: c13 :: c14 :: c15 :: c16 :: bk1 zf za zi zm zd zv zt zr A32 zj zp zn zab zw zu zz zaa zo zc ze zq zs zb zx zy zg zk zl po)) rfl ?_
  obtain ⟨A34, hA34, h⟩ := bnd h
  refine OEnds.plain hm_11 rfl rfl (x_iastore rfl (Nat.le_of_ble_eq_true rfl) hA34) ?_
  show OEnds own_P 11 160 [qr 17, qi v1, qi v2, qu, qu, qu, qu] [] (c0 :: c1 :: c2 :: c3 :: c4 :: c5 :: c6 :: c7 :: c8 :: c9 :: c10 :: c11 :: c12 :: c13 :: c14 :: c15 :: c16 :: bk1 zf za zi zm zd zv zt zr A32 A34 zp zn zab zw zu zz zaa zo zc ze zq zs zb zx zy zg zk zl po) _
  cases h
  exact OEnds.vret hm_11 rfl rfl
theorem ok_insertKeyword_123_1 {zf za zi zm zv zt zp zn zab zw zu : List Int32} {zz zaa zo zc ze zs zb zx zy zg zk zl : Int32} {c0 c1 c2 c3 c4 c5 c6 c7 c8 c9 c10 c11 c12 c13 c14 c15 c16 : ACell} {po : List ACell} {kb : List Int32 → List Int32 → List Int32 → List Int32 → Int32 → Int32 → Int32 → Int32 → Int32 → Option (List Int32 × List Int32 × List Int32 × List Int32 × Int32)} {k137 : List Int32 → List Int32 → List Int32 → List Int32 → Int32 → Int32 → Int32 → Option (List Int32 × List Int32 × List Int32 × List Int32 × Int32)} (hkb : ∀ {zd zr zh zj : List Int32} {zq v1 v2 v3 v4 : Int32} {d5 d6 : Slot} {w_o_child w_o_depth w_o_term w_o_outMask : List Int32} {w_o_nodeCount : Int32}, kb zd zr zh zj zq v1 v2 v3 v4 = some (w_o_child, w_o_depth, w_o_term, w_o_outMask, w_o_nodeCount) → OEnds own_P 11 10 [qr 17, qi v1, qi v2, qi v3, qi v4, d5, d6] [] (c0 :: c1 :: c2 :: c3 :: c4 :: c5 :: c6 :: c7 :: c8 :: c9 :: c10 :: c11 :: c12 :: c13 :: c14 :: c15 :: c16 :: bk1 zf za zi zm zd zv zt zr zh zj zp zn zab zw zu zz zaa zo zc ze zq zs zb zx zy zg zk zl po) (none, (c0 :: c1 :: c2 :: c3 :: c4 :: c5 :: c6 :: c7 :: c8 :: c9 :: c10 :: c11 :: c12 :: c13 :: c14 :: c15 :: c16 :: bk1 zf za zi zm w_o_child zv zt w_o_depth w_o_term w_o_outMask zp zn zab zw zu zz zaa zo zc ze w_o_nodeCount zs zb zx zy zg zk zl po), 0, 0)) (hk137 : ∀ {zd zr zh zj : List Int32} {zq v1 v2 : Int32} {d3 d4 d5 d6 : Slot} {w_o_child w_o_depth w_o_term w_o_outMask : List Int32} {w_o_nodeCount : Int32}, k137 zd zr zh zj zq v1 v2 = some (w_o_child, w_o_depth, w_o_term, w_o_outMask, w_o_nodeCount) → OEnds own_P 11 137 [qr 17, qi v1, qi v2, d3, d4, d5, d6] [] (c0 :: c1 :: c2 :: c3 :: c4 :: c5 :: c6 :: c7 :: c8 :: c9 :: c10 :: c11 :: c12 :: c13 :: c14 :: c15 :: c16 :: bk1 zf za zi zm zd zv zt zr zh zj zp zn zab zw zu zz zaa zo zc ze zq zs zb zx zy zg zk zl po) (none, (c0 :: c1 :: c2 :: c3 :: c4 :: c5 :: c6 :: c7 :: c8 :: c9 :: c10 :: c11 :: c12 :: c13 :: c14 :: c15 :: c16 :: bk1 zf za zi zm w_o_child zv zt w_o_depth w_o_term w_o_outMask zp zn zab zw zu zz zaa zo zc ze w_o_nodeCount zs zb zx zy zg zk zl po), 0, 0)) : ∀ {zd zr zh zj : List Int32} {zq v1 v3 v4 v6 : Int32} {d2 d5 : Slot} {w_o_child w_o_depth w_o_term w_o_outMask : List Int32} {w_o_nodeCount : Int32}, f_insertKeyword_123 kb k137 zf za zd zr zh zj zq v1 v3 v4 v6 = some (w_o_child, w_o_depth, w_o_term, w_o_outMask, w_o_nodeCount) → OEnds own_P 11 123 [qr 17, qi v1, d2, qi v3, qi v4, d5, qi v6] [] (c0 :: c1 :: c2 :: c3 :: c4 :: c5 :: c6 :: c7 :: c8 :: c9 :: c10 :: c11 :: c12 :: c13 :: c14 :: c15 :: c16 :: bk1 zf za zi zm zd zv zt zr zh zj zp zn zab zw zu zz zaa zo zc ze zq zs zb zx zy zg zk zl po) (none, (c0 :: c1 :: c2 :: c3 :: c4 :: c5 :: c6 :: c7 :: c8 :: c9 :: c10 :: c11 :: c12 :: c13 :: c14 :: c15 :: c16 :: bk1 zf za zi zm w_o_child zv zt w_o_depth w_o_term w_o_outMask zp zn zab zw zu zz zaa zo zc ze w_o_nodeCount zs zb zx zy zg zk zl po), 0, 0) := by
  intro zd zr zh zj zq v1 v3 v4 v6 d2 d5 w_o_child w_o_depth w_o_term w_o_outMask w_o_nodeCount h
  unfold f_insertKeyword_123 at h
  refine OEnds.adv hm_11 3 (pc' := 129) (L' := [qr 17, qi v1, qu, qi v3, qi v4, qu, qi v6]) (S' := [.int v6, .ref 22]) (H' := (c0 :: c1 :: c2 :: c3 :: c4 :: c5 :: c6 :: c7 :: c8 :: c9 :: c10 :: c11 :: c12 :: c13 :: c14 :: c15 :: c16 :: bk1 zf za zi zm zd zv zt zr zh zj zp zn zab zw zu zz zaa zo zc ze zq zs zb zx zy zg zk zl po)) rfl ?_
  obtain ⟨x31, hx31, h⟩ := bnd h
  refine OEnds.plain hm_11 rfl rfl (x_iaload rfl hx31) ?_
  refine OEnds.adv hm_11 3 (pc' := 10) (L' := [qr 17, qi v1, qi x31, qi v3, qi (v4 + (1 : Int32)), qu, qi v6]) (S' := []) (H' := (c0 :: c1 :: c2 :: c3 :: c4 :: c5 :: c6 :: c7 :: c8 :: c9 :: c10 :: c11 :: c12 :: c13 :: c14 :: c15 :: c16 :: bk1 zf za zi zm zd zv zt zr zh zj zp zn zab zw zu zz zaa zo zc ze zq zs zb zx zy zg zk zl po)) rfl ?_
  exact hkb h
theorem ok_insertKeyword_10_1 {zf za zi zm zv zt zp zn zab zw zu : List Int32} {zz zaa zo zc ze zs zb zx zy zg zk zl : Int32} {c0 c1 c2 c3 c4 c5 c6 c7 c8 c9 c10 c11 c12 c13 c14 c15 c16 : ACell} {po : List ACell} {k137 : List Int32 → List Int32 → List Int32 → List Int32 → Int32 → Int32 → Int32 → Option (List Int32 × List Int32 × List Int32 × List Int32 × Int32)} (hk137 : ∀ {zd zr zh zj : List Int32} {zq v1 v2 : Int32} {d3 d4 d5 d6 : Slot} {w_o_child w_o_depth w_o_term w_o_outMask : List Int32} {w_o_nodeCount : Int32}, k137 zd zr zh zj zq v1 v2 = some (w_o_child, w_o_depth, w_o_term, w_o_outMask, w_o_nodeCount) → OEnds own_P 11 137 [qr 17, qi v1, qi v2, d3, d4, d5, d6] [] (c0 :: c1 :: c2 :: c3 :: c4 :: c5 :: c6 :: c7 :: c8 :: c9 :: c10 :: c11 :: c12 :: c13 :: c14 :: c15 :: c16 :: bk1 zf za zi zm zd zv zt zr zh zj zp zn zab zw zu zz zaa zo zc ze zq zs zb zx zy zg zk zl po) (none, (c0 :: c1 :: c2 :: c3 :: c4 :: c5 :: c6 :: c7 :: c8 :: c9 :: c10 :: c11 :: c12 :: c13 :: c14 :: c15 :: c16 :: bk1 zf za zi zm w_o_child zv zt w_o_depth w_o_term w_o_outMask zp zn zab zw zu zz zaa zo zc ze w_o_nodeCount zs zb zx zy zg zk zl po), 0, 0)) : ∀ (n : Nat), ∀ {zd zr zh zj : List Int32} {zq v1 v2 v3 v4 : Int32} {d5 d6 : Slot} {w_o_child w_o_depth w_o_term w_o_outMask : List Int32} {w_o_nodeCount : Int32}, f_insertKeyword_10 k137 zf za n zd zr zh zj zq v1 v2 v3 v4 = some (w_o_child, w_o_depth, w_o_term, w_o_outMask, w_o_nodeCount) → OEnds own_P 11 10 [qr 17, qi v1, qi v2, qi v3, qi v4, d5, d6] [] (c0 :: c1 :: c2 :: c3 :: c4 :: c5 :: c6 :: c7 :: c8 :: c9 :: c10 :: c11 :: c12 :: c13 :: c14 :: c15 :: c16 :: bk1 zf za zi zm zd zv zt zr zh zj zp zn zab zw zu zz zaa zo zc ze zq zs zb zx zy zg zk zl po) (none, (c0 :: c1 :: c2 :: c3 :: c4 :: c5 :: c6 :: c7 :: c8 :: c9 :: c10 :: c11 :: c12 :: c13 :: c14 :: c15 :: c16 :: bk1 zf za zi zm w_o_child zv zt w_o_depth w_o_term w_o_outMask zp zn zab zw zu zz zaa zo zc ze w_o_nodeCount zs zb zx zy zg zk zl po), 0, 0) := by
  intro n
  induction n with
  | zero => intro zd zr zh zj zq v1 v2 v3 v4 d5 d6 w_o_child w_o_depth w_o_term w_o_outMask w_o_nodeCount h; cases h
  | succ n ih =>
    intro zd zr zh zj zq v1 v2 v3 v4 d5 d6 w_o_child w_o_depth w_o_term w_o_outMask w_o_nodeCount h
    unfold f_insertKeyword_10 at h
    refine OEnds.adv hm_11 4 (pc' := 17) (L' := [qr 17, qi v1, qi v2, qi v3, qi v4, qu, qu]) (S' := [.int v1, .ref 19, .int v4]) (H' := (c0 :: c1 :: c2 :: c3 :: c4 :: c5 :: c6 :: c7 :: c8 :: c9 :: c10 :: c11 :: c12 :: c13 :: c14 :: c15 :: c16 :: bk1 zf za zi zm zd zv zt zr zh zj zp zn zab zw zu zz zaa zo zc ze zq zs zb zx zy zg zk zl po)) rfl ?_
    obtain ⟨x25, hx25, h⟩ := bnd h
    refine OEnds.plain hm_11 rfl rfl (x_iaload rfl hx25) ?_
    show OEnds own_P 11 18 [qr 17, qi v1, qi v2, qi v3, qi v4, qu, qu] [.int x25, .int v4] (c0 :: c1 :: c2 :: c3 :: c4 :: c5 :: c6 :: c7 :: c8 :: c9 :: c10 :: c11 :: c12 :: c13 :: c14 :: c15 :: c16 :: bk1 zf za zi zm zd zv zt zr zh zj zp zn zab zw zu zz zaa zo zc ze zq zs zb zx zy zg zk zl po) _
    by_cases hc147 : v4 < x25
    · simp only [if_pos hc147] at h
      refine OEnds.icmpF hm_11 rfl ((tlt hc147).2.1) ?_
      refine OEnds.adv hm_11 2 (pc' := 25) (L' := [qr 17, qi v1, qi v2, qi v3, qi v4, qu, qu]) (S' := [.int 8, .int v4]) (H' := (c0 :: c1 :: c2 :: c3 :: c4 :: c5 :: c6 :: c7 :: c8 :: c9 :: c10 :: c11 :: c12 :: c13 :: c14 :: c15 :: c16 :: bk1 zf za zi zm zd zv zt zr zh zj zp zn zab zw zu zz zaa zo zc ze zq zs zb zx zy zg zk zl po)) rfl ?_
      by_cases hc148 : v4 < (8 : Int32)
      · simp only [if_pos hc148] at h
        refine OEnds.icmpF hm_11 rfl ((tlt hc148).2.1) ?_
        refine OEnds.adv hm_11 5 (pc' := 36) (L' := [qr 17, qi v1, qi v2, qi v3, qi v4, qu, qu]) (S' := [.int (v3 + v4), .ref 18]) (H' := (c0 :: c1 :: c2 :: c3 :: c4 :: c5 :: c6 :: c7 :: c8 :: c9 :: c10 :: c11 :: c12 :: c13 :: c14 :: c15 :: c16 :: bk1 zf za zi zm zd zv zt zr zh zj zp zn zab zw zu zz zaa zo zc ze zq zs zb zx zy zg zk zl po)) rfl ?_
        obtain ⟨x26, hx26, h⟩ := bnd h
        refine OEnds.plain hm_11 rfl rfl (x_iaload rfl hx26) ?_
        refine OEnds.adv hm_11 4 (pc' := 44) (L' := [qr 17, qi v1, qi v2, qi v3, qi v4, qi (x26 - (97 : Int32)), qu]) (S' := [.int (x26 - (97 : Int32))]) (H' := (c0 :: c1 :: c2 :: c3 :: c4 :: c5 :: c6 :: c7 :: c8 :: c9 :: c10 :: c11 :: c12 :: c13 :: c14 :: c15 :: c16 :: bk1 zf za zi zm zd zv zt zr zh zj zp zn zab zw zu zz zaa zo zc ze zq zs zb zx zy zg zk zl po)) rfl ?_
        by_cases hc149 : (x26 - (97 : Int32)) < (0 : Int32)
        · simp only [if_pos hc149] at h
          refine OEnds.ifT hm_11 rfl (q := 54) rfl ((tlt hc149).1) ?_
          show OEnds own_P 11 54 [qr 17, qi v1, qi v2, qi v3, qi v4, qi (x26 - (97 : Int32)), qu] [] (c0 :: c1 :: c2 :: c3 :: c4 :: c5 :: c6 :: c7 :: c8 :: c9 :: c10 :: c11 :: c12 :: c13 :: c14 :: c15 :: c16 :: bk1 zf za zi zm zd zv zt zr zh zj zp zn zab zw zu zz zaa zo zc ze zq zs zb zx zy zg zk zl po) _
          cases h
          exact OEnds.vret hm_11 rfl rfl
        · simp only [if_neg hc149] at h
          refine OEnds.ifF hm_11 rfl ((flt hc149).1) ?_
          refine OEnds.adv hm_11 2 (pc' := 51) (L' := [qr 17, qi v1, qi v2, qi v3, qi v4, qi (x26 - (97 : Int32)), qu]) (S' := [.int 26, .int (x26 - (97 : Int32))]) (H' := (c0 :: c1 :: c2 :: c3 :: c4 :: c5 :: c6 :: c7 :: c8 :: c9 :: c10 :: c11 :: c12 :: c13 :: c14 :: c15 :: c16 :: bk1 zf za zi zm zd zv zt zr zh zj zp zn zab zw zu zz zaa zo zc ze zq zs zb zx zy zg zk zl po)) rfl ?_
          by_cases hc150 : (x26 - (97 : Int32)) < (26 : Int32)
          · simp only [if_pos hc150] at h
            refine OEnds.icmpT hm_11 rfl (q := 55) rfl ((tlt hc150).1) ?_
            refine OEnds.adv hm_11 9 (pc' := 70) (L' := [qr 17, qi v1, qi v2, qi v3, qi v4, qi (x26 - (97 : Int32)), qi ((v2 * (26 : Int32)) + (x26 - (97 : Int32)))]) (S' := [.int ((v2 * (26 : Int32)) + (x26 - (97 : Int32))), .ref 22]) (H' := (c0 :: c1 :: c2 :: c3 :: c4 :: c5 :: c6 :: c7 :: c8 :: c9 :: c10 :: c11 :: c12 :: c13 :: c14 :: c15 :: c16 :: bk1 zf za zi zm zd zv zt zr zh zj zp zn zab zw zu zz zaa zo zc ze zq zs zb zx zy zg zk zl po)) rfl ?_
            obtain ⟨x27, hx27, h⟩ := bnd h
            refine OEnds.plain hm_11 rfl rfl (x_iaload rfl hx27) ?_
            show OEnds own_P 11 71 [qr 17, qi v1, qi v2, qi v3, qi v4, qi (x26 - (97 : Int32)), qi ((v2 * (26 : Int32)) + (x26 - (97 : Int32)))] [.int x27] (c0 :: c1 :: c2 :: c3 :: c4 :: c5 :: c6 :: c7 :: c8 :: c9 :: c10 :: c11 :: c12 :: c13 :: c14 :: c15 :: c16 :: bk1 zf za zi zm zd zv zt zr zh zj zp zn zab zw zu zz zaa zo zc ze zq zs zb zx zy zg zk zl po) _
            by_cases hc151 : x27 = (0 : Int32)
            · simp only [if_pos hc151] at h
              refine OEnds.ifF hm_11 rfl ((teq hc151).2) ?_
              refine OEnds.adv hm_11 3 (pc' := 81) (L' := [qr 17, qi v1, qi v2, qi v3, qi v4, qi (x26 - (97 : Int32)), qi ((v2 * (26 : Int32)) + (x26 - (97 : Int32)))]) (S' := [.int 129, .int zq]) (H' := (c0 :: c1 :: c2 :: c3 :: c4 :: c5 :: c6 :: c7 :: c8 :: c9 :: c10 :: c11 :: c12 :: c13 :: c14 :: c15 :: c16 :: bk1 zf za zi zm zd zv zt zr zh zj zp zn zab zw zu zz zaa zo zc ze zq zs zb zx zy zg zk zl po)) rfl ?_
              by_cases hc152 : zq < (129 : Int32)
              · simp only [if_pos hc152] at h
                refine OEnds.icmpT hm_11 rfl (q := 85) rfl ((tlt hc152).1) ?_
                refine OEnds.adv hm_11 5 (pc' := 95) (L' := [qr 17, qi v1, qi v2, qi v3, qi v4, qi (x26 - (97 : Int32)), qi ((v2 * (26 : Int32)) + (x26 - (97 : Int32)))]) (S' := [.int zq, .int ((v2 * (26 : Int32)) + (x26 - (97 : Int32))), .ref 22]) (H' := (c0 :: c1 :: c2 :: c3 :: c4 :: c5 :: c6 :: c7 :: c8 :: c9 :: c10 :: c11 :: c12 :: c13 :: c14 :: c15 :: c16 :: bk1 zf za zi zm zd zv zt zr zh zj zp zn zab zw zu zz zaa zo zc ze zq zs zb zx zy zg zk zl po)) rfl ?_
                obtain ⟨A28, hA28, h⟩ := bnd h
                refine OEnds.plain hm_11 rfl rfl (x_iastore rfl (Nat.le_of_ble_eq_true rfl) hA28) ?_
                refine OEnds.adv hm_11 7 (pc' := 109) (L' := [qr 17, qi v1, qi v2, qi v3, qi v4, qi (x26 - (97 : Int32)), qi ((v2 * (26 : Int32)) + (x26 - (97 : Int32)))]) (S' := [.int v2, .ref 25, .int zq, .ref 25]) (H' := (c0 :: c1 :: c2 :: c3 :: c4 :: c5 :: c6 :: c7 :: c8 :: c9 :: c10 :: c11 :: c12 :: c13 :: c14 :: c15 :: c16 :: bk1 zf za zi zm A28 zv zt zr zh zj zp zn zab zw zu zz zaa zo zc ze zq zs zb zx zy zg zk zl po)) rfl ?_
                obtain ⟨x29, hx29, h⟩ := bnd h
                refine OEnds.plain hm_11 rfl rfl (x_iaload rfl hx29) ?_
                refine OEnds.adv hm_11 2 (pc' := 112) (L' := [qr 17, qi v1, qi v2, qi v3, qi v4, qi (x26 - (97 : Int32)), qi ((v2 * (26 : Int32)) + (x26 - (97 : Int32)))]) (S' := [.int (x29 + (1 : Int32)), .int zq, .ref 25]) (H' := (c0 :: c1 :: c2 :: c3 :: c4 :: c5 :: c6 :: c7 :: c8 :: c9 :: c10 :: c11 :: c12 :: c13 :: c14 :: c15 :: c16 :: bk1 zf za zi zm A28 zv zt zr zh zj zp zn zab zw zu zz zaa zo zc ze zq zs zb zx zy zg zk zl po)) rfl ?_
                obtain ⟨A30, hA30, h⟩ := bnd h
                refine OEnds.plain hm_11 rfl rfl (x_iastore rfl (Nat.le_of_ble_eq_true rfl) hA30) ?_
                refine OEnds.adv hm_11 6 (pc' := 123) (L' := [qr 17, qi v1, qi v2, qi v3, qi v4, qi (x26 - (97 : Int32)), qi ((v2 * (26 : Int32)) + (x26 - (97 : Int32)))]) (S' := []) (H' := (c0 :: c1 :: c2 :: c3 :: c4 :: c5 :: c6 :: c7 :: c8 :: c9 :: c10 :: c11 :: c12 :: c13 :: c14 :: c15 :: c16 :: bk1 zf za zi zm A28 zv zt A30 zh zj zp zn zab zw zu zz zaa zo zc ze (zq + (1 : Int32)) zs zb zx zy zg zk zl po)) rfl ?_
                exact ok_insertKeyword_123_1 ih hk137 h
              · simp only [if_neg hc152] at h
                refine OEnds.icmpF hm_11 rfl ((flt hc152).1) ?_
                show OEnds own_P 11 84 [qr 17, qi v1, qi v2, qi v3, qi v4, qi (x26 - (97 : Int32)), qi ((v2 * (26 : Int32)) + (x26 - (97 : Int32)))] [] (c0 :: c1 :: c2 :: c3 :: c4 :: c5 :: c6 :: c7 :: c8 :: c9 :: c10 :: c11 :: c12 :: c13 :: c14 :: c15 :: c16 :: bk1 zf za zi zm zd zv zt zr zh zj zp zn zab zw zu zz zaa zo zc ze zq zs zb zx zy zg zk zl po) _
                cases h
                exact OEnds.vret hm_11 rfl rfl
            · simp only [if_neg hc151] at h
              refine OEnds.ifT hm_11 rfl (q := 123) rfl ((feq hc151).2) ?_
              show OEnds own_P 11 123 [qr 17, qi v1, qi v2, qi v3, qi v4, qi (x26 - (97 : Int32)), qi ((v2 * (26 : Int32)) + (x26 - (97 : Int32)))] [] (c0 :: c1 :: c2 :: c3 :: c4 :: c5 :: c6 :: c7 :: c8 :: c9 :: c10 :: c11 :: c12 :: c13 :: c14 :: c15 :: c16 :: bk1 zf za zi zm zd zv zt zr zh zj zp zn zab zw zu zz zaa zo zc ze zq zs zb zx zy zg zk zl po) _
              exact ok_insertKeyword_123_1 ih hk137 h
          · simp only [if_neg hc150] at h
            refine OEnds.icmpF hm_11 rfl ((flt hc150).1) ?_
            show OEnds own_P 11 54 [qr 17, qi v1, qi v2, qi v3, qi v4, qi (x26 - (97 : Int32)), qu] [] (c0 :: c1 :: c2 :: c3 :: c4 :: c5 :: c6 :: c7 :: c8 :: c9 :: c10 :: c11 :: c12 :: c13 :: c14 :: c15 :: c16 :: bk1 zf za zi zm zd zv zt zr zh zj zp zn zab zw zu zz zaa zo zc ze zq zs zb zx zy zg zk zl po) _
            cases h
            exact OEnds.vret hm_11 rfl rfl
      · simp only [if_neg hc148] at h
        refine OEnds.icmpT hm_11 rfl (q := 137) rfl ((flt hc148).2.1) ?_
        show OEnds own_P 11 137 [qr 17, qi v1, qi v2, qi v3, qi v4, qu, qu] [] (c0 :: c1 :: c2 :: c3 :: c4 :: c5 :: c6 :: c7 :: c8 :: c9 :: c10 :: c11 :: c12 :: c13 :: c14 :: c15 :: c16 :: bk1 zf za zi zm zd zv zt zr zh zj zp zn zab zw zu zz zaa zo zc ze zq zs zb zx zy zg zk zl po) _
        exact hk137 h
    · simp only [if_neg hc147] at h
      refine OEnds.icmpT hm_11 rfl (q := 137) rfl ((flt hc147).2.1) ?_
      show OEnds own_P 11 137 [qr 17, qi v1, qi v2, qi v3, qi v4, qu, qu] [] (c0 :: c1 :: c2 :: c3 :: c4 :: c5 :: c6 :: c7 :: c8 :: c9 :: c10 :: c11 :: c12 :: c13 :: c14 :: c15 :: c16 :: bk1 zf za zi zm zd zv zt zr zh zj zp zn zab zw zu zz zaa zo zc ze zq zs zb zx zy zg zk zl po) _
      exact hk137 h
theorem ok_insertKeyword_1 {zf za zi zm zv zt zp zn zab zw zu : List Int32} {zz zaa zo zc ze zs zb zx zy zg zk zl : Int32} {c0 c1 c2 c3 c4 c5 c6 c7 c8 c9 c10 c11 c12 c13 c14 c15 c16 : ACell} {po : List ACell} {zd zr zh zj : List Int32} {zq v1 : Int32} {w_o_child w_o_depth w_o_term w_o_outMask : List Int32} {w_o_nodeCount : Int32} (h : f_insertKeyword zf za zd zr zh zj zq v1 = some (w_o_child, w_o_depth, w_o_term, w_o_outMask, w_o_nodeCount)) : OEnds own_P 11 0 [qr 17, qi v1, qu, qu, qu, qu, qu] [] (c0 :: c1 :: c2 :: c3 :: c4 :: c5 :: c6 :: c7 :: c8 :: c9 :: c10 :: c11 :: c12 :: c13 :: c14 :: c15 :: c16 :: bk1 zf za zi zm zd zv zt zr zh zj zp zn zab zw zu zz zaa zo zc ze zq zs zb zx zy zg zk zl po) (none, (c0 :: c1 :: c2 :: c3 :: c4 :: c5 :: c6 :: c7 :: c8 :: c9 :: c10 :: c11 :: c12 :: c13 :: c14 :: c15 :: c16 :: bk1 zf za zi zm w_o_child zv zt w_o_depth w_o_term w_o_outMask zp zn zab zw zu zz zaa zo zc ze w_o_nodeCount zs zb zx zy zg zk zl po), 0, 0) := by
  unfold f_insertKeyword at h
  refine OEnds.adv hm_11 8 (pc' := 10) (L' := [qr 17, qi v1, qi 0, qi (v1 * (8 : Int32)), qi 0, qu, qu]) (S' := []) (H' := (c0 :: c1 :: c2 :: c3 :: c4 :: c5 :: c6 :: c7 :: c8 :: c9 :: c10 :: c11 :: c12 :: c13 :: c14 :: c15 :: c16 :: bk1 zf za zi zm zd zv zt zr zh zj zp zn zab zw zu zz zaa zo zc ze zq zs zb zx zy zg zk zl po)) rfl ?_
  exact ok_insertKeyword_10_1 (k137 := f_insertKeyword_137 zf za) ok_insertKeyword_137_1 100000 h
theorem ok_buildTrie_12_1 {zf za zi zm zv zt zp zn zab zw zu : List Int32} {zz zaa zo zc ze zb zx zy zg zk zl : Int32} {c0 c1 c2 c3 c4 c5 c6 c7 c8 c9 c10 c11 c12 c13 c14 c15 c16 : ACell} {po : List ACell} : ∀ (n : Nat), ∀ {zd zr zh zj : List Int32} {zq zs v1 : Int32} {w_o_child w_o_depth w_o_term w_o_outMask : List Int32} {w_o_nodeCount : Int32} {w_o_longestKw : Int32}, f_buildTrie_12 zf za zc n zd zr zh zj zq zs v1 = some (w_o_child, w_o_depth, w_o_term, w_o_outMask, w_o_nodeCount, w_o_longestKw) → OEnds own_P 10 12 [qr 17, qi v1] [] (c0 :: c1 :: c2 :: c3 :: c4 :: c5 :: c6 :: c7 :: c8 :: c9 :: c10 :: c11 :: c12 :: c13 :: c14 :: c15 :: c16 :: bk1 zf za zi zm zd zv zt zr zh zj zp zn zab zw zu zz zaa zo zc ze zq zs zb zx zy zg zk zl po) (none, (c0 :: c1 :: c2 :: c3 :: c4 :: c5 :: c6 :: c7 :: c8 :: c9 :: c10 :: c11 :: c12 :: c13 :: c14 :: c15 :: c16 :: bk1 zf za zi zm w_o_child zv zt w_o_depth w_o_term w_o_outMask zp zn zab zw zu zz zaa zo zc ze w_o_nodeCount w_o_longestKw zb zx zy zg zk zl po), 0, 0) := by
  intro n
  induction n with
  | zero => intro zd zr zh zj zq zs v1 w_o_child w_o_depth w_o_term w_o_outMask w_o_nodeCount w_o_longestKw h; cases h
  | succ n ih =>
    intro zd zr zh zj zq zs v1 w_o_child w_o_depth w_o_term w_o_outMask w_o_nodeCount w_o_longestKw h
    unfold f_buildTrie_12 at h
    refine OEnds.adv hm_10 3 (pc' := 17) (L' := [qr 17, qi v1]) (S' := [.int zc, .int v1]) (H' := (c0 :: c1 :: c2 :: c3 :: c4 :: c5 :: c6 :: c7 :: c8 :: c9 :: c10 :: c11 :: c12 :: c13 :: c14 :: c15 :: c16 :: bk1 zf za zi zm zd zv zt zr zh zj zp zn zab zw zu zz zaa zo zc ze zq zs zb zx zy zg zk zl po)) rfl ?_
    by_cases hc153 : v1 < zc
    · simp only [if_pos hc153] at h
      refine OEnds.icmpF hm_10 rfl ((tlt hc153).2.1) ?_
      refine OEnds.adv hm_10 2 (pc' := 23) (L' := [qr 17, qi v1]) (S' := [.int 16, .int v1]) (H' := (c0 :: c1 :: c2 :: c3 :: c4 :: c5 :: c6 :: c7 :: c8 :: c9 :: c10 :: c11 :: c12 :: c13 :: c14 :: c15 :: c16 :: bk1 zf za zi zm zd zv zt zr zh zj zp zn zab zw zu zz zaa zo zc ze zq zs zb zx zy zg zk zl po)) rfl ?_
      by_cases hc154 : v1 < (16 : Int32)
      · simp only [if_pos hc154] at h
        refine OEnds.icmpF hm_10 rfl ((tlt hc154).2.1) ?_
        refine OEnds.adv hm_10 2 (pc' := 28) (L' := [qr 17, qi v1]) (S' := [.int v1, .ref 17]) (H' := (c0 :: c1 :: c2 :: c3 :: c4 :: c5 :: c6 :: c7 :: c8 :: c9 :: c10 :: c11 :: c12 :: c13 :: c14 :: c15 :: c16 :: bk1 zf za zi zm zd zv zt zr zh zj zp zn zab zw zu zz zaa zo zc ze zq zs zb zx zy zg zk zl po)) rfl ?_
        obtain ⟨⟨s35, s36, s37, s38, s39⟩, hq155, h⟩ := bnd h
        refine OEnds.call0 hm_10 rfl rfl (by decide) rfl (as := [.ref 17, .int v1]) (rest := []) rfl rfl (ok_insertKeyword_1 hq155) ?_
        refine OEnds.adv hm_10 3 (pc' := 36) (L' := [qr 17, qi v1]) (S' := [.int v1, .ref 19]) (H' := (c0 :: c1 :: c2 :: c3 :: c4 :: c5 :: c6 :: c7 :: c8 :: c9 :: c10 :: c11 :: c12 :: c13 :: c14 :: c15 :: c16 :: bk1 zf za zi zm s35 zv zt s36 s37 s38 zp zn zab zw zu zz zaa zo zc ze s39 zs zb zx zy zg zk zl po)) rfl ?_
        obtain ⟨x40, hx40, h⟩ := bnd h
        refine OEnds.plain hm_10 rfl rfl (x_iaload rfl hx40) ?_
        refine OEnds.adv hm_10 2 (pc' := 41) (L' := [qr 17, qi v1]) (S' := [.int zs, .int x40]) (H' := (c0 :: c1 :: c2 :: c3 :: c4 :: c5 :: c6 :: c7 :: c8 :: c9 :: c10 :: c11 :: c12 :: c13 :: c14 :: c15 :: c16 :: bk1 zf za zi zm s35 zv zt s36 s37 s38 zp zn zab zw zu zz zaa zo zc ze s39 zs zb zx zy zg zk zl po)) rfl ?_
        by_cases hc156 : zs < x40
        · simp only [if_pos hc156] at h
          refine OEnds.icmpF hm_10 rfl ((tlt hc156).2.2.2) ?_
          refine OEnds.adv hm_10 4 (pc' := 50) (L' := [qr 17, qi v1]) (S' := [.int v1, .ref 19, .ref 17]) (H' := (c0 :: c1 :: c2 :: c3 :: c4 :: c5 :: c6 :: c7 :: c8 :: c9 :: c10 :: c11 :: c12 :: c13 :: c14 :: c15 :: c16 :: bk1 zf za zi zm s35 zv zt s36 s37 s38 zp zn zab zw zu zz zaa zo zc ze s39 zs zb zx zy zg zk zl po)) rfl ?_
          obtain ⟨x41, hx41, h⟩ := bnd h
          refine OEnds.plain hm_10 rfl rfl (x_iaload rfl hx41) ?_
          refine OEnds.adv hm_10 3 (pc' := 12) (L' := [qr 17, qi (v1 + (1 : Int32))]) (S' := []) (H' := (c0 :: c1 :: c2 :: c3 :: c4 :: c5 :: c6 :: c7 :: c8 :: c9 :: c10 :: c11 :: c12 :: c13 :: c14 :: c15 :: c16 :: bk1 zf za zi zm s35 zv zt s36 s37 s38 zp zn zab zw zu zz zaa zo zc ze s39 x41 zb zx zy zg zk zl po)) rfl ?_
          exact ih h
        · simp only [if_neg hc156] at h
          refine OEnds.icmpT hm_10 rfl (q := 54) rfl ((flt hc156).2.2.2) ?_
          refine OEnds.adv hm_10 2 (pc' := 12) (L' := [qr 17, qi (v1 + (1 : Int32))]) (S' := []) (H' := (c0 :: c1 :: c2 :: c3 :: c4 :: c5 :: c6 :: c7 :: c8 :: c9 :: c10 :: c11 :: c12 :: c13 :: c14 :: c15 :: c16 :: bk1 zf za zi zm s35 zv zt s36 s37 s38 zp zn zab zw zu zz zaa zo zc ze s39 zs zb zx zy zg zk zl po)) rfl ?_
          exact ih h
      · simp only [if_neg hc154] at h
        refine OEnds.icmpT hm_10 rfl (q := 60) rfl ((flt hc154).2.1) ?_
        show OEnds own_P 10 60 [qr 17, qi v1] [] (c0 :: c1 :: c2 :: c3 :: c4 :: c5 :: c6 :: c7 :: c8 :: c9 :: c10 :: c11 :: c12 :: c13 :: c14 :: c15 :: c16 :: bk1 zf za zi zm zd zv zt zr zh zj zp zn zab zw zu zz zaa zo zc ze zq zs zb zx zy zg zk zl po) _
        cases h
        exact OEnds.vret hm_10 rfl rfl
    · simp only [if_neg hc153] at h
      refine OEnds.icmpT hm_10 rfl (q := 60) rfl ((flt hc153).2.1) ?_
      show OEnds own_P 10 60 [qr 17, qi v1] [] (c0 :: c1 :: c2 :: c3 :: c4 :: c5 :: c6 :: c7 :: c8 :: c9 :: c10 :: c11 :: c12 :: c13 :: c14 :: c15 :: c16 :: bk1 zf za zi zm zd zv zt zr zh zj zp zn zab zw zu zz zaa zo zc ze zq zs zb zx zy zg zk zl po) _
      cases h
      exact OEnds.vret hm_10 rfl rfl
theorem ok_buildTrie_1 {zf za zi zm zv zt zp zn zab zw zu : List Int32} {zz zaa zo zc ze zb zx zy zg zk zl : Int32} {c0 c1 c2 c3 c4 c5 c6 c7 c8 c9 c10 c11 c12 c13 c14 c15 c16 : ACell} {po : List ACell} {zd zr zh zj : List Int32} {zq zs : Int32} {w_o_child w_o_depth w_o_term w_o_outMask : List Int32} {w_o_nodeCount w_o_longestKw : Int32} (h : f_buildTrie zf za zc zd zr zh zj zq zs = some (w_o_child, w_o_depth, w_o_term, w_o_outMask, w_o_nodeCount, w_o_longestKw)) : OEnds own_P 10 0 [qr 17, qu] [] (c0 :: c1 :: c2 :: c3 :: c4 :: c5 :: c6 :: c7 :: c8 :: c9 :: c10 :: c11 :: c12 :: c13 :: c14 :: c15 :: c16 :: bk1 zf za zi zm zd zv zt zr zh zj zp zn zab zw zu zz zaa zo zc ze zq zs zb zx zy zg zk zl po) (none, (c0 :: c1 :: c2 :: c3 :: c4 :: c5 :: c6 :: c7 :: c8 :: c9 :: c10 :: c11 :: c12 :: c13 :: c14 :: c15 :: c16 :: bk1 zf za zi zm w_o_child zv zt w_o_depth w_o_term w_o_outMask zp zn zab zw zu zz zaa zo zc ze w_o_nodeCount w_o_longestKw zb zx zy zg zk zl po), 0, 0) := by
  unfold f_buildTrie at h
  refine OEnds.adv hm_10 8 (pc' := 12) (L' := [qr 17, qi 0]) (S' := []) (H' := (c0 :: c1 :: c2 :: c3 :: c4 :: c5 :: c6 :: c7 :: c8 :: c9 :: c10 :: c11 :: c12 :: c13 :: c14 :: c15 :: c16 :: bk1 zf za zi zm zd zv zt zr zh zj zp zn zab zw zu zz zaa zo zc ze 1 1 zb zx zy zg zk zl po)) rfl ?_
  exact ok_buildTrie_12_1 100000 h
theorem ok_expandNode_58_1 {zf za zi zm zd zr zh zn zab zw zu : List Int32} {zz zaa zo zc ze zq zs zb zx zy zg zk zl : Int32} {c0 c1 c2 c3 c4 c5 c6 c7 c8 c9 c10 c11 c12 c13 c14 c15 c16 : ACell} {po : List ACell} : ∀ (n : Nat), ∀ {zv zt zj zp : List Int32} {v1 v3 v4 v5 : Int32} {d2 d6 d7 : Slot} {res : Int32} {w_o_delta w_o_fail w_o_outMask : List Int32} {w_o_queue : List Int32}, f_expandNode_58 zd n zv zt zj zp v1 v3 v4 v5 = some (res, w_o_delta, w_o_fail, w_o_outMask, w_o_queue) → OEnds own_P 13 58 [qr 17, qi v1, d2, qi v3, qi v4, qi v5, d6, d7] [] (c0 :: c1 :: c2 :: c3 :: c4 :: c5 :: c6 :: c7 :: c8 :: c9 :: c10 :: c11 :: c12 :: c13 :: c14 :: c15 :: c16 :: bk1 zf za zi zm zd zv zt zr zh zj zp zn zab zw zu zz zaa zo zc ze zq zs zb zx zy zg zk zl po) (some (.int res), (c0 :: c1 :: c2 :: c3 :: c4 :: c5 :: c6 :: c7 :: c8 :: c9 :: c10 :: c11 :: c12 :: c13 :: c14 :: c15 :: c16 :: bk1 zf za zi zm zd w_o_delta w_o_fail zr zh w_o_outMask w_o_queue zn zab zw zu zz zaa zo zc ze zq zs zb zx zy zg zk zl po), 0, 0) := by
  intro n
  induction n with
  | zero => intro zv zt zj zp v1 v3 v4 v5 d2 d6 d7 res w_o_delta w_o_fail w_o_outMask w_o_queue h; cases h
  | succ n ih =>
    intro zv zt zj zp v1 v3 v4 v5 d2 d6 d7 res w_o_delta w_o_fail w_o_outMask w_o_queue h
    unfold f_expandNode_58 at h
    refine OEnds.adv hm_13 2 (pc' := 62) (L' := [qr 17, qi v1, qu, qi v3, qi v4, qi v5, qu, qu]) (S' := [.int 26, .int v5]) (H' := (c0 :: c1 :: c2 :: c3 :: c4 :: c5 :: c6 :: c7 :: c8 :: c9 :: c10 :: c11 :: c12 :: c13 :: c14 :: c15 :: c16 :: bk1 zf za zi zm zd zv zt zr zh zj zp zn zab zw zu zz zaa zo zc ze zq zs zb zx zy zg zk zl po)) rfl ?_
    by_cases hc157 : v5 < (26 : Int32)
    · simp only [if_pos hc157] at h
      refine OEnds.icmpF hm_13 rfl ((tlt hc157).2.1) ?_
      refine OEnds.adv hm_13 7 (pc' := 76) (L' := [qr 17, qi v1, qu, qi v3, qi v4, qi v5, qu, qu]) (S' := [.int ((v1 * (26 : Int32)) + v5), .ref 22]) (H' := (c0 :: c1 :: c2 :: c3 :: c4 :: c5 :: c6 :: c7 :: c8 :: c9 :: c10 :: c11 :: c12 :: c13 :: c14 :: c15 :: c16 :: bk1 zf za zi zm zd zv zt zr zh zj zp zn zab zw zu zz zaa zo zc ze zq zs zb zx zy zg zk zl po)) rfl ?_
      obtain ⟨x46, hx46, h⟩ := bnd h
      refine OEnds.plain hm_13 rfl rfl (x_iaload rfl hx46) ?_
      refine OEnds.adv hm_13 8 (pc' := 90) (L' := [qr 17, qi v1, qu, qi v3, qi v4, qi v5, qi x46, qu]) (S' := [.int ((v3 * (26 : Int32)) + v5), .ref 23]) (H' := (c0 :: c1 :: c2 :: c3 :: c4 :: c5 :: c6 :: c7 :: c8 :: c9 :: c10 :: c11 :: c12 :: c13 :: c14 :: c15 :: c16 :: bk1 zf za zi zm zd zv zt zr zh zj zp zn zab zw zu zz zaa zo zc ze zq zs zb zx zy zg zk zl po)) rfl ?_
      obtain ⟨x47, hx47, h⟩ := bnd h
      refine OEnds.plain hm_13 rfl rfl (x_iaload rfl hx47) ?_
      refine OEnds.adv hm_13 2 (pc' := 95) (L' := [qr 17, qi v1, qu, qi v3, qi v4, qi v5, qi x46, qi x47]) (S' := [.int x46]) (H' := (c0 :: c1 :: c2 :: c3 :: c4 :: c5 :: c6 :: c7 :: c8 :: c9 :: c10 :: c11 :: c12 :: c13 :: c14 :: c15 :: c16 :: bk1 zf za zi zm zd zv zt zr zh zj zp zn zab zw zu zz zaa zo zc ze zq zs zb zx zy zg zk zl po)) rfl ?_
      by_cases hc158 : x46 = (0 : Int32)
      · simp only [if_pos hc158] at h
        refine OEnds.ifT hm_13 rfl (q := 144) rfl ((teq hc158).1) ?_
        refine OEnds.adv hm_13 8 (pc' := 157) (L' := [qr 17, qi v1, qu, qi v3, qi v4, qi v5, qi x46, qi x47]) (S' := [.int x47, .int ((v1 * (26 : Int32)) + v5), .ref 23]) (H' := (c0 :: c1 :: c2 :: c3 :: c4 :: c5 :: c6 :: c7 :: c8 :: c9 :: c10 :: c11 :: c12 :: c13 :: c14 :: c15 :: c16 :: bk1 zf za zi zm zd zv zt zr zh zj zp zn zab zw zu zz zaa zo zc ze zq zs zb zx zy zg zk zl po)) rfl ?_
        obtain ⟨A48, hA48, h⟩ := bnd h
        refine OEnds.plain hm_13 rfl rfl (x_iastore rfl (Nat.le_of_ble_eq_true rfl) hA48) ?_
        refine OEnds.adv hm_13 2 (pc' := 58) (L' := [qr 17, qi v1, qu, qi v3, qi v4, qi (v5 + (1 : Int32)), qi x46, qi x47]) (S' := []) (H' := (c0 :: c1 :: c2 :: c3 :: c4 :: c5 :: c6 :: c7 :: c8 :: c9 :: c10 :: c11 :: c12 :: c13 :: c14 :: c15 :: c16 :: bk1 zf za zi zm zd A48 zt zr zh zj zp zn zab zw zu zz zaa zo zc ze zq zs zb zx zy zg zk zl po)) rfl ?_
        exact ih h
      · simp only [if_neg hc158] at h
        refine OEnds.ifF hm_13 rfl ((feq hc158).1) ?_
        refine OEnds.adv hm_13 4 (pc' := 106) (L' := [qr 17, qi v1, qu, qi v3, qi v4, qi v5, qi x46, qi x47]) (S' := [.int x47, .int x46, .ref 24]) (H' := (c0 :: c1 :: c2 :: c3 :: c4 :: c5 :: c6 :: c7 :: c8 :: c9 :: c10 :: c11 :: c12 :: c13 :: c14 :: c15 :: c16 :: bk1 zf za zi zm zd zv zt zr zh zj zp zn zab zw zu zz zaa zo zc ze zq zs zb zx zy zg zk zl po)) rfl ?_
        obtain ⟨A49, hA49, h⟩ := bnd h
        refine OEnds.plain hm_13 rfl rfl (x_iastore rfl (Nat.le_of_ble_eq_true rfl) hA49) ?_
        refine OEnds.adv hm_13 8 (pc' := 120) (L' := [qr 17, qi v1, qu, qi v3, qi v4, qi v5, qi x46, qi x47]) (S' := [.int x46, .int ((v1 * (26 : Int32)) + v5), .ref 23]) (H' := (c0 :: c1 :: c2 :: c3 :: c4 :: c5 :: c6 :: c7 :: c8 :: c9 :: c10 :: c11 :: c12 :: c13 :: c14 :: c15 :: c16 :: bk1 zf za zi zm zd zv A49 zr zh zj zp zn zab zw zu zz zaa zo zc ze zq zs zb zx zy zg zk zl po)) rfl ?_
        obtain ⟨A50, hA50, h⟩ := bnd h
        refine OEnds.plain hm_13 rfl rfl (x_iastore rfl (Nat.le_of_ble_eq_true rfl) hA50) ?_
        refine OEnds.adv hm_13 2 (pc' := 126) (L' := [qr 17, qi v1, qu, qi v3, qi v4, qi v5, qi x46, qi x47]) (S' := [.int 129, .int v4]) (H' := (c0 :: c1 :: c2 :: c3 :: c4 :: c5 :: c6 :: c7 :: c8 :: c9 :: c10 :: c11 :: c12 :: c13 :: c14 :: c15 :: c16 :: bk1 zf za zi zm zd A50 A49 zr zh zj zp zn zab zw zu zz zaa zo zc ze zq zs zb zx zy zg zk zl po)) rfl ?_
        by_cases hc159 : v4 < (129 : Int32)
        · simp only [if_pos hc159] at h
          refine OEnds.icmpF hm_13 rfl ((tlt hc159).2.1) ?_
          refine OEnds.adv hm_13 4 (pc' := 137) (L' := [qr 17, qi v1, qu, qi v3, qi v4, qi v5, qi x46, qi x47]) (S' := [.int x46, .int v4, .ref 28]) (H' := (c0 :: c1 :: c2 :: c3 :: c4 :: c5 :: c6 :: c7 :: c8 :: c9 :: c10 :: c11 :: c12 :: c13 :: c14 :: c15 :: c16 :: bk1 zf za zi zm zd A50 A49 zr zh zj zp zn zab zw zu zz zaa zo zc ze zq zs zb zx zy zg zk zl po)) rfl ?_
          obtain ⟨A51, hA51, h⟩ := bnd h
          refine OEnds.plain hm_13 rfl rfl (x_iastore rfl (Nat.le_of_ble_eq_true rfl) hA51) ?_
          refine OEnds.adv hm_13 4 (pc' := 58) (L' := [qr 17, qi v1, qu, qi v3, qi (v4 + (1 : Int32)), qi (v5 + (1 : Int32)), qi x46, qi x47]) (S' := []) (H' := (c0 :: c1 :: c2 :: c3 :: c4 :: c5 :: c6 :: c7 :: c8 :: c9 :: c10 :: c11 :: c12 :: c13 :: c14 :: c15 :: c16 :: bk1 zf za zi zm zd A50 A49 zr zh zj A51 zn zab zw zu zz zaa zo zc ze zq zs zb zx zy zg zk zl po)) rfl ?_
          exact ih h
        · simp only [if_neg hc159] at h
          refine OEnds.icmpT hm_13 rfl (q := 158) rfl ((flt hc159).2.1) ?_
          refine OEnds.adv hm_13 2 (pc' := 58) (L' := [qr 17, qi v1, qu, qi v3, qi v4, qi (v5 + (1 : Int32)), qi x46, qi x47]) (S' := []) (H' := (c0 :: c1 :: c2 :: c3 :: c4 :: c5 :: c6 :: c7 :: c8 :: c9 :: c10 :: c11 :: c12 :: c13 :: c14 :: c15 :: c16 :: bk1 zf za zi zm zd A50 A49 zr zh zj zp zn zab zw zu zz zaa zo zc ze zq zs zb zx zy zg zk zl po)) rfl ?_
          exact ih h
    · simp only [if_neg hc157] at h
      refine OEnds.icmpT hm_13 rfl (q := 164) rfl ((flt hc157).2.1) ?_
      refine OEnds.adv hm_13 1 (pc' := 166) (L' := [qr 17, qi v1, qu, qi v3, qi v4, qi v5, qu, qu]) (S' := [.int v4]) (H' := (c0 :: c1 :: c2 :: c3 :: c4 :: c5 :: c6 :: c7 :: c8 :: c9 :: c10 :: c11 :: c12 :: c13 :: c14 :: c15 :: c16 :: bk1 zf za zi zm zd zv zt zr zh zj zp zn zab zw zu zz zaa zo zc ze zq zs zb zx zy zg zk zl po)) rfl ?_
      cases h
      exact OEnds.iret hm_13 rfl rfl
theorem ok_expandNode_33_1 {zf za zi zm zd zr zh zn zab zw zu : List Int32} {zz zaa zo zc ze zq zs zb zx zy zg zk zl : Int32} {c0 c1 c2 c3 c4 c5 c6 c7 c8 c9 c10 c11 c12 c13 c14 c15 c16 : ACell} {po : List ACell} : ∀ {zv zt zj zp : List Int32} {v1 v2 v3 : Int32} {d4 d5 d6 d7 : Slot} {res : Int32} {w_o_delta w_o_fail w_o_outMask : List Int32} {w_o_queue : List Int32}, f_expandNode_33 zd zv zt zj zp v1 v2 v3 = some (res, w_o_delta, w_o_fail, w_o_outMask, w_o_queue) → OEnds own_P 13 33 [qr 17, qi v1, qi v2, qi v3, d4, d5, d6, d7] [] (c0 :: c1 :: c2 :: c3 :: c4 :: c5 :: c6 :: c7 :: c8 :: c9 :: c10 :: c11 :: c12 :: c13 :: c14 :: c15 :: c16 :: bk1 zf za zi zm zd zv zt zr zh zj zp zn zab zw zu zz zaa zo zc ze zq zs zb zx zy zg zk zl po) (some (.int res), (c0 :: c1 :: c2 :: c3 :: c4 :: c5 :: c6 :: c7 :: c8 :: c9 :: c10 :: c11 :: c12 :: c13 :: c14 :: c15 :: c16 :: bk1 zf za zi zm zd w_o_delta w_o_fail zr zh w_o_outMask w_o_queue zn zab zw zu zz zaa zo zc ze zq zs zb zx zy zg zk zl po), 0, 0) := by
  intro zv zt zj zp v1 v2 v3 d4 d5 d6 d7 res w_o_delta w_o_fail w_o_outMask w_o_queue h
  unfold f_expandNode_33 at h
  refine OEnds.adv hm_13 6 (pc' := 43) (L' := [qr 17, qi v1, qi v2, qi v3, qu, qu, qu, qu]) (S' := [.int v1, .ref 27, .int v1, .ref 27]) (H' := (c0 :: c1 :: c2 :: c3 :: c4 :: c5 :: c6 :: c7 :: c8 :: c9 :: c10 :: c11 :: c12 :: c13 :: c14 :: c15 :: c16 :: bk1 zf za zi zm zd zv zt zr zh zj zp zn zab zw zu zz zaa zo zc ze zq zs zb zx zy zg zk zl po)) rfl ?_
  obtain ⟨x43, hx43, h⟩ := bnd h
  refine OEnds.plain hm_13 rfl rfl (x_iaload rfl hx43) ?_
  refine OEnds.adv hm_13 3 (pc' := 49) (L' := [qr 17, qi v1, qi v2, qi v3, qu, qu, qu, qu]) (S' := [.int v3, .ref 27, .int x43, .int v1, .ref 27]) (H' := (c0 :: c1 :: c2 :: c3 :: c4 :: c5 :: c6 :: c7 :: c8 :: c9 :: c10 :: c11 :: c12 :: c13 :: c14 :: c15 :: c16 :: bk1 zf za zi zm zd zv zt zr zh zj zp zn zab zw zu zz zaa zo zc ze zq zs zb zx zy zg zk zl po)) rfl ?_
  obtain ⟨x44, hx44, h⟩ := bnd h
  refine OEnds.plain hm_13 rfl rfl (x_iaload rfl hx44) ?_
  refine OEnds.adv hm_13 1 (pc' := 51) (L' := [qr 17, qi v1, qi v2, qi v3, qu, qu, qu, qu]) (S' := [.int (x43 ||| x44), .int v1, .ref 27]) (H' := (c0 :: c1 :: c2 :: c3 :: c4 :: c5 :: c6 :: c7 :: c8 :: c9 :: c10 :: c11 :: c12 :: c13 :: c14 :: c15 :: c16 :: bk1 zf za zi zm zd zv zt zr zh zj zp zn zab zw zu zz zaa zo zc ze zq zs zb zx zy zg zk zl po)) rfl ?_
  obtain ⟨A45, hA45, h⟩ := bnd h
  refine OEnds.plain hm_13 rfl rfl (x_iastore rfl (Nat.le_of_ble_eq_true rfl) hA45) ?_
  refine OEnds.adv hm_13 4 (pc' := 58) (L' := [qr 17, qi v1, qi v2, qi v3, qi v2, qi 0, qu, qu]) (S' := []) (H' := (c0 :: c1 :: c2 :: c3 :: c4 :: c5 :: c6 :: c7 :: c8 :: c9 :: c10 :: c11 :: c12 :: c13 :: c14 :: c15 :: c16 :: bk1 zf za zi zm zd zv zt zr zh A45 zp zn zab zw zu zz zaa zo zc ze zq zs zb zx zy zg zk zl po)) rfl ?_
  exact ok_expandNode_58_1 100000 h
theorem ok_expandNode_1 {zf za zi zm zd zr zh zn zab zw zu : List Int32} {zz zaa zo zc ze zq zs zb zx zy zg zk zl : Int32} {c0 c1 c2 c3 c4 c5 c6 c7 c8 c9 c10 c11 c12 c13 c14 c15 c16 : ACell} {po : List ACell} {zv zt zj zp : List Int32} {v1 v2 res : Int32} {w_o_delta w_o_fail w_o_outMask w_o_queue : List Int32} (h : f_expandNode zd zv zt zj zp v1 v2 = some (res, w_o_delta, w_o_fail, w_o_outMask, w_o_queue)) : OEnds own_P 13 0 [qr 17, qi v1, qi v2, qu, qu, qu, qu, qu] [] (c0 :: c1 :: c2 :: c3 :: c4 :: c5 :: c6 :: c7 :: c8 :: c9 :: c10 :: c11 :: c12 :: c13 :: c14 :: c15 :: c16 :: bk1 zf za zi zm zd zv zt zr zh zj zp zn zab zw zu zz zaa zo zc ze zq zs zb zx zy zg zk zl po) (some (.int res), (c0 :: c1 :: c2 :: c3 :: c4 :: c5 :: c6 :: c7 :: c8 :: c9 :: c10 :: c11 :: c12 :: c13 :: c14 :: c15 :: c16 :: bk1 zf za zi zm zd w_o_delta w_o_fail zr zh w_o_outMask w_o_queue zn zab zw zu zz zaa zo zc ze zq zs zb zx zy zg zk zl po), 0, 0) := by
  unfold f_expandNode at h
  refine OEnds.adv hm_13 1 (pc' := 1) (L' := [qr 17, qi v1, qi v2, qu, qu, qu, qu, qu]) (S' := [.int v1]) (H' := (c0 :: c1 :: c2 :: c3 :: c4 :: c5 :: c6 :: c7 :: c8 :: c9 :: c10 :: c11 :: c12 :: c13 :: c14 :: c15 :: c16 :: bk1 zf za zi zm zd zv zt zr zh zj zp zn zab zw zu zz zaa zo zc ze zq zs zb zx zy zg zk zl po)) rfl ?_
  by_cases hc160 : (0 : Int32) < v1
  · simp only [if_pos hc160] at h
    refine OEnds.ifF hm_13 rfl ((tlt hc160).2.2.2) ?_
    refine OEnds.adv hm_13 2 (pc' := 8) (L' := [qr 17, qi v1, qi v2, qu, qu, qu, qu, qu]) (S' := [.int 129, .int v1]) (H' := (c0 :: c1 :: c2 :: c3 :: c4 :: c5 :: c6 :: c7 :: c8 :: c9 :: c10 :: c11 :: c12 :: c13 :: c14 :: c15 :: c16 :: bk1 zf za zi zm zd zv zt zr zh zj zp zn zab zw zu zz zaa zo zc ze zq zs zb zx zy zg zk zl po)) rfl ?_
    by_cases hc161 : v1 < (129 : Int32)
    · simp only [if_pos hc161] at h
      refine OEnds.icmpT hm_13 rfl (q := 13) rfl ((tlt hc161).1) ?_
      refine OEnds.adv hm_13 3 (pc' := 18) (L' := [qr 17, qi v1, qi v2, qu, qu, qu, qu, qu]) (S' := [.int v1, .ref 24]) (H' := (c0 :: c1 :: c2 :: c3 :: c4 :: c5 :: c6 :: c7 :: c8 :: c9 :: c10 :: c11 :: c12 :: c13 :: c14 :: c15 :: c16 :: bk1 zf za zi zm zd zv zt zr zh zj zp zn zab zw zu zz zaa zo zc ze zq zs zb zx zy zg zk zl po)) rfl ?_
      obtain ⟨x42, hx42, h⟩ := bnd h
      refine OEnds.plain hm_13 rfl rfl (x_iaload rfl hx42) ?_
      refine OEnds.adv hm_13 2 (pc' := 21) (L' := [qr 17, qi v1, qi v2, qi x42, qu, qu, qu, qu]) (S' := [.int x42]) (H' := (c0 :: c1 :: c2 :: c3 :: c4 :: c5 :: c6 :: c7 :: c8 :: c9 :: c10 :: c11 :: c12 :: c13 :: c14 :: c15 :: c16 :: bk1 zf za zi zm zd zv zt zr zh zj zp zn zab zw zu zz zaa zo zc ze zq zs zb zx zy zg zk zl po)) rfl ?_
      by_cases hc162 : x42 < (0 : Int32)
      · simp only [if_pos hc162] at h
        refine OEnds.ifT hm_13 rfl (q := 31) rfl ((tlt hc162).1) ?_
        refine OEnds.adv hm_13 2 (pc' := 33) (L' := [qr 17, qi v1, qi v2, qi 0, qu, qu, qu, qu]) (S' := []) (H' := (c0 :: c1 :: c2 :: c3 :: c4 :: c5 :: c6 :: c7 :: c8 :: c9 :: c10 :: c11 :: c12 :: c13 :: c14 :: c15 :: c16 :: bk1 zf za zi zm zd zv zt zr zh zj zp zn zab zw zu zz zaa zo zc ze zq zs zb zx zy zg zk zl po)) rfl ?_
        exact ok_expandNode_33_1 h
      · simp only [if_neg hc162] at h
        refine OEnds.ifF hm_13 rfl ((flt hc162).1) ?_
        refine OEnds.adv hm_13 2 (pc' := 28) (L' := [qr 17, qi v1, qi v2, qi x42, qu, qu, qu, qu]) (S' := [.int 129, .int x42]) (H' := (c0 :: c1 :: c2 :: c3 :: c4 :: c5 :: c6 :: c7 :: c8 :: c9 :: c10 :: c11 :: c12 :: c13 :: c14 :: c15 :: c16 :: bk1 zf za zi zm zd zv zt zr zh zj zp zn zab zw zu zz zaa zo zc ze zq zs zb zx zy zg zk zl po)) rfl ?_
        by_cases hc163 : x42 < (129 : Int32)
        · simp only [if_pos hc163] at h
          refine OEnds.icmpT hm_13 rfl (q := 33) rfl ((tlt hc163).1) ?_
          show OEnds own_P 13 33 [qr 17, qi v1, qi v2, qi x42, qu, qu, qu, qu] [] (c0 :: c1 :: c2 :: c3 :: c4 :: c5 :: c6 :: c7 :: c8 :: c9 :: c10 :: c11 :: c12 :: c13 :: c14 :: c15 :: c16 :: bk1 zf za zi zm zd zv zt zr zh zj zp zn zab zw zu zz zaa zo zc ze zq zs zb zx zy zg zk zl po) _
          exact ok_expandNode_33_1 h
        · simp only [if_neg hc163] at h
          refine OEnds.icmpF hm_13 rfl ((flt hc163).1) ?_
          refine OEnds.adv hm_13 2 (pc' := 33) (L' := [qr 17, qi v1, qi v2, qi 0, qu, qu, qu, qu]) (S' := []) (H' := (c0 :: c1 :: c2 :: c3 :: c4 :: c5 :: c6 :: c7 :: c8 :: c9 :: c10 :: c11 :: c12 :: c13 :: c14 :: c15 :: c16 :: bk1 zf za zi zm zd zv zt zr zh zj zp zn zab zw zu zz zaa zo zc ze zq zs zb zx zy zg zk zl po)) rfl ?_
          exact ok_expandNode_33_1 h
    · simp only [if_neg hc161] at h
      refine OEnds.icmpF hm_13 rfl ((flt hc161).1) ?_
      refine OEnds.adv hm_13 1 (pc' := 12) (L' := [qr 17, qi v1, qi v2, qu, qu, qu, qu, qu]) (S' := [.int v2]) (H' := (c0 :: c1 :: c2 :: c3 :: c4 :: c5 :: c6 :: c7 :: c8 :: c9 :: c10 :: c11 :: c12 :: c13 :: c14 :: c15 :: c16 :: bk1 zf za zi zm zd zv zt zr zh zj zp zn zab zw zu zz zaa zo zc ze zq zs zb zx zy zg zk zl po)) rfl ?_
      cases h
      exact OEnds.iret hm_13 rfl rfl
  · simp only [if_neg hc160] at h
    refine OEnds.ifT hm_13 rfl (q := 11) rfl ((flt hc160).2.2.2) ?_
    refine OEnds.adv hm_13 1 (pc' := 12) (L' := [qr 17, qi v1, qi v2, qu, qu, qu, qu, qu]) (S' := [.int v2]) (H' := (c0 :: c1 :: c2 :: c3 :: c4 :: c5 :: c6 :: c7 :: c8 :: c9 :: c10 :: c11 :: c12 :: c13 :: c14 :: c15 :: c16 :: bk1 zf za zi zm zd zv zt zr zh zj zp zn zab zw zu zz zaa zo zc ze zq zs zb zx zy zg zk zl po)) rfl ?_
    cases h
    exact OEnds.iret hm_13 rfl rfl
theorem ok_computeLinks_74_1 {zf za zi zm zd zr zh zn zab zw zu : List Int32} {zz zaa zo zc ze zq zs zb zx zy zg zk zl : Int32} {c0 c1 c2 c3 c4 c5 c6 c7 c8 c9 c10 c11 c12 c13 c14 c15 c16 : ACell} {po : List ACell} : ∀ (n : Nat), ∀ {zv zt zj zp : List Int32} {v1 v2 v3 : Int32} {d4 : Slot} {w_o_delta w_o_fail w_o_outMask : List Int32} {w_o_queue : List Int32}, f_computeLinks_74 zd n zv zt zj zp v1 v2 v3 = some (w_o_delta, w_o_fail, w_o_outMask, w_o_queue) → OEnds own_P 12 74 [qr 17, qi v1, qi v2, qi v3, d4] [] (c0 :: c1 :: c2 :: c3 :: c4 :: c5 :: c6 :: c7 :: c8 :: c9 :: c10 :: c11 :: c12 :: c13 :: c14 :: c15 :: c16 :: bk1 zf za zi zm zd zv zt zr zh zj zp zn zab zw zu zz zaa zo zc ze zq zs zb zx zy zg zk zl po) (none, (c0 :: c1 :: c2 :: c3 :: c4 :: c5 :: c6 :: c7 :: c8 :: c9 :: c10 :: c11 :: c12 :: c13 :: c14 :: c15 :: c16 :: bk1 zf za zi zm zd w_o_delta w_o_fail zr zh w_o_outMask w_o_queue zn zab zw zu zz zaa zo zc ze zq zs zb zx zy zg zk zl po), 0, 0) := by
  intro n
  induction n with
  | zero => intro zv zt zj zp v1 v2 v3 d4 w_o_delta w_o_fail w_o_outMask w_o_queue h; cases h
  | succ n ih =>
    intro zv zt zj zp v1 v2 v3 d4 w_o_delta w_o_fail w_o_outMask w_o_queue h
    unfold f_computeLinks_74 at h
    refine OEnds.adv hm_12 2 (pc' := 78) (L' := [qr 17, qi v1, qi v2, qi v3, qu]) (S' := [.int 129, .int v3]) (H' := (c0 :: c1 :: c2 :: c3 :: c4 :: c5 :: c6 :: c7 :: c8 :: c9 :: c10 :: c11 :: c12 :: c13 :: c14 :: c15 :: c16 :: bk1 zf za zi zm zd zv zt zr zh zj zp zn zab zw zu zz zaa zo zc ze zq zs zb zx zy zg zk zl po)) rfl ?_
    by_cases hc164 : v3 < (129 : Int32)
    · simp only [if_pos hc164] at h
      refine OEnds.icmpF hm_12 rfl ((tlt hc164).2.1) ?_
      refine OEnds.adv hm_12 2 (pc' := 83) (L' := [qr 17, qi v1, qi v2, qi v3, qu]) (S' := [.int v2, .int v1]) (H' := (c0 :: c1 :: c2 :: c3 :: c4 :: c5 :: c6 :: c7 :: c8 :: c9 :: c10 :: c11 :: c12 :: c13 :: c14 :: c15 :: c16 :: bk1 zf za zi zm zd zv zt zr zh zj zp zn zab zw zu zz zaa zo zc ze zq zs zb zx zy zg zk zl po)) rfl ?_
      by_cases hc165 : v1 < v2
      · simp only [if_pos hc165] at h
        refine OEnds.icmpT hm_12 rfl (q := 87) rfl ((tlt hc165).1) ?_
        refine OEnds.adv hm_12 3 (pc' := 92) (L' := [qr 17, qi v1, qi v2, qi v3, qu]) (S' := [.int v1, .ref 28]) (H' := (c0 :: c1 :: c2 :: c3 :: c4 :: c5 :: c6 :: c7 :: c8 :: c9 :: c10 :: c11 :: c12 :: c13 :: c14 :: c15 :: c16 :: bk1 zf za zi zm zd zv zt zr zh zj zp zn zab zw zu zz zaa zo zc ze zq zs zb zx zy zg zk zl po)) rfl ?_
        obtain ⟨x57, hx57, h⟩ := bnd h
        refine OEnds.plain hm_12 rfl rfl (x_iaload rfl hx57) ?_
        refine OEnds.adv hm_12 5 (pc' := 102) (L' := [qr 17, qi (v1 + (1 : Int32)), qi v2, qi v3, qi x57]) (S' := [.int v2, .int x57, .ref 17]) (H' := (c0 :: c1 :: c2 :: c3 :: c4 :: c5 :: c6 :: c7 :: c8 :: c9 :: c10 :: c11 :: c12 :: c13 :: c14 :: c15 :: c16 :: bk1 zf za zi zm zd zv zt zr zh zj zp zn zab zw zu zz zaa zo zc ze zq zs zb zx zy zg zk zl po)) rfl ?_
        obtain ⟨⟨r58, s59, s60, s61, s62⟩, hq166, h⟩ := bnd h
        refine OEnds.call0 hm_12 rfl rfl (by decide) rfl (as := [.ref 17, .int x57, .int v2]) (rest := []) rfl rfl (ok_expandNode_1 hq166) ?_
        refine OEnds.adv hm_12 3 (pc' := 74) (L' := [qr 17, qi (v1 + (1 : Int32)), qi r58, qi (v3 + (1 : Int32)), qi x57]) (S' := []) (H' := (c0 :: c1 :: c2 :: c3 :: c4 :: c5 :: c6 :: c7 :: c8 :: c9 :: c10 :: c11 :: c12 :: c13 :: c14 :: c15 :: c16 :: bk1 zf za zi zm zd s59 s60 zr zh s61 s62 zn zab zw zu zz zaa zo zc ze zq zs zb zx zy zg zk zl po)) rfl ?_
        exact ih h
      · simp only [if_neg hc165] at h
        refine OEnds.icmpF hm_12 rfl ((flt hc165).1) ?_
        show OEnds own_P 12 86 [qr 17, qi v1, qi v2, qi v3, qu] [] (c0 :: c1 :: c2 :: c3 :: c4 :: c5 :: c6 :: c7 :: c8 :: c9 :: c10 :: c11 :: c12 :: c13 :: c14 :: c15 :: c16 :: bk1 zf za zi zm zd zv zt zr zh zj zp zn zab zw zu zz zaa zo zc ze zq zs zb zx zy zg zk zl po) _
        cases h
        exact OEnds.vret hm_12 rfl rfl
    · simp only [if_neg hc164] at h
      refine OEnds.icmpT hm_12 rfl (q := 112) rfl ((flt hc164).2.1) ?_
      show OEnds own_P 12 112 [qr 17, qi v1, qi v2, qi v3, qu] [] (c0 :: c1 :: c2 :: c3 :: c4 :: c5 :: c6 :: c7 :: c8 :: c9 :: c10 :: c11 :: c12 :: c13 :: c14 :: c15 :: c16 :: bk1 zf za zi zm zd zv zt zr zh zj zp zn zab zw zu zz zaa zo zc ze zq zs zb zx zy zg zk zl po) _
      cases h
      exact OEnds.vret hm_12 rfl rfl
theorem ok_computeLinks_13_1 {zf za zi zm zd zr zh zn zab zw zu : List Int32} {zz zaa zo zc ze zq zs zb zx zy zg zk zl : Int32} {c0 c1 c2 c3 c4 c5 c6 c7 c8 c9 c10 c11 c12 c13 c14 c15 c16 : ACell} {po : List ACell} {k74 : List Int32 → List Int32 → List Int32 → List Int32 → Int32 → Int32 → Int32 → Option (List Int32 × List Int32 × List Int32 × List Int32)} (hk74 : ∀ {zv zt zj zp : List Int32} {v1 v2 v3 : Int32} {d4 : Slot} {w_o_delta w_o_fail w_o_outMask : List Int32} {w_o_queue : List Int32}, k74 zv zt zj zp v1 v2 v3 = some (w_o_delta, w_o_fail, w_o_outMask, w_o_queue) → OEnds own_P 12 74 [qr 17, qi v1, qi v2, qi v3, d4] [] (c0 :: c1 :: c2 :: c3 :: c4 :: c5 :: c6 :: c7 :: c8 :: c9 :: c10 :: c11 :: c12 :: c13 :: c14 :: c15 :: c16 :: bk1 zf za zi zm zd zv zt zr zh zj zp zn zab zw zu zz zaa zo zc ze zq zs zb zx zy zg zk zl po) (none, (c0 :: c1 :: c2 :: c3 :: c4 :: c5 :: c6 :: c7 :: c8 :: c9 :: c10 :: c11 :: c12 :: c13 :: c14 :: c15 :: c16 :: bk1 zf za zi zm zd w_o_delta w_o_fail zr zh w_o_outMask w_o_queue zn zab zw zu zz zaa zo zc ze zq zs zb zx zy zg zk zl po), 0, 0)) : ∀ (n : Nat), ∀ {zv zt zj zp : List Int32} {v1 v2 v3 : Int32} {d4 : Slot} {w_o_delta w_o_fail w_o_outMask : List Int32} {w_o_queue : List Int32}, f_computeLinks_13 k74 zd n zv zt zj zp v1 v2 v3 = some (w_o_delta, w_o_fail, w_o_outMask, w_o_queue) → OEnds own_P 12 13 [qr 17, qi v1, qi v2, qi v3, d4] [] (c0 :: c1 :: c2 :: c3 :: c4 :: c5 :: c6 :: c7 :: c8 :: c9 :: c10 :: c11 :: c12 :: c13 :: c14 :: c15 :: c16 :: bk1 zf za zi zm zd zv zt zr zh zj zp zn zab zw zu zz zaa zo zc ze zq zs zb zx zy zg zk zl po) (none, (c0 :: c1 :: c2 :: c3 :: c4 :: c5 :: c6 :: c7 :: c8 :: c9 :: c10 :: c11 :: c12 :: c13 :: c14 :: c15 :: c16 :: bk1 zf za zi zm zd w_o_delta w_o_fail zr zh w_o_outMask w_o_queue zn zab zw zu zz zaa zo zc ze zq zs zb zx zy zg zk zl po), 0, 0) := by
  intro n
  induction n with
  | zero => intro zv zt zj zp v1 v2 v3 d4 w_o_delta w_o_fail w_o_outMask w_o_queue h; cases h
  | succ n ih =>
    intro zv zt zj zp v1 v2 v3 d4 w_o_delta w_o_fail w_o_outMask w_o_queue h
    unfold f_computeLinks_13 at h
    refine OEnds.adv hm_12 2 (pc' := 16) (L' := [qr 17, qi v1, qi v2, qi v3, qu]) (S' := [.int 26, .int v3]) (H' := (c0 :: c1 :: c2 :: c3 :: c4 :: c5 :: c6 :: c7 :: c8 :: c9 :: c10 :: c11 :: c12 :: c13 :: c14 :: c15 :: c16 :: bk1 zf za zi zm zd zv zt zr zh zj zp zn zab zw zu zz zaa zo zc ze zq zs zb zx zy zg zk zl po)) rfl ?_
    by_cases hc167 : v3 < (26 : Int32)
    · simp only [if_pos hc167] at h
      refine OEnds.icmpF hm_12 rfl ((tlt hc167).2.1) ?_
      refine OEnds.adv hm_12 3 (pc' := 24) (L' := [qr 17, qi v1, qi v2, qi v3, qu]) (S' := [.int v3, .ref 22]) (H' := (c0 :: c1 :: c2 :: c3 :: c4 :: c5 :: c6 :: c7 :: c8 :: c9 :: c10 :: c11 :: c12 :: c13 :: c14 :: c15 :: c16 :: bk1 zf za zi zm zd zv zt zr zh zj zp zn zab zw zu zz zaa zo zc ze zq zs zb zx zy zg zk zl po)) rfl ?_
      obtain ⟨x53, hx53, h⟩ := bnd h
      refine OEnds.plain hm_12 rfl rfl (x_iaload rfl hx53) ?_
      refine OEnds.adv hm_12 5 (pc' := 34) (L' := [qr 17, qi v1, qi v2, qi v3, qi x53]) (S' := [.int x53, .int v3, .ref 23]) (H' := (c0 :: c1 :: c2 :: c3 :: c4 :: c5 :: c6 :: c7 :: c8 :: c9 :: c10 :: c11 :: c12 :: c13 :: c14 :: c15 :: c16 :: bk1 zf za zi zm zd zv zt zr zh zj zp zn zab zw zu zz zaa zo zc ze zq zs zb zx zy zg zk zl po)) rfl ?_
      obtain ⟨A54, hA54, h⟩ := bnd h
      refine OEnds.plain hm_12 rfl rfl (x_iastore rfl (Nat.le_of_ble_eq_true rfl) hA54) ?_
      refine OEnds.adv hm_12 1 (pc' := 37) (L' := [qr 17, qi v1, qi v2, qi v3, qi x53]) (S' := [.int x53]) (H' := (c0 :: c1 :: c2 :: c3 :: c4 :: c5 :: c6 :: c7 :: c8 :: c9 :: c10 :: c11 :: c12 :: c13 :: c14 :: c15 :: c16 :: bk1 zf za zi zm zd A54 zt zr zh zj zp zn zab zw zu zz zaa zo zc ze zq zs zb zx zy zg zk zl po)) rfl ?_
      by_cases hc168 : x53 = (0 : Int32)
      · simp only [if_pos hc168] at h
        refine OEnds.ifT hm_12 rfl (q := 66) rfl ((teq hc168).1) ?_
        refine OEnds.adv hm_12 2 (pc' := 13) (L' := [qr 17, qi v1, qi v2, qi (v3 + (1 : Int32)), qi x53]) (S' := []) (H' := (c0 :: c1 :: c2 :: c3 :: c4 :: c5 :: c6 :: c7 :: c8 :: c9 :: c10 :: c11 :: c12 :: c13 :: c14 :: c15 :: c16 :: bk1 zf za zi zm zd A54 zt zr zh zj zp zn zab zw zu zz zaa zo zc ze zq zs zb zx zy zg zk zl po)) rfl ?_
        exact ih h
      · simp only [if_neg hc168] at h
        refine OEnds.ifF hm_12 rfl ((feq hc168).1) ?_
        refine OEnds.adv hm_12 2 (pc' := 44) (L' := [qr 17, qi v1, qi v2, qi v3, qi x53]) (S' := [.int 129, .int v2]) (H' := (c0 :: c1 :: c2 :: c3 :: c4 :: c5 :: c6 :: c7 :: c8 :: c9 :: c10 :: c11 :: c12 :: c13 :: c14 :: c15 :: c16 :: bk1 zf za zi zm zd A54 zt zr zh zj zp zn zab zw zu zz zaa zo zc ze zq zs zb zx zy zg zk zl po)) rfl ?_
        by_cases hc169 : v2 < (129 : Int32)
        · simp only [if_pos hc169] at h
          refine OEnds.icmpF hm_12 rfl ((tlt hc169).2.1) ?_
          refine OEnds.adv hm_12 4 (pc' := 54) (L' := [qr 17, qi v1, qi v2, qi v3, qi x53]) (S' := [.int 0, .int x53, .ref 24]) (H' := (c0 :: c1 :: c2 :: c3 :: c4 :: c5 :: c6 :: c7 :: c8 :: c9 :: c10 :: c11 :: c12 :: c13 :: c14 :: c15 :: c16 :: bk1 zf za zi zm zd A54 zt zr zh zj zp zn zab zw zu zz zaa zo zc ze zq zs zb zx zy zg zk zl po)) rfl ?_
          obtain ⟨A55, hA55, h⟩ := bnd h
          refine OEnds.plain hm_12 rfl rfl (x_iastore rfl (Nat.le_of_ble_eq_true rfl) hA55) ?_
          refine OEnds.adv hm_12 4 (pc' := 62) (L' := [qr 17, qi v1, qi v2, qi v3, qi x53]) (S' := [.int x53, .int v2, .ref 28]) (H' := (c0 :: c1 :: c2 :: c3 :: c4 :: c5 :: c6 :: c7 :: c8 :: c9 :: c10 :: c11 :: c12 :: c13 :: c14 :: c15 :: c16 :: bk1 zf za zi zm zd A54 A55 zr zh zj zp zn zab zw zu zz zaa zo zc ze zq zs zb zx zy zg zk zl po)) rfl ?_
          obtain ⟨A56, hA56, h⟩ := bnd h
          refine OEnds.plain hm_12 rfl rfl (x_iastore rfl (Nat.le_of_ble_eq_true rfl) hA56) ?_
          refine OEnds.adv hm_12 3 (pc' := 13) (L' := [qr 17, qi v1, qi (v2 + (1 : Int32)), qi (v3 + (1 : Int32)), qi x53]) (S' := []) (H' := (c0 :: c1 :: c2 :: c3 :: c4 :: c5 :: c6 :: c7 :: c8 :: c9 :: c10 :: c11 :: c12 :: c13 :: c14 :: c15 :: c16 :: bk1 zf za zi zm zd A54 A55 zr zh zj A56 zn zab zw zu zz zaa zo zc ze zq zs zb zx zy zg zk zl po)) rfl ?_
          exact ih h
        · simp only [if_neg hc169] at h
          refine OEnds.icmpT hm_12 rfl (q := 66) rfl ((flt hc169).2.1) ?_
          refine OEnds.adv hm_12 2 (pc' := 13) (L' := [qr 17, qi v1, qi v2, qi (v3 + (1 : Int32)), qi x53]) (S' := []) (H' := (c0 :: c1 :: c2 :: c3 :: c4 :: c5 :: c6 :: c7 :: c8 :: c9 :: c10 :: c11 :: c12 :: c13 :: c14 :: c15 :: c16 :: bk1 zf za zi zm zd A54 zt zr zh zj zp zn zab zw zu zz zaa zo zc ze zq zs zb zx zy zg zk zl po)) rfl ?_
          exact ih h
    · simp only [if_neg hc167] at h
      refine OEnds.icmpT hm_12 rfl (q := 72) rfl ((flt hc167).2.1) ?_
      refine OEnds.adv hm_12 2 (pc' := 74) (L' := [qr 17, qi v1, qi v2, qi 0, qu]) (S' := []) (H' := (c0 :: c1 :: c2 :: c3 :: c4 :: c5 :: c6 :: c7 :: c8 :: c9 :: c10 :: c11 :: c12 :: c13 :: c14 :: c15 :: c16 :: bk1 zf za zi zm zd zv zt zr zh zj zp zn zab zw zu zz zaa zo zc ze zq zs zb zx zy zg zk zl po)) rfl ?_
      exact hk74 h
theorem ok_computeLinks_1 {zf za zi zm zd zr zh zn zab zw zu : List Int32} {zz zaa zo zc ze zq zs zb zx zy zg zk zl : Int32} {c0 c1 c2 c3 c4 c5 c6 c7 c8 c9 c10 c11 c12 c13 c14 c15 c16 : ACell} {po : List ACell} {zv zt zj zp w_o_delta w_o_fail w_o_outMask w_o_queue : List Int32} (h : f_computeLinks zd zv zt zj zp = some (w_o_delta, w_o_fail, w_o_outMask, w_o_queue)) : OEnds own_P 12 0 [qr 17, qu, qu, qu, qu] [] (c0 :: c1 :: c2 :: c3 :: c4 :: c5 :: c6 :: c7 :: c8 :: c9 :: c10 :: c11 :: c12 :: c13 :: c14 :: c15 :: c16 :: bk1 zf za zi zm zd zv zt zr zh zj zp zn zab zw zu zz zaa zo zc ze zq zs zb zx zy zg zk zl po) (none, (c0 :: c1 :: c2 :: c3 :: c4 :: c5 :: c6 :: c7 :: c8 :: c9 :: c10 :: c11 :: c12 :: c13 :: c14 :: c15 :: c16 :: bk1 zf za zi zm zd w_o_delta w_o_fail zr zh w_o_outMask w_o_queue zn zab zw zu zz zaa zo zc ze zq zs zb zx zy zg zk zl po), 0, 0) := by
  unfold f_computeLinks at h
  refine OEnds.adv hm_12 8 (pc' := 10) (L' := [qr 17, qi 0, qi 0, qu, qu]) (S' := [.int 0, .int 0, .ref 24]) (H' := (c0 :: c1 :: c2 :: c3 :: c4 :: c5 :: c6 :: c7 :: c8 :: c9 :: c10 :: c11 :: c12 :: c13 :: c14 :: c15 :: c16 :: bk1 zf za zi zm zd zv zt zr zh zj zp zn zab zw zu zz zaa zo zc ze zq zs zb zx zy zg zk zl po)) rfl ?_
  obtain ⟨A52, hA52, h⟩ := bnd h
  refine OEnds.plain hm_12 rfl rfl (x_iastore rfl (Nat.le_of_ble_eq_true rfl) hA52) ?_
  refine OEnds.adv hm_12 2 (pc' := 13) (L' := [qr 17, qi 0, qi 0, qi 0, qu]) (S' := []) (H' := (c0 :: c1 :: c2 :: c3 :: c4 :: c5 :: c6 :: c7 :: c8 :: c9 :: c10 :: c11 :: c12 :: c13 :: c14 :: c15 :: c16 :: bk1 zf za zi zm zd zv A52 zr zh zj zp zn zab zw zu zz zaa zo zc ze zq zs zb zx zy zg zk zl po)) rfl ?_
  exact ok_computeLinks_13_1 (k74 := f_computeLinks_74 zd 100000) (ok_computeLinks_74_1 100000) 100000 h
theorem ok_build_1 {zf za zi zm zn zab zw zu : List Int32} {zz zaa zc ze : Int32} {c0 c1 c2 c3 c4 c5 c6 c7 c8 c9 c10 c11 c12 c13 c14 c15 c16 : ACell} {po : List ACell} {zd zv zt zr zh zj zp : List Int32} {zo zq zs zb zx zy zg zk zl res : Int32} {w_o_child w_o_delta w_o_fail w_o_depth w_o_term w_o_outMask w_o_queue : List Int32} {w_o_phaseNow w_o_nodeCount w_o_longestKw w_o_n w_o_state w_o_total w_o_outLen w_o_commitPos w_o_tailLen : Int32} (h : f_build zf za zc ze zd zv zt zr zh zj zp zo zq zs zb zx zy zg zk zl = some (res, w_o_child, w_o_delta, w_o_fail, w_o_depth, w_o_term, w_o_outMask, w_o_queue, w_o_phaseNow, w_o_nodeCount, w_o_longestKw, w_o_n, w_o_state, w_o_total, w_o_outLen, w_o_commitPos, w_o_tailLen)) : OEnds own_P 3 0 [qr 17] [] (c0 :: c1 :: c2 :: c3 :: c4 :: c5 :: c6 :: c7 :: c8 :: c9 :: c10 :: c11 :: c12 :: c13 :: c14 :: c15 :: c16 :: bk1 zf za zi zm zd zv zt zr zh zj zp zn zab zw zu zz zaa zo zc ze zq zs zb zx zy zg zk zl po) (some (.int res), (c0 :: c1 :: c2 :: c3 :: c4 :: c5 :: c6 :: c7 :: c8 :: c9 :: c10 :: c11 :: c12 :: c13 :: c14 :: c15 :: c16 :: bk1 zf za zi zm w_o_child w_o_delta w_o_fail w_o_depth w_o_term w_o_outMask w_o_queue zn zab zw zu zz zaa w_o_phaseNow zc ze w_o_nodeCount w_o_longestKw w_o_n w_o_state w_o_total w_o_outLen w_o_commitPos w_o_tailLen po), 0, 0) := by
  unfold f_build at h
  refine OEnds.adv hm_3 2 (pc' := 4) (L' := [qr 17]) (S' := [.int zo]) (H' := (c0 :: c1 :: c2 :: c3 :: c4 :: c5 :: c6 :: c7 :: c8 :: c9 :: c10 :: c11 :: c12 :: c13 :: c14 :: c15 :: c16 :: bk1 zf za zi zm zd zv zt zr zh zj zp zn zab zw zu zz zaa zo zc ze zq zs zb zx zy zg zk zl po)) rfl ?_
  by_cases hc170 : zo = (0 : Int32)
  · simp only [if_pos hc170] at h
    refine OEnds.ifT hm_3 rfl (q := 9) rfl ((teq hc170).1) ?_
    refine OEnds.adv hm_3 2 (pc' := 13) (L' := [qr 17]) (S' := [.int ze]) (H' := (c0 :: c1 :: c2 :: c3 :: c4 :: c5 :: c6 :: c7 :: c8 :: c9 :: c10 :: c11 :: c12 :: c13 :: c14 :: c15 :: c16 :: bk1 zf za zi zm zd zv zt zr zh zj zp zn zab zw zu zz zaa zo zc ze zq zs zb zx zy zg zk zl po)) rfl ?_
    by_cases hc171 : ze = (0 : Int32)
    · simp only [if_pos hc171] at h
      refine OEnds.ifT hm_3 rfl (q := 19) rfl ((teq hc171).1) ?_
      refine OEnds.adv hm_3 2 (pc' := 23) (L' := [qr 17]) (S' := [.int zc]) (H' := (c0 :: c1 :: c2 :: c3 :: c4 :: c5 :: c6 :: c7 :: c8 :: c9 :: c10 :: c11 :: c12 :: c13 :: c14 :: c15 :: c16 :: bk1 zf za zi zm zd zv zt zr zh zj zp zn zab zw zu zz zaa zo zc ze zq zs zb zx zy zg zk zl po)) rfl ?_
      by_cases hc172 : zc = (0 : Int32)
      · simp only [if_pos hc172] at h
        refine OEnds.ifF hm_3 rfl ((teq hc172).2) ?_
        refine OEnds.adv hm_3 1 (pc' := 28) (L' := [qr 17]) (S' := [.int (-4)]) (H' := (c0 :: c1 :: c2 :: c3 :: c4 :: c5 :: c6 :: c7 :: c8 :: c9 :: c10 :: c11 :: c12 :: c13 :: c14 :: c15 :: c16 :: bk1 zf za zi zm zd zv zt zr zh zj zp zn zab zw zu zz zaa zo zc ze zq zs zb zx zy zg zk zl po)) rfl ?_
        cases h
        exact OEnds.iret hm_3 rfl rfl
      · simp only [if_neg hc172] at h
        refine OEnds.ifT hm_3 rfl (q := 29) rfl ((feq hc172).2) ?_
        refine OEnds.adv hm_3 1 (pc' := 30) (L' := [qr 17]) (S' := [.ref 17]) (H' := (c0 :: c1 :: c2 :: c3 :: c4 :: c5 :: c6 :: c7 :: c8 :: c9 :: c10 :: c11 :: c12 :: c13 :: c14 :: c15 :: c16 :: bk1 zf za zi zm zd zv zt zr zh zj zp zn zab zw zu zz zaa zo zc ze zq zs zb zx zy zg zk zl po)) rfl ?_
        obtain ⟨⟨s63, s64, s65, s66, s67, s68⟩, hq173, h⟩ := bnd h
        refine OEnds.call0 hm_3 rfl rfl (by decide) rfl (as := [.ref 17]) (rest := []) rfl rfl (ok_buildTrie_1 hq173) ?_
        refine OEnds.adv hm_3 1 (pc' := 34) (L' := [qr 17]) (S' := [.ref 17]) (H' := (c0 :: c1 :: c2 :: c3 :: c4 :: c5 :: c6 :: c7 :: c8 :: c9 :: c10 :: c11 :: c12 :: c13 :: c14 :: c15 :: c16 :: bk1 zf za zi zm s63 zv zt s64 s65 s66 zp zn zab zw zu zz zaa zo zc ze s67 s68 zb zx zy zg zk zl po)) rfl ?_
        obtain ⟨⟨s69, s70, s71, s72⟩, hq174, h⟩ := bnd h
        refine OEnds.call0 hm_3 rfl rfl (by decide) rfl (as := [.ref 17]) (rest := []) rfl rfl (ok_computeLinks_1 hq174) ?_
        refine OEnds.adv hm_3 4 (pc' := 43) (L' := [qr 17]) (S' := [.ref 17]) (H' := (c0 :: c1 :: c2 :: c3 :: c4 :: c5 :: c6 :: c7 :: c8 :: c9 :: c10 :: c11 :: c12 :: c13 :: c14 :: c15 :: c16 :: bk1 zf za zi zm s63 s69 s70 s64 s65 s71 s72 zn zab zw zu zz zaa 1 zc ze s67 s68 zb zx zy zg zk zl po)) rfl ?_
        obtain ⟨⟨s73, s74, s75, s76, s77, s78⟩, hq175, h⟩ := bnd h
        refine OEnds.call0 hm_3 rfl rfl (by decide) rfl (as := [.ref 17]) (rest := []) rfl rfl (ok_clearText_1 hq175) ?_
        refine OEnds.adv hm_3 1 (pc' := 47) (L' := [qr 17]) (S' := [.int 0]) (H' := (c0 :: c1 :: c2 :: c3 :: c4 :: c5 :: c6 :: c7 :: c8 :: c9 :: c10 :: c11 :: c12 :: c13 :: c14 :: c15 :: c16 :: bk1 zf za zi zm s63 s69 s70 s64 s65 s71 s72 zn zab zw zu zz zaa 1 zc ze s67 s68 s73 s74 s75 s76 s77 s78 po)) rfl ?_
        cases h
        exact OEnds.iret hm_3 rfl rfl
    · simp only [if_neg hc171] at h
      refine OEnds.ifF hm_3 rfl ((feq hc171).1) ?_
      refine OEnds.adv hm_3 1 (pc' := 18) (L' := [qr 17]) (S' := [.int (-7)]) (H' := (c0 :: c1 :: c2 :: c3 :: c4 :: c5 :: c6 :: c7 :: c8 :: c9 :: c10 :: c11 :: c12 :: c13 :: c14 :: c15 :: c16 :: bk1 zf za zi zm zd zv zt zr zh zj zp zn zab zw zu zz zaa zo zc ze zq zs zb zx zy zg zk zl po)) rfl ?_
      cases h
      exact OEnds.iret hm_3 rfl rfl
  · simp only [if_neg hc170] at h
    refine OEnds.ifF hm_3 rfl ((feq hc170).1) ?_
    refine OEnds.adv hm_3 1 (pc' := 8) (L' := [qr 17]) (S' := [.int (-1)]) (H' := (c0 :: c1 :: c2 :: c3 :: c4 :: c5 :: c6 :: c7 :: c8 :: c9 :: c10 :: c11 :: c12 :: c13 :: c14 :: c15 :: c16 :: bk1 zf za zi zm zd zv zt zr zh zj zp zn zab zw zu zz zaa zo zc ze zq zs zb zx zy zg zk zl po)) rfl ?_
    cases h
    exact OEnds.iret hm_3 rfl rfl
theorem ok_textLength_0 {zf za zi zm zd zv zt zr zh zj zp zn zab zw zu : List Int32} {zz zaa zo zc ze zq zs zb zx zy zg zk zl : Int32} {c0 : ACell} {po : List ACell} {res : Int32} (h : f_textLength zb = some res) : OEnds own_P 19 0 [qr 1] [] (c0 :: bk0 zf za zi zm zd zv zt zr zh zj zp zn zab zw zu zz zaa zo zc ze zq zs zb zx zy zg zk zl po) (some (.int res), (c0 :: bk0 zf za zi zm zd zv zt zr zh zj zp zn zab zw zu zz zaa zo zc ze zq zs zb zx zy zg zk zl po), 0, 0) := by
  unfold f_textLength at h
  refine OEnds.adv hm_19 2 (pc' := 4) (L' := [qr 1]) (S' := [.int zb]) (H' := (c0 :: bk0 zf za zi zm zd zv zt zr zh zj zp zn zab zw zu zz zaa zo zc ze zq zs zb zx zy zg zk zl po)) rfl ?_
  cases h
  exact OEnds.iret hm_19 rfl rfl
theorem ok_textChar_0 {zf za zi zm zd zv zt zr zh zj zp zn zab zw zu : List Int32} {zz zaa zo zc ze zq zs zb zx zy zg zk zl : Int32} {c0 : ACell} {po : List ACell} {v1 res : Int32} (h : f_textChar zn zb v1 = some res) : OEnds own_P 32 0 [qr 1, qi v1] [] (c0 :: bk0 zf za zi zm zd zv zt zr zh zj zp zn zab zw zu zz zaa zo zc ze zq zs zb zx zy zg zk zl po) (some (.int res), (c0 :: bk0 zf za zi zm zd zv zt zr zh zj zp zn zab zw zu zz zaa zo zc ze zq zs zb zx zy zg zk zl po), 0, 0) := by
  unfold f_textChar at h
  refine OEnds.adv hm_32 1 (pc' := 1) (L' := [qr 1, qi v1]) (S' := [.int v1]) (H' := (c0 :: bk0 zf za zi zm zd zv zt zr zh zj zp zn zab zw zu zz zaa zo zc ze zq zs zb zx zy zg zk zl po)) rfl ?_
  by_cases hc176 : v1 < (0 : Int32)
  · simp only [if_pos hc176] at h
    refine OEnds.ifT hm_32 rfl (q := 12) rfl ((tlt hc176).1) ?_
    refine OEnds.adv hm_32 1 (pc' := 13) (L' := [qr 1, qi v1]) (S' := [.int (-1)]) (H' := (c0 :: bk0 zf za zi zm zd zv zt zr zh zj zp zn zab zw zu zz zaa zo zc ze zq zs zb zx zy zg zk zl po)) rfl ?_
    cases h
    exact OEnds.iret hm_32 rfl rfl
  · simp only [if_neg hc176] at h
    refine OEnds.ifF hm_32 rfl ((flt hc176).1) ?_
    refine OEnds.adv hm_32 3 (pc' := 9) (L' := [qr 1, qi v1]) (S' := [.int zb, .int v1]) (H' := (c0 :: bk0 zf za zi zm zd zv zt zr zh zj zp zn zab zw zu zz zaa zo zc ze zq zs zb zx zy zg zk zl po)) rfl ?_
    by_cases hc177 : v1 < zb
    · simp only [if_pos hc177] at h
      refine OEnds.icmpT hm_32 rfl (q := 14) rfl ((tlt hc177).1) ?_
      refine OEnds.adv hm_32 3 (pc' := 19) (L' := [qr 1, qi v1]) (S' := [.int v1, .ref 13]) (H' := (c0 :: bk0 zf za zi zm zd zv zt zr zh zj zp zn zab zw zu zz zaa zo zc ze zq zs zb zx zy zg zk zl po)) rfl ?_
      obtain ⟨x124, hx124, h⟩ := bnd h
      refine OEnds.plain hm_32 rfl rfl (x_iaload rfl hx124) ?_
      show OEnds own_P 32 20 [qr 1, qi v1] [.int x124] (c0 :: bk0 zf za zi zm zd zv zt zr zh zj zp zn zab zw zu zz zaa zo zc ze zq zs zb zx zy zg zk zl po) _
      cases h
      exact OEnds.iret hm_32 rfl rfl
    · simp only [if_neg hc177] at h
      refine OEnds.icmpF hm_32 rfl ((flt hc177).1) ?_
      refine OEnds.adv hm_32 1 (pc' := 13) (L' := [qr 1, qi v1]) (S' := [.int (-1)]) (H' := (c0 :: bk0 zf za zi zm zd zv zt zr zh zj zp zn zab zw zu zz zaa zo zc ze zq zs zb zx zy zg zk zl po)) rfl ?_
      cases h
      exact OEnds.iret hm_32 rfl rfl
theorem ok_nextState_1 {zf za zi zm zd zv zt zr zh zj zp zn zab zw zu : List Int32} {zz zaa zo zc ze zq zs zb zx zy zg zk zl : Int32} {c0 c1 c2 c3 c4 c5 c6 c7 c8 c9 c10 c11 c12 c13 c14 c15 c16 : ACell} {po : List ACell} {v1 v2 res : Int32} (h : f_nextState zv v1 v2 = some res) : OEnds own_P 26 0 [qr 17, qi v1, qi v2] [] (c0 :: c1 :: c2 :: c3 :: c4 :: c5 :: c6 :: c7 :: c8 :: c9 :: c10 :: c11 :: c12 :: c13 :: c14 :: c15 :: c16 :: bk1 zf za zi zm zd zv zt zr zh zj zp zn zab zw zu zz zaa zo zc ze zq zs zb zx zy zg zk zl po) (some (.int res), (c0 :: c1 :: c2 :: c3 :: c4 :: c5 :: c6 :: c7 :: c8 :: c9 :: c10 :: c11 :: c12 :: c13 :: c14 :: c15 :: c16 :: bk1 zf za zi zm zd zv zt zr zh zj zp zn zab zw zu zz zaa zo zc ze zq zs zb zx zy zg zk zl po), 0, 0) := by
  unfold f_nextState at h
  refine OEnds.adv hm_26 2 (pc' := 2) (L' := [qr 17, qi v1, qi v2]) (S' := [.int v2, .ref 17]) (H' := (c0 :: c1 :: c2 :: c3 :: c4 :: c5 :: c6 :: c7 :: c8 :: c9 :: c10 :: c11 :: c12 :: c13 :: c14 :: c15 :: c16 :: bk1 zf za zi zm zd zv zt zr zh zj zp zn zab zw zu zz zaa zo zc ze zq zs zb zx zy zg zk zl po)) rfl ?_
  obtain ⟨r85, hq178, h⟩ := bnd h
  refine OEnds.call0 hm_26 rfl rfl (by decide) rfl (as := [.ref 17, .int v2]) (rest := []) rfl rfl (ok_isLetter_1 hq178) ?_
  show OEnds own_P 26 5 [qr 17, qi v1, qi v2] [.int r85] (c0 :: c1 :: c2 :: c3 :: c4 :: c5 :: c6 :: c7 :: c8 :: c9 :: c10 :: c11 :: c12 :: c13 :: c14 :: c15 :: c16 :: bk1 zf za zi zm zd zv zt zr zh zj zp zn zab zw zu zz zaa zo zc ze zq zs zb zx zy zg zk zl po) _
  by_cases hc179 : r85 = (0 : Int32)
  · simp only [if_pos hc179] at h
    refine OEnds.ifF hm_26 rfl ((teq hc179).2) ?_
    refine OEnds.adv hm_26 1 (pc' := 9) (L' := [qr 17, qi v1, qi v2]) (S' := [.int 0]) (H' := (c0 :: c1 :: c2 :: c3 :: c4 :: c5 :: c6 :: c7 :: c8 :: c9 :: c10 :: c11 :: c12 :: c13 :: c14 :: c15 :: c16 :: bk1 zf za zi zm zd zv zt zr zh zj zp zn zab zw zu zz zaa zo zc ze zq zs zb zx zy zg zk zl po)) rfl ?_
    cases h
    exact OEnds.iret hm_26 rfl rfl
  · simp only [if_neg hc179] at h
    refine OEnds.ifT hm_26 rfl (q := 10) rfl ((feq hc179).2) ?_
    refine OEnds.adv hm_26 1 (pc' := 11) (L' := [qr 17, qi v1, qi v2]) (S' := [.int v1]) (H' := (c0 :: c1 :: c2 :: c3 :: c4 :: c5 :: c6 :: c7 :: c8 :: c9 :: c10 :: c11 :: c12 :: c13 :: c14 :: c15 :: c16 :: bk1 zf za zi zm zd zv zt zr zh zj zp zn zab zw zu zz zaa zo zc ze zq zs zb zx zy zg zk zl po)) rfl ?_
    by_cases hc180 : v1 < (0 : Int32)
    · simp only [if_pos hc180] at h
      refine OEnds.ifT hm_26 rfl (q := 21) rfl ((tlt hc180).1) ?_
      refine OEnds.adv hm_26 1 (pc' := 22) (L' := [qr 17, qi v1, qi v2]) (S' := [.int 0]) (H' := (c0 :: c1 :: c2 :: c3 :: c4 :: c5 :: c6 :: c7 :: c8 :: c9 :: c10 :: c11 :: c12 :: c13 :: c14 :: c15 :: c16 :: bk1 zf za zi zm zd zv zt zr zh zj zp zn zab zw zu zz zaa zo zc ze zq zs zb zx zy zg zk zl po)) rfl ?_
      cases h
      exact OEnds.iret hm_26 rfl rfl
    · simp only [if_neg hc180] at h
      refine OEnds.ifF hm_26 rfl ((flt hc180).1) ?_
      refine OEnds.adv hm_26 2 (pc' := 18) (L' := [qr 17, qi v1, qi v2]) (S' := [.int 129, .int v1]) (H' := (c0 :: c1 :: c2 :: c3 :: c4 :: c5 :: c6 :: c7 :: c8 :: c9 :: c10 :: c11 :: c12 :: c13 :: c14 :: c15 :: c16 :: bk1 zf za zi zm zd zv zt zr zh zj zp zn zab zw zu zz zaa zo zc ze zq zs zb zx zy zg zk zl po)) rfl ?_
      by_cases hc181 : v1 < (129 : Int32)
      · simp only [if_pos hc181] at h
        refine OEnds.icmpT hm_26 rfl (q := 23) rfl ((tlt hc181).1) ?_
        refine OEnds.adv hm_26 9 (pc' := 36) (L' := [qr 17, qi v1, qi v2]) (S' := [.int ((v1 * (26 : Int32)) + (v2 - (97 : Int32))), .ref 23]) (H' := (c0 :: c1 :: c2 :: c3 :: c4 :: c5 :: c6 :: c7 :: c8 :: c9 :: c10 :: c11 :: c12 :: c13 :: c14 :: c15 :: c16 :: bk1 zf za zi zm zd zv zt zr zh zj zp zn zab zw zu zz zaa zo zc ze zq zs zb zx zy zg zk zl po)) rfl ?_
        obtain ⟨x86, hx86, h⟩ := bnd h
        refine OEnds.plain hm_26 rfl rfl (x_iaload rfl hx86) ?_
        show OEnds own_P 26 37 [qr 17, qi v1, qi v2] [.int x86] (c0 :: c1 :: c2 :: c3 :: c4 :: c5 :: c6 :: c7 :: c8 :: c9 :: c10 :: c11 :: c12 :: c13 :: c14 :: c15 :: c16 :: bk1 zf za zi zm zd zv zt zr zh zj zp zn zab zw zu zz zaa zo zc ze zq zs zb zx zy zg zk zl po) _
        cases h
        exact OEnds.iret hm_26 rfl rfl
      · simp only [if_neg hc181] at h
        refine OEnds.icmpF hm_26 rfl ((flt hc181).1) ?_
        refine OEnds.adv hm_26 1 (pc' := 22) (L' := [qr 17, qi v1, qi v2]) (S' := [.int 0]) (H' := (c0 :: c1 :: c2 :: c3 :: c4 :: c5 :: c6 :: c7 :: c8 :: c9 :: c10 :: c11 :: c12 :: c13 :: c14 :: c15 :: c16 :: bk1 zf za zi zm zd zv zt zr zh zj zp zn zab zw zu zz zaa zo zc ze zq zs zb zx zy zg zk zl po)) rfl ?_
        cases h
        exact OEnds.iret hm_26 rfl rfl
theorem ok_popCount_4_1 {zf za zi zm zd zv zt zr zh zj zp zn zab zw zu : List Int32} {zz zaa zo zc ze zq zs zb zx zy zg zk zl : Int32} {c0 c1 c2 c3 c4 c5 c6 c7 c8 c9 c10 c11 c12 c13 c14 c15 c16 : ACell} {po : List ACell} : ∀ (n : Nat), ∀ {v1 v2 v3 : Int32} {d0 : Slot} {res : Int32}, f_popCount_4 n v1 v2 v3 = some res → OEnds own_P 27 4 [d0, qi v1, qi v2, qi v3] [] (c0 :: c1 :: c2 :: c3 :: c4 :: c5 :: c6 :: c7 :: c8 :: c9 :: c10 :: c11 :: c12 :: c13 :: c14 :: c15 :: c16 :: bk1 zf za zi zm zd zv zt zr zh zj zp zn zab zw zu zz zaa zo zc ze zq zs zb zx zy zg zk zl po) (some (.int res), (c0 :: c1 :: c2 :: c3 :: c4 :: c5 :: c6 :: c7 :: c8 :: c9 :: c10 :: c11 :: c12 :: c13 :: c14 :: c15 :: c16 :: bk1 zf za zi zm zd zv zt zr zh zj zp zn zab zw zu zz zaa zo zc ze zq zs zb zx zy zg zk zl po), 0, 0) := by
  intro n
  induction n with
  | zero => intro v1 v2 v3 d0 res h; cases h
  | succ n ih =>
    intro v1 v2 v3 d0 res h
    unfold f_popCount_4 at h
    refine OEnds.adv hm_27 2 (pc' := 7) (L' := [qu, qi v1, qi v2, qi v3]) (S' := [.int 16, .int v3]) (H' := (c0 :: c1 :: c2 :: c3 :: c4 :: c5 :: c6 :: c7 :: c8 :: c9 :: c10 :: c11 :: c12 :: c13 :: c14 :: c15 :: c16 :: bk1 zf za zi zm zd zv zt zr zh zj zp zn zab zw zu zz zaa zo zc ze zq zs zb zx zy zg zk zl po)) rfl ?_
    by_cases hc182 : v3 < (16 : Int32)
    · simp only [if_pos hc182] at h
      refine OEnds.icmpF hm_27 rfl ((tlt hc182).2.1) ?_
      refine OEnds.adv hm_27 5 (pc' := 15) (L' := [qu, qi v1, qi v2, qi v3]) (S' := [.int ((v1 >>> (v3 &&& 31)) &&& (1 : Int32))]) (H' := (c0 :: c1 :: c2 :: c3 :: c4 :: c5 :: c6 :: c7 :: c8 :: c9 :: c10 :: c11 :: c12 :: c13 :: c14 :: c15 :: c16 :: bk1 zf za zi zm zd zv zt zr zh zj zp zn zab zw zu zz zaa zo zc ze zq zs zb zx zy zg zk zl po)) rfl ?_
      by_cases hc183 : ((v1 >>> (v3 &&& 31)) &&& (1 : Int32)) = (0 : Int32)
      · simp only [if_pos hc183] at h
        refine OEnds.ifT hm_27 rfl (q := 21) rfl ((teq hc183).1) ?_
        refine OEnds.adv hm_27 2 (pc' := 4) (L' := [qu, qi v1, qi v2, qi (v3 + (1 : Int32))]) (S' := []) (H' := (c0 :: c1 :: c2 :: c3 :: c4 :: c5 :: c6 :: c7 :: c8 :: c9 :: c10 :: c11 :: c12 :: c13 :: c14 :: c15 :: c16 :: bk1 zf za zi zm zd zv zt zr zh zj zp zn zab zw zu zz zaa zo zc ze zq zs zb zx zy zg zk zl po)) rfl ?_
        exact ih h
      · simp only [if_neg hc183] at h
        refine OEnds.ifF hm_27 rfl ((feq hc183).1) ?_
        refine OEnds.adv hm_27 3 (pc' := 4) (L' := [qu, qi v1, qi (v2 + (1 : Int32)), qi (v3 + (1 : Int32))]) (S' := []) (H' := (c0 :: c1 :: c2 :: c3 :: c4 :: c5 :: c6 :: c7 :: c8 :: c9 :: c10 :: c11 :: c12 :: c13 :: c14 :: c15 :: c16 :: bk1 zf za zi zm zd zv zt zr zh zj zp zn zab zw zu zz zaa zo zc ze zq zs zb zx zy zg zk zl po)) rfl ?_
        exact ih h
    · simp only [if_neg hc182] at h
      refine OEnds.icmpT hm_27 rfl (q := 27) rfl ((flt hc182).2.1) ?_
      refine OEnds.adv hm_27 1 (pc' := 28) (L' := [qu, qi v1, qi v2, qi v3]) (S' := [.int v2]) (H' := (c0 :: c1 :: c2 :: c3 :: c4 :: c5 :: c6 :: c7 :: c8 :: c9 :: c10 :: c11 :: c12 :: c13 :: c14 :: c15 :: c16 :: bk1 zf za zi zm zd zv zt zr zh zj zp zn zab zw zu zz zaa zo zc ze zq zs zb zx zy zg zk zl po)) rfl ?_
      cases h
      exact OEnds.iret hm_27 rfl rfl
theorem ok_popCount_1 {zf za zi zm zd zv zt zr zh zj zp zn zab zw zu : List Int32} {zz zaa zo zc ze zq zs zb zx zy zg zk zl : Int32} {c0 c1 c2 c3 c4 c5 c6 c7 c8 c9 c10 c11 c12 c13 c14 c15 c16 : ACell} {po : List ACell} {v1 res : Int32} (h : f_popCount v1 = some res) : OEnds own_P 27 0 [qr 17, qi v1, qu, qu] [] (c0 :: c1 :: c2 :: c3 :: c4 :: c5 :: c6 :: c7 :: c8 :: c9 :: c10 :: c11 :: c12 :: c13 :: c14 :: c15 :: c16 :: bk1 zf za zi zm zd zv zt zr zh zj zp zn zab zw zu zz zaa zo zc ze zq zs zb zx zy zg zk zl po) (some (.int res), (c0 :: c1 :: c2 :: c3 :: c4 :: c5 :: c6 :: c7 :: c8 :: c9 :: c10 :: c11 :: c12 :: c13 :: c14 :: c15 :: c16 :: bk1 zf za zi zm zd zv zt zr zh zj zp zn zab zw zu zz zaa zo zc ze zq zs zb zx zy zg zk zl po), 0, 0) := by
  unfold f_popCount at h
  refine OEnds.adv hm_27 4 (pc' := 4) (L' := [qr 17, qi v1, qi 0, qi 0]) (S' := []) (H' := (c0 :: c1 :: c2 :: c3 :: c4 :: c5 :: c6 :: c7 :: c8 :: c9 :: c10 :: c11 :: c12 :: c13 :: c14 :: c15 :: c16 :: bk1 zf za zi zm zd zv zt zr zh zj zp zn zab zw zu zz zaa zo zc ze zq zs zb zx zy zg zk zl po)) rfl ?_
  exact ok_popCount_4_1 100000 h
theorem ok_longestAt_7_1 {zf za zi zm zd zv zt zr zh zj zp zn zab zw zu : List Int32} {zz zaa zo zc ze zq zs zb zx zy zg zk zl : Int32} {c0 c1 c2 c3 c4 c5 c6 c7 c8 c9 c10 c11 c12 c13 c14 c15 c16 : ACell} {po : List ACell} : ∀ (n : Nat), ∀ {v1 v2 v3 v4 : Int32} {d5 d6 d7 : Slot} {res : Int32}, f_longestAt_7 zd zh zn zb n v1 v2 v3 v4 = some res → OEnds own_P 30 7 [qr 17, qi v1, qi v2, qi v3, qi v4, d5, d6, d7] [] (c0 :: c1 :: c2 :: c3 :: c4 :: c5 :: c6 :: c7 :: c8 :: c9 :: c10 :: c11 :: c12 :: c13 :: c14 :: c15 :: c16 :: bk1 zf za zi zm zd zv zt zr zh zj zp zn zab zw zu zz zaa zo zc ze zq zs zb zx zy zg zk zl po) (some (.int res), (c0 :: c1 :: c2 :: c3 :: c4 :: c5 :: c6 :: c7 :: c8 :: c9 :: c10 :: c11 :: c12 :: c13 :: c14 :: c15 :: c16 :: bk1 zf za zi zm zd zv zt zr zh zj zp zn zab zw zu zz zaa zo zc ze zq zs zb zx zy zg zk zl po), 0, 0) := by
  intro n
  induction n with
  | zero => intro v1 v2 v3 v4 d5 d6 d7 res h; cases h
  | succ n ih =>
    intro v1 v2 v3 v4 d5 d6 d7 res h
    unfold f_longestAt_7 at h
    refine OEnds.adv hm_30 2 (pc' := 11) (L' := [qr 17, qi v1, qi v2, qi v3, qi v4, qu, qu, qu]) (S' := [.int 8, .int v4]) (H' := (c0 :: c1 :: c2 :: c3 :: c4 :: c5 :: c6 :: c7 :: c8 :: c9 :: c10 :: c11 :: c12 :: c13 :: c14 :: c15 :: c16 :: bk1 zf za zi zm zd zv zt zr zh zj zp zn zab zw zu zz zaa zo zc ze zq zs zb zx zy zg zk zl po)) rfl ?_
    by_cases hc184 : v4 < (8 : Int32)
    · simp only [if_pos hc184] at h
      refine OEnds.icmpF hm_30 rfl ((tlt hc184).2.1) ?_
      refine OEnds.adv hm_30 5 (pc' := 22) (L' := [qr 17, qi v1, qi v2, qi v3, qi v4, qi (v1 + v4), qu, qu]) (S' := [.int (v1 + v4)]) (H' := (c0 :: c1 :: c2 :: c3 :: c4 :: c5 :: c6 :: c7 :: c8 :: c9 :: c10 :: c11 :: c12 :: c13 :: c14 :: c15 :: c16 :: bk1 zf za zi zm zd zv zt zr zh zj zp zn zab zw zu zz zaa zo zc ze zq zs zb zx zy zg zk zl po)) rfl ?_
      by_cases hc185 : (v1 + v4) < (0 : Int32)
      · simp only [if_pos hc185] at h
        refine OEnds.ifT hm_30 rfl (q := 34) rfl ((tlt hc185).1) ?_
        refine OEnds.adv hm_30 1 (pc' := 35) (L' := [qr 17, qi v1, qi v2, qi v3, qi v4, qi (v1 + v4), qu, qu]) (S' := [.int v2]) (H' := (c0 :: c1 :: c2 :: c3 :: c4 :: c5 :: c6 :: c7 :: c8 :: c9 :: c10 :: c11 :: c12 :: c13 :: c14 :: c15 :: c16 :: bk1 zf za zi zm zd zv zt zr zh zj zp zn zab zw zu zz zaa zo zc ze zq zs zb zx zy zg zk zl po)) rfl ?_
        cases h
        exact OEnds.iret hm_30 rfl rfl
      · simp only [if_neg hc185] at h
        refine OEnds.ifF hm_30 rfl ((flt hc185).1) ?_
        refine OEnds.adv hm_30 3 (pc' := 31) (L' := [qr 17, qi v1, qi v2, qi v3, qi v4, qi (v1 + v4), qu, qu]) (S' := [.int zb, .int (v1 + v4)]) (H' := (c0 :: c1 :: c2 :: c3 :: c4 :: c5 :: c6 :: c7 :: c8 :: c9 :: c10 :: c11 :: c12 :: c13 :: c14 :: c15 :: c16 :: bk1 zf za zi zm zd zv zt zr zh zj zp zn zab zw zu zz zaa zo zc ze zq zs zb zx zy zg zk zl po)) rfl ?_
        by_cases hc186 : (v1 + v4) < zb
        · simp only [if_pos hc186] at h
          refine OEnds.icmpT hm_30 rfl (q := 36) rfl ((tlt hc186).1) ?_
          refine OEnds.adv hm_30 3 (pc' := 42) (L' := [qr 17, qi v1, qi v2, qi v3, qi v4, qi (v1 + v4), qu, qu]) (S' := [.int (v1 + v4), .ref 29]) (H' := (c0 :: c1 :: c2 :: c3 :: c4 :: c5 :: c6 :: c7 :: c8 :: c9 :: c10 :: c11 :: c12 :: c13 :: c14 :: c15 :: c16 :: bk1 zf za zi zm zd zv zt zr zh zj zp zn zab zw zu zz zaa zo zc ze zq zs zb zx zy zg zk zl po)) rfl ?_
          obtain ⟨x87, hx87, h⟩ := bnd h
          refine OEnds.plain hm_30 rfl rfl (x_iaload rfl hx87) ?_
          refine OEnds.adv hm_30 3 (pc' := 48) (L' := [qr 17, qi v1, qi v2, qi v3, qi v4, qi (v1 + v4), qi x87, qu]) (S' := [.int x87, .ref 17]) (H' := (c0 :: c1 :: c2 :: c3 :: c4 :: c5 :: c6 :: c7 :: c8 :: c9 :: c10 :: c11 :: c12 :: c13 :: c14 :: c15 :: c16 :: bk1 zf za zi zm zd zv zt zr zh zj zp zn zab zw zu zz zaa zo zc ze zq zs zb zx zy zg zk zl po)) rfl ?_
          obtain ⟨r88, hq187, h⟩ := bnd h
          refine OEnds.call0 hm_30 rfl rfl (by decide) rfl (as := [.ref 17, .int x87]) (rest := []) rfl rfl (ok_isLetter_1 hq187) ?_
          show OEnds own_P 30 51 [qr 17, qi v1, qi v2, qi v3, qi v4, qi (v1 + v4), qi x87, qu] [.int r88] (c0 :: c1 :: c2 :: c3 :: c4 :: c5 :: c6 :: c7 :: c8 :: c9 :: c10 :: c11 :: c12 :: c13 :: c14 :: c15 :: c16 :: bk1 zf za zi zm zd zv zt zr zh zj zp zn zab zw zu zz zaa zo zc ze zq zs zb zx zy zg zk zl po) _
          by_cases hc188 : r88 = (0 : Int32)
          · simp only [if_pos hc188] at h
            refine OEnds.ifF hm_30 rfl ((teq hc188).2) ?_
            refine OEnds.adv hm_30 1 (pc' := 55) (L' := [qr 17, qi v1, qi v2, qi v3, qi v4, qi (v1 + v4), qi x87, qu]) (S' := [.int v2]) (H' := (c0 :: c1 :: c2 :: c3 :: c4 :: c5 :: c6 :: c7 :: c8 :: c9 :: c10 :: c11 :: c12 :: c13 :: c14 :: c15 :: c16 :: bk1 zf za zi zm zd zv zt zr zh zj zp zn zab zw zu zz zaa zo zc ze zq zs zb zx zy zg zk zl po)) rfl ?_
            cases h
            exact OEnds.iret hm_30 rfl rfl
          · simp only [if_neg hc188] at h
            refine OEnds.ifT hm_30 rfl (q := 56) rfl ((feq hc188).2) ?_
            refine OEnds.adv hm_30 9 (pc' := 70) (L' := [qr 17, qi v1, qi v2, qi v3, qi v4, qi (v1 + v4), qi x87, qu]) (S' := [.int ((v3 * (26 : Int32)) + (x87 - (97 : Int32))), .ref 22]) (H' := (c0 :: c1 :: c2 :: c3 :: c4 :: c5 :: c6 :: c7 :: c8 :: c9 :: c10 :: c11 :: c12 :: c13 :: c14 :: c15 :: c16 :: bk1 zf za zi zm zd zv zt zr zh zj zp zn zab zw zu zz zaa zo zc ze zq zs zb zx zy zg zk zl po)) rfl ?_
            obtain ⟨x89, hx89, h⟩ := bnd h
            refine OEnds.plain hm_30 rfl rfl (x_iaload rfl hx89) ?_
            refine OEnds.adv hm_30 2 (pc' := 75) (L' := [qr 17, qi v1, qi v2, qi v3, qi v4, qi (v1 + v4), qi x87, qi x89]) (S' := [.int x89]) (H' := (c0 :: c1 :: c2 :: c3 :: c4 :: c5 :: c6 :: c7 :: c8 :: c9 :: c10 :: c11 :: c12 :: c13 :: c14 :: c15 :: c16 :: bk1 zf za zi zm zd zv zt zr zh zj zp zn zab zw zu zz zaa zo zc ze zq zs zb zx zy zg zk zl po)) rfl ?_
            by_cases hc189 : x89 = (0 : Int32)
            · simp only [if_pos hc189] at h
              refine OEnds.ifF hm_30 rfl ((teq hc189).2) ?_
              refine OEnds.adv hm_30 1 (pc' := 79) (L' := [qr 17, qi v1, qi v2, qi v3, qi v4, qi (v1 + v4), qi x87, qi x89]) (S' := [.int v2]) (H' := (c0 :: c1 :: c2 :: c3 :: c4 :: c5 :: c6 :: c7 :: c8 :: c9 :: c10 :: c11 :: c12 :: c13 :: c14 :: c15 :: c16 :: bk1 zf za zi zm zd zv zt zr zh zj zp zn zab zw zu zz zaa zo zc ze zq zs zb zx zy zg zk zl po)) rfl ?_
              cases h
              exact OEnds.iret hm_30 rfl rfl
            · simp only [if_neg hc189] at h
              refine OEnds.ifT hm_30 rfl (q := 80) rfl ((feq hc189).2) ?_
              refine OEnds.adv hm_30 5 (pc' := 88) (L' := [qr 17, qi v1, qi v2, qi x89, qi v4, qi (v1 + v4), qi x87, qi x89]) (S' := [.int x89, .ref 26]) (H' := (c0 :: c1 :: c2 :: c3 :: c4 :: c5 :: c6 :: c7 :: c8 :: c9 :: c10 :: c11 :: c12 :: c13 :: c14 :: c15 :: c16 :: bk1 zf za zi zm zd zv zt zr zh zj zp zn zab zw zu zz zaa zo zc ze zq zs zb zx zy zg zk zl po)) rfl ?_
              obtain ⟨x90, hx90, h⟩ := bnd h
              refine OEnds.plain hm_30 rfl rfl (x_iaload rfl hx90) ?_
              show OEnds own_P 30 89 [qr 17, qi v1, qi v2, qi x89, qi v4, qi (v1 + v4), qi x87, qi x89] [.int x90] (c0 :: c1 :: c2 :: c3 :: c4 :: c5 :: c6 :: c7 :: c8 :: c9 :: c10 :: c11 :: c12 :: c13 :: c14 :: c15 :: c16 :: bk1 zf za zi zm zd zv zt zr zh zj zp zn zab zw zu zz zaa zo zc ze zq zs zb zx zy zg zk zl po) _
              by_cases hc190 : x90 < (0 : Int32)
              · simp only [if_pos hc190] at h
                refine OEnds.ifT hm_30 rfl (q := 99) rfl ((tlt hc190).1) ?_
                refine OEnds.adv hm_30 2 (pc' := 7) (L' := [qr 17, qi v1, qi v2, qi x89, qi (v4 + (1 : Int32)), qi (v1 + v4), qi x87, qi x89]) (S' := []) (H' := (c0 :: c1 :: c2 :: c3 :: c4 :: c5 :: c6 :: c7 :: c8 :: c9 :: c10 :: c11 :: c12 :: c13 :: c14 :: c15 :: c16 :: bk1 zf za zi zm zd zv zt zr zh zj zp zn zab zw zu zz zaa zo zc ze zq zs zb zx zy zg zk zl po)) rfl ?_
                exact ih h
              · simp only [if_neg hc190] at h
                refine OEnds.ifF hm_30 rfl ((flt hc190).1) ?_
                refine OEnds.adv hm_30 3 (pc' := 97) (L' := [qr 17, qi v1, qi v2, qi x89, qi v4, qi (v1 + v4), qi x87, qi x89]) (S' := [.int x89, .ref 26]) (H' := (c0 :: c1 :: c2 :: c3 :: c4 :: c5 :: c6 :: c7 :: c8 :: c9 :: c10 :: c11 :: c12 :: c13 :: c14 :: c15 :: c16 :: bk1 zf za zi zm zd zv zt zr zh zj zp zn zab zw zu zz zaa zo zc ze zq zs zb zx zy zg zk zl po)) rfl ?_
                obtain ⟨x91, hx91, h⟩ := bnd h
                refine OEnds.plain hm_30 rfl rfl (x_iaload rfl hx91) ?_
                refine OEnds.adv hm_30 3 (pc' := 7) (L' := [qr 17, qi v1, qi x91, qi x89, qi (v4 + (1 : Int32)), qi (v1 + v4), qi x87, qi x89]) (S' := []) (H' := (c0 :: c1 :: c2 :: c3 :: c4 :: c5 :: c6 :: c7 :: c8 :: c9 :: c10 :: c11 :: c12 :: c13 :: c14 :: c15 :: c16 :: bk1 zf za zi zm zd zv zt zr zh zj zp zn zab zw zu zz zaa zo zc ze zq zs zb zx zy zg zk zl po)) rfl ?_
                exact ih h
        · simp only [if_neg hc186] at h
          refine OEnds.icmpF hm_30 rfl ((flt hc186).1) ?_
          refine OEnds.adv hm_30 1 (pc' := 35) (L' := [qr 17, qi v1, qi v2, qi v3, qi v4, qi (v1 + v4), qu, qu]) (S' := [.int v2]) (H' := (c0 :: c1 :: c2 :: c3 :: c4 :: c5 :: c6 :: c7 :: c8 :: c9 :: c10 :: c11 :: c12 :: c13 :: c14 :: c15 :: c16 :: bk1 zf za zi zm zd zv zt zr zh zj zp zn zab zw zu zz zaa zo zc ze zq zs zb zx zy zg zk zl po)) rfl ?_
          cases h
          exact OEnds.iret hm_30 rfl rfl
    · simp only [if_neg hc184] at h
      refine OEnds.icmpT hm_30 rfl (q := 105) rfl ((flt hc184).2.1) ?_
      refine OEnds.adv hm_30 1 (pc' := 106) (L' := [qr 17, qi v1, qi v2, qi v3, qi v4, qu, qu, qu]) (S' := [.int v2]) (H' := (c0 :: c1 :: c2 :: c3 :: c4 :: c5 :: c6 :: c7 :: c8 :: c9 :: c10 :: c11 :: c12 :: c13 :: c14 :: c15 :: c16 :: bk1 zf za zi zm zd zv zt zr zh zj zp zn zab zw zu zz zaa zo zc ze zq zs zb zx zy zg zk zl po)) rfl ?_
      cases h
      exact OEnds.iret hm_30 rfl rfl
theorem ok_longestAt_1 {zf za zi zm zd zv zt zr zh zj zp zn zab zw zu : List Int32} {zz zaa zo zc ze zq zs zb zx zy zg zk zl : Int32} {c0 c1 c2 c3 c4 c5 c6 c7 c8 c9 c10 c11 c12 c13 c14 c15 c16 : ACell} {po : List ACell} {v1 res : Int32} (h : f_longestAt zd zh zn zb v1 = some res) : OEnds own_P 30 0 [qr 17, qi v1, qu, qu, qu, qu, qu, qu] [] (c0 :: c1 :: c2 :: c3 :: c4 :: c5 :: c6 :: c7 :: c8 :: c9 :: c10 :: c11 :: c12 :: c13 :: c14 :: c15 :: c16 :: bk1 zf za zi zm zd zv zt zr zh zj zp zn zab zw zu zz zaa zo zc ze zq zs zb zx zy zg zk zl po) (some (.int res), (c0 :: c1 :: c2 :: c3 :: c4 :: c5 :: c6 :: c7 :: c8 :: c9 :: c10 :: c11 :: c12 :: c13 :: c14 :: c15 :: c16 :: bk1 zf za zi zm zd zv zt zr zh zj zp zn zab zw zu zz zaa zo zc ze zq zs zb zx zy zg zk zl po), 0, 0) := by
  unfold f_longestAt at h
  refine OEnds.adv hm_30 6 (pc' := 7) (L' := [qr 17, qi v1, qi (-1), qi 0, qi 0, qu, qu, qu]) (S' := []) (H' := (c0 :: c1 :: c2 :: c3 :: c4 :: c5 :: c6 :: c7 :: c8 :: c9 :: c10 :: c11 :: c12 :: c13 :: c14 :: c15 :: c16 :: bk1 zf za zi zm zd zv zt zr zh zj zp zn zab zw zu zz zaa zo zc ze zq zs zb zx zy zg zk zl po)) rfl ?_
  exact ok_longestAt_7_1 100000 h
theorem ok_commitOne_74_1 {zf za zi zm zd zv zt zr zh zj zp zn zab zu : List Int32} {zz zaa zo zc ze zq zs zb zx zy zl : Int32} {c0 c1 c2 c3 c4 c5 c6 c7 c8 c9 c10 c11 c12 c13 c14 c15 c16 : ACell} {po : List ACell} : ∀ {zw : List Int32} {zg zk : Int32} {d1 : Slot} {w_o_out : List Int32} {w_o_outLen : Int32} {w_o_commitPos : Int32}, f_commitOne_74 za zi zd zh zn zb zw zg zk = some (w_o_out, w_o_outLen, w_o_commitPos) → OEnds own_P 31 74 [qr 17, d1] [] (c0 :: c1 :: c2 :: c3 :: c4 :: c5 :: c6 :: c7 :: c8 :: c9 :: c10 :: c11 :: c12 :: c13 :: c14 :: c15 :: c16 :: bk1 zf za zi zm zd zv zt zr zh zj zp zn zab zw zu zz zaa zo zc ze zq zs zb zx zy zg zk zl po) (none, (c0 :: c1 :: c2 :: c3 :: c4 :: c5 :: c6 :: c7 :: c8 :: c9 :: c10 :: c11 :: c12 :: c13 :: c14 :: c15 :: c16 :: bk1 zf za zi zm zd zv zt zr zh zj zp zn zab w_o_out zu zz zaa zo zc ze zq zs zb zx zy w_o_outLen w_o_commitPos zl po), 0, 0) := by
  intro zw zg zk d1 w_o_out w_o_outLen w_o_commitPos h
  unfold f_commitOne_74 at h
  refine OEnds.adv hm_31 6 (pc' := 84) (L' := [qr 17, qu]) (S' := []) (H' := (c0 :: c1 :: c2 :: c3 :: c4 :: c5 :: c6 :: c7 :: c8 :: c9 :: c10 :: c11 :: c12 :: c13 :: c14 :: c15 :: c16 :: bk1 zf za zi zm zd zv zt zr zh zj zp zn zab zw zu zz zaa zo zc ze zq zs zb zx zy (zg + (1 : Int32)) zk zl po)) rfl ?_
  cases h
  exact OEnds.vret hm_31 rfl rfl
theorem ok_commitOne_1 {zf za zi zm zd zv zt zr zh zj zp zn zab zu : List Int32} {zz zaa zo zc ze zq zs zb zx zy zl : Int32} {c0 c1 c2 c3 c4 c5 c6 c7 c8 c9 c10 c11 c12 c13 c14 c15 c16 : ACell} {po : List ACell} {zw : List Int32} {zg zk : Int32} {w_o_out : List Int32} {w_o_outLen w_o_commitPos : Int32} (h : f_commitOne za zi zd zh zn zb zw zg zk = some (w_o_out, w_o_outLen, w_o_commitPos)) : OEnds own_P 31 0 [qr 17, qu] [] (c0 :: c1 :: c2 :: c3 :: c4 :: c5 :: c6 :: c7 :: c8 :: c9 :: c10 :: c11 :: c12 :: c13 :: c14 :: c15 :: c16 :: bk1 zf za zi zm zd zv zt zr zh zj zp zn zab zw zu zz zaa zo zc ze zq zs zb zx zy zg zk zl po) (none, (c0 :: c1 :: c2 :: c3 :: c4 :: c5 :: c6 :: c7 :: c8 :: c9 :: c10 :: c11 :: c12 :: c13 :: c14 :: c15 :: c16 :: bk1 zf za zi zm zd zv zt zr zh zj zp zn zab w_o_out zu zz zaa zo zc ze zq zs zb zx zy w_o_outLen w_o_commitPos zl po), 0, 0) := by
  unfold f_commitOne at h
  refine OEnds.adv hm_31 3 (pc' := 5) (L' := [qr 17, qu]) (S' := [.int zk, .ref 17]) (H' := (c0 :: c1 :: c2 :: c3 :: c4 :: c5 :: c6 :: c7 :: c8 :: c9 :: c10 :: c11 :: c12 :: c13 :: c14 :: c15 :: c16 :: bk1 zf za zi zm zd zv zt zr zh zj zp zn zab zw zu zz zaa zo zc ze zq zs zb zx zy zg zk zl po)) rfl ?_
  obtain ⟨r92, hq191, h⟩ := bnd h
  refine OEnds.call0 hm_31 rfl rfl (by decide) rfl (as := [.ref 17, .int zk]) (rest := []) rfl rfl (ok_longestAt_1 hq191) ?_
  refine OEnds.adv hm_31 2 (pc' := 10) (L' := [qr 17, qi r92]) (S' := [.int r92]) (H' := (c0 :: c1 :: c2 :: c3 :: c4 :: c5 :: c6 :: c7 :: c8 :: c9 :: c10 :: c11 :: c12 :: c13 :: c14 :: c15 :: c16 :: bk1 zf za zi zm zd zv zt zr zh zj zp zn zab zw zu zz zaa zo zc ze zq zs zb zx zy zg zk zl po)) rfl ?_
  by_cases hc192 : r92 < (0 : Int32)
  · simp only [if_pos hc192] at h
    refine OEnds.ifT hm_31 rfl (q := 46) rfl ((tlt hc192).1) ?_
    refine OEnds.adv hm_31 8 (pc' := 62) (L' := [qr 17, qi r92]) (S' := [.int zk, .ref 29, .int zg, .ref 31]) (H' := (c0 :: c1 :: c2 :: c3 :: c4 :: c5 :: c6 :: c7 :: c8 :: c9 :: c10 :: c11 :: c12 :: c13 :: c14 :: c15 :: c16 :: bk1 zf za zi zm zd zv zt zr zh zj zp zn zab zw zu zz zaa zo zc ze zq zs zb zx zy zg zk zl po)) rfl ?_
    obtain ⟨x93, hx93, h⟩ := bnd h
    refine OEnds.plain hm_31 rfl rfl (x_iaload rfl hx93) ?_
    show OEnds own_P 31 63 [qr 17, qi r92] [.int x93, .int zg, .ref 31] (c0 :: c1 :: c2 :: c3 :: c4 :: c5 :: c6 :: c7 :: c8 :: c9 :: c10 :: c11 :: c12 :: c13 :: c14 :: c15 :: c16 :: bk1 zf za zi zm zd zv zt zr zh zj zp zn zab zw zu zz zaa zo zc ze zq zs zb zx zy zg zk zl po) _
    obtain ⟨A94, hA94, h⟩ := bnd h
    refine OEnds.plain hm_31 rfl rfl (x_iastore rfl (Nat.le_of_ble_eq_true rfl) hA94) ?_
    refine OEnds.adv hm_31 6 (pc' := 74) (L' := [qr 17, qi r92]) (S' := []) (H' := (c0 :: c1 :: c2 :: c3 :: c4 :: c5 :: c6 :: c7 :: c8 :: c9 :: c10 :: c11 :: c12 :: c13 :: c14 :: c15 :: c16 :: bk1 zf za zi zm zd zv zt zr zh zj zp zn zab A94 zu zz zaa zo zc ze zq zs zb zx zy zg (zk + (1 : Int32)) zl po)) rfl ?_
    exact ok_commitOne_74_1 h
  · simp only [if_neg hc192] at h
    refine OEnds.ifF hm_31 rfl ((flt hc192).1) ?_
    refine OEnds.adv hm_31 7 (pc' := 26) (L' := [qr 17, qi r92]) (S' := [.int r92, .ref 20, .int zg, .ref 31]) (H' := (c0 :: c1 :: c2 :: c3 :: c4 :: c5 :: c6 :: c7 :: c8 :: c9 :: c10 :: c11 :: c12 :: c13 :: c14 :: c15 :: c16 :: bk1 zf za zi zm zd zv zt zr zh zj zp zn zab zw zu zz zaa zo zc ze zq zs zb zx zy zg zk zl po)) rfl ?_
    obtain ⟨x95, hx95, h⟩ := bnd h
    refine OEnds.plain hm_31 rfl rfl (x_iaload rfl hx95) ?_
    show OEnds own_P 31 27 [qr 17, qi r92] [.int x95, .int zg, .ref 31] (c0 :: c1 :: c2 :: c3 :: c4 :: c5 :: c6 :: c7 :: c8 :: c9 :: c10 :: c11 :: c12 :: c13 :: c14 :: c15 :: c16 :: bk1 zf za zi zm zd zv zt zr zh zj zp zn zab zw zu zz zaa zo zc ze zq zs zb zx zy zg zk zl po) _
    obtain ⟨A96, hA96, h⟩ := bnd h
    refine OEnds.plain hm_31 rfl rfl (x_iastore rfl (Nat.le_of_ble_eq_true rfl) hA96) ?_
    refine OEnds.adv hm_31 6 (pc' := 38) (L' := [qr 17, qi r92]) (S' := [.int r92, .ref 19, .int zk, .ref 17]) (H' := (c0 :: c1 :: c2 :: c3 :: c4 :: c5 :: c6 :: c7 :: c8 :: c9 :: c10 :: c11 :: c12 :: c13 :: c14 :: c15 :: c16 :: bk1 zf za zi zm zd zv zt zr zh zj zp zn zab A96 zu zz zaa zo zc ze zq zs zb zx zy zg zk zl po)) rfl ?_
    obtain ⟨x97, hx97, h⟩ := bnd h
    refine OEnds.plain hm_31 rfl rfl (x_iaload rfl hx97) ?_
    refine OEnds.adv hm_31 3 (pc' := 74) (L' := [qr 17, qi r92]) (S' := []) (H' := (c0 :: c1 :: c2 :: c3 :: c4 :: c5 :: c6 :: c7 :: c8 :: c9 :: c10 :: c11 :: c12 :: c13 :: c14 :: c15 :: c16 :: bk1 zf za zi zm zd zv zt zr zh zj zp zn zab A96 zu zz zaa zo zc ze zq zs zb zx zy zg (zk + x97) zl po)) rfl ?_
    exact ok_commitOne_74_1 h
theorem ok_commitReady_2_1 {zf za zi zm zd zv zt zr zh zj zp zn zab zu : List Int32} {zz zaa zo zc ze zq zs zb zx zy zl : Int32} {c0 c1 c2 c3 c4 c5 c6 c7 c8 c9 c10 c11 c12 c13 c14 c15 c16 : ACell} {po : List ACell} : ∀ (n : Nat), ∀ {zw : List Int32} {zg zk v1 : Int32} {w_o_out : List Int32} {w_o_outLen : Int32} {w_o_commitPos : Int32}, f_commitReady_2 za zi zd zh zn zs zb n zw zg zk v1 = some (w_o_out, w_o_outLen, w_o_commitPos) → OEnds own_P 28 2 [qr 17, qi v1] [] (c0 :: c1 :: c2 :: c3 :: c4 :: c5 :: c6 :: c7 :: c8 :: c9 :: c10 :: c11 :: c12 :: c13 :: c14 :: c15 :: c16 :: bk1 zf za zi zm zd zv zt zr zh zj zp zn zab zw zu zz zaa zo zc ze zq zs zb zx zy zg zk zl po) (none, (c0 :: c1 :: c2 :: c3 :: c4 :: c5 :: c6 :: c7 :: c8 :: c9 :: c10 :: c11 :: c12 :: c13 :: c14 :: c15 :: c16 :: bk1 zf za zi zm zd zv zt zr zh zj zp zn zab w_o_out zu zz zaa zo zc ze zq zs zb zx zy w_o_outLen w_o_commitPos zl po), 0, 0) := by
  intro n
  induction n with
  | zero => intro zw zg zk v1 w_o_out w_o_outLen w_o_commitPos h; cases h
  | succ n ih =>
    intro zw zg zk v1 w_o_out w_o_outLen w_o_commitPos h
    unfold f_commitReady_2 at h
    refine OEnds.adv hm_28 2 (pc' := 6) (L' := [qr 17, qi v1]) (S' := [.int 240, .int v1]) (H' := (c0 :: c1 :: c2 :: c3 :: c4 :: c5 :: c6 :: c7 :: c8 :: c9 :: c10 :: c11 :: c12 :: c13 :: c14 :: c15 :: c16 :: bk1 zf za zi zm zd zv zt zr zh zj zp zn zab zw zu zz zaa zo zc ze zq zs zb zx zy zg zk zl po)) rfl ?_
    by_cases hc193 : v1 < (240 : Int32)
    · simp only [if_pos hc193] at h
      refine OEnds.icmpF hm_28 rfl ((tlt hc193).2.1) ?_
      refine OEnds.adv hm_28 2 (pc' := 13) (L' := [qr 17, qi v1]) (S' := [.int zk]) (H' := (c0 :: c1 :: c2 :: c3 :: c4 :: c5 :: c6 :: c7 :: c8 :: c9 :: c10 :: c11 :: c12 :: c13 :: c14 :: c15 :: c16 :: bk1 zf za zi zm zd zv zt zr zh zj zp zn zab zw zu zz zaa zo zc ze zq zs zb zx zy zg zk zl po)) rfl ?_
      by_cases hc194 : zk < (0 : Int32)
      · simp only [if_pos hc194] at h
        refine OEnds.ifT hm_28 rfl (q := 43) rfl ((tlt hc194).1) ?_
        show OEnds own_P 28 43 [qr 17, qi v1] [] (c0 :: c1 :: c2 :: c3 :: c4 :: c5 :: c6 :: c7 :: c8 :: c9 :: c10 :: c11 :: c12 :: c13 :: c14 :: c15 :: c16 :: bk1 zf za zi zm zd zv zt zr zh zj zp zn zab zw zu zz zaa zo zc ze zq zs zb zx zy zg zk zl po) _
        cases h
        exact OEnds.vret hm_28 rfl rfl
      · simp only [if_neg hc194] at h
        refine OEnds.ifF hm_28 rfl ((flt hc194).1) ?_
        refine OEnds.adv hm_28 4 (pc' := 24) (L' := [qr 17, qi v1]) (S' := [.int zb, .int zk]) (H' := (c0 :: c1 :: c2 :: c3 :: c4 :: c5 :: c6 :: c7 :: c8 :: c9 :: c10 :: c11 :: c12 :: c13 :: c14 :: c15 :: c16 :: bk1 zf za zi zm zd zv zt zr zh zj zp zn zab zw zu zz zaa zo zc ze zq zs zb zx zy zg zk zl po)) rfl ?_
        by_cases hc195 : zk < zb
        · simp only [if_pos hc195] at h
          refine OEnds.icmpF hm_28 rfl ((tlt hc195).2.1) ?_
          refine OEnds.adv hm_28 7 (pc' := 40) (L' := [qr 17, qi v1]) (S' := [.int zb, .int (zk + zs)]) (H' := (c0 :: c1 :: c2 :: c3 :: c4 :: c5 :: c6 :: c7 :: c8 :: c9 :: c10 :: c11 :: c12 :: c13 :: c14 :: c15 :: c16 :: bk1 zf za zi zm zd zv zt zr zh zj zp zn zab zw zu zz zaa zo zc ze zq zs zb zx zy zg zk zl po)) rfl ?_
          by_cases hc196 : zb < (zk + zs)
          · simp only [if_pos hc196] at h
            refine OEnds.icmpF hm_28 rfl ((tlt hc196).2.2.2) ?_
            show OEnds own_P 28 43 [qr 17, qi v1] [] (c0 :: c1 :: c2 :: c3 :: c4 :: c5 :: c6 :: c7 :: c8 :: c9 :: c10 :: c11 :: c12 :: c13 :: c14 :: c15 :: c16 :: bk1 zf za zi zm zd zv zt zr zh zj zp zn zab zw zu zz zaa zo zc ze zq zs zb zx zy zg zk zl po) _
            cases h
            exact OEnds.vret hm_28 rfl rfl
          · simp only [if_neg hc196] at h
            refine OEnds.icmpT hm_28 rfl (q := 44) rfl ((flt hc196).2.2.2) ?_
            refine OEnds.adv hm_28 3 (pc' := 51) (L' := [qr 17, qi v1]) (S' := [.int 240, .int zg]) (H' := (c0 :: c1 :: c2 :: c3 :: c4 :: c5 :: c6 :: c7 :: c8 :: c9 :: c10 :: c11 :: c12 :: c13 :: c14 :: c15 :: c16 :: bk1 zf za zi zm zd zv zt zr zh zj zp zn zab zw zu zz zaa zo zc ze zq zs zb zx zy zg zk zl po)) rfl ?_
            by_cases hc197 : zg < (240 : Int32)
            · simp only [if_pos hc197] at h
              refine OEnds.icmpT hm_28 rfl (q := 55) rfl ((tlt hc197).1) ?_
              refine OEnds.adv hm_28 1 (pc' := 56) (L' := [qr 17, qi v1]) (S' := [.ref 17]) (H' := (c0 :: c1 :: c2 :: c3 :: c4 :: c5 :: c6 :: c7 :: c8 :: c9 :: c10 :: c11 :: c12 :: c13 :: c14 :: c15 :: c16 :: bk1 zf za zi zm zd zv zt zr zh zj zp zn zab zw zu zz zaa zo zc ze zq zs zb zx zy zg zk zl po)) rfl ?_
              obtain ⟨⟨s98, s99, s100⟩, hq198, h⟩ := bnd h
              refine OEnds.call0 hm_28 rfl rfl (by decide) rfl (as := [.ref 17]) (rest := []) rfl rfl (ok_commitOne_1 hq198) ?_
              refine OEnds.adv hm_28 2 (pc' := 2) (L' := [qr 17, qi (v1 + (1 : Int32))]) (S' := []) (H' := (c0 :: c1 :: c2 :: c3 :: c4 :: c5 :: c6 :: c7 :: c8 :: c9 :: c10 :: c11 :: c12 :: c13 :: c14 :: c15 :: c16 :: bk1 zf za zi zm zd zv zt zr zh zj zp zn zab s98 zu zz zaa zo zc ze zq zs zb zx zy s99 s100 zl po)) rfl ?_
              exact ih h
            · simp only [if_neg hc197] at h
              refine OEnds.icmpF hm_28 rfl ((flt hc197).1) ?_
              show OEnds own_P 28 54 [qr 17, qi v1] [] (c0 :: c1 :: c2 :: c3 :: c4 :: c5 :: c6 :: c7 :: c8 :: c9 :: c10 :: c11 :: c12 :: c13 :: c14 :: c15 :: c16 :: bk1 zf za zi zm zd zv zt zr zh zj zp zn zab zw zu zz zaa zo zc ze zq zs zb zx zy zg zk zl po) _
              cases h
              exact OEnds.vret hm_28 rfl rfl
        · simp only [if_neg hc195] at h
          refine OEnds.icmpT hm_28 rfl (q := 43) rfl ((flt hc195).2.1) ?_
          show OEnds own_P 28 43 [qr 17, qi v1] [] (c0 :: c1 :: c2 :: c3 :: c4 :: c5 :: c6 :: c7 :: c8 :: c9 :: c10 :: c11 :: c12 :: c13 :: c14 :: c15 :: c16 :: bk1 zf za zi zm zd zv zt zr zh zj zp zn zab zw zu zz zaa zo zc ze zq zs zb zx zy zg zk zl po) _
          cases h
          exact OEnds.vret hm_28 rfl rfl
    · simp only [if_neg hc193] at h
      refine OEnds.icmpT hm_28 rfl (q := 65) rfl ((flt hc193).2.1) ?_
      show OEnds own_P 28 65 [qr 17, qi v1] [] (c0 :: c1 :: c2 :: c3 :: c4 :: c5 :: c6 :: c7 :: c8 :: c9 :: c10 :: c11 :: c12 :: c13 :: c14 :: c15 :: c16 :: bk1 zf za zi zm zd zv zt zr zh zj zp zn zab zw zu zz zaa zo zc ze zq zs zb zx zy zg zk zl po) _
      cases h
      exact OEnds.vret hm_28 rfl rfl
theorem ok_commitReady_1 {zf za zi zm zd zv zt zr zh zj zp zn zab zu : List Int32} {zz zaa zo zc ze zq zs zb zx zy zl : Int32} {c0 c1 c2 c3 c4 c5 c6 c7 c8 c9 c10 c11 c12 c13 c14 c15 c16 : ACell} {po : List ACell} {zw : List Int32} {zg zk : Int32} {w_o_out : List Int32} {w_o_outLen w_o_commitPos : Int32} (h : f_commitReady za zi zd zh zn zs zb zw zg zk = some (w_o_out, w_o_outLen, w_o_commitPos)) : OEnds own_P 28 0 [qr 17, qu] [] (c0 :: c1 :: c2 :: c3 :: c4 :: c5 :: c6 :: c7 :: c8 :: c9 :: c10 :: c11 :: c12 :: c13 :: c14 :: c15 :: c16 :: bk1 zf za zi zm zd zv zt zr zh zj zp zn zab zw zu zz zaa zo zc ze zq zs zb zx zy zg zk zl po) (none, (c0 :: c1 :: c2 :: c3 :: c4 :: c5 :: c6 :: c7 :: c8 :: c9 :: c10 :: c11 :: c12 :: c13 :: c14 :: c15 :: c16 :: bk1 zf za zi zm zd zv zt zr zh zj zp zn zab w_o_out zu zz zaa zo zc ze zq zs zb zx zy w_o_outLen w_o_commitPos zl po), 0, 0) := by
  unfold f_commitReady at h
  refine OEnds.adv hm_28 2 (pc' := 2) (L' := [qr 17, qi 0]) (S' := []) (H' := (c0 :: c1 :: c2 :: c3 :: c4 :: c5 :: c6 :: c7 :: c8 :: c9 :: c10 :: c11 :: c12 :: c13 :: c14 :: c15 :: c16 :: bk1 zf za zi zm zd zv zt zr zh zj zp zn zab zw zu zz zaa zo zc ze zq zs zb zx zy zg zk zl po)) rfl ?_
  exact ok_commitReady_2_1 100000 h
theorem ok_rebuildTail_95_1 {zf za zi zm zd zv zt zr zh zj zp zn zab zw : List Int32} {zz zaa zo zc ze zq zs zb zx zy zg zk : Int32} {c0 c1 c2 c3 c4 c5 c6 c7 c8 c9 c10 c11 c12 c13 c14 c15 c16 : ACell} {po : List ACell} {kb : List Int32 → Int32 → Int32 → Int32 → Option (List Int32 × Int32)} (hkb : ∀ {zu : List Int32} {zl v1 v2 : Int32} {d3 : Slot} {w_o_tail : List Int32} {w_o_tailLen : Int32}, kb zu zl v1 v2 = some (w_o_tail, w_o_tailLen) → OEnds own_P 29 12 [qr 17, qi v1, qi v2, d3] [] (c0 :: c1 :: c2 :: c3 :: c4 :: c5 :: c6 :: c7 :: c8 :: c9 :: c10 :: c11 :: c12 :: c13 :: c14 :: c15 :: c16 :: bk1 zf za zi zm zd zv zt zr zh zj zp zn zab zw zu zz zaa zo zc ze zq zs zb zx zy zg zk zl po) (none, (c0 :: c1 :: c2 :: c3 :: c4 :: c5 :: c6 :: c7 :: c8 :: c9 :: c10 :: c11 :: c12 :: c13 :: c14 :: c15 :: c16 :: bk1 zf za zi zm zd zv zt zr zh zj zp zn zab zw w_o_tail zz zaa zo zc ze zq zs zb zx zy zg zk w_o_tailLen po), 0, 0)) : ∀ {zu : List Int32} {zl v1 v2 : Int32} {d3 : Slot} {w_o_tail : List Int32} {w_o_tailLen : Int32}, f_rebuildTail_95 kb za zi zd zh zn zb zk zu zl v1 v2 = some (w_o_tail, w_o_tailLen) → OEnds own_P 29 95 [qr 17, qi v1, qi v2, d3] [] (c0 :: c1 :: c2 :: c3 :: c4 :: c5 :: c6 :: c7 :: c8 :: c9 :: c10 :: c11 :: c12 :: c13 :: c14 :: c15 :: c16 :: bk1 zf za zi zm zd zv zt zr zh zj zp zn zab zw zu zz zaa zo zc ze zq zs zb zx zy zg zk zl po) (none, (c0 :: c1 :: c2 :: c3 :: c4 :: c5 :: c6 :: c7 :: c8 :: c9 :: c10 :: c11 :: c12 :: c13 :: c14 :: c15 :: c16 :: bk1 zf za zi zm zd zv zt zr zh zj zp zn zab zw w_o_tail zz zaa zo zc ze zq zs zb zx zy zg zk w_o_tailLen po), 0, 0) := by
  intro zu zl v1 v2 d3 w_o_tail w_o_tailLen h
  unfold f_rebuildTail_95 at h
  refine OEnds.adv hm_29 8 (pc' := 12) (L' := [qr 17, qi v1, qi (v2 + (1 : Int32)), qu]) (S' := []) (H' := (c0 :: c1 :: c2 :: c3 :: c4 :: c5 :: c6 :: c7 :: c8 :: c9 :: c10 :: c11 :: c12 :: c13 :: c14 :: c15 :: c16 :: bk1 zf za zi zm zd zv zt zr zh zj zp zn zab zw zu zz zaa zo zc ze zq zs zb zx zy zg zk (zl + (1 : Int32)) po)) rfl ?_
  exact hkb h
theorem ok_rebuildTail_12_1 {zf za zi zm zd zv zt zr zh zj zp zn zab zw : List Int32} {zz zaa zo zc ze zq zs zb zx zy zg zk : Int32} {c0 c1 c2 c3 c4 c5 c6 c7 c8 c9 c10 c11 c12 c13 c14 c15 c16 : ACell} {po : List ACell} : ∀ (n : Nat), ∀ {zu : List Int32} {zl v1 v2 : Int32} {d3 : Slot} {w_o_tail : List Int32} {w_o_tailLen : Int32}, f_rebuildTail_12 za zi zd zh zn zb zk n zu zl v1 v2 = some (w_o_tail, w_o_tailLen) → OEnds own_P 29 12 [qr 17, qi v1, qi v2, d3] [] (c0 :: c1 :: c2 :: c3 :: c4 :: c5 :: c6 :: c7 :: c8 :: c9 :: c10 :: c11 :: c12 :: c13 :: c14 :: c15 :: c16 :: bk1 zf za zi zm zd zv zt zr zh zj zp zn zab zw zu zz zaa zo zc ze zq zs zb zx zy zg zk zl po) (none, (c0 :: c1 :: c2 :: c3 :: c4 :: c5 :: c6 :: c7 :: c8 :: c9 :: c10 :: c11 :: c12 :: c13 :: c14 :: c15 :: c16 :: bk1 zf za zi zm zd zv zt zr zh zj zp zn zab zw w_o_tail zz zaa zo zc ze zq zs zb zx zy zg zk w_o_tailLen po), 0, 0) := by
  intro n
  induction n with
  | zero => intro zu zl v1 v2 d3 w_o_tail w_o_tailLen h; cases h
  | succ n ih =>
    intro zu zl v1 v2 d3 w_o_tail w_o_tailLen h
    unfold f_rebuildTail_12 at h
    refine OEnds.adv hm_29 2 (pc' := 15) (L' := [qr 17, qi v1, qi v2, qu]) (S' := [.int 8, .int v2]) (H' := (c0 :: c1 :: c2 :: c3 :: c4 :: c5 :: c6 :: c7 :: c8 :: c9 :: c10 :: c11 :: c12 :: c13 :: c14 :: c15 :: c16 :: bk1 zf za zi zm zd zv zt zr zh zj zp zn zab zw zu zz zaa zo zc ze zq zs zb zx zy zg zk zl po)) rfl ?_
    by_cases hc199 : v2 < (8 : Int32)
    · simp only [if_pos hc199] at h
      refine OEnds.icmpF hm_29 rfl ((tlt hc199).2.1) ?_
      refine OEnds.adv hm_29 1 (pc' := 19) (L' := [qr 17, qi v1, qi v2, qu]) (S' := [.int v1]) (H' := (c0 :: c1 :: c2 :: c3 :: c4 :: c5 :: c6 :: c7 :: c8 :: c9 :: c10 :: c11 :: c12 :: c13 :: c14 :: c15 :: c16 :: bk1 zf za zi zm zd zv zt zr zh zj zp zn zab zw zu zz zaa zo zc ze zq zs zb zx zy zg zk zl po)) rfl ?_
      by_cases hc200 : v1 < (0 : Int32)
      · simp only [if_pos hc200] at h
        refine OEnds.ifT hm_29 rfl (q := 39) rfl ((tlt hc200).1) ?_
        show OEnds own_P 29 39 [qr 17, qi v1, qi v2, qu] [] (c0 :: c1 :: c2 :: c3 :: c4 :: c5 :: c6 :: c7 :: c8 :: c9 :: c10 :: c11 :: c12 :: c13 :: c14 :: c15 :: c16 :: bk1 zf za zi zm zd zv zt zr zh zj zp zn zab zw zu zz zaa zo zc ze zq zs zb zx zy zg zk zl po) _
        cases h
        exact OEnds.vret hm_29 rfl rfl
      · simp only [if_neg hc200] at h
        refine OEnds.ifF hm_29 rfl ((flt hc200).1) ?_
        refine OEnds.adv hm_29 3 (pc' := 27) (L' := [qr 17, qi v1, qi v2, qu]) (S' := [.int zb, .int v1]) (H' := (c0 :: c1 :: c2 :: c3 :: c4 :: c5 :: c6 :: c7 :: c8 :: c9 :: c10 :: c11 :: c12 :: c13 :: c14 :: c15 :: c16 :: bk1 zf za zi zm zd zv zt zr zh zj zp zn zab zw zu zz zaa zo zc ze zq zs zb zx zy zg zk zl po)) rfl ?_
        by_cases hc201 : v1 < zb
        · simp only [if_pos hc201] at h
          refine OEnds.icmpF hm_29 rfl ((tlt hc201).2.1) ?_
          refine OEnds.adv hm_29 3 (pc' := 36) (L' := [qr 17, qi v1, qi v2, qu]) (S' := [.int 8, .int zl]) (H' := (c0 :: c1 :: c2 :: c3 :: c4 :: c5 :: c6 :: c7 :: c8 :: c9 :: c10 :: c11 :: c12 :: c13 :: c14 :: c15 :: c16 :: bk1 zf za zi zm zd zv zt zr zh zj zp zn zab zw zu zz zaa zo zc ze zq zs zb zx zy zg zk zl po)) rfl ?_
          by_cases hc202 : zl < (8 : Int32)
          · simp only [if_pos hc202] at h
            refine OEnds.icmpT hm_29 rfl (q := 40) rfl ((tlt hc202).1) ?_
            refine OEnds.adv hm_29 2 (pc' := 42) (L' := [qr 17, qi v1, qi v2, qu]) (S' := [.int v1, .ref 17]) (H' := (c0 :: c1 :: c2 :: c3 :: c4 :: c5 :: c6 :: c7 :: c8 :: c9 :: c10 :: c11 :: c12 :: c13 :: c14 :: c15 :: c16 :: bk1 zf za zi zm zd zv zt zr zh zj zp zn zab zw zu zz zaa zo zc ze zq zs zb zx zy zg zk zl po)) rfl ?_
            obtain ⟨r101, hq203, h⟩ := bnd h
            refine OEnds.call0 hm_29 rfl rfl (by decide) rfl (as := [.ref 17, .int v1]) (rest := []) rfl rfl (ok_longestAt_1 hq203) ?_
            refine OEnds.adv hm_29 2 (pc' := 47) (L' := [qr 17, qi v1, qi v2, qi r101]) (S' := [.int r101]) (H' := (c0 :: c1 :: c2 :: c3 :: c4 :: c5 :: c6 :: c7 :: c8 :: c9 :: c10 :: c11 :: c12 :: c13 :: c14 :: c15 :: c16 :: bk1 zf za zi zm zd zv zt zr zh zj zp zn zab zw zu zz zaa zo zc ze zq zs zb zx zy zg zk zl po)) rfl ?_
            by_cases hc204 : r101 < (0 : Int32)
            · simp only [if_pos hc204] at h
              refine OEnds.ifT hm_29 rfl (q := 77) rfl ((tlt hc204).1) ?_
              refine OEnds.adv hm_29 7 (pc' := 90) (L' := [qr 17, qi v1, qi v2, qi r101]) (S' := [.int v1, .ref 29, .int zl, .ref 32]) (H' := (c0 :: c1 :: c2 :: c3 :: c4 :: c5 :: c6 :: c7 :: c8 :: c9 :: c10 :: c11 :: c12 :: c13 :: c14 :: c15 :: c16 :: bk1 zf za zi zm zd zv zt zr zh zj zp zn zab zw zu zz zaa zo zc ze zq zs zb zx zy zg zk zl po)) rfl ?_
              obtain ⟨x102, hx102, h⟩ := bnd h
              refine OEnds.plain hm_29 rfl rfl (x_iaload rfl hx102) ?_
              show OEnds own_P 29 91 [qr 17, qi v1, qi v2, qi r101] [.int x102, .int zl, .ref 32] (c0 :: c1 :: c2 :: c3 :: c4 :: c5 :: c6 :: c7 :: c8 :: c9 :: c10 :: c11 :: c12 :: c13 :: c14 :: c15 :: c16 :: bk1 zf za zi zm zd zv zt zr zh zj zp zn zab zw zu zz zaa zo zc ze zq zs zb zx zy zg zk zl po) _
              obtain ⟨A103, hA103, h⟩ := bnd h
              refine OEnds.plain hm_29 rfl rfl (x_iastore rfl (Nat.le_of_ble_eq_true rfl) hA103) ?_
              refine OEnds.adv hm_29 1 (pc' := 95) (L' := [qr 17, qi (v1 + (1 : Int32)), qi v2, qi r101]) (S' := []) (H' := (c0 :: c1 :: c2 :: c3 :: c4 :: c5 :: c6 :: c7 :: c8 :: c9 :: c10 :: c11 :: c12 :: c13 :: c14 :: c15 :: c16 :: bk1 zf za zi zm zd zv zt zr zh zj zp zn zab zw A103 zz zaa zo zc ze zq zs zb zx zy zg zk zl po)) rfl ?_
              exact ok_rebuildTail_95_1 ih h
            · simp only [if_neg hc204] at h
              refine OEnds.ifF hm_29 rfl ((flt hc204).1) ?_
              refine OEnds.adv hm_29 7 (pc' := 63) (L' := [qr 17, qi v1, qi v2, qi r101]) (S' := [.int r101, .ref 20, .int zl, .ref 32]) (H' := (c0 :: c1 :: c2 :: c3 :: c4 :: c5 :: c6 :: c7 :: c8 :: c9 :: c10 :: c11 :: c12 :: c13 :: c14 :: c15 :: c16 :: bk1 zf za zi zm zd zv zt zr zh zj zp zn zab zw zu zz zaa zo zc ze zq zs zb zx zy zg zk zl po)) rfl ?_
              obtain ⟨x104, hx104, h⟩ := bnd h
              refine OEnds.plain hm_29 rfl rfl (x_iaload rfl hx104) ?_
              show OEnds own_P 29 64 [qr 17, qi v1, qi v2, qi r101] [.int x104, .int zl, .ref 32] (c0 :: c1 :: c2 :: c3 :: c4 :: c5 :: c6 :: c7 :: c8 :: c9 :: c10 :: c11 :: c12 :: c13 :: c14 :: c15 :: c16 :: bk1 zf za zi zm zd zv zt zr zh zj zp zn zab zw zu zz zaa zo zc ze zq zs zb zx zy zg zk zl po) _
              obtain ⟨A105, hA105, h⟩ := bnd h
              refine OEnds.plain hm_29 rfl rfl (x_iastore rfl (Nat.le_of_ble_eq_true rfl) hA105) ?_
              refine OEnds.adv hm_29 4 (pc' := 71) (L' := [qr 17, qi v1, qi v2, qi r101]) (S' := [.int r101, .ref 19, .int v1]) (H' := (c0 :: c1 :: c2 :: c3 :: c4 :: c5 :: c6 :: c7 :: c8 :: c9 :: c10 :: c11 :: c12 :: c13 :: c14 :: c15 :: c16 :: bk1 zf za zi zm zd zv zt zr zh zj zp zn zab zw A105 zz zaa zo zc ze zq zs zb zx zy zg zk zl po)) rfl ?_
              obtain ⟨x106, hx106, h⟩ := bnd h
              refine OEnds.plain hm_29 rfl rfl (x_iaload rfl hx106) ?_
              refine OEnds.adv hm_29 3 (pc' := 95) (L' := [qr 17, qi (v1 + x106), qi v2, qi r101]) (S' := []) (H' := (c0 :: c1 :: c2 :: c3 :: c4 :: c5 :: c6 :: c7 :: c8 :: c9 :: c10 :: c11 :: c12 :: c13 :: c14 :: c15 :: c16 :: bk1 zf za zi zm zd zv zt zr zh zj zp zn zab zw A105 zz zaa zo zc ze zq zs zb zx zy zg zk zl po)) rfl ?_
              exact ok_rebuildTail_95_1 ih h
          · simp only [if_neg hc202] at h
            refine OEnds.icmpF hm_29 rfl ((flt hc202).1) ?_
            show OEnds own_P 29 39 [qr 17, qi v1, qi v2, qu] [] (c0 :: c1 :: c2 :: c3 :: c4 :: c5 :: c6 :: c7 :: c8 :: c9 :: c10 :: c11 :: c12 :: c13 :: c14 :: c15 :: c16 :: bk1 zf za zi zm zd zv zt zr zh zj zp zn zab zw zu zz zaa zo zc ze zq zs zb zx zy zg zk zl po) _
            cases h
            exact OEnds.vret hm_29 rfl rfl
        · simp only [if_neg hc201] at h
          refine OEnds.icmpT hm_29 rfl (q := 39) rfl ((flt hc201).2.1) ?_
          show OEnds own_P 29 39 [qr 17, qi v1, qi v2, qu] [] (c0 :: c1 :: c2 :: c3 :: c4 :: c5 :: c6 :: c7 :: c8 :: c9 :: c10 :: c11 :: c12 :: c13 :: c14 :: c15 :: c16 :: bk1 zf za zi zm zd zv zt zr zh zj zp zn zab zw zu zz zaa zo zc ze zq zs zb zx zy zg zk zl po) _
          cases h
          exact OEnds.vret hm_29 rfl rfl
    · simp only [if_neg hc199] at h
      refine OEnds.icmpT hm_29 rfl (q := 111) rfl ((flt hc199).2.1) ?_
      show OEnds own_P 29 111 [qr 17, qi v1, qi v2, qu] [] (c0 :: c1 :: c2 :: c3 :: c4 :: c5 :: c6 :: c7 :: c8 :: c9 :: c10 :: c11 :: c12 :: c13 :: c14 :: c15 :: c16 :: bk1 zf za zi zm zd zv zt zr zh zj zp zn zab zw zu zz zaa zo zc ze zq zs zb zx zy zg zk zl po) _
      cases h
      exact OEnds.vret hm_29 rfl rfl
theorem ok_rebuildTail_1 {zf za zi zm zd zv zt zr zh zj zp zn zab zw : List Int32} {zz zaa zo zc ze zq zs zb zx zy zg zk : Int32} {c0 c1 c2 c3 c4 c5 c6 c7 c8 c9 c10 c11 c12 c13 c14 c15 c16 : ACell} {po : List ACell} {zu : List Int32} {zl : Int32} {w_o_tail : List Int32} {w_o_tailLen : Int32} (h : f_rebuildTail za zi zd zh zn zb zk zu zl = some (w_o_tail, w_o_tailLen)) : OEnds own_P 29 0 [qr 17, qu, qu, qu] [] (c0 :: c1 :: c2 :: c3 :: c4 :: c5 :: c6 :: c7 :: c8 :: c9 :: c10 :: c11 :: c12 :: c13 :: c14 :: c15 :: c16 :: bk1 zf za zi zm zd zv zt zr zh zj zp zn zab zw zu zz zaa zo zc ze zq zs zb zx zy zg zk zl po) (none, (c0 :: c1 :: c2 :: c3 :: c4 :: c5 :: c6 :: c7 :: c8 :: c9 :: c10 :: c11 :: c12 :: c13 :: c14 :: c15 :: c16 :: bk1 zf za zi zm zd zv zt zr zh zj zp zn zab zw w_o_tail zz zaa zo zc ze zq zs zb zx zy zg zk w_o_tailLen po), 0, 0) := by
  unfold f_rebuildTail at h
  refine OEnds.adv hm_29 8 (pc' := 12) (L' := [qr 17, qi zk, qi 0, qu]) (S' := []) (H' := (c0 :: c1 :: c2 :: c3 :: c4 :: c5 :: c6 :: c7 :: c8 :: c9 :: c10 :: c11 :: c12 :: c13 :: c14 :: c15 :: c16 :: bk1 zf za zi zm zd zv zt zr zh zj zp zn zab zw zu zz zaa zo zc ze zq zs zb zx zy zg zk 0 po)) rfl ?_
  exact ok_rebuildTail_12_1 100000 h
theorem ok_feed_1 {zf za zi zm zd zv zt zr zh zj zp : List Int32} {zz zaa zo zc ze zq zs : Int32} {c0 c1 c2 c3 c4 c5 c6 c7 c8 c9 c10 c11 c12 c13 c14 c15 c16 : ACell} {po : List ACell} {zn zab zw zu : List Int32} {zb zx zy zg zk zl v1 res : Int32} {w_o_text w_o_masks w_o_out w_o_tail : List Int32} {w_o_n w_o_state w_o_total w_o_outLen w_o_commitPos w_o_tailLen : Int32} (h : f_feed za zi zd zv zh zj zo zs zn zab zw zu zb zx zy zg zk zl v1 = some (res, w_o_text, w_o_masks, w_o_out, w_o_tail, w_o_n, w_o_state, w_o_total, w_o_outLen, w_o_commitPos, w_o_tailLen)) : OEnds own_P 24 0 [qr 17, qi v1, qu, qu] [] (c0 :: c1 :: c2 :: c3 :: c4 :: c5 :: c6 :: c7 :: c8 :: c9 :: c10 :: c11 :: c12 :: c13 :: c14 :: c15 :: c16 :: bk1 zf za zi zm zd zv zt zr zh zj zp zn zab zw zu zz zaa zo zc ze zq zs zb zx zy zg zk zl po) (some (.int res), (c0 :: c1 :: c2 :: c3 :: c4 :: c5 :: c6 :: c7 :: c8 :: c9 :: c10 :: c11 :: c12 :: c13 :: c14 :: c15 :: c16 :: bk1 zf za zi zm zd zv zt zr zh zj zp w_o_text w_o_masks w_o_out w_o_tail zz zaa zo zc ze zq zs w_o_n w_o_state w_o_total w_o_outLen w_o_commitPos w_o_tailLen po), 0, 0) := by
  unfold f_feed at h
  refine OEnds.adv hm_24 3 (pc' := 5) (L' := [qr 17, qi v1, qu, qu]) (S' := [.int 1, .int zo]) (H' := (c0 :: c1 :: c2 :: c3 :: c4 :: c5 :: c6 :: c7 :: c8 :: c9 :: c10 :: c11 :: c12 :: c13 :: c14 :: c15 :: c16 :: bk1 zf za zi zm zd zv zt zr zh zj zp zn zab zw zu zz zaa zo zc ze zq zs zb zx zy zg zk zl po)) rfl ?_
  by_cases hc205 : zo = (1 : Int32)
  · simp only [if_pos hc205] at h
    refine OEnds.icmpT hm_24 rfl (q := 10) rfl ((teq hc205).1) ?_
    refine OEnds.adv hm_24 2 (pc' := 12) (L' := [qr 17, qi v1, qu, qu]) (S' := [.int v1, .ref 17]) (H' := (c0 :: c1 :: c2 :: c3 :: c4 :: c5 :: c6 :: c7 :: c8 :: c9 :: c10 :: c11 :: c12 :: c13 :: c14 :: c15 :: c16 :: bk1 zf za zi zm zd zv zt zr zh zj zp zn zab zw zu zz zaa zo zc ze zq zs zb zx zy zg zk zl po)) rfl ?_
    obtain ⟨r107, hq206, h⟩ := bnd h
    refine OEnds.call0 hm_24 rfl rfl (by decide) rfl (as := [.ref 17, .int v1]) (rest := []) rfl rfl (ok_isPrintable_1 hq206) ?_
    show OEnds own_P 24 15 [qr 17, qi v1, qu, qu] [.int r107] (c0 :: c1 :: c2 :: c3 :: c4 :: c5 :: c6 :: c7 :: c8 :: c9 :: c10 :: c11 :: c12 :: c13 :: c14 :: c15 :: c16 :: bk1 zf za zi zm zd zv zt zr zh zj zp zn zab zw zu zz zaa zo zc ze zq zs zb zx zy zg zk zl po) _
    by_cases hc207 : r107 = (0 : Int32)
    · simp only [if_pos hc207] at h
      refine OEnds.ifF hm_24 rfl ((teq hc207).2) ?_
      refine OEnds.adv hm_24 1 (pc' := 20) (L' := [qr 17, qi v1, qu, qu]) (S' := [.int (-2)]) (H' := (c0 :: c1 :: c2 :: c3 :: c4 :: c5 :: c6 :: c7 :: c8 :: c9 :: c10 :: c11 :: c12 :: c13 :: c14 :: c15 :: c16 :: bk1 zf za zi zm zd zv zt zr zh zj zp zn zab zw zu zz zaa zo zc ze zq zs zb zx zy zg zk zl po)) rfl ?_
      cases h
      exact OEnds.iret hm_24 rfl rfl
    · simp only [if_neg hc207] at h
      refine OEnds.ifT hm_24 rfl (q := 21) rfl ((feq hc207).2) ?_
      refine OEnds.adv hm_24 3 (pc' := 28) (L' := [qr 17, qi v1, qu, qu]) (S' := [.int 240, .int zb]) (H' := (c0 :: c1 :: c2 :: c3 :: c4 :: c5 :: c6 :: c7 :: c8 :: c9 :: c10 :: c11 :: c12 :: c13 :: c14 :: c15 :: c16 :: bk1 zf za zi zm zd zv zt zr zh zj zp zn zab zw zu zz zaa zo zc ze zq zs zb zx zy zg zk zl po)) rfl ?_
      by_cases hc208 : zb < (240 : Int32)
      · simp only [if_pos hc208] at h
        refine OEnds.icmpT hm_24 rfl (q := 34) rfl ((tlt hc208).1) ?_
        refine OEnds.adv hm_24 5 (pc' := 41) (L' := [qr 17, qi v1, qu, qu]) (S' := [.int v1, .int zx, .ref 17, .ref 17]) (H' := (c0 :: c1 :: c2 :: c3 :: c4 :: c5 :: c6 :: c7 :: c8 :: c9 :: c10 :: c11 :: c12 :: c13 :: c14 :: c15 :: c16 :: bk1 zf za zi zm zd zv zt zr zh zj zp zn zab zw zu zz zaa zo zc ze zq zs zb zx zy zg zk zl po)) rfl ?_
        obtain ⟨r108, hq209, h⟩ := bnd h
        refine OEnds.call0 hm_24 rfl rfl (by decide) rfl (as := [.ref 17, .int zx, .int v1]) (rest := [.ref 17]) rfl rfl (ok_nextState_1 hq209) ?_
        refine OEnds.adv hm_24 5 (pc' := 55) (L' := [qr 17, qi v1, qu, qu]) (S' := [.int r108, .ref 27]) (H' := (c0 :: c1 :: c2 :: c3 :: c4 :: c5 :: c6 :: c7 :: c8 :: c9 :: c10 :: c11 :: c12 :: c13 :: c14 :: c15 :: c16 :: bk1 zf za zi zm zd zv zt zr zh zj zp zn zab zw zu zz zaa zo zc ze zq zs zb r108 zy zg zk zl po)) rfl ?_
        obtain ⟨x109, hx109, h⟩ := bnd h
        refine OEnds.plain hm_24 rfl rfl (x_iaload rfl hx109) ?_
        refine OEnds.adv hm_24 6 (pc' := 66) (L' := [qr 17, qi v1, qi x109, qu]) (S' := [.int v1, .int zb, .ref 29]) (H' := (c0 :: c1 :: c2 :: c3 :: c4 :: c5 :: c6 :: c7 :: c8 :: c9 :: c10 :: c11 :: c12 :: c13 :: c14 :: c15 :: c16 :: bk1 zf za zi zm zd zv zt zr zh zj zp zn zab zw zu zz zaa zo zc ze zq zs zb r108 zy zg zk zl po)) rfl ?_
        obtain ⟨A110, hA110, h⟩ := bnd h
        refine OEnds.plain hm_24 rfl rfl (x_iastore rfl (Nat.le_of_ble_eq_true rfl) hA110) ?_
        refine OEnds.adv hm_24 5 (pc' := 76) (L' := [qr 17, qi v1, qi x109, qu]) (S' := [.int x109, .int zb, .ref 30]) (H' := (c0 :: c1 :: c2 :: c3 :: c4 :: c5 :: c6 :: c7 :: c8 :: c9 :: c10 :: c11 :: c12 :: c13 :: c14 :: c15 :: c16 :: bk1 zf za zi zm zd zv zt zr zh zj zp A110 zab zw zu zz zaa zo zc ze zq zs zb r108 zy zg zk zl po)) rfl ?_
        obtain ⟨A111, hA111, h⟩ := bnd h
        refine OEnds.plain hm_24 rfl rfl (x_iastore rfl (Nat.le_of_ble_eq_true rfl) hA111) ?_
        refine OEnds.adv hm_24 8 (pc' := 89) (L' := [qr 17, qi v1, qi x109, qu]) (S' := [.int x109, .ref 17]) (H' := (c0 :: c1 :: c2 :: c3 :: c4 :: c5 :: c6 :: c7 :: c8 :: c9 :: c10 :: c11 :: c12 :: c13 :: c14 :: c15 :: c16 :: bk1 zf za zi zm zd zv zt zr zh zj zp A110 A111 zw zu zz zaa zo zc ze zq zs (zb + (1 : Int32)) r108 zy zg zk zl po)) rfl ?_
        obtain ⟨r112, hq210, h⟩ := bnd h
        refine OEnds.call0 hm_24 rfl rfl (by decide) rfl (as := [.ref 17, .int x109]) (rest := []) rfl rfl (ok_popCount_1 hq210) ?_
        refine OEnds.adv hm_24 8 (pc' := 104) (L' := [qr 17, qi v1, qi x109, qi r112]) (S' := [.ref 17]) (H' := (c0 :: c1 :: c2 :: c3 :: c4 :: c5 :: c6 :: c7 :: c8 :: c9 :: c10 :: c11 :: c12 :: c13 :: c14 :: c15 :: c16 :: bk1 zf za zi zm zd zv zt zr zh zj zp A110 A111 zw zu zz zaa zo zc ze zq zs (zb + (1 : Int32)) r108 (zy + r112) zg zk zl po)) rfl ?_
        obtain ⟨⟨s113, s114, s115⟩, hq211, h⟩ := bnd h
        refine OEnds.call0 hm_24 rfl rfl (by decide) rfl (as := [.ref 17]) (rest := []) rfl rfl (ok_commitReady_1 hq211) ?_
        refine OEnds.adv hm_24 1 (pc' := 108) (L' := [qr 17, qi v1, qi x109, qi r112]) (S' := [.ref 17]) (H' := (c0 :: c1 :: c2 :: c3 :: c4 :: c5 :: c6 :: c7 :: c8 :: c9 :: c10 :: c11 :: c12 :: c13 :: c14 :: c15 :: c16 :: bk1 zf za zi zm zd zv zt zr zh zj zp A110 A111 s113 zu zz zaa zo zc ze zq zs (zb + (1 : Int32)) r108 (zy + r112) s114 s115 zl po)) rfl ?_
        obtain ⟨⟨s116, s117⟩, hq212, h⟩ := bnd h
        refine OEnds.call0 hm_24 rfl rfl (by decide) rfl (as := [.ref 17]) (rest := []) rfl rfl (ok_rebuildTail_1 hq212) ?_
        refine OEnds.adv hm_24 1 (pc' := 112) (L' := [qr 17, qi v1, qi x109, qi r112]) (S' := [.int r112]) (H' := (c0 :: c1 :: c2 :: c3 :: c4 :: c5 :: c6 :: c7 :: c8 :: c9 :: c10 :: c11 :: c12 :: c13 :: c14 :: c15 :: c16 :: bk1 zf za zi zm zd zv zt zr zh zj zp A110 A111 s113 s116 zz zaa zo zc ze zq zs (zb + (1 : Int32)) r108 (zy + r112) s114 s115 s117 po)) rfl ?_
        cases h
        exact OEnds.iret hm_24 rfl rfl
      · simp only [if_neg hc208] at h
        refine OEnds.icmpF hm_24 rfl ((flt hc208).1) ?_
        refine OEnds.adv hm_24 1 (pc' := 33) (L' := [qr 17, qi v1, qu, qu]) (S' := [.int (-3)]) (H' := (c0 :: c1 :: c2 :: c3 :: c4 :: c5 :: c6 :: c7 :: c8 :: c9 :: c10 :: c11 :: c12 :: c13 :: c14 :: c15 :: c16 :: bk1 zf za zi zm zd zv zt zr zh zj zp zn zab zw zu zz zaa zo zc ze zq zs zb zx zy zg zk zl po)) rfl ?_
        cases h
        exact OEnds.iret hm_24 rfl rfl
  · simp only [if_neg hc205] at h
    refine OEnds.icmpF hm_24 rfl ((feq hc205).1) ?_
    refine OEnds.adv hm_24 1 (pc' := 9) (L' := [qr 17, qi v1, qu, qu]) (S' := [.int (-1)]) (H' := (c0 :: c1 :: c2 :: c3 :: c4 :: c5 :: c6 :: c7 :: c8 :: c9 :: c10 :: c11 :: c12 :: c13 :: c14 :: c15 :: c16 :: bk1 zf za zi zm zd zv zt zr zh zj zp zn zab zw zu zz zaa zo zc ze zq zs zb zx zy zg zk zl po)) rfl ?_
    cases h
    exact OEnds.iret hm_24 rfl rfl
theorem ok_keywordCount_1 {zf za zi zm zd zv zt zr zh zj zp zn zab zw zu : List Int32} {zz zaa zo zc ze zq zs zb zx zy zg zk zl : Int32} {c0 c1 c2 c3 c4 c5 c6 c7 c8 c9 c10 c11 c12 c13 c14 c15 c16 : ACell} {po : List ACell} {res : Int32} (h : f_keywordCount zc = some res) : OEnds own_P 15 0 [qr 17] [] (c0 :: c1 :: c2 :: c3 :: c4 :: c5 :: c6 :: c7 :: c8 :: c9 :: c10 :: c11 :: c12 :: c13 :: c14 :: c15 :: c16 :: bk1 zf za zi zm zd zv zt zr zh zj zp zn zab zw zu zz zaa zo zc ze zq zs zb zx zy zg zk zl po) (some (.int res), (c0 :: c1 :: c2 :: c3 :: c4 :: c5 :: c6 :: c7 :: c8 :: c9 :: c10 :: c11 :: c12 :: c13 :: c14 :: c15 :: c16 :: bk1 zf za zi zm zd zv zt zr zh zj zp zn zab zw zu zz zaa zo zc ze zq zs zb zx zy zg zk zl po), 0, 0) := by
  unfold f_keywordCount at h
  refine OEnds.adv hm_15 2 (pc' := 4) (L' := [qr 17]) (S' := [.int zc]) (H' := (c0 :: c1 :: c2 :: c3 :: c4 :: c5 :: c6 :: c7 :: c8 :: c9 :: c10 :: c11 :: c12 :: c13 :: c14 :: c15 :: c16 :: bk1 zf za zi zm zd zv zt zr zh zj zp zn zab zw zu zz zaa zo zc ze zq zs zb zx zy zg zk zl po)) rfl ?_
  cases h
  exact OEnds.iret hm_15 rfl rfl
theorem ok_textLength_1 {zf za zi zm zd zv zt zr zh zj zp zn zab zw zu : List Int32} {zz zaa zo zc ze zq zs zb zx zy zg zk zl : Int32} {c0 c1 c2 c3 c4 c5 c6 c7 c8 c9 c10 c11 c12 c13 c14 c15 c16 : ACell} {po : List ACell} {res : Int32} (h : f_textLength zb = some res) : OEnds own_P 19 0 [qr 17] [] (c0 :: c1 :: c2 :: c3 :: c4 :: c5 :: c6 :: c7 :: c8 :: c9 :: c10 :: c11 :: c12 :: c13 :: c14 :: c15 :: c16 :: bk1 zf za zi zm zd zv zt zr zh zj zp zn zab zw zu zz zaa zo zc ze zq zs zb zx zy zg zk zl po) (some (.int res), (c0 :: c1 :: c2 :: c3 :: c4 :: c5 :: c6 :: c7 :: c8 :: c9 :: c10 :: c11 :: c12 :: c13 :: c14 :: c15 :: c16 :: bk1 zf za zi zm zd zv zt zr zh zj zp zn zab zw zu zz zaa zo zc ze zq zs zb zx zy zg zk zl po), 0, 0) := by
  unfold f_textLength at h
  refine OEnds.adv hm_19 2 (pc' := 4) (L' := [qr 17]) (S' := [.int zb]) (H' := (c0 :: c1 :: c2 :: c3 :: c4 :: c5 :: c6 :: c7 :: c8 :: c9 :: c10 :: c11 :: c12 :: c13 :: c14 :: c15 :: c16 :: bk1 zf za zi zm zd zv zt zr zh zj zp zn zab zw zu zz zaa zo zc ze zq zs zb zx zy zg zk zl po)) rfl ?_
  cases h
  exact OEnds.iret hm_19 rfl rfl
theorem ok_totalOccurrences_1 {zf za zi zm zd zv zt zr zh zj zp zn zab zw zu : List Int32} {zz zaa zo zc ze zq zs zb zx zy zg zk zl : Int32} {c0 c1 c2 c3 c4 c5 c6 c7 c8 c9 c10 c11 c12 c13 c14 c15 c16 : ACell} {po : List ACell} {res : Int32} (h : f_totalOccurrences zy = some res) : OEnds own_P 20 0 [qr 17] [] (c0 :: c1 :: c2 :: c3 :: c4 :: c5 :: c6 :: c7 :: c8 :: c9 :: c10 :: c11 :: c12 :: c13 :: c14 :: c15 :: c16 :: bk1 zf za zi zm zd zv zt zr zh zj zp zn zab zw zu zz zaa zo zc ze zq zs zb zx zy zg zk zl po) (some (.int res), (c0 :: c1 :: c2 :: c3 :: c4 :: c5 :: c6 :: c7 :: c8 :: c9 :: c10 :: c11 :: c12 :: c13 :: c14 :: c15 :: c16 :: bk1 zf za zi zm zd zv zt zr zh zj zp zn zab zw zu zz zaa zo zc ze zq zs zb zx zy zg zk zl po), 0, 0) := by
  unfold f_totalOccurrences at h
  refine OEnds.adv hm_20 2 (pc' := 4) (L' := [qr 17]) (S' := [.int zy]) (H' := (c0 :: c1 :: c2 :: c3 :: c4 :: c5 :: c6 :: c7 :: c8 :: c9 :: c10 :: c11 :: c12 :: c13 :: c14 :: c15 :: c16 :: bk1 zf za zi zm zd zv zt zr zh zj zp zn zab zw zu zz zaa zo zc ze zq zs zb zx zy zg zk zl po)) rfl ?_
  cases h
  exact OEnds.iret hm_20 rfl rfl
theorem ok_totalOccurrences_0 {zf za zi zm zd zv zt zr zh zj zp zn zab zw zu : List Int32} {zz zaa zo zc ze zq zs zb zx zy zg zk zl : Int32} {c0 : ACell} {po : List ACell} {res : Int32} (h : f_totalOccurrences zy = some res) : OEnds own_P 20 0 [qr 1] [] (c0 :: bk0 zf za zi zm zd zv zt zr zh zj zp zn zab zw zu zz zaa zo zc ze zq zs zb zx zy zg zk zl po) (some (.int res), (c0 :: bk0 zf za zi zm zd zv zt zr zh zj zp zn zab zw zu zz zaa zo zc ze zq zs zb zx zy zg zk zl po), 0, 0) := by
  unfold f_totalOccurrences at h
  refine OEnds.adv hm_20 2 (pc' := 4) (L' := [qr 1]) (S' := [.int zy]) (H' := (c0 :: bk0 zf za zi zm zd zv zt zr zh zj zp zn zab zw zu zz zaa zo zc ze zq zs zb zx zy zg zk zl po)) rfl ?_
  cases h
  exact OEnds.iret hm_20 rfl rfl
theorem ok_longestPartial_1 {zf za zi zm zd zv zt zr zh zj zp zn zab zw zu : List Int32} {zz zaa zo zc ze zq zs zb zx zy zg zk zl : Int32} {c0 c1 c2 c3 c4 c5 c6 c7 c8 c9 c10 c11 c12 c13 c14 c15 c16 : ACell} {po : List ACell} {res : Int32} (h : f_longestPartial zr zb zx = some res) : OEnds own_P 21 0 [qr 17] [] (c0 :: c1 :: c2 :: c3 :: c4 :: c5 :: c6 :: c7 :: c8 :: c9 :: c10 :: c11 :: c12 :: c13 :: c14 :: c15 :: c16 :: bk1 zf za zi zm zd zv zt zr zh zj zp zn zab zw zu zz zaa zo zc ze zq zs zb zx zy zg zk zl po) (some (.int res), (c0 :: c1 :: c2 :: c3 :: c4 :: c5 :: c6 :: c7 :: c8 :: c9 :: c10 :: c11 :: c12 :: c13 :: c14 :: c15 :: c16 :: bk1 zf za zi zm zd zv zt zr zh zj zp zn zab zw zu zz zaa zo zc ze zq zs zb zx zy zg zk zl po), 0, 0) := by
  unfold f_longestPartial at h
  refine OEnds.adv hm_21 2 (pc' := 4) (L' := [qr 17]) (S' := [.int zb]) (H' := (c0 :: c1 :: c2 :: c3 :: c4 :: c5 :: c6 :: c7 :: c8 :: c9 :: c10 :: c11 :: c12 :: c13 :: c14 :: c15 :: c16 :: bk1 zf za zi zm zd zv zt zr zh zj zp zn zab zw zu zz zaa zo zc ze zq zs zb zx zy zg zk zl po)) rfl ?_
  by_cases hc213 : zb = (0 : Int32)
  · simp only [if_pos hc213] at h
    refine OEnds.ifT hm_21 rfl (q := 24) rfl ((teq hc213).1) ?_
    refine OEnds.adv hm_21 1 (pc' := 25) (L' := [qr 17]) (S' := [.int 0]) (H' := (c0 :: c1 :: c2 :: c3 :: c4 :: c5 :: c6 :: c7 :: c8 :: c9 :: c10 :: c11 :: c12 :: c13 :: c14 :: c15 :: c16 :: bk1 zf za zi zm zd zv zt zr zh zj zp zn zab zw zu zz zaa zo zc ze zq zs zb zx zy zg zk zl po)) rfl ?_
    cases h
    exact OEnds.iret hm_21 rfl rfl
  · simp only [if_neg hc213] at h
    refine OEnds.ifF hm_21 rfl ((feq hc213).1) ?_
    refine OEnds.adv hm_21 2 (pc' := 11) (L' := [qr 17]) (S' := [.int zx]) (H' := (c0 :: c1 :: c2 :: c3 :: c4 :: c5 :: c6 :: c7 :: c8 :: c9 :: c10 :: c11 :: c12 :: c13 :: c14 :: c15 :: c16 :: bk1 zf za zi zm zd zv zt zr zh zj zp zn zab zw zu zz zaa zo zc ze zq zs zb zx zy zg zk zl po)) rfl ?_
    by_cases hc214 : zx < (0 : Int32)
    · simp only [if_pos hc214] at h
      refine OEnds.ifT hm_21 rfl (q := 24) rfl ((tlt hc214).1) ?_
      refine OEnds.adv hm_21 1 (pc' := 25) (L' := [qr 17]) (S' := [.int 0]) (H' := (c0 :: c1 :: c2 :: c3 :: c4 :: c5 :: c6 :: c7 :: c8 :: c9 :: c10 :: c11 :: c12 :: c13 :: c14 :: c15 :: c16 :: bk1 zf za zi zm zd zv zt zr zh zj zp zn zab zw zu zz zaa zo zc ze zq zs zb zx zy zg zk zl po)) rfl ?_
      cases h
      exact OEnds.iret hm_21 rfl rfl
    · simp only [if_neg hc214] at h
      refine OEnds.ifF hm_21 rfl ((flt hc214).1) ?_
      refine OEnds.adv hm_21 3 (pc' := 21) (L' := [qr 17]) (S' := [.int 129, .int zx]) (H' := (c0 :: c1 :: c2 :: c3 :: c4 :: c5 :: c6 :: c7 :: c8 :: c9 :: c10 :: c11 :: c12 :: c13 :: c14 :: c15 :: c16 :: bk1 zf za zi zm zd zv zt zr zh zj zp zn zab zw zu zz zaa zo zc ze zq zs zb zx zy zg zk zl po)) rfl ?_
      by_cases hc215 : zx < (129 : Int32)
      · simp only [if_pos hc215] at h
        refine OEnds.icmpT hm_21 rfl (q := 26) rfl ((tlt hc215).1) ?_
        refine OEnds.adv hm_21 4 (pc' := 34) (L' := [qr 17]) (S' := [.int zx, .ref 25]) (H' := (c0 :: c1 :: c2 :: c3 :: c4 :: c5 :: c6 :: c7 :: c8 :: c9 :: c10 :: c11 :: c12 :: c13 :: c14 :: c15 :: c16 :: bk1 zf za zi zm zd zv zt zr zh zj zp zn zab zw zu zz zaa zo zc ze zq zs zb zx zy zg zk zl po)) rfl ?_
        obtain ⟨x125, hx125, h⟩ := bnd h
        refine OEnds.plain hm_21 rfl rfl (x_iaload rfl hx125) ?_
        show OEnds own_P 21 35 [qr 17] [.int x125] (c0 :: c1 :: c2 :: c3 :: c4 :: c5 :: c6 :: c7 :: c8 :: c9 :: c10 :: c11 :: c12 :: c13 :: c14 :: c15 :: c16 :: bk1 zf za zi zm zd zv zt zr zh zj zp zn zab zw zu zz zaa zo zc ze zq zs zb zx zy zg zk zl po) _
        cases h
        exact OEnds.iret hm_21 rfl rfl
      · simp only [if_neg hc215] at h
        refine OEnds.icmpF hm_21 rfl ((flt hc215).1) ?_
        refine OEnds.adv hm_21 1 (pc' := 25) (L' := [qr 17]) (S' := [.int 0]) (H' := (c0 :: c1 :: c2 :: c3 :: c4 :: c5 :: c6 :: c7 :: c8 :: c9 :: c10 :: c11 :: c12 :: c13 :: c14 :: c15 :: c16 :: bk1 zf za zi zm zd zv zt zr zh zj zp zn zab zw zu zz zaa zo zc ze zq zs zb zx zy zg zk zl po)) rfl ?_
        cases h
        exact OEnds.iret hm_21 rfl rfl
theorem ok_longestPartial_0 {zf za zi zm zd zv zt zr zh zj zp zn zab zw zu : List Int32} {zz zaa zo zc ze zq zs zb zx zy zg zk zl : Int32} {c0 : ACell} {po : List ACell} {res : Int32} (h : f_longestPartial zr zb zx = some res) : OEnds own_P 21 0 [qr 1] [] (c0 :: bk0 zf za zi zm zd zv zt zr zh zj zp zn zab zw zu zz zaa zo zc ze zq zs zb zx zy zg zk zl po) (some (.int res), (c0 :: bk0 zf za zi zm zd zv zt zr zh zj zp zn zab zw zu zz zaa zo zc ze zq zs zb zx zy zg zk zl po), 0, 0) := by
  unfold f_longestPartial at h
  refine OEnds.adv hm_21 2 (pc' := 4) (L' := [qr 1]) (S' := [.int zb]) (H' := (c0 :: bk0 zf za zi zm zd zv zt zr zh zj zp zn zab zw zu zz zaa zo zc ze zq zs zb zx zy zg zk zl po)) rfl ?_
  by_cases hc216 : zb = (0 : Int32)
  · simp only [if_pos hc216] at h
    refine OEnds.ifT hm_21 rfl (q := 24) rfl ((teq hc216).1) ?_
    refine OEnds.adv hm_21 1 (pc' := 25) (L' := [qr 1]) (S' := [.int 0]) (H' := (c0 :: bk0 zf za zi zm zd zv zt zr zh zj zp zn zab zw zu zz zaa zo zc ze zq zs zb zx zy zg zk zl po)) rfl ?_
    cases h
    exact OEnds.iret hm_21 rfl rfl
  · simp only [if_neg hc216] at h
    refine OEnds.ifF hm_21 rfl ((feq hc216).1) ?_
    refine OEnds.adv hm_21 2 (pc' := 11) (L' := [qr 1]) (S' := [.int zx]) (H' := (c0 :: bk0 zf za zi zm zd zv zt zr zh zj zp zn zab zw zu zz zaa zo zc ze zq zs zb zx zy zg zk zl po)) rfl ?_
    by_cases hc217 : zx < (0 : Int32)
    · simp only [if_pos hc217] at h
      refine OEnds.ifT hm_21 rfl (q := 24) rfl ((tlt hc217).1) ?_
      refine OEnds.adv hm_21 1 (pc' := 25) (L' := [qr 1]) (S' := [.int 0]) (H' := (c0 :: bk0 zf za zi zm zd zv zt zr zh zj zp zn zab zw zu zz zaa zo zc ze zq zs zb zx zy zg zk zl po)) rfl ?_
      cases h
      exact OEnds.iret hm_21 rfl rfl
    · simp only [if_neg hc217] at h
      refine OEnds.ifF hm_21 rfl ((flt hc217).1) ?_
      refine OEnds.adv hm_21 3 (pc' := 21) (L' := [qr 1]) (S' := [.int 129, .int zx]) (H' := (c0 :: bk0 zf za zi zm zd zv zt zr zh zj zp zn zab zw zu zz zaa zo zc ze zq zs zb zx zy zg zk zl po)) rfl ?_
      by_cases hc218 : zx < (129 : Int32)
      · simp only [if_pos hc218] at h
        refine OEnds.icmpT hm_21 rfl (q := 26) rfl ((tlt hc218).1) ?_
        refine OEnds.adv hm_21 4 (pc' := 34) (L' := [qr 1]) (S' := [.int zx, .ref 9]) (H' := (c0 :: bk0 zf za zi zm zd zv zt zr zh zj zp zn zab zw zu zz zaa zo zc ze zq zs zb zx zy zg zk zl po)) rfl ?_
        obtain ⟨x125, hx125, h⟩ := bnd h
        refine OEnds.plain hm_21 rfl rfl (x_iaload rfl hx125) ?_
        show OEnds own_P 21 35 [qr 1] [.int x125] (c0 :: bk0 zf za zi zm zd zv zt zr zh zj zp zn zab zw zu zz zaa zo zc ze zq zs zb zx zy zg zk zl po) _
        cases h
        exact OEnds.iret hm_21 rfl rfl
      · simp only [if_neg hc218] at h
        refine OEnds.icmpF hm_21 rfl ((flt hc218).1) ?_
        refine OEnds.adv hm_21 1 (pc' := 25) (L' := [qr 1]) (S' := [.int 0]) (H' := (c0 :: bk0 zf za zi zm zd zv zt zr zh zj zp zn zab zw zu zz zaa zo zc ze zq zs zb zx zy zg zk zl po)) rfl ?_
        cases h
        exact OEnds.iret hm_21 rfl rfl
theorem ok_outLength_0 {zf za zi zm zd zv zt zr zh zj zp zn zab zw zu : List Int32} {zz zaa zo zc ze zq zs zb zx zy zg zk zl : Int32} {c0 : ACell} {po : List ACell} {res : Int32} (h : f_outLength zg zl = some res) : OEnds own_P 22 0 [qr 1] [] (c0 :: bk0 zf za zi zm zd zv zt zr zh zj zp zn zab zw zu zz zaa zo zc ze zq zs zb zx zy zg zk zl po) (some (.int res), (c0 :: bk0 zf za zi zm zd zv zt zr zh zj zp zn zab zw zu zz zaa zo zc ze zq zs zb zx zy zg zk zl po), 0, 0) := by
  unfold f_outLength at h
  refine OEnds.adv hm_22 5 (pc' := 9) (L' := [qr 1]) (S' := [.int (zg + zl)]) (H' := (c0 :: bk0 zf za zi zm zd zv zt zr zh zj zp zn zab zw zu zz zaa zo zc ze zq zs zb zx zy zg zk zl po)) rfl ?_
  cases h
  exact OEnds.iret hm_22 rfl rfl
theorem ok_outLength_1 {zf za zi zm zd zv zt zr zh zj zp zn zab zw zu : List Int32} {zz zaa zo zc ze zq zs zb zx zy zg zk zl : Int32} {c0 c1 c2 c3 c4 c5 c6 c7 c8 c9 c10 c11 c12 c13 c14 c15 c16 : ACell} {po : List ACell} {res : Int32} (h : f_outLength zg zl = some res) : OEnds own_P 22 0 [qr 17] [] (c0 :: c1 :: c2 :: c3 :: c4 :: c5 :: c6 :: c7 :: c8 :: c9 :: c10 :: c11 :: c12 :: c13 :: c14 :: c15 :: c16 :: bk1 zf za zi zm zd zv zt zr zh zj zp zn zab zw zu zz zaa zo zc ze zq zs zb zx zy zg zk zl po) (some (.int res), (c0 :: c1 :: c2 :: c3 :: c4 :: c5 :: c6 :: c7 :: c8 :: c9 :: c10 :: c11 :: c12 :: c13 :: c14 :: c15 :: c16 :: bk1 zf za zi zm zd zv zt zr zh zj zp zn zab zw zu zz zaa zo zc ze zq zs zb zx zy zg zk zl po), 0, 0) := by
  unfold f_outLength at h
  refine OEnds.adv hm_22 5 (pc' := 9) (L' := [qr 17]) (S' := [.int (zg + zl)]) (H' := (c0 :: c1 :: c2 :: c3 :: c4 :: c5 :: c6 :: c7 :: c8 :: c9 :: c10 :: c11 :: c12 :: c13 :: c14 :: c15 :: c16 :: bk1 zf za zi zm zd zv zt zr zh zj zp zn zab zw zu zz zaa zo zc ze zq zs zb zx zy zg zk zl po)) rfl ?_
  cases h
  exact OEnds.iret hm_22 rfl rfl
theorem ok_outChar_0 {zf za zi zm zd zv zt zr zh zj zp zn zab zw zu : List Int32} {zz zaa zo zc ze zq zs zb zx zy zg zk zl : Int32} {c0 : ACell} {po : List ACell} {v1 res : Int32} (h : f_outChar zw zu zg zl v1 = some res) : OEnds own_P 33 0 [qr 1, qi v1, qu] [] (c0 :: bk0 zf za zi zm zd zv zt zr zh zj zp zn zab zw zu zz zaa zo zc ze zq zs zb zx zy zg zk zl po) (some (.int res), (c0 :: bk0 zf za zi zm zd zv zt zr zh zj zp zn zab zw zu zz zaa zo zc ze zq zs zb zx zy zg zk zl po), 0, 0) := by
  unfold f_outChar at h
  refine OEnds.adv hm_33 1 (pc' := 1) (L' := [qr 1, qi v1, qu]) (S' := [.int v1]) (H' := (c0 :: bk0 zf za zi zm zd zv zt zr zh zj zp zn zab zw zu zz zaa zo zc ze zq zs zb zx zy zg zk zl po)) rfl ?_
  by_cases hc219 : v1 < (0 : Int32)
  · simp only [if_pos hc219] at h
    refine OEnds.ifF hm_33 rfl ((tlt hc219).2.1) ?_
    refine OEnds.adv hm_33 1 (pc' := 5) (L' := [qr 1, qi v1, qu]) (S' := [.int (-1)]) (H' := (c0 :: bk0 zf za zi zm zd zv zt zr zh zj zp zn zab zw zu zz zaa zo zc ze zq zs zb zx zy zg zk zl po)) rfl ?_
    cases h
    exact OEnds.iret hm_33 rfl rfl
  · simp only [if_neg hc219] at h
    refine OEnds.ifT hm_33 rfl (q := 6) rfl ((flt hc219).2.1) ?_
    refine OEnds.adv hm_33 3 (pc' := 11) (L' := [qr 1, qi v1, qu]) (S' := [.int zg, .int v1]) (H' := (c0 :: bk0 zf za zi zm zd zv zt zr zh zj zp zn zab zw zu zz zaa zo zc ze zq zs zb zx zy zg zk zl po)) rfl ?_
    by_cases hc220 : v1 < zg
    · simp only [if_pos hc220] at h
      refine OEnds.icmpF hm_33 rfl ((tlt hc220).2.1) ?_
      refine OEnds.adv hm_33 3 (pc' := 19) (L' := [qr 1, qi v1, qu]) (S' := [.int v1, .ref 15]) (H' := (c0 :: bk0 zf za zi zm zd zv zt zr zh zj zp zn zab zw zu zz zaa zo zc ze zq zs zb zx zy zg zk zl po)) rfl ?_
      obtain ⟨x127, hx127, h⟩ := bnd h
      refine OEnds.plain hm_33 rfl rfl (x_iaload rfl hx127) ?_
      show OEnds own_P 33 20 [qr 1, qi v1, qu] [.int x127] (c0 :: bk0 zf za zi zm zd zv zt zr zh zj zp zn zab zw zu zz zaa zo zc ze zq zs zb zx zy zg zk zl po) _
      cases h
      exact OEnds.iret hm_33 rfl rfl
    · simp only [if_neg hc220] at h
      refine OEnds.icmpT hm_33 rfl (q := 21) rfl ((flt hc220).2.1) ?_
      refine OEnds.adv hm_33 8 (pc' := 33) (L' := [qr 1, qi v1, qi (v1 - zg)]) (S' := [.int zl, .int (v1 - zg)]) (H' := (c0 :: bk0 zf za zi zm zd zv zt zr zh zj zp zn zab zw zu zz zaa zo zc ze zq zs zb zx zy zg zk zl po)) rfl ?_
      by_cases hc221 : (v1 - zg) < zl
      · simp only [if_pos hc221] at h
        refine OEnds.icmpF hm_33 rfl ((tlt hc221).2.1) ?_
        refine OEnds.adv hm_33 2 (pc' := 39) (L' := [qr 1, qi v1, qi (v1 - zg)]) (S' := [.int 8, .int (v1 - zg)]) (H' := (c0 :: bk0 zf za zi zm zd zv zt zr zh zj zp zn zab zw zu zz zaa zo zc ze zq zs zb zx zy zg zk zl po)) rfl ?_
        by_cases hc222 : (v1 - zg) < (8 : Int32)
        · simp only [if_pos hc222] at h
          refine OEnds.icmpF hm_33 rfl ((tlt hc222).2.1) ?_
          refine OEnds.adv hm_33 3 (pc' := 47) (L' := [qr 1, qi v1, qi (v1 - zg)]) (S' := [.int (v1 - zg), .ref 16]) (H' := (c0 :: bk0 zf za zi zm zd zv zt zr zh zj zp zn zab zw zu zz zaa zo zc ze zq zs zb zx zy zg zk zl po)) rfl ?_
          obtain ⟨x126, hx126, h⟩ := bnd h
          refine OEnds.plain hm_33 rfl rfl (x_iaload rfl hx126) ?_
          show OEnds own_P 33 48 [qr 1, qi v1, qi (v1 - zg)] [.int x126] (c0 :: bk0 zf za zi zm zd zv zt zr zh zj zp zn zab zw zu zz zaa zo zc ze zq zs zb zx zy zg zk zl po) _
          cases h
          exact OEnds.iret hm_33 rfl rfl
        · simp only [if_neg hc222] at h
          refine OEnds.icmpT hm_33 rfl (q := 49) rfl ((flt hc222).2.1) ?_
          refine OEnds.adv hm_33 1 (pc' := 50) (L' := [qr 1, qi v1, qi (v1 - zg)]) (S' := [.int (-1)]) (H' := (c0 :: bk0 zf za zi zm zd zv zt zr zh zj zp zn zab zw zu zz zaa zo zc ze zq zs zb zx zy zg zk zl po)) rfl ?_
          cases h
          exact OEnds.iret hm_33 rfl rfl
      · simp only [if_neg hc221] at h
        refine OEnds.icmpT hm_33 rfl (q := 49) rfl ((flt hc221).2.1) ?_
        refine OEnds.adv hm_33 1 (pc' := 50) (L' := [qr 1, qi v1, qi (v1 - zg)]) (S' := [.int (-1)]) (H' := (c0 :: bk0 zf za zi zm zd zv zt zr zh zj zp zn zab zw zu zz zaa zo zc ze zq zs zb zx zy zg zk zl po)) rfl ?_
        cases h
        exact OEnds.iret hm_33 rfl rfl
theorem ok_outChar_1 {zf za zi zm zd zv zt zr zh zj zp zn zab zw zu : List Int32} {zz zaa zo zc ze zq zs zb zx zy zg zk zl : Int32} {c0 c1 c2 c3 c4 c5 c6 c7 c8 c9 c10 c11 c12 c13 c14 c15 c16 : ACell} {po : List ACell} {v1 res : Int32} (h : f_outChar zw zu zg zl v1 = some res) : OEnds own_P 33 0 [qr 17, qi v1, qu] [] (c0 :: c1 :: c2 :: c3 :: c4 :: c5 :: c6 :: c7 :: c8 :: c9 :: c10 :: c11 :: c12 :: c13 :: c14 :: c15 :: c16 :: bk1 zf za zi zm zd zv zt zr zh zj zp zn zab zw zu zz zaa zo zc ze zq zs zb zx zy zg zk zl po) (some (.int res), (c0 :: c1 :: c2 :: c3 :: c4 :: c5 :: c6 :: c7 :: c8 :: c9 :: c10 :: c11 :: c12 :: c13 :: c14 :: c15 :: c16 :: bk1 zf za zi zm zd zv zt zr zh zj zp zn zab zw zu zz zaa zo zc ze zq zs zb zx zy zg zk zl po), 0, 0) := by
  unfold f_outChar at h
  refine OEnds.adv hm_33 1 (pc' := 1) (L' := [qr 17, qi v1, qu]) (S' := [.int v1]) (H' := (c0 :: c1 :: c2 :: c3 :: c4 :: c5 :: c6 :: c7 :: c8 :: c9 :: c10 :: c11 :: c12 :: c13 :: c14 :: c15 :: c16 :: bk1 zf za zi zm zd zv zt zr zh zj zp zn zab zw zu zz zaa zo zc ze zq zs zb zx zy zg zk zl po)) rfl ?_
  by_cases hc223 : v1 < (0 : Int32)
  · simp only [if_pos hc223] at h
    refine OEnds.ifF hm_33 rfl ((tlt hc223).2.1) ?_
    refine OEnds.adv hm_33 1 (pc' := 5) (L' := [qr 17, qi v1, qu]) (S' := [.int (-1)]) (H' := (c0 :: c1 :: c2 :: c3 :: c4 :: c5 :: c6 :: c7 :: c8 :: c9 :: c10 :: c11 :: c12 :: c13 :: c14 :: c15 :: c16 :: bk1 zf za zi zm zd zv zt zr zh zj zp zn zab zw zu zz zaa zo zc ze zq zs zb zx zy zg zk zl po)) rfl ?_
    cases h
    exact OEnds.iret hm_33 rfl rfl
  · simp only [if_neg hc223] at h
    refine OEnds.ifT hm_33 rfl (q := 6) rfl ((flt hc223).2.1) ?_
    refine OEnds.adv hm_33 3 (pc' := 11) (L' := [qr 17, qi v1, qu]) (S' := [.int zg, .int v1]) (H' := (c0 :: c1 :: c2 :: c3 :: c4 :: c5 :: c6 :: c7 :: c8 :: c9 :: c10 :: c11 :: c12 :: c13 :: c14 :: c15 :: c16 :: bk1 zf za zi zm zd zv zt zr zh zj zp zn zab zw zu zz zaa zo zc ze zq zs zb zx zy zg zk zl po)) rfl ?_
    by_cases hc224 : v1 < zg
    · simp only [if_pos hc224] at h
      refine OEnds.icmpF hm_33 rfl ((tlt hc224).2.1) ?_
      refine OEnds.adv hm_33 3 (pc' := 19) (L' := [qr 17, qi v1, qu]) (S' := [.int v1, .ref 31]) (H' := (c0 :: c1 :: c2 :: c3 :: c4 :: c5 :: c6 :: c7 :: c8 :: c9 :: c10 :: c11 :: c12 :: c13 :: c14 :: c15 :: c16 :: bk1 zf za zi zm zd zv zt zr zh zj zp zn zab zw zu zz zaa zo zc ze zq zs zb zx zy zg zk zl po)) rfl ?_
      obtain ⟨x127, hx127, h⟩ := bnd h
      refine OEnds.plain hm_33 rfl rfl (x_iaload rfl hx127) ?_
      show OEnds own_P 33 20 [qr 17, qi v1, qu] [.int x127] (c0 :: c1 :: c2 :: c3 :: c4 :: c5 :: c6 :: c7 :: c8 :: c9 :: c10 :: c11 :: c12 :: c13 :: c14 :: c15 :: c16 :: bk1 zf za zi zm zd zv zt zr zh zj zp zn zab zw zu zz zaa zo zc ze zq zs zb zx zy zg zk zl po) _
      cases h
      exact OEnds.iret hm_33 rfl rfl
    · simp only [if_neg hc224] at h
      refine OEnds.icmpT hm_33 rfl (q := 21) rfl ((flt hc224).2.1) ?_
      refine OEnds.adv hm_33 8 (pc' := 33) (L' := [qr 17, qi v1, qi (v1 - zg)]) (S' := [.int zl, .int (v1 - zg)]) (H' := (c0 :: c1 :: c2 :: c3 :: c4 :: c5 :: c6 :: c7 :: c8 :: c9 :: c10 :: c11 :: c12 :: c13 :: c14 :: c15 :: c16 :: bk1 zf za zi zm zd zv zt zr zh zj zp zn zab zw zu zz zaa zo zc ze zq zs zb zx zy zg zk zl po)) rfl ?_
      by_cases hc225 : (v1 - zg) < zl
      · simp only [if_pos hc225] at h
        refine OEnds.icmpF hm_33 rfl ((tlt hc225).2.1) ?_
        refine OEnds.adv hm_33 2 (pc' := 39) (L' := [qr 17, qi v1, qi (v1 - zg)]) (S' := [.int 8, .int (v1 - zg)]) (H' := (c0 :: c1 :: c2 :: c3 :: c4 :: c5 :: c6 :: c7 :: c8 :: c9 :: c10 :: c11 :: c12 :: c13 :: c14 :: c15 :: c16 :: bk1 zf za zi zm zd zv zt zr zh zj zp zn zab zw zu zz zaa zo zc ze zq zs zb zx zy zg zk zl po)) rfl ?_
        by_cases hc226 : (v1 - zg) < (8 : Int32)
        · simp only [if_pos hc226] at h
          refine OEnds.icmpF hm_33 rfl ((tlt hc226).2.1) ?_
          refine OEnds.adv hm_33 3 (pc' := 47) (L' := [qr 17, qi v1, qi (v1 - zg)]) (S' := [.int (v1 - zg), .ref 32]) (H' := (c0 :: c1 :: c2 :: c3 :: c4 :: c5 :: c6 :: c7 :: c8 :: c9 :: c10 :: c11 :: c12 :: c13 :: c14 :: c15 :: c16 :: bk1 zf za zi zm zd zv zt zr zh zj zp zn zab zw zu zz zaa zo zc ze zq zs zb zx zy zg zk zl po)) rfl ?_
          obtain ⟨x126, hx126, h⟩ := bnd h
          refine OEnds.plain hm_33 rfl rfl (x_iaload rfl hx126) ?_
          show OEnds own_P 33 48 [qr 17, qi v1, qi (v1 - zg)] [.int x126] (c0 :: c1 :: c2 :: c3 :: c4 :: c5 :: c6 :: c7 :: c8 :: c9 :: c10 :: c11 :: c12 :: c13 :: c14 :: c15 :: c16 :: bk1 zf za zi zm zd zv zt zr zh zj zp zn zab zw zu zz zaa zo zc ze zq zs zb zx zy zg zk zl po) _
          cases h
          exact OEnds.iret hm_33 rfl rfl
        · simp only [if_neg hc226] at h
          refine OEnds.icmpT hm_33 rfl (q := 49) rfl ((flt hc226).2.1) ?_
          refine OEnds.adv hm_33 1 (pc' := 50) (L' := [qr 17, qi v1, qi (v1 - zg)]) (S' := [.int (-1)]) (H' := (c0 :: c1 :: c2 :: c3 :: c4 :: c5 :: c6 :: c7 :: c8 :: c9 :: c10 :: c11 :: c12 :: c13 :: c14 :: c15 :: c16 :: bk1 zf za zi zm zd zv zt zr zh zj zp zn zab zw zu zz zaa zo zc ze zq zs zb zx zy zg zk zl po)) rfl ?_
          cases h
          exact OEnds.iret hm_33 rfl rfl
      · simp only [if_neg hc225] at h
        refine OEnds.icmpT hm_33 rfl (q := 49) rfl ((flt hc225).2.1) ?_
        refine OEnds.adv hm_33 1 (pc' := 50) (L' := [qr 17, qi v1, qi (v1 - zg)]) (S' := [.int (-1)]) (H' := (c0 :: c1 :: c2 :: c3 :: c4 :: c5 :: c6 :: c7 :: c8 :: c9 :: c10 :: c11 :: c12 :: c13 :: c14 :: c15 :: c16 :: bk1 zf za zi zm zd zv zt zr zh zj zp zn zab zw zu zz zaa zo zc ze zq zs zb zx zy zg zk zl po)) rfl ?_
        cases h
        exact OEnds.iret hm_33 rfl rfl
theorem ok_occurrenceMask_0 {zf za zi zm zd zv zt zr zh zj zp zn zab zw zu : List Int32} {zz zaa zo zc ze zq zs zb zx zy zg zk zl : Int32} {c0 : ACell} {po : List ACell} {v1 res : Int32} (h : f_occurrenceMask zab zb v1 = some res) : OEnds own_P 34 0 [qr 1, qi v1] [] (c0 :: bk0 zf za zi zm zd zv zt zr zh zj zp zn zab zw zu zz zaa zo zc ze zq zs zb zx zy zg zk zl po) (some (.int res), (c0 :: bk0 zf za zi zm zd zv zt zr zh zj zp zn zab zw zu zz zaa zo zc ze zq zs zb zx zy zg zk zl po), 0, 0) := by
  unfold f_occurrenceMask at h
  refine OEnds.adv hm_34 1 (pc' := 1) (L' := [qr 1, qi v1]) (S' := [.int v1]) (H' := (c0 :: bk0 zf za zi zm zd zv zt zr zh zj zp zn zab zw zu zz zaa zo zc ze zq zs zb zx zy zg zk zl po)) rfl ?_
  by_cases hc227 : v1 < (0 : Int32)
  · simp only [if_pos hc227] at h
    refine OEnds.ifT hm_34 rfl (q := 12) rfl ((tlt hc227).1) ?_
    refine OEnds.adv hm_34 1 (pc' := 13) (L' := [qr 1, qi v1]) (S' := [.int (-1)]) (H' := (c0 :: bk0 zf za zi zm zd zv zt zr zh zj zp zn zab zw zu zz zaa zo zc ze zq zs zb zx zy zg zk zl po)) rfl ?_
    cases h
    exact OEnds.iret hm_34 rfl rfl
  · simp only [if_neg hc227] at h
    refine OEnds.ifF hm_34 rfl ((flt hc227).1) ?_
    refine OEnds.adv hm_34 3 (pc' := 9) (L' := [qr 1, qi v1]) (S' := [.int zb, .int v1]) (H' := (c0 :: bk0 zf za zi zm zd zv zt zr zh zj zp zn zab zw zu zz zaa zo zc ze zq zs zb zx zy zg zk zl po)) rfl ?_
    by_cases hc228 : v1 < zb
    · simp only [if_pos hc228] at h
      refine OEnds.icmpT hm_34 rfl (q := 14) rfl ((tlt hc228).1) ?_
      refine OEnds.adv hm_34 3 (pc' := 19) (L' := [qr 1, qi v1]) (S' := [.int v1, .ref 14]) (H' := (c0 :: bk0 zf za zi zm zd zv zt zr zh zj zp zn zab zw zu zz zaa zo zc ze zq zs zb zx zy zg zk zl po)) rfl ?_
      obtain ⟨x128, hx128, h⟩ := bnd h
      refine OEnds.plain hm_34 rfl rfl (x_iaload rfl hx128) ?_
      show OEnds own_P 34 20 [qr 1, qi v1] [.int x128] (c0 :: bk0 zf za zi zm zd zv zt zr zh zj zp zn zab zw zu zz zaa zo zc ze zq zs zb zx zy zg zk zl po) _
      cases h
      exact OEnds.iret hm_34 rfl rfl
    · simp only [if_neg hc228] at h
      refine OEnds.icmpF hm_34 rfl ((flt hc228).1) ?_
      refine OEnds.adv hm_34 1 (pc' := 13) (L' := [qr 1, qi v1]) (S' := [.int (-1)]) (H' := (c0 :: bk0 zf za zi zm zd zv zt zr zh zj zp zn zab zw zu zz zaa zo zc ze zq zs zb zx zy zg zk zl po)) rfl ?_
      cases h
      exact OEnds.iret hm_34 rfl rfl
theorem ok_occurrenceMask_1 {zf za zi zm zd zv zt zr zh zj zp zn zab zw zu : List Int32} {zz zaa zo zc ze zq zs zb zx zy zg zk zl : Int32} {c0 c1 c2 c3 c4 c5 c6 c7 c8 c9 c10 c11 c12 c13 c14 c15 c16 : ACell} {po : List ACell} {v1 res : Int32} (h : f_occurrenceMask zab zb v1 = some res) : OEnds own_P 34 0 [qr 17, qi v1] [] (c0 :: c1 :: c2 :: c3 :: c4 :: c5 :: c6 :: c7 :: c8 :: c9 :: c10 :: c11 :: c12 :: c13 :: c14 :: c15 :: c16 :: bk1 zf za zi zm zd zv zt zr zh zj zp zn zab zw zu zz zaa zo zc ze zq zs zb zx zy zg zk zl po) (some (.int res), (c0 :: c1 :: c2 :: c3 :: c4 :: c5 :: c6 :: c7 :: c8 :: c9 :: c10 :: c11 :: c12 :: c13 :: c14 :: c15 :: c16 :: bk1 zf za zi zm zd zv zt zr zh zj zp zn zab zw zu zz zaa zo zc ze zq zs zb zx zy zg zk zl po), 0, 0) := by
  unfold f_occurrenceMask at h
  refine OEnds.adv hm_34 1 (pc' := 1) (L' := [qr 17, qi v1]) (S' := [.int v1]) (H' := (c0 :: c1 :: c2 :: c3 :: c4 :: c5 :: c6 :: c7 :: c8 :: c9 :: c10 :: c11 :: c12 :: c13 :: c14 :: c15 :: c16 :: bk1 zf za zi zm zd zv zt zr zh zj zp zn zab zw zu zz zaa zo zc ze zq zs zb zx zy zg zk zl po)) rfl ?_
  by_cases hc229 : v1 < (0 : Int32)
  · simp only [if_pos hc229] at h
    refine OEnds.ifT hm_34 rfl (q := 12) rfl ((tlt hc229).1) ?_
    refine OEnds.adv hm_34 1 (pc' := 13) (L' := [qr 17, qi v1]) (S' := [.int (-1)]) (H' := (c0 :: c1 :: c2 :: c3 :: c4 :: c5 :: c6 :: c7 :: c8 :: c9 :: c10 :: c11 :: c12 :: c13 :: c14 :: c15 :: c16 :: bk1 zf za zi zm zd zv zt zr zh zj zp zn zab zw zu zz zaa zo zc ze zq zs zb zx zy zg zk zl po)) rfl ?_
    cases h
    exact OEnds.iret hm_34 rfl rfl
  · simp only [if_neg hc229] at h
    refine OEnds.ifF hm_34 rfl ((flt hc229).1) ?_
    refine OEnds.adv hm_34 3 (pc' := 9) (L' := [qr 17, qi v1]) (S' := [.int zb, .int v1]) (H' := (c0 :: c1 :: c2 :: c3 :: c4 :: c5 :: c6 :: c7 :: c8 :: c9 :: c10 :: c11 :: c12 :: c13 :: c14 :: c15 :: c16 :: bk1 zf za zi zm zd zv zt zr zh zj zp zn zab zw zu zz zaa zo zc ze zq zs zb zx zy zg zk zl po)) rfl ?_
    by_cases hc230 : v1 < zb
    · simp only [if_pos hc230] at h
      refine OEnds.icmpT hm_34 rfl (q := 14) rfl ((tlt hc230).1) ?_
      refine OEnds.adv hm_34 3 (pc' := 19) (L' := [qr 17, qi v1]) (S' := [.int v1, .ref 30]) (H' := (c0 :: c1 :: c2 :: c3 :: c4 :: c5 :: c6 :: c7 :: c8 :: c9 :: c10 :: c11 :: c12 :: c13 :: c14 :: c15 :: c16 :: bk1 zf za zi zm zd zv zt zr zh zj zp zn zab zw zu zz zaa zo zc ze zq zs zb zx zy zg zk zl po)) rfl ?_
      obtain ⟨x128, hx128, h⟩ := bnd h
      refine OEnds.plain hm_34 rfl rfl (x_iaload rfl hx128) ?_
      show OEnds own_P 34 20 [qr 17, qi v1] [.int x128] (c0 :: c1 :: c2 :: c3 :: c4 :: c5 :: c6 :: c7 :: c8 :: c9 :: c10 :: c11 :: c12 :: c13 :: c14 :: c15 :: c16 :: bk1 zf za zi zm zd zv zt zr zh zj zp zn zab zw zu zz zaa zo zc ze zq zs zb zx zy zg zk zl po) _
      cases h
      exact OEnds.iret hm_34 rfl rfl
    · simp only [if_neg hc230] at h
      refine OEnds.icmpF hm_34 rfl ((flt hc230).1) ?_
      refine OEnds.adv hm_34 1 (pc' := 13) (L' := [qr 17, qi v1]) (S' := [.int (-1)]) (H' := (c0 :: c1 :: c2 :: c3 :: c4 :: c5 :: c6 :: c7 :: c8 :: c9 :: c10 :: c11 :: c12 :: c13 :: c14 :: c15 :: c16 :: bk1 zf za zi zm zd zv zt zr zh zj zp zn zab zw zu zz zaa zo zc ze zq zs zb zx zy zg zk zl po)) rfl ?_
      cases h
      exact OEnds.iret hm_34 rfl rfl
theorem ok_L_law_435 {scr : List Int32} : ∀ (n : Nat), ∀ {zad : List Int32} {zac : Int32} {zbe : List Int32} {zbf v4 v6 zat zau zas zam zar zbc zaz zaj zak zag zbd zah : Int32} {zao zan zap zaq zav zaw zba zai zax zay zbb zal zae zaf : List Int32} {zcd zce zbp zbi zcc zcb zbw zbm zbn zbj zby zbk : Int32} {zbx zbo zbq zcf zbr zbs zbz zbl zbt zbu zca zbv zbg zbh : List Int32} {d0 d3 d5 d7 : Slot} {res : Int32}, f_L_law_435 scr n zad zac zbe zbf v4 v6 = some res → OEndsQ own_P 0 435 [d0, qr 1, qr 17, d3, qi v4, d5, qi v6, d7] [] (qa scr :: bk0 zao zan zap zaq zav zaw zba zai zax zay zbb zal zad zae zaf zat zau zas zam zar zbc zaz zac zaj zak zag zbd zah (bk1 zbx zbo zbq zcf zbr zbs zbz zbl zbt zbu zca zbv zbe zbg zbh zcd zce zbp zbi zcc zcb zbw zbf zbm zbn zbj zby zbk [])) (LawQ res 0 0) := by
  intro n
  induction n with
  | zero => intro zad zac zbe zbf v4 v6 zat zau zas zam zar zbc zaz zaj zak zag zbd zah zao zan zap zaq zav zaw zba zai zax zay zbb zal zae zaf zcd zce zbp zbi zcc zcb zbw zbm zbn zbj zby zbk zbx zbo zbq zcf zbr zbs zbz zbl zbt zbu zca zbv zbg zbh d0 d3 d5 d7 res h; cases h
  | succ n ih =>
    intro zad zac zbe zbf v4 v6 zat zau zas zam zar zbc zaz zaj zak zag zbd zah zao zan zap zaq zav zaw zba zai zax zay zbb zal zae zaf zcd zce zbp zbi zcc zcb zbw zbm zbn zbj zby zbk zbx zbo zbq zcf zbr zbs zbz zbl zbt zbu zca zbv zbg zbh d0 d3 d5 d7 res h
    unfold f_L_law_435 at h
    refine OEndsQ.adv hm_0 2 (pc' := 440) (L' := [qu, qr 1, qr 17, qu, qi v4, qu, qi v6, qu]) (S' := [.int 240, .int v6]) (H' := (qa scr :: bk0 zao zan zap zaq zav zaw zba zai zax zay zbb zal zad zae zaf zat zau zas zam zar zbc zaz zac zaj zak zag zbd zah (bk1 zbx zbo zbq zcf zbr zbs zbz zbl zbt zbu zca zbv zbe zbg zbh zcd zce zbp zbi zcc zcb zbw zbf zbm zbn zbj zby zbk []))) rfl ?_
    by_cases hc231 : v6 < (240 : Int32)
    · simp only [if_pos hc231] at h
      refine OEndsQ.icmpF hm_0 rfl ((tlt hc231).2.1) ?_
      refine OEndsQ.adv hm_0 2 (pc' := 447) (L' := [qu, qr 1, qr 17, qu, qi v4, qu, qi v6, qu]) (S' := [.int v4, .int v6]) (H' := (qa scr :: bk0 zao zan zap zaq zav zaw zba zai zax zay zbb zal zad zae zaf zat zau zas zam zar zbc zaz zac zaj zak zag zbd zah (bk1 zbx zbo zbq zcf zbr zbs zbz zbl zbt zbu zca zbv zbe zbg zbh zcd zce zbp zbi zcc zcb zbw zbf zbm zbn zbj zby zbk []))) rfl ?_
      by_cases hc232 : v6 < v4
      · simp only [if_pos hc232] at h
        refine OEndsQ.icmpF hm_0 rfl ((tlt hc232).2.1) ?_
        refine OEndsQ.adv hm_0 2 (pc' := 453) (L' := [qu, qr 1, qr 17, qu, qi v4, qu, qi v6, qu]) (S' := [.int v6, .ref 1]) (H' := (qa scr :: bk0 zao zan zap zaq zav zaw zba zai zax zay zbb zal zad zae zaf zat zau zas zam zar zbc zaz zac zaj zak zag zbd zah (bk1 zbx zbo zbq zcf zbr zbs zbz zbl zbt zbu zca zbv zbe zbg zbh zcd zce zbp zbi zcc zcb zbw zbf zbm zbn zbj zby zbk []))) rfl ?_
        obtain ⟨r285, hq233, h⟩ := bnd h
        refine OEndsQ.call0 hm_0 rfl rfl (by decide) rfl (as := [.ref 1, .int v6]) (rest := []) rfl rfl (ok_occurrenceMask_0 hq233) ?_
        refine OEndsQ.adv hm_0 3 (pc' := 461) (L' := [qu, qr 1, qr 17, qu, qi v4, qu, qi v6, qi r285]) (S' := [.int v6, .ref 17]) (H' := (qa scr :: bk0 zao zan zap zaq zav zaw zba zai zax zay zbb zal zad zae zaf zat zau zas zam zar zbc zaz zac zaj zak zag zbd zah (bk1 zbx zbo zbq zcf zbr zbs zbz zbl zbt zbu zca zbv zbe zbg zbh zcd zce zbp zbi zcc zcb zbw zbf zbm zbn zbj zby zbk []))) rfl ?_
        obtain ⟨r286, hq234, h⟩ := bnd h
        refine OEndsQ.call0 hm_0 rfl rfl (by decide) rfl (as := [.ref 17, .int v6]) (rest := []) rfl rfl (ok_occurrenceMask_1 hq234) ?_
        refine OEndsQ.adv hm_0 1 (pc' := 466) (L' := [qu, qr 1, qr 17, qu, qi v4, qu, qi v6, qi r285]) (S' := [.int r285, .int r286]) (H' := (qa scr :: bk0 zao zan zap zaq zav zaw zba zai zax zay zbb zal zad zae zaf zat zau zas zam zar zbc zaz zac zaj zak zag zbd zah (bk1 zbx zbo zbq zcf zbr zbs zbz zbl zbt zbu zca zbv zbe zbg zbh zcd zce zbp zbi zcc zcb zbw zbf zbm zbn zbj zby zbk []))) rfl ?_
        by_cases hc235 : r286 = r285
        · simp only [if_pos hc235] at h
          refine OEndsQ.icmpT hm_0 rfl (q := 471) rfl ((teq hc235).1) ?_
          refine OEndsQ.adv hm_0 2 (pc' := 435) (L' := [qu, qr 1, qr 17, qu, qi v4, qu, qi (v6 + (1 : Int32)), qi r285]) (S' := []) (H' := (qa scr :: bk0 zao zan zap zaq zav zaw zba zai zax zay zbb zal zad zae zaf zat zau zas zam zar zbc zaz zac zaj zak zag zbd zah (bk1 zbx zbo zbq zcf zbr zbs zbz zbl zbt zbu zca zbv zbe zbg zbh zcd zce zbp zbi zcc zcb zbw zbf zbm zbn zbj zby zbk []))) rfl ?_
          exact ih h
        · simp only [if_neg hc235] at h
          refine OEndsQ.icmpF hm_0 rfl ((feq hc235).1) ?_
          refine OEndsQ.adv hm_0 1 (pc' := 470) (L' := [qu, qr 1, qr 17, qu, qi v4, qu, qi v6, qi r285]) (S' := [.int 0]) (H' := (qa scr :: bk0 zao zan zap zaq zav zaw zba zai zax zay zbb zal zad zae zaf zat zau zas zam zar zbc zaz zac zaj zak zag zbd zah (bk1 zbx zbo zbq zcf zbr zbs zbz zbl zbt zbu zca zbv zbe zbg zbh zcd zce zbp zbi zcc zcb zbw zbf zbm zbn zbj zby zbk []))) rfl ?_
          cases h
          exact OEndsQ.iret hm_0 rfl rfl
      · simp only [if_neg hc232] at h
        refine OEndsQ.icmpT hm_0 rfl (q := 477) rfl ((flt hc232).2.1) ?_
        refine OEndsQ.adv hm_0 1 (pc' := 478) (L' := [qu, qr 1, qr 17, qu, qi v4, qu, qi v6, qu]) (S' := [.int 1]) (H' := (qa scr :: bk0 zao zan zap zaq zav zaw zba zai zax zay zbb zal zad zae zaf zat zau zas zam zar zbc zaz zac zaj zak zag zbd zah (bk1 zbx zbo zbq zcf zbr zbs zbz zbl zbt zbu zca zbv zbe zbg zbh zcd zce zbp zbi zcc zcb zbw zbf zbm zbn zbj zby zbk []))) rfl ?_
        cases h
        exact OEndsQ.iret hm_0 rfl rfl
    · simp only [if_neg hc231] at h
      refine OEndsQ.icmpT hm_0 rfl (q := 477) rfl ((flt hc231).2.1) ?_
      refine OEndsQ.adv hm_0 1 (pc' := 478) (L' := [qu, qr 1, qr 17, qu, qi v4, qu, qi v6, qu]) (S' := [.int 1]) (H' := (qa scr :: bk0 zao zan zap zaq zav zaw zba zai zax zay zbb zal zad zae zaf zat zau zas zam zar zbc zaz zac zaj zak zag zbd zah (bk1 zbx zbo zbq zcf zbr zbs zbz zbl zbt zbu zca zbv zbe zbg zbh zcd zce zbp zbi zcc zcb zbw zbf zbm zbn zbj zby zbk []))) rfl ?_
      cases h
      exact OEndsQ.iret hm_0 rfl rfl
theorem ok_L_law_390 {scr : List Int32} {k435 : List Int32 → Int32 → List Int32 → Int32 → Int32 → Int32 → Option (Int32)} (hk435 : ∀ {zad : List Int32} {zac : Int32} {zbe : List Int32} {zbf v4 v6 zat zau zas zam zar zbc zaz zaj zak zag zbd zah : Int32} {zao zan zap zaq zav zaw zba zai zax zay zbb zal zae zaf : List Int32} {zcd zce zbp zbi zcc zcb zbw zbm zbn zbj zby zbk : Int32} {zbx zbo zbq zcf zbr zbs zbz zbl zbt zbu zca zbv zbg zbh : List Int32} {d0 d3 d5 d7 : Slot} {res : Int32}, k435 zad zac zbe zbf v4 v6 = some res → OEndsQ own_P 0 435 [d0, qr 1, qr 17, d3, qi v4, d5, qi v6, d7] [] (qa scr :: bk0 zao zan zap zaq zav zaw zba zai zax zay zbb zal zad zae zaf zat zau zas zam zar zbc zaz zac zaj zak zag zbd zah (bk1 zbx zbo zbq zcf zbr zbs zbz zbl zbt zbu zca zbv zbe zbg zbh zcd zce zbp zbi zcc zcb zbw zbf zbm zbn zbj zby zbk [])) (LawQ res 0 0)) : ∀ (n : Nat), ∀ {zad zae zaf : List Int32} {zac zag zah : Int32} {zbe zbg zbh : List Int32} {zbf zbj zbk v4 v5 v6 zat zau zas zam zar zbc zaz zaj zak zbd : Int32} {zao zan zap zaq zav zaw zba zai zax zay zbb zal : List Int32} {zcd zce zbp zbi zcc zcb zbw zbm zbn zby : Int32} {zbx zbo zbq zcf zbr zbs zbz zbl zbt zbu zca zbv : List Int32} {d0 d3 d7 : Slot} {res : Int32}, f_L_law_390 k435 scr n zad zae zaf zac zag zah zbe zbg zbh zbf zbj zbk v4 v5 v6 = some res → OEndsQ own_P 0 390 [d0, qr 1, qr 17, d3, qi v4, qi v5, qi v6, d7] [] (qa scr :: bk0 zao zan zap zaq zav zaw zba zai zax zay zbb zal zad zae zaf zat zau zas zam zar zbc zaz zac zaj zak zag zbd zah (bk1 zbx zbo zbq zcf zbr zbs zbz zbl zbt zbu zca zbv zbe zbg zbh zcd zce zbp zbi zcc zcb zbw zbf zbm zbn zbj zby zbk [])) (LawQ res 0 0) := by
  intro n
  induction n with
  | zero => intro zad zae zaf zac zag zah zbe zbg zbh zbf zbj zbk v4 v5 v6 zat zau zas zam zar zbc zaz zaj zak zbd zao zan zap zaq zav zaw zba zai zax zay zbb zal zcd zce zbp zbi zcc zcb zbw zbm zbn zby zbx zbo zbq zcf zbr zbs zbz zbl zbt zbu zca zbv d0 d3 d7 res h; cases h
  | succ n ih =>
    intro zad zae zaf zac zag zah zbe zbg zbh zbf zbj zbk v4 v5 v6 zat zau zas zam zar zbc zaz zaj zak zbd zao zan zap zaq zav zaw zba zai zax zay zbb zal zcd zce zbp zbi zcc zcb zbw zbm zbn zby zbx zbo zbq zcf zbr zbs zbz zbl zbt zbu zca zbv d0 d3 d7 res h
    unfold f_L_law_390 at h
    refine OEndsQ.adv hm_0 2 (pc' := 395) (L' := [qu, qr 1, qr 17, qu, qi v4, qi v5, qi v6, qu]) (S' := [.int 240, .int v6]) (H' := (qa scr :: bk0 zao zan zap zaq zav zaw zba zai zax zay zbb zal zad zae zaf zat zau zas zam zar zbc zaz zac zaj zak zag zbd zah (bk1 zbx zbo zbq zcf zbr zbs zbz zbl zbt zbu zca zbv zbe zbg zbh zcd zce zbp zbi zcc zcb zbw zbf zbm zbn zbj zby zbk []))) rfl ?_
    by_cases hc236 : v6 < (240 : Int32)
    · simp only [if_pos hc236] at h
      refine OEndsQ.icmpF hm_0 rfl ((tlt hc236).2.1) ?_
      refine OEndsQ.adv hm_0 2 (pc' := 402) (L' := [qu, qr 1, qr 17, qu, qi v4, qi v5, qi v6, qu]) (S' := [.int v5, .int v6]) (H' := (qa scr :: bk0 zao zan zap zaq zav zaw zba zai zax zay zbb zal zad zae zaf zat zau zas zam zar zbc zaz zac zaj zak zag zbd zah (bk1 zbx zbo zbq zcf zbr zbs zbz zbl zbt zbu zca zbv zbe zbg zbh zcd zce zbp zbi zcc zcb zbw zbf zbm zbn zbj zby zbk []))) rfl ?_
      by_cases hc237 : v6 < v5
      · simp only [if_pos hc237] at h
        refine OEndsQ.icmpF hm_0 rfl ((tlt hc237).2.1) ?_
        refine OEndsQ.adv hm_0 2 (pc' := 408) (L' := [qu, qr 1, qr 17, qu, qi v4, qi v5, qi v6, qu]) (S' := [.int v6, .ref 1]) (H' := (qa scr :: bk0 zao zan zap zaq zav zaw zba zai zax zay zbb zal zad zae zaf zat zau zas zam zar zbc zaz zac zaj zak zag zbd zah (bk1 zbx zbo zbq zcf zbr zbs zbz zbl zbt zbu zca zbv zbe zbg zbh zcd zce zbp zbi zcc zcb zbw zbf zbm zbn zbj zby zbk []))) rfl ?_
        obtain ⟨r283, hq238, h⟩ := bnd h
        refine OEndsQ.call0 hm_0 rfl rfl (by decide) rfl (as := [.ref 1, .int v6]) (rest := []) rfl rfl (ok_outChar_0 hq238) ?_
        refine OEndsQ.adv hm_0 3 (pc' := 416) (L' := [qu, qr 1, qr 17, qu, qi v4, qi v5, qi v6, qi r283]) (S' := [.int v6, .ref 17]) (H' := (qa scr :: bk0 zao zan zap zaq zav zaw zba zai zax zay zbb zal zad zae zaf zat zau zas zam zar zbc zaz zac zaj zak zag zbd zah (bk1 zbx zbo zbq zcf zbr zbs zbz zbl zbt zbu zca zbv zbe zbg zbh zcd zce zbp zbi zcc zcb zbw zbf zbm zbn zbj zby zbk []))) rfl ?_
        obtain ⟨r284, hq239, h⟩ := bnd h
        refine OEndsQ.call0 hm_0 rfl rfl (by decide) rfl (as := [.ref 17, .int v6]) (rest := []) rfl rfl (ok_outChar_1 hq239) ?_
        refine OEndsQ.adv hm_0 1 (pc' := 421) (L' := [qu, qr 1, qr 17, qu, qi v4, qi v5, qi v6, qi r283]) (S' := [.int r283, .int r284]) (H' := (qa scr :: bk0 zao zan zap zaq zav zaw zba zai zax zay zbb zal zad zae zaf zat zau zas zam zar zbc zaz zac zaj zak zag zbd zah (bk1 zbx zbo zbq zcf zbr zbs zbz zbl zbt zbu zca zbv zbe zbg zbh zcd zce zbp zbi zcc zcb zbw zbf zbm zbn zbj zby zbk []))) rfl ?_
        by_cases hc240 : r284 = r283
        · simp only [if_pos hc240] at h
          refine OEndsQ.icmpT hm_0 rfl (q := 426) rfl ((teq hc240).1) ?_
          refine OEndsQ.adv hm_0 2 (pc' := 390) (L' := [qu, qr 1, qr 17, qu, qi v4, qi v5, qi (v6 + (1 : Int32)), qi r283]) (S' := []) (H' := (qa scr :: bk0 zao zan zap zaq zav zaw zba zai zax zay zbb zal zad zae zaf zat zau zas zam zar zbc zaz zac zaj zak zag zbd zah (bk1 zbx zbo zbq zcf zbr zbs zbz zbl zbt zbu zca zbv zbe zbg zbh zcd zce zbp zbi zcc zcb zbw zbf zbm zbn zbj zby zbk []))) rfl ?_
          exact ih h
        · simp only [if_neg hc240] at h
          refine OEndsQ.icmpF hm_0 rfl ((feq hc240).1) ?_
          refine OEndsQ.adv hm_0 1 (pc' := 425) (L' := [qu, qr 1, qr 17, qu, qi v4, qi v5, qi v6, qi r283]) (S' := [.int 0]) (H' := (qa scr :: bk0 zao zan zap zaq zav zaw zba zai zax zay zbb zal zad zae zaf zat zau zas zam zar zbc zaz zac zaj zak zag zbd zah (bk1 zbx zbo zbq zcf zbr zbs zbz zbl zbt zbu zca zbv zbe zbg zbh zcd zce zbp zbi zcc zcb zbw zbf zbm zbn zbj zby zbk []))) rfl ?_
          cases h
          exact OEndsQ.iret hm_0 rfl rfl
      · simp only [if_neg hc237] at h
        refine OEndsQ.icmpT hm_0 rfl (q := 432) rfl ((flt hc237).2.1) ?_
        refine OEndsQ.adv hm_0 2 (pc' := 435) (L' := [qu, qr 1, qr 17, qu, qi v4, qi v5, qi 0, qu]) (S' := []) (H' := (qa scr :: bk0 zao zan zap zaq zav zaw zba zai zax zay zbb zal zad zae zaf zat zau zas zam zar zbc zaz zac zaj zak zag zbd zah (bk1 zbx zbo zbq zcf zbr zbs zbz zbl zbt zbu zca zbv zbe zbg zbh zcd zce zbp zbi zcc zcb zbw zbf zbm zbn zbj zby zbk []))) rfl ?_
        exact hk435 h
    · simp only [if_neg hc236] at h
      refine OEndsQ.icmpT hm_0 rfl (q := 432) rfl ((flt hc236).2.1) ?_
      refine OEndsQ.adv hm_0 2 (pc' := 435) (L' := [qu, qr 1, qr 17, qu, qi v4, qi v5, qi 0, qu]) (S' := []) (H' := (qa scr :: bk0 zao zan zap zaq zav zaw zba zai zax zay zbb zal zad zae zaf zat zau zas zam zar zbc zaz zac zaj zak zag zbd zah (bk1 zbx zbo zbq zcf zbr zbs zbz zbl zbt zbu zca zbv zbe zbg zbh zcd zce zbp zbi zcc zcb zbw zbf zbm zbn zbj zby zbk []))) rfl ?_
      exact hk435 h
theorem ok_L_law_323 {scr : List Int32} : ∀ {zai zad zae zaf : List Int32} {zac zaj zak zag zah : Int32} {zbl zbe zbg zbh : List Int32} {zbi zbf zbm zbn zbj zbk v3 v4 zat zau zas zam zar zbc zaz zbd : Int32} {zao zan zap zaq zav zaw zba zax zay zbb zal : List Int32} {zcd zce zbp zcc zcb zbw zby : Int32} {zbx zbo zbq zcf zbr zbs zbz zbt zbu zca zbv : List Int32} {d0 d5 d6 d7 : Slot} {res : Int32}, f_L_law_323 scr zai zad zae zaf zac zaj zak zag zah zbl zbe zbg zbh zbi zbf zbm zbn zbj zbk v3 v4 = some res → OEndsQ own_P 0 323 [d0, qr 1, qr 17, qi v3, qi v4, d5, d6, d7] [] (qa scr :: bk0 zao zan zap zaq zav zaw zba zai zax zay zbb zal zad zae zaf zat zau zas zam zar zbc zaz zac zaj zak zag zbd zah (bk1 zbx zbo zbq zcf zbr zbs zbz zbl zbt zbu zca zbv zbe zbg zbh zcd zce zbp zbi zcc zcb zbw zbf zbm zbn zbj zby zbk [])) (LawQ res 0 0) := by
  intro zai zad zae zaf zac zaj zak zag zah zbl zbe zbg zbh zbi zbf zbm zbn zbj zbk v3 v4 zat zau zas zam zar zbc zaz zbd zao zan zap zaq zav zaw zba zax zay zbb zal zcd zce zbp zcc zcb zbw zby zbx zbo zbq zcf zbr zbs zbz zbt zbu zca zbv d0 d5 d6 d7 res h
  unfold f_L_law_323 at h
  refine OEndsQ.adv hm_0 1 (pc' := 324) (L' := [qu, qr 1, qr 17, qi v3, qi v4, qu, qu, qu]) (S' := [.ref 17]) (H' := (qa scr :: bk0 zao zan zap zaq zav zaw zba zai zax zay zbb zal zad zae zaf zat zau zas zam zar zbc zaz zac zaj zak zag zbd zah (bk1 zbx zbo zbq zcf zbr zbs zbz zbl zbt zbu zca zbv zbe zbg zbh zcd zce zbp zbi zcc zcb zbw zbf zbm zbn zbj zby zbk []))) rfl ?_
  obtain ⟨r275, hq241, h⟩ := bnd h
  refine OEndsQ.call0 hm_0 rfl rfl (by decide) rfl (as := [.ref 17]) (rest := []) rfl rfl (ok_keywordCount_1 hq241) ?_
  refine OEndsQ.adv hm_0 1 (pc' := 328) (L' := [qu, qr 1, qr 17, qi v3, qi v4, qu, qu, qu]) (S' := [.int v3, .int r275]) (H' := (qa scr :: bk0 zao zan zap zaq zav zaw zba zai zax zay zbb zal zad zae zaf zat zau zas zam zar zbc zaz zac zaj zak zag zbd zah (bk1 zbx zbo zbq zcf zbr zbs zbz zbl zbt zbu zca zbv zbe zbg zbh zcd zce zbp zbi zcc zcb zbw zbf zbm zbn zbj zby zbk []))) rfl ?_
  by_cases hc242 : r275 = v3
  · simp only [if_pos hc242] at h
    refine OEndsQ.icmpT hm_0 rfl (q := 333) rfl ((teq hc242).1) ?_
    refine OEndsQ.adv hm_0 1 (pc' := 334) (L' := [qu, qr 1, qr 17, qi v3, qi v4, qu, qu, qu]) (S' := [.ref 17]) (H' := (qa scr :: bk0 zao zan zap zaq zav zaw zba zai zax zay zbb zal zad zae zaf zat zau zas zam zar zbc zaz zac zaj zak zag zbd zah (bk1 zbx zbo zbq zcf zbr zbs zbz zbl zbt zbu zca zbv zbe zbg zbh zcd zce zbp zbi zcc zcb zbw zbf zbm zbn zbj zby zbk []))) rfl ?_
    obtain ⟨r276, hq243, h⟩ := bnd h
    refine OEndsQ.call0 hm_0 rfl rfl (by decide) rfl (as := [.ref 17]) (rest := []) rfl rfl (ok_textLength_1 hq243) ?_
    refine OEndsQ.adv hm_0 1 (pc' := 339) (L' := [qu, qr 1, qr 17, qi v3, qi v4, qu, qu, qu]) (S' := [.int v4, .int r276]) (H' := (qa scr :: bk0 zao zan zap zaq zav zaw zba zai zax zay zbb zal zad zae zaf zat zau zas zam zar zbc zaz zac zaj zak zag zbd zah (bk1 zbx zbo zbq zcf zbr zbs zbz zbl zbt zbu zca zbv zbe zbg zbh zcd zce zbp zbi zcc zcb zbw zbf zbm zbn zbj zby zbk []))) rfl ?_
    by_cases hc244 : r276 = v4
    · simp only [if_pos hc244] at h
      refine OEndsQ.icmpT hm_0 rfl (q := 344) rfl ((teq hc244).1) ?_
      refine OEndsQ.adv hm_0 1 (pc' := 345) (L' := [qu, qr 1, qr 17, qi v3, qi v4, qu, qu, qu]) (S' := [.ref 17]) (H' := (qa scr :: bk0 zao zan zap zaq zav zaw zba zai zax zay zbb zal zad zae zaf zat zau zas zam zar zbc zaz zac zaj zak zag zbd zah (bk1 zbx zbo zbq zcf zbr zbs zbz zbl zbt zbu zca zbv zbe zbg zbh zcd zce zbp zbi zcc zcb zbw zbf zbm zbn zbj zby zbk []))) rfl ?_
      obtain ⟨r277, hq245, h⟩ := bnd h
      refine OEndsQ.call0 hm_0 rfl rfl (by decide) rfl (as := [.ref 17]) (rest := []) rfl rfl (ok_totalOccurrences_1 hq245) ?_
      refine OEndsQ.adv hm_0 1 (pc' := 349) (L' := [qu, qr 1, qr 17, qi v3, qi v4, qu, qu, qu]) (S' := [.ref 1, .int r277]) (H' := (qa scr :: bk0 zao zan zap zaq zav zaw zba zai zax zay zbb zal zad zae zaf zat zau zas zam zar zbc zaz zac zaj zak zag zbd zah (bk1 zbx zbo zbq zcf zbr zbs zbz zbl zbt zbu zca zbv zbe zbg zbh zcd zce zbp zbi zcc zcb zbw zbf zbm zbn zbj zby zbk []))) rfl ?_
      obtain ⟨r278, hq246, h⟩ := bnd h
      refine OEndsQ.call0 hm_0 rfl rfl (by decide) rfl (as := [.ref 1]) (rest := [.int r277]) rfl rfl (ok_totalOccurrences_0 hq246) ?_
      show OEndsQ own_P 0 352 [qu, qr 1, qr 17, qi v3, qi v4, qu, qu, qu] [.int r278, .int r277] (qa scr :: bk0 zao zan zap zaq zav zaw zba zai zax zay zbb zal zad zae zaf zat zau zas zam zar zbc zaz zac zaj zak zag zbd zah (bk1 zbx zbo zbq zcf zbr zbs zbz zbl zbt zbu zca zbv zbe zbg zbh zcd zce zbp zbi zcc zcb zbw zbf zbm zbn zbj zby zbk [])) _
      by_cases hc247 : r277 = r278
      · simp only [if_pos hc247] at h
        refine OEndsQ.icmpT hm_0 rfl (q := 357) rfl ((teq hc247).1) ?_
        refine OEndsQ.adv hm_0 1 (pc' := 358) (L' := [qu, qr 1, qr 17, qi v3, qi v4, qu, qu, qu]) (S' := [.ref 17]) (H' := (qa scr :: bk0 zao zan zap zaq zav zaw zba zai zax zay zbb zal zad zae zaf zat zau zas zam zar zbc zaz zac zaj zak zag zbd zah (bk1 zbx zbo zbq zcf zbr zbs zbz zbl zbt zbu zca zbv zbe zbg zbh zcd zce zbp zbi zcc zcb zbw zbf zbm zbn zbj zby zbk []))) rfl ?_
        obtain ⟨r279, hq248, h⟩ := bnd h
        refine OEndsQ.call0 hm_0 rfl rfl (by decide) rfl (as := [.ref 17]) (rest := []) rfl rfl (ok_longestPartial_1 hq248) ?_
        refine OEndsQ.adv hm_0 1 (pc' := 362) (L' := [qu, qr 1, qr 17, qi v3, qi v4, qu, qu, qu]) (S' := [.ref 1, .int r279]) (H' := (qa scr :: bk0 zao zan zap zaq zav zaw zba zai zax zay zbb zal zad zae zaf zat zau zas zam zar zbc zaz zac zaj zak zag zbd zah (bk1 zbx zbo zbq zcf zbr zbs zbz zbl zbt zbu zca zbv zbe zbg zbh zcd zce zbp zbi zcc zcb zbw zbf zbm zbn zbj zby zbk []))) rfl ?_
        obtain ⟨r280, hq249, h⟩ := bnd h
        refine OEndsQ.call0 hm_0 rfl rfl (by decide) rfl (as := [.ref 1]) (rest := [.int r279]) rfl rfl (ok_longestPartial_0 hq249) ?_
        show OEndsQ own_P 0 365 [qu, qr 1, qr 17, qi v3, qi v4, qu, qu, qu] [.int r280, .int r279] (qa scr :: bk0 zao zan zap zaq zav zaw zba zai zax zay zbb zal zad zae zaf zat zau zas zam zar zbc zaz zac zaj zak zag zbd zah (bk1 zbx zbo zbq zcf zbr zbs zbz zbl zbt zbu zca zbv zbe zbg zbh zcd zce zbp zbi zcc zcb zbw zbf zbm zbn zbj zby zbk [])) _
        by_cases hc250 : r279 = r280
        · simp only [if_pos hc250] at h
          refine OEndsQ.icmpT hm_0 rfl (q := 370) rfl ((teq hc250).1) ?_
          refine OEndsQ.adv hm_0 1 (pc' := 371) (L' := [qu, qr 1, qr 17, qi v3, qi v4, qu, qu, qu]) (S' := [.ref 1]) (H' := (qa scr :: bk0 zao zan zap zaq zav zaw zba zai zax zay zbb zal zad zae zaf zat zau zas zam zar zbc zaz zac zaj zak zag zbd zah (bk1 zbx zbo zbq zcf zbr zbs zbz zbl zbt zbu zca zbv zbe zbg zbh zcd zce zbp zbi zcc zcb zbw zbf zbm zbn zbj zby zbk []))) rfl ?_
          obtain ⟨r281, hq251, h⟩ := bnd h
          refine OEndsQ.call0 hm_0 rfl rfl (by decide) rfl (as := [.ref 1]) (rest := []) rfl rfl (ok_outLength_0 hq251) ?_
          refine OEndsQ.adv hm_0 2 (pc' := 377) (L' := [qu, qr 1, qr 17, qi v3, qi v4, qi r281, qu, qu]) (S' := [.ref 17]) (H' := (qa scr :: bk0 zao zan zap zaq zav zaw zba zai zax zay zbb zal zad zae zaf zat zau zas zam zar zbc zaz zac zaj zak zag zbd zah (bk1 zbx zbo zbq zcf zbr zbs zbz zbl zbt zbu zca zbv zbe zbg zbh zcd zce zbp zbi zcc zcb zbw zbf zbm zbn zbj zby zbk []))) rfl ?_
          obtain ⟨r282, hq252, h⟩ := bnd h
          refine OEndsQ.call0 hm_0 rfl rfl (by decide) rfl (as := [.ref 17]) (rest := []) rfl rfl (ok_outLength_1 hq252) ?_
          refine OEndsQ.adv hm_0 1 (pc' := 382) (L' := [qu, qr 1, qr 17, qi v3, qi v4, qi r281, qu, qu]) (S' := [.int r281, .int r282]) (H' := (qa scr :: bk0 zao zan zap zaq zav zaw zba zai zax zay zbb zal zad zae zaf zat zau zas zam zar zbc zaz zac zaj zak zag zbd zah (bk1 zbx zbo zbq zcf zbr zbs zbz zbl zbt zbu zca zbv zbe zbg zbh zcd zce zbp zbi zcc zcb zbw zbf zbm zbn zbj zby zbk []))) rfl ?_
          by_cases hc253 : r282 = r281
          · simp only [if_pos hc253] at h
            refine OEndsQ.icmpT hm_0 rfl (q := 387) rfl ((teq hc253).1) ?_
            refine OEndsQ.adv hm_0 2 (pc' := 390) (L' := [qu, qr 1, qr 17, qi v3, qi v4, qi r281, qi 0, qu]) (S' := []) (H' := (qa scr :: bk0 zao zan zap zaq zav zaw zba zai zax zay zbb zal zad zae zaf zat zau zas zam zar zbc zaz zac zaj zak zag zbd zah (bk1 zbx zbo zbq zcf zbr zbs zbz zbl zbt zbu zca zbv zbe zbg zbh zcd zce zbp zbi zcc zcb zbw zbf zbm zbn zbj zby zbk []))) rfl ?_
            exact ok_L_law_390 (k435 := f_L_law_435 scr 100000) (ok_L_law_435 100000) 100000 h
          · simp only [if_neg hc253] at h
            refine OEndsQ.icmpF hm_0 rfl ((feq hc253).1) ?_
            refine OEndsQ.adv hm_0 1 (pc' := 386) (L' := [qu, qr 1, qr 17, qi v3, qi v4, qi r281, qu, qu]) (S' := [.int 0]) (H' := (qa scr :: bk0 zao zan zap zaq zav zaw zba zai zax zay zbb zal zad zae zaf zat zau zas zam zar zbc zaz zac zaj zak zag zbd zah (bk1 zbx zbo zbq zcf zbr zbs zbz zbl zbt zbu zca zbv zbe zbg zbh zcd zce zbp zbi zcc zcb zbw zbf zbm zbn zbj zby zbk []))) rfl ?_
            cases h
            exact OEndsQ.iret hm_0 rfl rfl
        · simp only [if_neg hc250] at h
          refine OEndsQ.icmpF hm_0 rfl ((feq hc250).1) ?_
          refine OEndsQ.adv hm_0 1 (pc' := 369) (L' := [qu, qr 1, qr 17, qi v3, qi v4, qu, qu, qu]) (S' := [.int 0]) (H' := (qa scr :: bk0 zao zan zap zaq zav zaw zba zai zax zay zbb zal zad zae zaf zat zau zas zam zar zbc zaz zac zaj zak zag zbd zah (bk1 zbx zbo zbq zcf zbr zbs zbz zbl zbt zbu zca zbv zbe zbg zbh zcd zce zbp zbi zcc zcb zbw zbf zbm zbn zbj zby zbk []))) rfl ?_
          cases h
          exact OEndsQ.iret hm_0 rfl rfl
      · simp only [if_neg hc247] at h
        refine OEndsQ.icmpF hm_0 rfl ((feq hc247).1) ?_
        refine OEndsQ.adv hm_0 1 (pc' := 356) (L' := [qu, qr 1, qr 17, qi v3, qi v4, qu, qu, qu]) (S' := [.int 0]) (H' := (qa scr :: bk0 zao zan zap zaq zav zaw zba zai zax zay zbb zal zad zae zaf zat zau zas zam zar zbc zaz zac zaj zak zag zbd zah (bk1 zbx zbo zbq zcf zbr zbs zbz zbl zbt zbu zca zbv zbe zbg zbh zcd zce zbp zbi zcc zcb zbw zbf zbm zbn zbj zby zbk []))) rfl ?_
        cases h
        exact OEndsQ.iret hm_0 rfl rfl
    · simp only [if_neg hc244] at h
      refine OEndsQ.icmpF hm_0 rfl ((feq hc244).1) ?_
      refine OEndsQ.adv hm_0 1 (pc' := 343) (L' := [qu, qr 1, qr 17, qi v3, qi v4, qu, qu, qu]) (S' := [.int 0]) (H' := (qa scr :: bk0 zao zan zap zaq zav zaw zba zai zax zay zbb zal zad zae zaf zat zau zas zam zar zbc zaz zac zaj zak zag zbd zah (bk1 zbx zbo zbq zcf zbr zbs zbz zbl zbt zbu zca zbv zbe zbg zbh zcd zce zbp zbi zcc zcb zbw zbf zbm zbn zbj zby zbk []))) rfl ?_
      cases h
      exact OEndsQ.iret hm_0 rfl rfl
  · simp only [if_neg hc242] at h
    refine OEndsQ.icmpF hm_0 rfl ((feq hc242).1) ?_
    refine OEndsQ.adv hm_0 1 (pc' := 332) (L' := [qu, qr 1, qr 17, qi v3, qi v4, qu, qu, qu]) (S' := [.int 0]) (H' := (qa scr :: bk0 zao zan zap zaq zav zaw zba zai zax zay zbb zal zad zae zaf zat zau zas zam zar zbc zaz zac zaj zak zag zbd zah (bk1 zbx zbo zbq zcf zbr zbs zbz zbl zbt zbu zca zbv zbe zbg zbh zcd zce zbp zbi zcc zcb zbw zbf zbm zbn zbj zby zbk []))) rfl ?_
    cases h
    exact OEndsQ.iret hm_0 rfl rfl
theorem ok_L_law_283 {scr : List Int32} {k323 : List Int32 → List Int32 → List Int32 → List Int32 → Int32 → Int32 → Int32 → Int32 → Int32 → List Int32 → List Int32 → List Int32 → List Int32 → Int32 → Int32 → Int32 → Int32 → Int32 → Int32 → Int32 → Int32 → Option (Int32)} (hk323 : ∀ {zai zad zae zaf : List Int32} {zac zaj zak zag zah : Int32} {zbl zbe zbg zbh : List Int32} {zbi zbf zbm zbn zbj zbk v3 v4 zat zau zas zam zar zbc zaz zbd : Int32} {zao zan zap zaq zav zaw zba zax zay zbb zal : List Int32} {zcd zce zbp zcc zcb zbw zby : Int32} {zbx zbo zbq zcf zbr zbs zbz zbt zbu zca zbv : List Int32} {d0 d5 d6 d7 : Slot} {res : Int32}, k323 zai zad zae zaf zac zaj zak zag zah zbl zbe zbg zbh zbi zbf zbm zbn zbj zbk v3 v4 = some res → OEndsQ own_P 0 323 [d0, qr 1, qr 17, qi v3, qi v4, d5, d6, d7] [] (qa scr :: bk0 zao zan zap zaq zav zaw zba zai zax zay zbb zal zad zae zaf zat zau zas zam zar zbc zaz zac zaj zak zag zbd zah (bk1 zbx zbo zbq zcf zbr zbs zbz zbl zbt zbu zca zbv zbe zbg zbh zcd zce zbp zbi zcc zcb zbw zbf zbm zbn zbj zby zbk [])) (LawQ res 0 0)) : ∀ (n : Nat), ∀ {zai zal zad zae zaf : List Int32} {zac zaj zak zag zah : Int32} {zbo zbq zbr zbs zbl zbt zbu zbv zbe zbg zbh : List Int32} {zbp zbi zbw zbf zbm zbn zbj zby zbk v3 v4 v5 zat zau zas zam zar zbc zaz zbd : Int32} {zao zan zap zaq zav zaw zba zax zay zbb : List Int32} {zcd zce zcc zcb : Int32} {zbx zcf zbz zca : List Int32} {d0 d6 d7 : Slot} {res : Int32}, f_L_law_283 k323 scr n zai zal zad zae zaf zac zaj zak zag zah zbo zbq zbr zbs zbl zbt zbu zbv zbe zbg zbh zbp zbi zbw zbf zbm zbn zbj zby zbk v3 v4 v5 = some res → OEndsQ own_P 0 283 [d0, qr 1, qr 17, qi v3, qi v4, qi v5, d6, d7] [] (qa scr :: bk0 zao zan zap zaq zav zaw zba zai zax zay zbb zal zad zae zaf zat zau zas zam zar zbc zaz zac zaj zak zag zbd zah (bk1 zbx zbo zbq zcf zbr zbs zbz zbl zbt zbu zca zbv zbe zbg zbh zcd zce zbp zbi zcc zcb zbw zbf zbm zbn zbj zby zbk [])) (LawQ res 0 0) := by
  intro n
  induction n with
  | zero => intro zai zal zad zae zaf zac zaj zak zag zah zbo zbq zbr zbs zbl zbt zbu zbv zbe zbg zbh zbp zbi zbw zbf zbm zbn zbj zby zbk v3 v4 v5 zat zau zas zam zar zbc zaz zbd zao zan zap zaq zav zaw zba zax zay zbb zcd zce zcc zcb zbx zcf zbz zca d0 d6 d7 res h; cases h
  | succ n ih =>
    intro zai zal zad zae zaf zac zaj zak zag zah zbo zbq zbr zbs zbl zbt zbu zbv zbe zbg zbh zbp zbi zbw zbf zbm zbn zbj zby zbk v3 v4 v5 zat zau zas zam zar zbc zaz zbd zao zan zap zaq zav zaw zba zax zay zbb zcd zce zcc zcb zbx zcf zbz zca d0 d6 d7 res h
    unfold f_L_law_283 at h
    refine OEndsQ.adv hm_0 2 (pc' := 288) (L' := [qu, qr 1, qr 17, qi v3, qi v4, qi v5, qu, qu]) (S' := [.int 240, .int v5]) (H' := (qa scr :: bk0 zao zan zap zaq zav zaw zba zai zax zay zbb zal zad zae zaf zat zau zas zam zar zbc zaz zac zaj zak zag zbd zah (bk1 zbx zbo zbq zcf zbr zbs zbz zbl zbt zbu zca zbv zbe zbg zbh zcd zce zbp zbi zcc zcb zbw zbf zbm zbn zbj zby zbk []))) rfl ?_
    by_cases hc254 : v5 < (240 : Int32)
    · simp only [if_pos hc254] at h
      refine OEndsQ.icmpF hm_0 rfl ((tlt hc254).2.1) ?_
      refine OEndsQ.adv hm_0 2 (pc' := 295) (L' := [qu, qr 1, qr 17, qi v3, qi v4, qi v5, qu, qu]) (S' := [.int v4, .int v5]) (H' := (qa scr :: bk0 zao zan zap zaq zav zaw zba zai zax zay zbb zal zad zae zaf zat zau zas zam zar zbc zaz zac zaj zak zag zbd zah (bk1 zbx zbo zbq zcf zbr zbs zbz zbl zbt zbu zca zbv zbe zbg zbh zcd zce zbp zbi zcc zcb zbw zbf zbm zbn zbj zby zbk []))) rfl ?_
      by_cases hc255 : v5 < v4
      · simp only [if_pos hc255] at h
        refine OEndsQ.icmpF hm_0 rfl ((tlt hc255).2.1) ?_
        refine OEndsQ.adv hm_0 2 (pc' := 301) (L' := [qu, qr 1, qr 17, qi v3, qi v4, qi v5, qu, qu]) (S' := [.int v5, .ref 1]) (H' := (qa scr :: bk0 zao zan zap zaq zav zaw zba zai zax zay zbb zal zad zae zaf zat zau zas zam zar zbc zaz zac zaj zak zag zbd zah (bk1 zbx zbo zbq zcf zbr zbs zbz zbl zbt zbu zca zbv zbe zbg zbh zcd zce zbp zbi zcc zcb zbw zbf zbm zbn zbj zby zbk []))) rfl ?_
        obtain ⟨r263, hq256, h⟩ := bnd h
        refine OEndsQ.call0 hm_0 rfl rfl (by decide) rfl (as := [.ref 1, .int v5]) (rest := []) rfl rfl (ok_textChar_0 hq256) ?_
        refine OEndsQ.adv hm_0 3 (pc' := 309) (L' := [qu, qr 1, qr 17, qi v3, qi v4, qi v5, qi r263, qu]) (S' := [.int r263, .ref 17]) (H' := (qa scr :: bk0 zao zan zap zaq zav zaw zba zai zax zay zbb zal zad zae zaf zat zau zas zam zar zbc zaz zac zaj zak zag zbd zah (bk1 zbx zbo zbq zcf zbr zbs zbz zbl zbt zbu zca zbv zbe zbg zbh zcd zce zbp zbi zcc zcb zbw zbf zbm zbn zbj zby zbk []))) rfl ?_
        obtain ⟨⟨r264, s265, s266, s267, s268, s269, s270, s271, s272, s273, s274⟩, hq257, h⟩ := bnd h
        refine OEndsQ.call0 hm_0 rfl rfl (by decide) rfl (as := [.ref 17, .int r263]) (rest := []) rfl rfl (ok_feed_1 hq257) ?_
        show OEndsQ own_P 0 312 [qu, qr 1, qr 17, qi v3, qi v4, qi v5, qi r263, qu] [.int r264] (qa scr :: bk0 zao zan zap zaq zav zaw zba zai zax zay zbb zal zad zae zaf zat zau zas zam zar zbc zaz zac zaj zak zag zbd zah (bk1 zbx zbo zbq zcf zbr zbs zbz zbl zbt zbu zca s265 s266 s267 s268 zcd zce zbp zbi zcc zcb zbw s269 s270 s271 s272 s273 s274 [])) _
        by_cases hc258 : r264 < (0 : Int32)
        · simp only [if_pos hc258] at h
          refine OEndsQ.ifF hm_0 rfl ((tlt hc258).2.1) ?_
          refine OEndsQ.adv hm_0 1 (pc' := 316) (L' := [qu, qr 1, qr 17, qi v3, qi v4, qi v5, qi r263, qu]) (S' := [.int 0]) (H' := (qa scr :: bk0 zao zan zap zaq zav zaw zba zai zax zay zbb zal zad zae zaf zat zau zas zam zar zbc zaz zac zaj zak zag zbd zah (bk1 zbx zbo zbq zcf zbr zbs zbz zbl zbt zbu zca s265 s266 s267 s268 zcd zce zbp zbi zcc zcb zbw s269 s270 s271 s272 s273 s274 []))) rfl ?_
          cases h
          exact OEndsQ.iret hm_0 rfl rfl
        · simp only [if_neg hc258] at h
          refine OEndsQ.ifT hm_0 rfl (q := 317) rfl ((flt hc258).2.1) ?_
          refine OEndsQ.adv hm_0 2 (pc' := 283) (L' := [qu, qr 1, qr 17, qi v3, qi v4, qi (v5 + (1 : Int32)), qi r263, qu]) (S' := []) (H' := (qa scr :: bk0 zao zan zap zaq zav zaw zba zai zax zay zbb zal zad zae zaf zat zau zas zam zar zbc zaz zac zaj zak zag zbd zah (bk1 zbx zbo zbq zcf zbr zbs zbz zbl zbt zbu zca s265 s266 s267 s268 zcd zce zbp zbi zcc zcb zbw s269 s270 s271 s272 s273 s274 []))) rfl ?_
          exact ih h
      · simp only [if_neg hc255] at h
        refine OEndsQ.icmpT hm_0 rfl (q := 323) rfl ((flt hc255).2.1) ?_
        show OEndsQ own_P 0 323 [qu, qr 1, qr 17, qi v3, qi v4, qi v5, qu, qu] [] (qa scr :: bk0 zao zan zap zaq zav zaw zba zai zax zay zbb zal zad zae zaf zat zau zas zam zar zbc zaz zac zaj zak zag zbd zah (bk1 zbx zbo zbq zcf zbr zbs zbz zbl zbt zbu zca zbv zbe zbg zbh zcd zce zbp zbi zcc zcb zbw zbf zbm zbn zbj zby zbk [])) _
        exact hk323 h
    · simp only [if_neg hc254] at h
      refine OEndsQ.icmpT hm_0 rfl (q := 323) rfl ((flt hc254).2.1) ?_
      show OEndsQ own_P 0 323 [qu, qr 1, qr 17, qi v3, qi v4, qi v5, qu, qu] [] (qa scr :: bk0 zao zan zap zaq zav zaw zba zai zax zay zbb zal zad zae zaf zat zau zas zam zar zbc zaz zac zaj zak zag zbd zah (bk1 zbx zbo zbq zcf zbr zbs zbz zbl zbt zbu zca zbv zbe zbg zbh zcd zce zbp zbi zcc zcb zbw zbf zbm zbn zbj zby zbk [])) _
      exact hk323 h
theorem ok_L_law_265 {scr : List Int32} : ∀ {zai zal zad zae zaf : List Int32} {zac zaj zak zag zah : Int32} {zbx zbo zbq zbr zbs zbz zbl zbt zbu zca zbv zbe zbg zbh : List Int32} {zbp zbi zcc zcb zbw zbf zbm zbn zbj zby zbk v3 zat zau zas zam zar zbc zaz zbd : Int32} {zao zan zap zaq zav zaw zba zax zay zbb : List Int32} {zcd zce : Int32} {zcf : List Int32} {d0 d4 d5 d6 d7 : Slot} {res : Int32}, f_L_law_265 scr zai zal zad zae zaf zac zaj zak zag zah zbx zbo zbq zbr zbs zbz zbl zbt zbu zca zbv zbe zbg zbh zbp zbi zcc zcb zbw zbf zbm zbn zbj zby zbk v3 = some res → OEndsQ own_P 0 265 [d0, qr 1, qr 17, qi v3, d4, d5, d6, d7] [] (qa scr :: bk0 zao zan zap zaq zav zaw zba zai zax zay zbb zal zad zae zaf zat zau zas zam zar zbc zaz zac zaj zak zag zbd zah (bk1 zbx zbo zbq zcf zbr zbs zbz zbl zbt zbu zca zbv zbe zbg zbh zcd zce zbp zbi zcc zcb zbw zbf zbm zbn zbj zby zbk [])) (LawQ res 0 0) := by
  intro zai zal zad zae zaf zac zaj zak zag zah zbx zbo zbq zbr zbs zbz zbl zbt zbu zca zbv zbe zbg zbh zbp zbi zcc zcb zbw zbf zbm zbn zbj zby zbk v3 zat zau zas zam zar zbc zaz zbd zao zan zap zaq zav zaw zba zax zay zbb zcd zce zcf d0 d4 d5 d6 d7 res h
  unfold f_L_law_265 at h
  refine OEndsQ.adv hm_0 1 (pc' := 266) (L' := [qu, qr 1, qr 17, qi v3, qu, qu, qu, qu]) (S' := [.ref 17]) (H' := (qa scr :: bk0 zao zan zap zaq zav zaw zba zai zax zay zbb zal zad zae zaf zat zau zas zam zar zbc zaz zac zaj zak zag zbd zah (bk1 zbx zbo zbq zcf zbr zbs zbz zbl zbt zbu zca zbv zbe zbg zbh zcd zce zbp zbi zcc zcb zbw zbf zbm zbn zbj zby zbk []))) rfl ?_
  obtain ⟨⟨r245, s246, s247, s248, s249, s250, s251, s252, s253, s254, s255, s256, s257, s258, s259, s260, s261⟩, hq259, h⟩ := bnd h
  refine OEndsQ.call0 hm_0 rfl rfl (by decide) rfl (as := [.ref 17]) (rest := []) rfl rfl (ok_build_1 hq259) ?_
  show OEndsQ own_P 0 269 [qu, qr 1, qr 17, qi v3, qu, qu, qu, qu] [.int r245] (qa scr :: bk0 zao zan zap zaq zav zaw zba zai zax zay zbb zal zad zae zaf zat zau zas zam zar zbc zaz zac zaj zak zag zbd zah (bk1 zbx zbo zbq zcf s246 s247 s248 s249 s250 s251 s252 zbv zbe zbg zbh zcd zce s253 zbi zcc s254 s255 s256 s257 s258 s259 s260 s261 [])) _
  by_cases hc260 : r245 = (0 : Int32)
  · simp only [if_pos hc260] at h
    refine OEndsQ.ifT hm_0 rfl (q := 274) rfl ((teq hc260).1) ?_
    refine OEndsQ.adv hm_0 1 (pc' := 275) (L' := [qu, qr 1, qr 17, qi v3, qu, qu, qu, qu]) (S' := [.ref 1]) (H' := (qa scr :: bk0 zao zan zap zaq zav zaw zba zai zax zay zbb zal zad zae zaf zat zau zas zam zar zbc zaz zac zaj zak zag zbd zah (bk1 zbx zbo zbq zcf s246 s247 s248 s249 s250 s251 s252 zbv zbe zbg zbh zcd zce s253 zbi zcc s254 s255 s256 s257 s258 s259 s260 s261 []))) rfl ?_
    obtain ⟨r262, hq261, h⟩ := bnd h
    refine OEndsQ.call0 hm_0 rfl rfl (by decide) rfl (as := [.ref 1]) (rest := []) rfl rfl (ok_textLength_0 hq261) ?_
    refine OEndsQ.adv hm_0 3 (pc' := 283) (L' := [qu, qr 1, qr 17, qi v3, qi r262, qi 0, qu, qu]) (S' := []) (H' := (qa scr :: bk0 zao zan zap zaq zav zaw zba zai zax zay zbb zal zad zae zaf zat zau zas zam zar zbc zaz zac zaj zak zag zbd zah (bk1 zbx zbo zbq zcf s246 s247 s248 s249 s250 s251 s252 zbv zbe zbg zbh zcd zce s253 zbi zcc s254 s255 s256 s257 s258 s259 s260 s261 []))) rfl ?_
    exact ok_L_law_283 (k323 := f_L_law_323 scr) ok_L_law_323 100000 h
  · simp only [if_neg hc260] at h
    refine OEndsQ.ifF hm_0 rfl ((feq hc260).1) ?_
    refine OEndsQ.adv hm_0 1 (pc' := 273) (L' := [qu, qr 1, qr 17, qi v3, qu, qu, qu, qu]) (S' := [.int 0]) (H' := (qa scr :: bk0 zao zan zap zaq zav zaw zba zai zax zay zbb zal zad zae zaf zat zau zas zam zar zbc zaz zac zaj zak zag zbd zah (bk1 zbx zbo zbq zcf s246 s247 s248 s249 s250 s251 s252 zbv zbe zbg zbh zcd zce s253 zbi zcc s254 s255 s256 s257 s258 s259 s260 s261 []))) rfl ?_
    cases h
    exact OEndsQ.iret hm_0 rfl rfl
theorem ok_L_law_237 {scr : List Int32} {kb : List Int32 → List Int32 → List Int32 → List Int32 → List Int32 → List Int32 → List Int32 → List Int32 → List Int32 → Int32 → Int32 → Int32 → Int32 → Int32 → Int32 → Int32 → List Int32 → List Int32 → List Int32 → List Int32 → List Int32 → List Int32 → List Int32 → List Int32 → List Int32 → List Int32 → List Int32 → List Int32 → List Int32 → List Int32 → List Int32 → Int32 → Int32 → Int32 → Int32 → Int32 → Int32 → Int32 → Int32 → Int32 → Int32 → Int32 → Int32 → Int32 → Int32 → Int32 → Option (Int32)} {k265 : List Int32 → List Int32 → List Int32 → List Int32 → List Int32 → Int32 → Int32 → Int32 → Int32 → Int32 → List Int32 → List Int32 → List Int32 → List Int32 → List Int32 → List Int32 → List Int32 → List Int32 → List Int32 → List Int32 → List Int32 → List Int32 → List Int32 → List Int32 → Int32 → Int32 → Int32 → Int32 → Int32 → Int32 → Int32 → Int32 → Int32 → Int32 → Int32 → Int32 → Option (Int32)} (hkb : ∀ {zao zan zap zaq zai zal zad zae zaf : List Int32} {zam zar zac zaj zak zag zah : Int32} {zbx zbo zbq zcf zbr zbs zbz zbl zbt zbu zca zbv zbe zbg zbh : List Int32} {zcd zce zbp zbi zcc zcb zbw zbf zbm zbn zbj zby zbk v3 v4 zat zau zas zbc zaz zbd : Int32} {zav zaw zba zax zay zbb : List Int32} {d0 d5 d6 d7 : Slot} {res : Int32}, kb zao zan zap zaq zai zal zad zae zaf zam zar zac zaj zak zag zah zbx zbo zbq zcf zbr zbs zbz zbl zbt zbu zca zbv zbe zbg zbh zcd zce zbp zbi zcc zcb zbw zbf zbm zbn zbj zby zbk v3 v4 = some res → OEndsQ own_P 0 168 [d0, qr 1, qr 17, qi v3, qi v4, d5, d6, d7] [] (qa scr :: bk0 zao zan zap zaq zav zaw zba zai zax zay zbb zal zad zae zaf zat zau zas zam zar zbc zaz zac zaj zak zag zbd zah (bk1 zbx zbo zbq zcf zbr zbs zbz zbl zbt zbu zca zbv zbe zbg zbh zcd zce zbp zbi zcc zcb zbw zbf zbm zbn zbj zby zbk [])) (LawQ res 0 0)) (hk265 : ∀ {zai zal zad zae zaf : List Int32} {zac zaj zak zag zah : Int32} {zbx zbo zbq zbr zbs zbz zbl zbt zbu zca zbv zbe zbg zbh : List Int32} {zbp zbi zcc zcb zbw zbf zbm zbn zbj zby zbk v3 zat zau zas zam zar zbc zaz zbd : Int32} {zao zan zap zaq zav zaw zba zax zay zbb : List Int32} {zcd zce : Int32} {zcf : List Int32} {d0 d4 d5 d6 d7 : Slot} {res : Int32}, k265 zai zal zad zae zaf zac zaj zak zag zah zbx zbo zbq zbr zbs zbz zbl zbt zbu zca zbv zbe zbg zbh zbp zbi zcc zcb zbw zbf zbm zbn zbj zby zbk v3 = some res → OEndsQ own_P 0 265 [d0, qr 1, qr 17, qi v3, d4, d5, d6, d7] [] (qa scr :: bk0 zao zan zap zaq zav zaw zba zai zax zay zbb zal zad zae zaf zat zau zas zam zar zbc zaz zac zaj zak zag zbd zah (bk1 zbx zbo zbq zcf zbr zbs zbz zbl zbt zbu zca zbv zbe zbg zbh zcd zce zbp zbi zcc zcb zbw zbf zbm zbn zbj zby zbk [])) (LawQ res 0 0)) : ∀ {zao zan zap zaq zai zal zad zae zaf : List Int32} {zam zar zac zaj zak zag zah : Int32} {zbx zbo zbq zcf zbr zbs zbz zbl zbt zbu zca zbv zbe zbg zbh : List Int32} {zcd zce zbp zbi zcc zcb zbw zbf zbm zbn zbj zby zbk v3 v4 zat zau zas zbc zaz zbd : Int32} {zav zaw zba zax zay zbb : List Int32} {d0 d5 d6 d7 : Slot} {res : Int32}, f_L_law_237 kb k265 scr zao zan zap zaq zai zal zad zae zaf zam zar zac zaj zak zag zah zbx zbo zbq zcf zbr zbs zbz zbl zbt zbu zca zbv zbe zbg zbh zcd zce zbp zbi zcc zcb zbw zbf zbm zbn zbj zby zbk v3 v4 = some res → OEndsQ own_P 0 237 [d0, qr 1, qr 17, qi v3, qi v4, d5, d6, d7] [] (qa scr :: bk0 zao zan zap zaq zav zaw zba zai zax zay zbb zal zad zae zaf zat zau zas zam zar zbc zaz zac zaj zak zag zbd zah (bk1 zbx zbo zbq zcf zbr zbs zbz zbl zbt zbu zca zbv zbe zbg zbh zcd zce zbp zbi zcc zcb zbw zbf zbm zbn zbj zby zbk [])) (LawQ res 0 0) := by
  intro zao zan zap zaq zai zal zad zae zaf zam zar zac zaj zak zag zah zbx zbo zbq zcf zbr zbs zbz zbl zbt zbu zca zbv zbe zbg zbh zcd zce zbp zbi zcc zcb zbw zbf zbm zbn zbj zby zbk v3 v4 zat zau zas zbc zaz zbd zav zaw zba zax zay zbb d0 d5 d6 d7 res h
  unfold f_L_law_237 at h
  refine OEndsQ.adv hm_0 3 (pc' := 241) (L' := [qu, qr 1, qr 17, qi v3, qi v4, qu, qu, qu]) (S' := [.int (-1), .int v4, .ref 1]) (H' := (qa scr :: bk0 zao zan zap zaq zav zaw zba zai zax zay zbb zal zad zae zaf zat zau zas zam zar zbc zaz zac zaj zak zag zbd zah (bk1 zbx zbo zbq zcf zbr zbs zbz zbl zbt zbu zca zbv zbe zbg zbh zcd zce zbp zbi zcc zcb zbw zbf zbm zbn zbj zby zbk []))) rfl ?_
  obtain ⟨r238, hq262, h⟩ := bnd h
  refine OEndsQ.call0 hm_0 rfl rfl (by decide) rfl (as := [.ref 1, .int v4, .int (-1)]) (rest := []) rfl rfl (ok_keywordChar_0 hq262) ?_
  refine OEndsQ.adv hm_0 3 (pc' := 249) (L' := [qu, qr 1, qr 17, qi v3, qi v4, qu, qi r238, qu]) (S' := [.int r238, .ref 17]) (H' := (qa scr :: bk0 zao zan zap zaq zav zaw zba zai zax zay zbb zal zad zae zaf zat zau zas zam zar zbc zaz zac zaj zak zag zbd zah (bk1 zbx zbo zbq zcf zbr zbs zbz zbl zbt zbu zca zbv zbe zbg zbh zcd zce zbp zbi zcc zcb zbw zbf zbm zbn zbj zby zbk []))) rfl ?_
  obtain ⟨⟨r239, s240, s241, s242, s243, s244⟩, hq263, h⟩ := bnd h
  refine OEndsQ.call0 hm_0 rfl rfl (by decide) rfl (as := [.ref 17, .int r238]) (rest := []) rfl rfl (ok_endKeyword_1 hq263) ?_
  refine OEndsQ.adv hm_0 1 (pc' := 254) (L' := [qu, qr 1, qr 17, qi v3, qi v4, qu, qi r238, qu]) (S' := [.int v4, .int r239]) (H' := (qa scr :: bk0 zao zan zap zaq zav zaw zba zai zax zay zbb zal zad zae zaf zat zau zas zam zar zbc zaz zac zaj zak zag zbd zah (bk1 s240 s241 s242 zcf zbr zbs zbz zbl zbt zbu zca zbv zbe zbg zbh zcd zce zbp s243 s244 zcb zbw zbf zbm zbn zbj zby zbk []))) rfl ?_
  by_cases hc264 : r239 = v4
  · simp only [if_pos hc264] at h
    refine OEndsQ.icmpT hm_0 rfl (q := 259) rfl ((teq hc264).1) ?_
    refine OEndsQ.adv hm_0 2 (pc' := 168) (L' := [qu, qr 1, qr 17, qi v3, qi (v4 + (1 : Int32)), qu, qi r238, qu]) (S' := []) (H' := (qa scr :: bk0 zao zan zap zaq zav zaw zba zai zax zay zbb zal zad zae zaf zat zau zas zam zar zbc zaz zac zaj zak zag zbd zah (bk1 s240 s241 s242 zcf zbr zbs zbz zbl zbt zbu zca zbv zbe zbg zbh zcd zce zbp s243 s244 zcb zbw zbf zbm zbn zbj zby zbk []))) rfl ?_
    exact hkb h
  · simp only [if_neg hc264] at h
    refine OEndsQ.icmpF hm_0 rfl ((feq hc264).1) ?_
    refine OEndsQ.adv hm_0 1 (pc' := 258) (L' := [qu, qr 1, qr 17, qi v3, qi v4, qu, qi r238, qu]) (S' := [.int 0]) (H' := (qa scr :: bk0 zao zan zap zaq zav zaw zba zai zax zay zbb zal zad zae zaf zat zau zas zam zar zbc zaz zac zaj zak zag zbd zah (bk1 s240 s241 s242 zcf zbr zbs zbz zbl zbt zbu zca zbv zbe zbg zbh zcd zce zbp s243 s244 zcb zbw zbf zbm zbn zbj zby zbk []))) rfl ?_
    cases h
    exact OEndsQ.iret hm_0 rfl rfl
theorem ok_L_law_192 {scr : List Int32} {k237 : List Int32 → List Int32 → List Int32 → List Int32 → List Int32 → List Int32 → List Int32 → List Int32 → List Int32 → Int32 → Int32 → Int32 → Int32 → Int32 → Int32 → Int32 → List Int32 → List Int32 → List Int32 → List Int32 → List Int32 → List Int32 → List Int32 → List Int32 → List Int32 → List Int32 → List Int32 → List Int32 → List Int32 → List Int32 → List Int32 → Int32 → Int32 → Int32 → Int32 → Int32 → Int32 → Int32 → Int32 → Int32 → Int32 → Int32 → Int32 → Int32 → Int32 → Int32 → Option (Int32)} (hk237 : ∀ {zao zan zap zaq zai zal zad zae zaf : List Int32} {zam zar zac zaj zak zag zah : Int32} {zbx zbo zbq zcf zbr zbs zbz zbl zbt zbu zca zbv zbe zbg zbh : List Int32} {zcd zce zbp zbi zcc zcb zbw zbf zbm zbn zbj zby zbk v3 v4 zat zau zas zbc zaz zbd : Int32} {zav zaw zba zax zay zbb : List Int32} {d0 d5 d6 d7 : Slot} {res : Int32}, k237 zao zan zap zaq zai zal zad zae zaf zam zar zac zaj zak zag zah zbx zbo zbq zcf zbr zbs zbz zbl zbt zbu zca zbv zbe zbg zbh zcd zce zbp zbi zcc zcb zbw zbf zbm zbn zbj zby zbk v3 v4 = some res → OEndsQ own_P 0 237 [d0, qr 1, qr 17, qi v3, qi v4, d5, d6, d7] [] (qa scr :: bk0 zao zan zap zaq zav zaw zba zai zax zay zbb zal zad zae zaf zat zau zas zam zar zbc zaz zac zaj zak zag zbd zah (bk1 zbx zbo zbq zcf zbr zbs zbz zbl zbt zbu zca zbv zbe zbg zbh zcd zce zbp zbi zcc zcb zbw zbf zbm zbn zbj zby zbk [])) (LawQ res 0 0)) : ∀ (n : Nat), ∀ {zao zan zap zaq zai zal zad zae zaf : List Int32} {zam zar zac zaj zak zag zah : Int32} {zbx zbo zbq zcf zbr zbs zbz zbl zbt zbu zca zbv zbe zbg zbh : List Int32} {zcd zce zbp zbi zcc zcb zbw zbf zbm zbn zbj zby zbk v3 v4 v5 v6 zat zau zas zbc zaz zbd : Int32} {zav zaw zba zax zay zbb : List Int32} {d0 d7 : Slot} {res : Int32}, f_L_law_192 k237 scr n zao zan zap zaq zai zal zad zae zaf zam zar zac zaj zak zag zah zbx zbo zbq zcf zbr zbs zbz zbl zbt zbu zca zbv zbe zbg zbh zcd zce zbp zbi zcc zcb zbw zbf zbm zbn zbj zby zbk v3 v4 v5 v6 = some res → OEndsQ own_P 0 192 [d0, qr 1, qr 17, qi v3, qi v4, qi v5, qi v6, d7] [] (qa scr :: bk0 zao zan zap zaq zav zaw zba zai zax zay zbb zal zad zae zaf zat zau zas zam zar zbc zaz zac zaj zak zag zbd zah (bk1 zbx zbo zbq zcf zbr zbs zbz zbl zbt zbu zca zbv zbe zbg zbh zcd zce zbp zbi zcc zcb zbw zbf zbm zbn zbj zby zbk [])) (LawQ res 0 0) := by
  intro n
  induction n with
  | zero => intro zao zan zap zaq zai zal zad zae zaf zam zar zac zaj zak zag zah zbx zbo zbq zcf zbr zbs zbz zbl zbt zbu zca zbv zbe zbg zbh zcd zce zbp zbi zcc zcb zbw zbf zbm zbn zbj zby zbk v3 v4 v5 v6 zat zau zas zbc zaz zbd zav zaw zba zax zay zbb d0 d7 res h; cases h
  | succ n ih =>
    intro zao zan zap zaq zai zal zad zae zaf zam zar zac zaj zak zag zah zbx zbo zbq zcf zbr zbs zbz zbl zbt zbu zca zbv zbe zbg zbh zcd zce zbp zbi zcc zcb zbw zbf zbm zbn zbj zby zbk v3 v4 v5 v6 zat zau zas zbc zaz zbd zav zaw zba zax zay zbb d0 d7 res h
    unfold f_L_law_192 at h
    refine OEndsQ.adv hm_0 2 (pc' := 196) (L' := [qu, qr 1, qr 17, qi v3, qi v4, qi v5, qi v6, qu]) (S' := [.int 8, .int v6]) (H' := (qa scr :: bk0 zao zan zap zaq zav zaw zba zai zax zay zbb zal zad zae zaf zat zau zas zam zar zbc zaz zac zaj zak zag zbd zah (bk1 zbx zbo zbq zcf zbr zbs zbz zbl zbt zbu zca zbv zbe zbg zbh zcd zce zbp zbi zcc zcb zbw zbf zbm zbn zbj zby zbk []))) rfl ?_
    by_cases hc265 : v6 < (8 : Int32)
    · simp only [if_pos hc265] at h
      refine OEndsQ.icmpF hm_0 rfl ((tlt hc265).2.1) ?_
      refine OEndsQ.adv hm_0 2 (pc' := 203) (L' := [qu, qr 1, qr 17, qi v3, qi v4, qi v5, qi v6, qu]) (S' := [.int v5, .int v6]) (H' := (qa scr :: bk0 zao zan zap zaq zav zaw zba zai zax zay zbb zal zad zae zaf zat zau zas zam zar zbc zaz zac zaj zak zag zbd zah (bk1 zbx zbo zbq zcf zbr zbs zbz zbl zbt zbu zca zbv zbe zbg zbh zcd zce zbp zbi zcc zcb zbw zbf zbm zbn zbj zby zbk []))) rfl ?_
      by_cases hc266 : v6 < v5
      · simp only [if_pos hc266] at h
        refine OEndsQ.icmpF hm_0 rfl ((tlt hc266).2.1) ?_
        refine OEndsQ.adv hm_0 3 (pc' := 211) (L' := [qu, qr 1, qr 17, qi v3, qi v4, qi v5, qi v6, qu]) (S' := [.int v6, .int v4, .ref 1]) (H' := (qa scr :: bk0 zao zan zap zaq zav zaw zba zai zax zay zbb zal zad zae zaf zat zau zas zam zar zbc zaz zac zaj zak zag zbd zah (bk1 zbx zbo zbq zcf zbr zbs zbz zbl zbt zbu zca zbv zbe zbg zbh zcd zce zbp zbi zcc zcb zbw zbf zbm zbn zbj zby zbk []))) rfl ?_
        obtain ⟨r234, hq267, h⟩ := bnd h
        refine OEndsQ.call0 hm_0 rfl rfl (by decide) rfl (as := [.ref 1, .int v4, .int v6]) (rest := []) rfl rfl (ok_keywordChar_0 hq267) ?_
        refine OEndsQ.adv hm_0 3 (pc' := 219) (L' := [qu, qr 1, qr 17, qi v3, qi v4, qi v5, qi v6, qi r234]) (S' := [.int r234, .ref 17]) (H' := (qa scr :: bk0 zao zan zap zaq zav zaw zba zai zax zay zbb zal zad zae zaf zat zau zas zam zar zbc zaz zac zaj zak zag zbd zah (bk1 zbx zbo zbq zcf zbr zbs zbz zbl zbt zbu zca zbv zbe zbg zbh zcd zce zbp zbi zcc zcb zbw zbf zbm zbn zbj zby zbk []))) rfl ?_
        obtain ⟨⟨r235, s236, s237⟩, hq268, h⟩ := bnd h
        refine OEndsQ.call0 hm_0 rfl rfl (by decide) rfl (as := [.ref 17, .int r234]) (rest := []) rfl rfl (ok_addChar_1 hq268) ?_
        refine OEndsQ.adv hm_0 3 (pc' := 226) (L' := [qu, qr 1, qr 17, qi v3, qi v4, qi v5, qi v6, qi r234]) (S' := [.int (v6 + (1 : Int32)), .int r235]) (H' := (qa scr :: bk0 zao zan zap zaq zav zaw zba zai zax zay zbb zal zad zae zaf zat zau zas zam zar zbc zaz zac zaj zak zag zbd zah (bk1 zbx zbo zbq s236 zbr zbs zbz zbl zbt zbu zca zbv zbe zbg zbh zcd zce zbp zbi s237 zcb zbw zbf zbm zbn zbj zby zbk []))) rfl ?_
        by_cases hc269 : r235 = (v6 + (1 : Int32))
        · simp only [if_pos hc269] at h
          refine OEndsQ.icmpT hm_0 rfl (q := 231) rfl ((teq hc269).1) ?_
          refine OEndsQ.adv hm_0 2 (pc' := 192) (L' := [qu, qr 1, qr 17, qi v3, qi v4, qi v5, qi (v6 + (1 : Int32)), qi r234]) (S' := []) (H' := (qa scr :: bk0 zao zan zap zaq zav zaw zba zai zax zay zbb zal zad zae zaf zat zau zas zam zar zbc zaz zac zaj zak zag zbd zah (bk1 zbx zbo zbq s236 zbr zbs zbz zbl zbt zbu zca zbv zbe zbg zbh zcd zce zbp zbi s237 zcb zbw zbf zbm zbn zbj zby zbk []))) rfl ?_
          exact ih h
        · simp only [if_neg hc269] at h
          refine OEndsQ.icmpF hm_0 rfl ((feq hc269).1) ?_
          refine OEndsQ.adv hm_0 1 (pc' := 230) (L' := [qu, qr 1, qr 17, qi v3, qi v4, qi v5, qi v6, qi r234]) (S' := [.int 0]) (H' := (qa scr :: bk0 zao zan zap zaq zav zaw zba zai zax zay zbb zal zad zae zaf zat zau zas zam zar zbc zaz zac zaj zak zag zbd zah (bk1 zbx zbo zbq s236 zbr zbs zbz zbl zbt zbu zca zbv zbe zbg zbh zcd zce zbp zbi s237 zcb zbw zbf zbm zbn zbj zby zbk []))) rfl ?_
          cases h
          exact OEndsQ.iret hm_0 rfl rfl
      · simp only [if_neg hc266] at h
        refine OEndsQ.icmpT hm_0 rfl (q := 237) rfl ((flt hc266).2.1) ?_
        show OEndsQ own_P 0 237 [qu, qr 1, qr 17, qi v3, qi v4, qi v5, qi v6, qu] [] (qa scr :: bk0 zao zan zap zaq zav zaw zba zai zax zay zbb zal zad zae zaf zat zau zas zam zar zbc zaz zac zaj zak zag zbd zah (bk1 zbx zbo zbq zcf zbr zbs zbz zbl zbt zbu zca zbv zbe zbg zbh zcd zce zbp zbi zcc zcb zbw zbf zbm zbn zbj zby zbk [])) _
        exact hk237 h
    · simp only [if_neg hc265] at h
      refine OEndsQ.icmpT hm_0 rfl (q := 237) rfl ((flt hc265).2.1) ?_
      show OEndsQ own_P 0 237 [qu, qr 1, qr 17, qi v3, qi v4, qi v5, qi v6, qu] [] (qa scr :: bk0 zao zan zap zaq zav zaw zba zai zax zay zbb zal zad zae zaf zat zau zas zam zar zbc zaz zac zaj zak zag zbd zah (bk1 zbx zbo zbq zcf zbr zbs zbz zbl zbt zbu zca zbv zbe zbg zbh zcd zce zbp zbi zcc zcb zbw zbf zbm zbn zbj zby zbk [])) _
      exact hk237 h
theorem ok_L_law_168 {scr : List Int32} {k265 : List Int32 → List Int32 → List Int32 → List Int32 → List Int32 → Int32 → Int32 → Int32 → Int32 → Int32 → List Int32 → List Int32 → List Int32 → List Int32 → List Int32 → List Int32 → List Int32 → List Int32 → List Int32 → List Int32 → List Int32 → List Int32 → List Int32 → List Int32 → Int32 → Int32 → Int32 → Int32 → Int32 → Int32 → Int32 → Int32 → Int32 → Int32 → Int32 → Int32 → Option (Int32)} (hk265 : ∀ {zai zal zad zae zaf : List Int32} {zac zaj zak zag zah : Int32} {zbx zbo zbq zbr zbs zbz zbl zbt zbu zca zbv zbe zbg zbh : List Int32} {zbp zbi zcc zcb zbw zbf zbm zbn zbj zby zbk v3 zat zau zas zam zar zbc zaz zbd : Int32} {zao zan zap zaq zav zaw zba zax zay zbb : List Int32} {zcd zce : Int32} {zcf : List Int32} {d0 d4 d5 d6 d7 : Slot} {res : Int32}, k265 zai zal zad zae zaf zac zaj zak zag zah zbx zbo zbq zbr zbs zbz zbl zbt zbu zca zbv zbe zbg zbh zbp zbi zcc zcb zbw zbf zbm zbn zbj zby zbk v3 = some res → OEndsQ own_P 0 265 [d0, qr 1, qr 17, qi v3, d4, d5, d6, d7] [] (qa scr :: bk0 zao zan zap zaq zav zaw zba zai zax zay zbb zal zad zae zaf zat zau zas zam zar zbc zaz zac zaj zak zag zbd zah (bk1 zbx zbo zbq zcf zbr zbs zbz zbl zbt zbu zca zbv zbe zbg zbh zcd zce zbp zbi zcc zcb zbw zbf zbm zbn zbj zby zbk [])) (LawQ res 0 0)) : ∀ (n : Nat), ∀ {zao zan zap zaq zai zal zad zae zaf : List Int32} {zam zar zac zaj zak zag zah : Int32} {zbx zbo zbq zcf zbr zbs zbz zbl zbt zbu zca zbv zbe zbg zbh : List Int32} {zcd zce zbp zbi zcc zcb zbw zbf zbm zbn zbj zby zbk v3 v4 zat zau zas zbc zaz zbd : Int32} {zav zaw zba zax zay zbb : List Int32} {d0 d5 d6 d7 : Slot} {res : Int32}, f_L_law_168 k265 scr n zao zan zap zaq zai zal zad zae zaf zam zar zac zaj zak zag zah zbx zbo zbq zcf zbr zbs zbz zbl zbt zbu zca zbv zbe zbg zbh zcd zce zbp zbi zcc zcb zbw zbf zbm zbn zbj zby zbk v3 v4 = some res → OEndsQ own_P 0 168 [d0, qr 1, qr 17, qi v3, qi v4, d5, d6, d7] [] (qa scr :: bk0 zao zan zap zaq zav zaw zba zai zax zay zbb zal zad zae zaf zat zau zas zam zar zbc zaz zac zaj zak zag zbd zah (bk1 zbx zbo zbq zcf zbr zbs zbz zbl zbt zbu zca zbv zbe zbg zbh zcd zce zbp zbi zcc zcb zbw zbf zbm zbn zbj zby zbk [])) (LawQ res 0 0) := by
  intro n
  induction n with
  | zero => intro zao zan zap zaq zai zal zad zae zaf zam zar zac zaj zak zag zah zbx zbo zbq zcf zbr zbs zbz zbl zbt zbu zca zbv zbe zbg zbh zcd zce zbp zbi zcc zcb zbw zbf zbm zbn zbj zby zbk v3 v4 zat zau zas zbc zaz zbd zav zaw zba zax zay zbb d0 d5 d6 d7 res h; cases h
  | succ n ih =>
    intro zao zan zap zaq zai zal zad zae zaf zam zar zac zaj zak zag zah zbx zbo zbq zcf zbr zbs zbz zbl zbt zbu zca zbv zbe zbg zbh zcd zce zbp zbi zcc zcb zbw zbf zbm zbn zbj zby zbk v3 v4 zat zau zas zbc zaz zbd zav zaw zba zax zay zbb d0 d5 d6 d7 res h
    unfold f_L_law_168 at h
    refine OEndsQ.adv hm_0 2 (pc' := 172) (L' := [qu, qr 1, qr 17, qi v3, qi v4, qu, qu, qu]) (S' := [.int 16, .int v4]) (H' := (qa scr :: bk0 zao zan zap zaq zav zaw zba zai zax zay zbb zal zad zae zaf zat zau zas zam zar zbc zaz zac zaj zak zag zbd zah (bk1 zbx zbo zbq zcf zbr zbs zbz zbl zbt zbu zca zbv zbe zbg zbh zcd zce zbp zbi zcc zcb zbw zbf zbm zbn zbj zby zbk []))) rfl ?_
    by_cases hc270 : v4 < (16 : Int32)
    · simp only [if_pos hc270] at h
      refine OEndsQ.icmpF hm_0 rfl ((tlt hc270).2.1) ?_
      refine OEndsQ.adv hm_0 2 (pc' := 178) (L' := [qu, qr 1, qr 17, qi v3, qi v4, qu, qu, qu]) (S' := [.int v3, .int v4]) (H' := (qa scr :: bk0 zao zan zap zaq zav zaw zba zai zax zay zbb zal zad zae zaf zat zau zas zam zar zbc zaz zac zaj zak zag zbd zah (bk1 zbx zbo zbq zcf zbr zbs zbz zbl zbt zbu zca zbv zbe zbg zbh zcd zce zbp zbi zcc zcb zbw zbf zbm zbn zbj zby zbk []))) rfl ?_
      by_cases hc271 : v4 < v3
      · simp only [if_pos hc271] at h
        refine OEndsQ.icmpF hm_0 rfl ((tlt hc271).2.1) ?_
        refine OEndsQ.adv hm_0 2 (pc' := 184) (L' := [qu, qr 1, qr 17, qi v3, qi v4, qu, qu, qu]) (S' := [.int v4, .ref 1]) (H' := (qa scr :: bk0 zao zan zap zaq zav zaw zba zai zax zay zbb zal zad zae zaf zat zau zas zam zar zbc zaz zac zaj zak zag zbd zah (bk1 zbx zbo zbq zcf zbr zbs zbz zbl zbt zbu zca zbv zbe zbg zbh zcd zce zbp zbi zcc zcb zbw zbf zbm zbn zbj zby zbk []))) rfl ?_
        obtain ⟨r233, hq272, h⟩ := bnd h
        refine OEndsQ.call0 hm_0 rfl rfl (by decide) rfl (as := [.ref 1, .int v4]) (rest := []) rfl rfl (ok_keywordLength_0 hq272) ?_
        refine OEndsQ.adv hm_0 3 (pc' := 192) (L' := [qu, qr 1, qr 17, qi v3, qi v4, qi r233, qi 0, qu]) (S' := []) (H' := (qa scr :: bk0 zao zan zap zaq zav zaw zba zai zax zay zbb zal zad zae zaf zat zau zas zam zar zbc zaz zac zaj zak zag zbd zah (bk1 zbx zbo zbq zcf zbr zbs zbz zbl zbt zbu zca zbv zbe zbg zbh zcd zce zbp zbi zcc zcb zbw zbf zbm zbn zbj zby zbk []))) rfl ?_
        exact ok_L_law_192 (k237 := f_L_law_237 (f_L_law_168 k265 scr n) k265 scr) (ok_L_law_237 ih hk265) 100000 h
      · simp only [if_neg hc271] at h
        refine OEndsQ.icmpT hm_0 rfl (q := 265) rfl ((flt hc271).2.1) ?_
        show OEndsQ own_P 0 265 [qu, qr 1, qr 17, qi v3, qi v4, qu, qu, qu] [] (qa scr :: bk0 zao zan zap zaq zav zaw zba zai zax zay zbb zal zad zae zaf zat zau zas zam zar zbc zaz zac zaj zak zag zbd zah (bk1 zbx zbo zbq zcf zbr zbs zbz zbl zbt zbu zca zbv zbe zbg zbh zcd zce zbp zbi zcc zcb zbw zbf zbm zbn zbj zby zbk [])) _
        exact hk265 h
    · simp only [if_neg hc270] at h
      refine OEndsQ.icmpT hm_0 rfl (q := 265) rfl ((flt hc270).2.1) ?_
      show OEndsQ own_P 0 265 [qu, qr 1, qr 17, qi v3, qi v4, qu, qu, qu] [] (qa scr :: bk0 zao zan zap zaq zav zaw zba zai zax zay zbb zal zad zae zaf zat zau zas zam zar zbc zaz zac zaj zak zag zbd zah (bk1 zbx zbo zbq zcf zbr zbs zbz zbl zbt zbu zca zbv zbe zbg zbh zcd zce zbp zbi zcc zcb zbw zbf zbm zbn zbj zby zbk [])) _
      exact hk265 h
theorem ok_L_law_140 {scr : List Int32} : ∀ {zao zan zap zaq zai zal zad zae zaf : List Int32} {zas zam zar zac zaj zak zag zah zat zau zbc zaz zbd : Int32} {zav zaw zba zax zay zbb : List Int32} {d0 d2 d3 d4 d5 d6 d7 : Slot} {res : Int32}, f_L_law_140 scr zao zan zap zaq zai zal zad zae zaf zas zam zar zac zaj zak zag zah = some res → OEndsQ own_P 0 140 [d0, qr 1, d2, d3, d4, d5, d6, d7] [] (qa scr :: bk0 zao zan zap zaq zav zaw zba zai zax zay zbb zal zad zae zaf zat zau zas zam zar zbc zaz zac zaj zak zag zbd zah []) (LawQ res 16 8277) := by
  intro zao zan zap zaq zai zal zad zae zaf zas zam zar zac zaj zak zag zah zat zau zbc zaz zbd zav zaw zba zax zay zbb d0 d2 d3 d4 d5 d6 d7 res h
  unfold f_L_law_140 at h
  refine OEndsQ.adv hm_0 1 (pc' := 141) (L' := [qu, qr 1, qu, qu, qu, qu, qu, qu]) (S' := [.ref 1]) (H' := (qa scr :: bk0 zao zan zap zaq zav zaw zba zai zax zay zbb zal zad zae zaf zat zau zas zam zar zbc zaz zac zaj zak zag zbd zah [])) rfl ?_
  obtain ⟨r203, hq273, h⟩ := bnd h
  refine OEndsQ.call0 hm_0 rfl rfl (by decide) rfl (as := [.ref 1]) (rest := []) rfl rfl (ok_phase_0 hq273) ?_
  refine OEndsQ.adv hm_0 1 (pc' := 145) (L' := [qu, qr 1, qu, qu, qu, qu, qu, qu]) (S' := [.int 1, .int r203]) (H' := (qa scr :: bk0 zao zan zap zaq zav zaw zba zai zax zay zbb zal zad zae zaf zat zau zas zam zar zbc zaz zac zaj zak zag zbd zah [])) rfl ?_
  by_cases hc274 : r203 = (1 : Int32)
  · simp only [if_pos hc274] at h
    refine OEndsQ.icmpT hm_0 rfl (q := 150) rfl ((teq hc274).1) ?_
    show OEndsQ own_P 0 150 [qu, qr 1, qu, qu, qu, qu, qu, qu] [] (qa scr :: bk0 zao zan zap zaq zav zaw zba zai zax zay zbb zal zad zae zaf zat zau zas zam zar zbc zaz zac zaj zak zag zbd zah []) _
    refine OEndsQ.made hm_0 rfl rfl (ks := 28) (c0 := 15) (s0 := 8249) rfl (Nat.le_of_ble_eq_true rfl) (Nat.le_of_ble_eq_true rfl) ?_
    refine OEndsQ.adv hm_0 3 (pc' := 156) (L' := [qu, qr 1, qu, qu, qu, qu, qu, qu]) (S' := [.int 3, .int 4, .ref 17, .ref 17]) (H' := (qa scr :: bk0 zao zan zap zaq zav zaw zba zai zax zay zbb zal zad zae zaf zat zau zas zam zar zbc zaz zac zaj zak zag zbd zah ((.inl (0, [.null, .null, .null, .null, .null, .null, .null, .null, .null, .null, .null, .null, .null, .null, .null, .int 0, .int 0, .int 0, .int 0, .int 0, .int 0, .int 0, .int 0, .int 0, .int 0, .int 0, .int 0, .int 0]) : ACell) :: []))) rfl ?_
    obtain ⟨⟨s204, s205, s206, s207, s208, s209, s210, s211, s212, s213, s214, s215, s216, s217, s218, s219, s220, s221, s222, s223, s224, s225, s226, s227, s228, s229, s230, s231⟩, hq275, h⟩ := bnd h
    refine OEndsQ.callN hm_0 rfl rfl (by decide) rfl (as := [.ref 17, .int 4, .int 3]) (rest := [.ref 17]) rfl rfl (c0 := 0) (s0 := 0) (ok_init_1 hq275) (Nat.le_of_ble_eq_true rfl) (Nat.le_of_ble_eq_true rfl) ?_
    refine OEndsQ.adv hm_0 2 (pc' := 161) (L' := [qu, qr 1, qr 17, qu, qu, qu, qu, qu]) (S' := [.ref 1]) (H' := (qa scr :: bk0 zao zan zap zaq zav zaw zba zai zax zay zbb zal zad zae zaf zat zau zas zam zar zbc zaz zac zaj zak zag zbd zah (bk1 s204 s205 s206 s207 s208 s209 s210 s211 s212 s213 s214 s215 s216 s217 s218 s219 s220 s221 s222 s223 s224 s225 s226 s227 s228 s229 s230 s231 []))) rfl ?_
    obtain ⟨r232, hq276, h⟩ := bnd h
    refine OEndsQ.call0 hm_0 rfl rfl (by decide) rfl (as := [.ref 1]) (rest := []) rfl rfl (ok_keywordCount_0 hq276) ?_
    refine OEndsQ.adv hm_0 3 (pc' := 168) (L' := [qu, qr 1, qr 17, qi r232, qi 0, qu, qu, qu]) (S' := []) (H' := (qa scr :: bk0 zao zan zap zaq zav zaw zba zai zax zay zbb zal zad zae zaf zat zau zas zam zar zbc zaz zac zaj zak zag zbd zah (bk1 s204 s205 s206 s207 s208 s209 s210 s211 s212 s213 s214 s215 s216 s217 s218 s219 s220 s221 s222 s223 s224 s225 s226 s227 s228 s229 s230 s231 []))) rfl ?_
    exact ok_L_law_168 (k265 := f_L_law_265 scr) ok_L_law_265 100000 h
  · simp only [if_neg hc274] at h
    refine OEndsQ.icmpF hm_0 rfl ((feq hc274).1) ?_
    refine OEndsQ.adv hm_0 1 (pc' := 149) (L' := [qu, qr 1, qu, qu, qu, qu, qu, qu]) (S' := [.int 1]) (H' := (qa scr :: bk0 zao zan zap zaq zav zaw zba zai zax zay zbb zal zad zae zaf zat zau zas zam zar zbc zaz zac zaj zak zag zbd zah [])) rfl ?_
    cases h
    exact OEndsQ.iret hm_0 rfl rfl
theorem ok_L_law_127 {scr : List Int32} {kb : List Int32 → List Int32 → List Int32 → List Int32 → List Int32 → List Int32 → List Int32 → List Int32 → List Int32 → List Int32 → List Int32 → List Int32 → List Int32 → List Int32 → List Int32 → Int32 → Int32 → Int32 → Int32 → Int32 → Int32 → Int32 → Int32 → Int32 → Int32 → Int32 → Int32 → Int32 → Int32 → Option (Int32)} {k140 : List Int32 → List Int32 → List Int32 → List Int32 → List Int32 → List Int32 → List Int32 → List Int32 → List Int32 → Int32 → Int32 → Int32 → Int32 → Int32 → Int32 → Int32 → Int32 → Option (Int32)} (hkb : ∀ {zao zan zap zaq zav zaw zba zai zax zay zbb zal zad zae zaf : List Int32} {zat zau zas zam zar zbc zaz zac zaj zak zag zbd zah v2 : Int32} {d3 d4 d5 d6 d7 : Slot} {res : Int32}, kb zao zan zap zaq zav zaw zba zai zax zay zbb zal zad zae zaf zat zau zas zam zar zbc zaz zac zaj zak zag zbd zah v2 = some res → OEndsQ own_P 0 12 [qr 0, qr 1, qi v2, d3, d4, d5, d6, d7] [] (qa scr :: bk0 zao zan zap zaq zav zaw zba zai zax zay zbb zal zad zae zaf zat zau zas zam zar zbc zaz zac zaj zak zag zbd zah []) (LawQ res 16 8277)) (hk140 : ∀ {zao zan zap zaq zai zal zad zae zaf : List Int32} {zas zam zar zac zaj zak zag zah zat zau zbc zaz zbd : Int32} {zav zaw zba zax zay zbb : List Int32} {d0 d2 d3 d4 d5 d6 d7 : Slot} {res : Int32}, k140 zao zan zap zaq zai zal zad zae zaf zas zam zar zac zaj zak zag zah = some res → OEndsQ own_P 0 140 [d0, qr 1, d2, d3, d4, d5, d6, d7] [] (qa scr :: bk0 zao zan zap zaq zav zaw zba zai zax zay zbb zal zad zae zaf zat zau zas zam zar zbc zaz zac zaj zak zag zbd zah []) (LawQ res 16 8277)) : ∀ {zao zan zap zaq zav zaw zba zai zax zay zbb zal zad zae zaf : List Int32} {zat zau zas zam zar zbc zaz zac zaj zak zag zbd zah v2 v5 : Int32} {d3 d4 d6 d7 : Slot} {res : Int32}, f_L_law_127 kb k140 scr zao zan zap zaq zav zaw zba zai zax zay zbb zal zad zae zaf zat zau zas zam zar zbc zaz zac zaj zak zag zbd zah v2 v5 = some res → OEndsQ own_P 0 127 [qr 0, qr 1, qi v2, d3, d4, qi v5, d6, d7] [] (qa scr :: bk0 zao zan zap zaq zav zaw zba zai zax zay zbb zal zad zae zaf zat zau zas zam zar zbc zaz zac zaj zak zag zbd zah []) (LawQ res 16 8277) := by
  intro zao zan zap zaq zav zaw zba zai zax zay zbb zal zad zae zaf zat zau zas zam zar zbc zaz zac zaj zak zag zbd zah v2 v5 d3 d4 d6 d7 res h
  unfold f_L_law_127 at h
  refine OEndsQ.adv hm_0 2 (pc' := 130) (L' := [qr 0, qr 1, qi v2, qu, qu, qi v5, qu, qu]) (S' := [.int v5, .ref 1]) (H' := (qa scr :: bk0 zao zan zap zaq zav zaw zba zai zax zay zbb zal zad zae zaf zat zau zas zam zar zbc zaz zac zaj zak zag zbd zah [])) rfl ?_
  obtain ⟨⟨r192, s193, s194, s195, s196, s197, s198, s199, s200, s201, s202⟩, hq277, h⟩ := bnd h
  refine OEndsQ.call0 hm_0 rfl rfl (by decide) rfl (as := [.ref 1, .int v5]) (rest := []) rfl rfl (ok_feed_0 hq277) ?_
  refine OEndsQ.adv hm_0 3 (pc' := 12) (L' := [qr 0, qr 1, qi (v2 + (2 : Int32)), qu, qu, qi v5, qu, qu]) (S' := []) (H' := (qa scr :: bk0 zao zan zap zaq zav zaw zba zai zax zay zbb s193 s194 s195 s196 zat zau zas zam zar zbc zaz s197 s198 s199 s200 s201 s202 [])) rfl ?_
  exact hkb h
theorem ok_L_law_12 {scr : List Int32} {k140 : List Int32 → List Int32 → List Int32 → List Int32 → List Int32 → List Int32 → List Int32 → List Int32 → List Int32 → Int32 → Int32 → Int32 → Int32 → Int32 → Int32 → Int32 → Int32 → Option (Int32)} (hk140 : ∀ {zao zan zap zaq zai zal zad zae zaf : List Int32} {zas zam zar zac zaj zak zag zah zat zau zbc zaz zbd : Int32} {zav zaw zba zax zay zbb : List Int32} {d0 d2 d3 d4 d5 d6 d7 : Slot} {res : Int32}, k140 zao zan zap zaq zai zal zad zae zaf zas zam zar zac zaj zak zag zah = some res → OEndsQ own_P 0 140 [d0, qr 1, d2, d3, d4, d5, d6, d7] [] (qa scr :: bk0 zao zan zap zaq zav zaw zba zai zax zay zbb zal zad zae zaf zat zau zas zam zar zbc zaz zac zaj zak zag zbd zah []) (LawQ res 16 8277)) : ∀ (n : Nat), ∀ {zao zan zap zaq zav zaw zba zai zax zay zbb zal zad zae zaf : List Int32} {zat zau zas zam zar zbc zaz zac zaj zak zag zbd zah v2 : Int32} {d3 d4 d5 d6 d7 : Slot} {res : Int32}, f_L_law_12 k140 scr n zao zan zap zaq zav zaw zba zai zax zay zbb zal zad zae zaf zat zau zas zam zar zbc zaz zac zaj zak zag zbd zah v2 = some res → OEndsQ own_P 0 12 [qr 0, qr 1, qi v2, d3, d4, d5, d6, d7] [] (qa scr :: bk0 zao zan zap zaq zav zaw zba zai zax zay zbb zal zad zae zaf zat zau zas zam zar zbc zaz zac zaj zak zag zbd zah []) (LawQ res 16 8277) := by
  intro n
  induction n with
  | zero => intro zao zan zap zaq zav zaw zba zai zax zay zbb zal zad zae zaf zat zau zas zam zar zbc zaz zac zaj zak zag zbd zah v2 d3 d4 d5 d6 d7 res h; cases h
  | succ n ih =>
    intro zao zan zap zaq zav zaw zba zai zax zay zbb zal zad zae zaf zat zau zas zam zar zbc zaz zac zaj zak zag zbd zah v2 d3 d4 d5 d6 d7 res h
    unfold f_L_law_12 at h
    refine OEndsQ.adv hm_0 5 (pc' := 17) (L' := [qr 0, qr 1, qi v2, qu, qu, qu, qu, qu]) (S' := [.int scr.length.toInt32, .int (v2 + (1 : Int32))]) (H' := (qa scr :: bk0 zao zan zap zaq zav zaw zba zai zax zay zbb zal zad zae zaf zat zau zas zam zar zbc zaz zac zaj zak zag zbd zah [])) rfl ?_
    by_cases hc278 : (v2 + (1 : Int32)) < scr.length.toInt32
    · simp only [if_pos hc278] at h
      refine OEndsQ.icmpF hm_0 rfl ((tlt hc278).2.1) ?_
      refine OEndsQ.adv hm_0 2 (pc' := 22) (L' := [qr 0, qr 1, qi v2, qu, qu, qu, qu, qu]) (S' := [.int v2, .ref 0]) (H' := (qa scr :: bk0 zao zan zap zaq zav zaw zba zai zax zay zbb zal zad zae zaf zat zau zas zam zar zbc zaz zac zaj zak zag zbd zah [])) rfl ?_
      obtain ⟨x157, hx157, h⟩ := bnd h
      refine OEndsQ.plain hm_0 rfl rfl (x_iaload rfl hx157) ?_
      refine OEndsQ.adv hm_0 7 (pc' := 31) (L' := [qr 0, qr 1, qi v2, qi (x157 &&& (7 : Int32)), qu, qu, qu, qu]) (S' := [.int (v2 + (1 : Int32)), .ref 0]) (H' := (qa scr :: bk0 zao zan zap zaq zav zaw zba zai zax zay zbb zal zad zae zaf zat zau zas zam zar zbc zaz zac zaj zak zag zbd zah [])) rfl ?_
      obtain ⟨x158, hx158, h⟩ := bnd h
      refine OEndsQ.plain hm_0 rfl rfl (x_iaload rfl hx158) ?_
      refine OEndsQ.adv hm_0 3 (pc' := 36) (L' := [qr 0, qr 1, qi v2, qi (x157 &&& (7 : Int32)), qi x158, qu, qu, qu]) (S' := [.int 1, .int (x157 &&& (7 : Int32))]) (H' := (qa scr :: bk0 zao zan zap zaq zav zaw zba zai zax zay zbb zal zad zae zaf zat zau zas zam zar zbc zaz zac zaj zak zag zbd zah [])) rfl ?_
      by_cases hc279 : (1 : Int32) < (x157 &&& (7 : Int32))
      · simp only [if_pos hc279] at h
        refine OEndsQ.icmpT hm_0 rfl (q := 55) rfl ((tlt hc279).2.2.1) ?_
        refine OEndsQ.adv hm_0 2 (pc' := 57) (L' := [qr 0, qr 1, qi v2, qi (x157 &&& (7 : Int32)), qi x158, qu, qu, qu]) (S' := [.int 2, .int (x157 &&& (7 : Int32))]) (H' := (qa scr :: bk0 zao zan zap zaq zav zaw zba zai zax zay zbb zal zad zae zaf zat zau zas zam zar zbc zaz zac zaj zak zag zbd zah [])) rfl ?_
        by_cases hc280 : (x157 &&& (7 : Int32)) = (2 : Int32)
        · simp only [if_pos hc280] at h
          refine OEndsQ.icmpF hm_0 rfl ((teq hc280).2) ?_
          refine OEndsQ.adv hm_0 6 (pc' := 69) (L' := [qr 0, qr 1, qi v2, qi (x157 &&& (7 : Int32)), qi x158, qu, qu, qu]) (S' := [.int ((31 : Int32) + (x158 &&& (63 : Int32))), .ref 1]) (H' := (qa scr :: bk0 zao zan zap zaq zav zaw zba zai zax zay zbb zal zad zae zaf zat zau zas zam zar zbc zaz zac zaj zak zag zbd zah [])) rfl ?_
          obtain ⟨⟨r183, s184, s185, s186, s187, s188⟩, hq281, h⟩ := bnd h
          refine OEndsQ.call0 hm_0 rfl rfl (by decide) rfl (as := [.ref 1, .int ((31 : Int32) + (x158 &&& (63 : Int32)))]) (rest := []) rfl rfl (ok_endKeyword_0 hq281) ?_
          refine OEndsQ.adv hm_0 4 (pc' := 12) (L' := [qr 0, qr 1, qi (v2 + (2 : Int32)), qi (x157 &&& (7 : Int32)), qi x158, qu, qu, qu]) (S' := []) (H' := (qa scr :: bk0 s184 s185 s186 zaq zav zaw zba zai zax zay zbb zal zad zae zaf zat zau zas s187 s188 zbc zaz zac zaj zak zag zbd zah [])) rfl ?_
          exact ih h
        · simp only [if_neg hc280] at h
          refine OEndsQ.icmpT hm_0 rfl (q := 76) rfl ((feq hc280).2) ?_
          refine OEndsQ.adv hm_0 2 (pc' := 78) (L' := [qr 0, qr 1, qi v2, qi (x157 &&& (7 : Int32)), qi x158, qu, qu, qu]) (S' := [.int 3, .int (x157 &&& (7 : Int32))]) (H' := (qa scr :: bk0 zao zan zap zaq zav zaw zba zai zax zay zbb zal zad zae zaf zat zau zas zam zar zbc zaz zac zaj zak zag zbd zah [])) rfl ?_
          by_cases hc282 : (x157 &&& (7 : Int32)) = (3 : Int32)
          · simp only [if_pos hc282] at h
            refine OEndsQ.icmpF hm_0 rfl ((teq hc282).2) ?_
            refine OEndsQ.adv hm_0 1 (pc' := 82) (L' := [qr 0, qr 1, qi v2, qi (x157 &&& (7 : Int32)), qi x158, qu, qu, qu]) (S' := [.ref 1]) (H' := (qa scr :: bk0 zao zan zap zaq zav zaw zba zai zax zay zbb zal zad zae zaf zat zau zas zam zar zbc zaz zac zaj zak zag zbd zah [])) rfl ?_
            obtain ⟨⟨r166, s167, s168, s169, s170, s171, s172, s173, s174, s175, s176, s177, s178, s179, s180, s181, s182⟩, hq283, h⟩ := bnd h
            refine OEndsQ.call0 hm_0 rfl rfl (by decide) rfl (as := [.ref 1]) (rest := []) rfl rfl (ok_build_0 hq283) ?_
            refine OEndsQ.adv hm_0 4 (pc' := 12) (L' := [qr 0, qr 1, qi (v2 + (2 : Int32)), qi (x157 &&& (7 : Int32)), qi x158, qu, qu, qu]) (S' := []) (H' := (qa scr :: bk0 zao zan zap zaq s167 s168 s169 s170 s171 s172 s173 zal zad zae zaf zat zau s174 zam zar s175 s176 s177 s178 s179 s180 s181 s182 [])) rfl ?_
            exact ih h
          · simp only [if_neg hc282] at h
            refine OEndsQ.icmpT hm_0 rfl (q := 89) rfl ((feq hc282).2) ?_
            refine OEndsQ.adv hm_0 2 (pc' := 92) (L' := [qr 0, qr 1, qi v2, qi (x157 &&& (7 : Int32)), qi x158, qu, qu, qu]) (S' := [.int 7, .int (x157 &&& (7 : Int32))]) (H' := (qa scr :: bk0 zao zan zap zaq zav zaw zba zai zax zay zbb zal zad zae zaf zat zau zas zam zar zbc zaz zac zaj zak zag zbd zah [])) rfl ?_
            by_cases hc284 : (x157 &&& (7 : Int32)) = (7 : Int32)
            · simp only [if_pos hc284] at h
              refine OEndsQ.icmpF hm_0 rfl ((teq hc284).2) ?_
              refine OEndsQ.adv hm_0 1 (pc' := 96) (L' := [qr 0, qr 1, qi v2, qi (x157 &&& (7 : Int32)), qi x158, qu, qu, qu]) (S' := [.ref 1]) (H' := (qa scr :: bk0 zao zan zap zaq zav zaw zba zai zax zay zbb zal zad zae zaf zat zau zas zam zar zbc zaz zac zaj zak zag zbd zah [])) rfl ?_
              obtain ⟨⟨r159, s160, s161, s162, s163, s164, s165⟩, hq285, h⟩ := bnd h
              refine OEndsQ.call0 hm_0 rfl rfl (by decide) rfl (as := [.ref 1]) (rest := []) rfl rfl (ok_resetText_0 hq285) ?_
              refine OEndsQ.adv hm_0 4 (pc' := 12) (L' := [qr 0, qr 1, qi (v2 + (2 : Int32)), qi (x157 &&& (7 : Int32)), qi x158, qu, qu, qu]) (S' := []) (H' := (qa scr :: bk0 zao zan zap zaq zav zaw zba zai zax zay zbb zal zad zae zaf zat zau zas zam zar zbc zaz s160 s161 s162 s163 s164 s165 [])) rfl ?_
              exact ih h
            · simp only [if_neg hc284] at h
              refine OEndsQ.icmpT hm_0 rfl (q := 103) rfl ((feq hc284).2) ?_
              refine OEndsQ.adv hm_0 10 (pc' := 120) (L' := [qr 0, qr 1, qi v2, qi (x157 &&& (7 : Int32)), qi x158, qi ((97 : Int32) + (x158 &&& (7 : Int32))), qu, qu]) (S' := [.int 48, .int (x158 &&& (48 : Int32))]) (H' := (qa scr :: bk0 zao zan zap zaq zav zaw zba zai zax zay zbb zal zad zae zaf zat zau zas zam zar zbc zaz zac zaj zak zag zbd zah [])) rfl ?_
              by_cases hc286 : (x158 &&& (48 : Int32)) = (48 : Int32)
              · simp only [if_pos hc286] at h
                refine OEndsQ.icmpF hm_0 rfl ((teq hc286).2) ?_
                refine OEndsQ.adv hm_0 2 (pc' := 127) (L' := [qr 0, qr 1, qi v2, qi (x157 &&& (7 : Int32)), qi x158, qi 127, qu, qu]) (S' := []) (H' := (qa scr :: bk0 zao zan zap zaq zav zaw zba zai zax zay zbb zal zad zae zaf zat zau zas zam zar zbc zaz zac zaj zak zag zbd zah [])) rfl ?_
                exact ok_L_law_127 ih hk140 h
              · simp only [if_neg hc286] at h
                refine OEndsQ.icmpT hm_0 rfl (q := 127) rfl ((feq hc286).2) ?_
                show OEndsQ own_P 0 127 [qr 0, qr 1, qi v2, qi (x157 &&& (7 : Int32)), qi x158, qi ((97 : Int32) + (x158 &&& (7 : Int32))), qu, qu] [] (qa scr :: bk0 zao zan zap zaq zav zaw zba zai zax zay zbb zal zad zae zaf zat zau zas zam zar zbc zaz zac zaj zak zag zbd zah []) _
                exact ok_L_law_127 ih hk140 h
      · simp only [if_neg hc279] at h
        refine OEndsQ.icmpF hm_0 rfl ((flt hc279).2.2.1) ?_
        refine OEndsQ.adv hm_0 6 (pc' := 48) (L' := [qr 0, qr 1, qi v2, qi (x157 &&& (7 : Int32)), qi x158, qu, qu, qu]) (S' := [.int ((96 : Int32) + (x158 &&& (7 : Int32))), .ref 1]) (H' := (qa scr :: bk0 zao zan zap zaq zav zaw zba zai zax zay zbb zal zad zae zaf zat zau zas zam zar zbc zaz zac zaj zak zag zbd zah [])) rfl ?_
        obtain ⟨⟨r189, s190, s191⟩, hq287, h⟩ := bnd h
        refine OEndsQ.call0 hm_0 rfl rfl (by decide) rfl (as := [.ref 1, .int ((96 : Int32) + (x158 &&& (7 : Int32)))]) (rest := []) rfl rfl (ok_addChar_0 hq287) ?_
        refine OEndsQ.adv hm_0 4 (pc' := 12) (L' := [qr 0, qr 1, qi (v2 + (2 : Int32)), qi (x157 &&& (7 : Int32)), qi x158, qu, qu, qu]) (S' := []) (H' := (qa scr :: bk0 zao zan zap s190 zav zaw zba zai zax zay zbb zal zad zae zaf zat zau zas zam s191 zbc zaz zac zaj zak zag zbd zah [])) rfl ?_
        exact ih h
    · simp only [if_neg hc278] at h
      refine OEndsQ.icmpT hm_0 rfl (q := 140) rfl ((flt hc278).2.1) ?_
      show OEndsQ own_P 0 140 [qr 0, qr 1, qi v2, qu, qu, qu, qu, qu] [] (qa scr :: bk0 zao zan zap zaq zav zaw zba zai zax zay zbb zal zad zae zaf zat zau zas zam zar zbc zaz zac zaj zak zag zbd zah []) _
      exact hk140 h
theorem ok_L_law {scr : List Int32} {res : Int32} (h : f_L_law scr = some res) : OEndsQ own_P 0 0 [qr 0, qu, qu, qu, qu, qu, qu, qu] [] (qa scr :: []) (LawQ res 32 16554) := by
  unfold f_L_law at h
  refine OEndsQ.made hm_0 rfl rfl (ks := 28) (c0 := 31) (s0 := 16526) rfl (Nat.le_of_ble_eq_true rfl) (Nat.le_of_ble_eq_true rfl) ?_
  refine OEndsQ.adv hm_0 3 (pc' := 6) (L' := [qr 0, qu, qu, qu, qu, qu, qu, qu]) (S' := [.int 3, .int 4, .ref 1, .ref 1]) (H' := (qa scr :: (.inl (0, [.null, .null, .null, .null, .null, .null, .null, .null, .null, .null, .null, .null, .null, .null, .null, .int 0, .int 0, .int 0, .int 0, .int 0, .int 0, .int 0, .int 0, .int 0, .int 0, .int 0, .int 0, .int 0]) : ACell) :: [])) rfl ?_
  obtain ⟨⟨s129, s130, s131, s132, s133, s134, s135, s136, s137, s138, s139, s140, s141, s142, s143, s144, s145, s146, s147, s148, s149, s150, s151, s152, s153, s154, s155, s156⟩, hq288, h⟩ := bnd h
  refine OEndsQ.callN hm_0 rfl rfl (by decide) rfl (as := [.ref 1, .int 4, .int 3]) (rest := [.ref 1]) rfl rfl (c0 := 16) (s0 := 8277) (ok_init_0 hq288) (Nat.le_of_ble_eq_true rfl) (Nat.le_of_ble_eq_true rfl) ?_
  refine OEndsQ.adv hm_0 3 (pc' := 12) (L' := [qr 0, qr 1, qi 0, qu, qu, qu, qu, qu]) (S' := []) (H' := (qa scr :: bk0 s129 s130 s131 s132 s133 s134 s135 s136 s137 s138 s139 s140 s141 s142 s143 s144 s145 s146 s147 s148 s149 s150 s151 s152 s153 s154 s155 s156 [])) rfl ?_
  exact ok_L_law_12 (k140 := f_L_law_140 scr) ok_L_law_140 100000 h
theorem own_iL {α : Type} {Q : α → Prop} {a b : Int32} {x y : Option α} (h1 : a.toInt < b.toInt → Tot x Q) (h2 : b.toInt ≤ a.toInt → Tot y Q) : Tot (if a < b then x else y) Q :=
  Tot.ite (fun h => h1 (ilt.mp h)) (fun h => h2 (by rw [ilt] at h; omega))
theorem own_iE {α : Type} {Q : α → Prop} {a b : Int32} {x y : Option α} (h1 : a = b → Tot x Q) (h2 : ¬ a = b → Tot y Q) : Tot (if a = b then x else y) Q :=
  Tot.ite h1 h2
theorem own_p1 {a : Int32} (h : a.toInt < 2147483647) : (a + 1).toInt = a.toInt + 1 := by
  have e1 : (1 : Int32).toInt = 1 := rfl
  have := Int32.le_toInt a
  rw [iadd_i (by omega) (by omega), e1]
def own_V (L : List Int32) (n : Nat) (lo hi : Int) : Prop := L.length = n ∧ ∀ j : Int32, 0 ≤ j.toInt → j.toInt < n → lo ≤ (gI L j).toInt ∧ (gI L j).toInt ≤ hi
theorem own_V.put {L : List Int32} {n : Nat} {lo hi : Int} (h : own_V L n lo hi) {k x : Int32} (k0 : 0 ≤ k.toInt) (k1 : k.toInt < n) (x0 : lo ≤ x.toInt) (x1 : x.toInt ≤ hi) : own_V (L.set k.toInt.toNat x) n lo hi := by
  refine ⟨by rw [List.length_set]; exact h.1, fun j j0 j1 => ?_⟩
  rw [gset k0 (by have := h.1; omega) j0]
  by_cases e : k = j
  · rw [if_pos e]; exact ⟨x0, x1⟩
  · rw [if_neg e]; exact h.2 j j0 j1
theorem own_V.rd {β : Type} {L : List Int32} {n : Nat} {lo hi : Int} (h : own_V L n lo hi) {k : Int32} {f : Int32 → Option β} {Q : β → Prop} (k0 : 0 ≤ k.toInt) (k1 : k.toInt < n) (g : ∀ x : Int32, x = gI L k → lo ≤ x.toInt → x.toInt ≤ hi → Tot (f x) Q) : Tot ((rdA L k).bind f) Q := by
  rw [rdg k0 (by have := h.1; omega), Option.bind_some]
  have r := h.2 k k0 k1
  exact g _ rfl r.1 r.2
theorem own_V.wr {β : Type} {L : List Int32} {n : Nat} {lo hi : Int} (h : own_V L n lo hi) {k x : Int32} {f : List Int32 → Option β} {Q : β → Prop} (k0 : 0 ≤ k.toInt) (k1 : k.toInt < n) (x0 : lo ≤ x.toInt) (x1 : x.toInt ≤ hi) (g : ∀ L' : List Int32, own_V L' n lo hi → Tot (f L') Q) : Tot ((wrA L k x).bind f) Q := by
  rw [wrA_in k0 (by have := h.1; omega), Option.bind_some]
  exact g _ (h.put k0 k1 x0 x1)
theorem own_ix26 {v c : Int32} (v0 : 0 ≤ v.toInt) (v1 : v.toInt ≤ 128) (c0 : 0 ≤ c.toInt) (c1 : c.toInt < 26) : (v * 26 + c).toInt = v.toInt * 26 + c.toInt := by
  have e26 : (26 : Int32).toInt = 26 := rfl
  have m : (v * 26).toInt = v.toInt * 26 := by rw [imul_i (by rw [e26]; omega) (by rw [e26]; omega), e26]
  rw [iadd_i (by omega) (by omega), m]
def own_TR (r : List Int32 × List Int32 × List Int32 × List Int32 × Int32) : Prop := own_V r.1 3354 0 128 ∧ r.2.1.length = 129 ∧ own_V r.2.2.1 129 (-1) 15 ∧ r.2.2.2.1.length = 129 ∧ 1 ≤ r.2.2.2.2.toInt ∧ r.2.2.2.2.toInt ≤ 129
theorem own_insT {KC KL : List Int32} (lC : KC.length = 128) (hL : own_V KL 16 0 8) {v1 : Int32} (w0 : 0 ≤ v1.toInt) (w1 : v1.toInt < 16) : ∀ (f : Nat) (CH DP TM OM : List Int32) (nc v2 v4 : Int32), own_V CH 3354 0 128 → DP.length = 129 → own_V TM 129 (-1) 15 → OM.length = 129 → 1 ≤ nc.toInt → nc.toInt ≤ 129 → 0 ≤ v2.toInt → v2.toInt ≤ 128 → 0 ≤ v4.toInt → v4.toInt ≤ 8 → 8 - v4.toInt < f → Tot (f_insertKeyword_10 (f_insertKeyword_137 KC KL) KC KL f CH DP TM OM nc v1 v2 (v1 * 8) v4) own_TR := by
  intro f
  have e8 : (8 : Int32).toInt = 8 := rfl
  have e0 : (0 : Int32).toInt = 0 := rfl
  have e26 : (26 : Int32).toInt = 26 := rfl
  have e97 : (97 : Int32).toInt = 97 := rfl
  have e129 : (129 : Int32).toInt = 129 := rfl
  have b8 : (v1 * 8).toInt = v1.toInt * 8 := by rw [imul_i (by rw [e8]; omega) (by rw [e8]; omega), e8]
  have lL := hL.1
  induction f with
  | zero => intro CH DP TM OM nc v2 v4 _ _ _ _ _ _ _ _ a b c; exfalso; omega
  | succ f ih =>
    intro CH DP TM OM nc v2 v4 hC hD hT hO n1 n2 a0 a1 b0 b1 c
    have fin1 : Tot (f_insertKeyword_137 KC KL CH DP TM OM nc v1 v2) own_TR := by
      unfold f_insertKeyword_137
      refine hT.wr a0 (by omega) (by omega) (by omega) fun T' hT' => ?_
      rw [rdg a0 (by omega), Option.bind_some, wrA_in a0 (by omega), Option.bind_some]
      exact Tot.mk ⟨hC, hD, hT', by show (List.set _ _ _).length = 129; rw [List.length_set]; exact hO, n1, n2⟩
    have stop : Tot (some (CH, DP, TM, OM, nc)) own_TR := Tot.mk ⟨hC, hD, hT, hO, n1, n2⟩
    unfold f_insertKeyword_10
    rw [rdg w0 (by omega), Option.bind_some]
    refine own_iL (fun c1 => ?_) (fun _ => fin1)
    refine own_iL (fun c2 => ?_) (fun _ => fin1)
    have p4 := own_p1 (a := v4) (by omega)
    have ix : (v1 * 8 + v4).toInt = v1.toInt * 8 + v4.toInt := by rw [iadd_i (by omega) (by omega), b8]
    rw [rdg (by omega) (by omega), Option.bind_some]
    generalize gI KC (v1 * 8 + v4) - 97 = ch
    refine own_iL (fun _ => stop) (fun c3 => ?_)
    refine own_iL (fun c4 => ?_) (fun _ => stop)
    have jx := own_ix26 (v := v2) (c := ch) a0 a1 (by omega) (by omega)
    have i0 : 0 ≤ (v2 * 26 + ch).toInt := by omega
    have i1 : (v2 * 26 + ch).toInt < (3354 : Nat) := by omega
    refine hC.rd i0 i1 fun x27 _ x0 x1 => ?_
    refine own_iE (fun _ => ?_) (fun _ => ?_)
    · refine own_iL (fun c5 => ?_) (fun _ => stop)
      have pn := own_p1 (a := nc) (by omega)
      refine hC.wr i0 i1 (by omega) (by omega) fun C' hC' => ?_
      rw [rdg a0 (by omega), Option.bind_some, wrA_in (by omega) (by omega), Option.bind_some]
      unfold f_insertKeyword_123
      refine hC'.rd i0 i1 fun y _ y0 y1 => ?_
      exact ih _ _ _ _ _ _ _ hC' (by rw [List.length_set]; exact hD) hT hO (by omega) (by omega) y0 y1 (by omega) (by omega) (by omega)
    · unfold f_insertKeyword_123
      refine hC.rd i0 i1 fun y _ y0 y1 => ?_
      exact ih _ _ _ _ _ _ _ hC hD hT hO n1 n2 y0 y1 (by omega) (by omega) (by omega)
def own_TB (r : List Int32 × List Int32 × List Int32 × List Int32 × Int32 × Int32) : Prop := own_V r.1 3354 0 128 ∧ r.2.1.length = 129 ∧ own_V r.2.2.1 129 (-1) 15 ∧ r.2.2.2.1.length = 129 ∧ 1 ≤ r.2.2.2.2.2.toInt ∧ r.2.2.2.2.2.toInt ≤ 8
theorem own_btT {KC KL : List Int32} (lC : KC.length = 128) (hL : own_V KL 16 0 8) {ct : Int32} : ∀ (f : Nat) (CH DP TM OM : List Int32) (nc lk v1 : Int32), own_V CH 3354 0 128 → DP.length = 129 → own_V TM 129 (-1) 15 → OM.length = 129 → 1 ≤ nc.toInt → nc.toInt ≤ 129 → 1 ≤ lk.toInt → lk.toInt ≤ 8 → 0 ≤ v1.toInt → v1.toInt ≤ 16 → 16 - v1.toInt < f → Tot (f_buildTrie_12 KC KL ct f CH DP TM OM nc lk v1) own_TB := by
  intro f
  have e16 : (16 : Int32).toInt = 16 := rfl
  have e0 : (0 : Int32).toInt = 0 := rfl
  induction f with
  | zero => intro CH DP TM OM nc lk v1 _ _ _ _ _ _ _ _ a b c; exfalso; omega
  | succ f ih =>
    intro CH DP TM OM nc lk v1 hC hD hT hO n1 n2 k1 k2 a0 a1 c
    have stop : Tot (some (CH, DP, TM, OM, nc, lk)) own_TB := Tot.mk ⟨hC, hD, hT, hO, k1, k2⟩
    unfold f_buildTrie_12
    refine own_iL (fun c1 => ?_) (fun _ => stop)
    refine own_iL (fun c2 => ?_) (fun _ => stop)
    have p := own_p1 (a := v1) (by omega)
    unfold f_insertKeyword
    refine Tot.bind (own_insT lC hL a0 (by omega) 100000 CH DP TM OM nc 0 0 hC hD hT hO n1 n2 (by omega) (by omega) (by omega) (by omega) (by omega)) ?_
    rintro ⟨C', D', T', O', n'⟩ ⟨q1, q2, q3, q4, q5, q6⟩
    refine hL.rd a0 (by omega) fun x hx x0 x1 => ?_
    refine own_iL (fun c3 => ?_) (fun c3 => ?_)
    · refine hL.rd a0 (by omega) fun y ey y0 y1 => ?_
      have xy : y = x := by rw [hx, ey]
      rw [xy]
      exact ih _ _ _ _ _ _ _ q1 q2 q3 q4 q5 q6 (by omega) (by omega) (by omega) (by omega) (by omega)
    · exact ih _ _ _ _ _ _ _ q1 q2 q3 q4 q5 q6 k1 k2 (by omega) (by omega) (by omega)
def own_LK (r : List Int32 × List Int32 × List Int32 × List Int32) : Prop := own_V r.1 3354 0 128 ∧ own_V r.2.1 129 0 128 ∧ r.2.2.1.length = 129 ∧ own_V r.2.2.2 129 0 128
theorem own_ex58 {CH : List Int32} (hC : own_V CH 3354 0 128) {v1 v3 : Int32} (a0 : 0 ≤ v1.toInt) (a1 : v1.toInt ≤ 128) (b0 : 0 ≤ v3.toInt) (b1 : v3.toInt ≤ 128) : ∀ (f : Nat) (DE FA OM QU : List Int32) (v4 v5 : Int32), own_V DE 3354 0 128 → own_V FA 129 0 128 → OM.length = 129 → own_V QU 129 0 128 → 0 ≤ v4.toInt → v4.toInt ≤ 129 → 0 ≤ v5.toInt → v5.toInt ≤ 26 → 26 - v5.toInt < f → Tot (f_expandNode_58 CH f DE FA OM QU v1 v3 v4 v5) (fun r => own_LK r.2 ∧ 0 ≤ r.1.toInt ∧ r.1.toInt ≤ 129) := by
  intro f
  have e26 : (26 : Int32).toInt = 26 := rfl
  have e129 : (129 : Int32).toInt = 129 := rfl
  induction f with
  | zero => intro DE FA OM QU v4 v5 _ _ _ _ _ _ a b c; exfalso; omega
  | succ f ih =>
    intro DE FA OM QU v4 v5 hD hF hO hQ c0 c1 d0 d1 c
    unfold f_expandNode_58
    refine own_iL (fun g => ?_) (fun _ => Tot.mk ⟨⟨hD, hF, hO, hQ⟩, c0, c1⟩)
    have p5 := own_p1 (a := v5) (by omega)
    have j1 := own_ix26 (v := v1) (c := v5) a0 a1 d0 (by omega)
    have j3 := own_ix26 (v := v3) (c := v5) b0 b1 d0 (by omega)
    refine hC.rd (by omega) (by omega) fun u _ u0 u1 => ?_
    refine hD.rd (by omega) (by omega) fun w _ w0 w1 => ?_
    refine own_iE (fun _ => ?_) (fun _ => ?_)
    · refine hD.wr (by omega) (by omega) w0 w1 fun D' hD' => ?_
      exact ih _ _ _ _ _ _ hD' hF hO hQ c0 c1 (by omega) (by omega) (by omega)
    · refine hF.wr u0 (by omega) w0 w1 fun F' hF' => ?_
      refine hD.wr (by omega) (by omega) u0 u1 fun D' hD' => ?_
      refine own_iL (fun g4 => ?_) (fun _ => ?_)
      · have p4 := own_p1 (a := v4) (by omega)
        refine hQ.wr c0 (by omega) u0 u1 fun Q' hQ' => ?_
        exact ih _ _ _ _ _ _ hD' hF' hO hQ' (by omega) (by omega) (by omega) (by omega) (by omega)
      · exact ih _ _ _ _ _ _ hD' hF' hO hQ c0 c1 (by omega) (by omega) (by omega)
theorem own_exN {CH DE FA OM QU : List Int32} {v1 v2 : Int32} (hC : own_V CH 3354 0 128) (hD : own_V DE 3354 0 128) (hF : own_V FA 129 0 128) (hO : OM.length = 129) (hQ : own_V QU 129 0 128) (c0 : 0 ≤ v2.toInt) (c1 : v2.toInt ≤ 129) : Tot (f_expandNode CH DE FA OM QU v1 v2) (fun r => own_LK r.2 ∧ 0 ≤ r.1.toInt ∧ r.1.toInt ≤ 129) := by
  have e0 : (0 : Int32).toInt = 0 := rfl
  have e129 : (129 : Int32).toInt = 129 := rfl
  unfold f_expandNode
  refine own_iL (fun g1 => ?_) (fun _ => Tot.mk ⟨⟨hD, hF, hO, hQ⟩, c0, c1⟩)
  refine own_iL (fun g2 => ?_) (fun _ => Tot.mk ⟨⟨hD, hF, hO, hQ⟩, c0, c1⟩)
  refine hF.rd (by omega) (by omega) fun x _ x0 x1 => ?_
  have e : (if x < 0 then (0 : Int32) else (if x < 129 then x else 0)) = x := by
    rw [if_neg (by rw [ilt]; omega), if_pos (by rw [ilt]; omega)]
  rw [e]
  unfold f_expandNode_33
  rw [rdg (by omega) (by omega), Option.bind_some, rdg x0 (by omega), Option.bind_some, wrA_in (by omega) (by omega), Option.bind_some]
  exact own_ex58 hC (by omega) (by omega) x0 x1 100000 DE FA _ QU v2 0 hD hF (by rw [List.length_set]; exact hO) hQ c0 c1 (by omega) (by omega) (by omega)
theorem own_cl74 {CH : List Int32} (hC : own_V CH 3354 0 128) : ∀ (f : Nat) (DE FA OM QU : List Int32) (v1 v2 v3 : Int32), own_V DE 3354 0 128 → own_V FA 129 0 128 → OM.length = 129 → own_V QU 129 0 128 → 0 ≤ v1.toInt → v1.toInt ≤ v3.toInt → 0 ≤ v2.toInt → v2.toInt ≤ 129 → 0 ≤ v3.toInt → v3.toInt ≤ 129 → 129 - v3.toInt < f → Tot (f_computeLinks_74 CH f DE FA OM QU v1 v2 v3) own_LK := by
  intro f
  have e129 : (129 : Int32).toInt = 129 := rfl
  induction f with
  | zero => intro DE FA OM QU v1 v2 v3 _ _ _ _ _ _ _ _ a b c; exfalso; omega
  | succ f ih =>
    intro DE FA OM QU v1 v2 v3 hD hF hO hQ a0 a1 b0 b1 d0 d1 c
    unfold f_computeLinks_74
    refine own_iL (fun g => ?_) (fun _ => Tot.mk ⟨hD, hF, hO, hQ⟩)
    refine own_iL (fun g2 => ?_) (fun _ => Tot.mk ⟨hD, hF, hO, hQ⟩)
    have p1 := own_p1 (a := v1) (by omega)
    have p3 := own_p1 (a := v3) (by omega)
    refine hQ.rd a0 (by omega) fun x _ x0 x1 => ?_
    refine Tot.bind (own_exN (v1 := x) hC hD hF hO hQ b0 b1) ?_
    rintro ⟨r, D', F', O', Q'⟩ ⟨⟨q1, q2, q3, q4⟩, r0, r1⟩
    have r0' : 0 ≤ r.toInt := r0
    have r1' : r.toInt ≤ 129 := r1
    exact ih _ _ _ _ _ _ _ q1 q2 q3 q4 (by omega) (by omega) r0' r1' (by omega) (by omega) (by omega)
theorem own_cl13 {CH : List Int32} (hC : own_V CH 3354 0 128) : ∀ (f : Nat) (DE FA OM QU : List Int32) (v2 v3 : Int32), own_V DE 3354 0 128 → own_V FA 129 0 128 → OM.length = 129 → own_V QU 129 0 128 → 0 ≤ v2.toInt → v2.toInt ≤ v3.toInt → 0 ≤ v3.toInt → v3.toInt ≤ 26 → 26 - v3.toInt < f → Tot (f_computeLinks_13 (f_computeLinks_74 CH 100000) CH f DE FA OM QU 0 v2 v3) own_LK := by
  intro f
  have e0 : (0 : Int32).toInt = 0 := rfl
  have e26 : (26 : Int32).toInt = 26 := rfl
  have e129 : (129 : Int32).toInt = 129 := rfl
  induction f with
  | zero => intro DE FA OM QU v2 v3 _ _ _ _ _ _ a b c; exfalso; omega
  | succ f ih =>
    intro DE FA OM QU v2 v3 hD hF hO hQ b0 b1 d0 d1 c
    unfold f_computeLinks_13
    refine own_iL (fun g => ?_) (fun _ => own_cl74 hC 100000 DE FA OM QU 0 v2 0 hD hF hO hQ (by omega) (by omega) b0 (by omega) (by omega) (by omega) (by omega))
    have p3 := own_p1 (a := v3) (by omega)
    refine hC.rd d0 (by omega) fun x _ x0 x1 => ?_
    refine hD.wr d0 (by omega) x0 x1 fun D' hD' => ?_
    refine own_iE (fun _ => ih _ _ _ _ _ _ hD' hF hO hQ b0 (by omega) (by omega) (by omega) (by omega)) (fun _ => ?_)
    refine own_iL (fun g2 => ?_) (fun g2 => by omega)
    have p2 := own_p1 (a := v2) (by omega)
    refine hF.wr x0 (by omega) (by omega) (by omega) fun F' hF' => ?_
    refine hQ.wr b0 (by omega) x0 x1 fun Q' hQ' => ?_
    exact ih _ _ _ _ _ _ hD' hF' hO hQ' (by omega) (by omega) (by omega) (by omega) (by omega)
theorem own_clT {CH DE FA OM QU : List Int32} (hC : own_V CH 3354 0 128) (hD : own_V DE 3354 0 128) (hF : own_V FA 129 0 128) (hO : OM.length = 129) (hQ : own_V QU 129 0 128) : Tot (f_computeLinks CH DE FA OM QU) own_LK := by
  unfold f_computeLinks
  refine hF.wr (by decide) (by decide) (by decide) (by decide) fun F' hF' => ?_
  exact own_cl13 hC 100000 DE F' OM QU 0 0 hD hF' hO hQ (by decide) (by decide) (by decide) (by decide) (by decide)
def own_ag (A B : List Int32) (n : Int32) : Prop := ∀ j : Int32, 0 ≤ j.toInt → j.toInt < n.toInt → gI A j = gI B j
theorem own_ag.put {A B : List Int32} {n x : Int32} {N : Nat} (h : own_ag A B n) (lA : A.length = N) (lB : B.length = N) (n0 : 0 ≤ n.toInt) (n1 : n.toInt < N) (hN : N ≤ 100000) : own_ag (A.set n.toInt.toNat x) (B.set n.toInt.toNat x) (n + 1) := by
  intro j j0 j1
  have p := own_p1 (a := n) (by omega)
  rw [gset n0 (by omega) j0, gset n0 (by omega) j0]
  by_cases e : n = j
  · rw [if_pos e, if_pos e]
  · rw [if_neg e, if_neg e]
    rw [ieq] at e
    exact h j j0 (by omega)
theorem own_let (c : Int32) : (f_isLetter c = some 0 ∧ ¬ (97 ≤ c.toInt ∧ c.toInt ≤ 122)) ∨ (f_isLetter c = some 1 ∧ 97 ≤ c.toInt ∧ c.toInt ≤ 122) := by
  have e97 : (97 : Int32).toInt = 97 := rfl
  have e122 : (122 : Int32).toInt = 122 := rfl
  unfold f_isLetter
  by_cases c1 : c < 97
  · rw [if_pos c1]; rw [ilt] at c1; exact Or.inl ⟨rfl, by omega⟩
  · by_cases c2 : 122 < c
    · rw [if_neg c1, if_pos c2]; rw [ilt] at c2; exact Or.inl ⟨rfl, by omega⟩
    · rw [if_neg c1, if_neg c2]; rw [ilt] at c1 c2; exact Or.inr ⟨rfl, by omega, by omega⟩
theorem own_pri (c : Int32) : (f_isPrintable c = some 0 ∧ ¬ (32 ≤ c.toInt ∧ c.toInt ≤ 126)) ∨ (f_isPrintable c = some 1 ∧ 32 ≤ c.toInt ∧ c.toInt ≤ 126) := by
  have e97 : (32 : Int32).toInt = 32 := rfl
  have e122 : (126 : Int32).toInt = 126 := rfl
  unfold f_isPrintable
  by_cases c1 : c < 32
  · rw [if_pos c1]; rw [ilt] at c1; exact Or.inl ⟨rfl, by omega⟩
  · by_cases c2 : 126 < c
    · rw [if_neg c1, if_pos c2]; rw [ilt] at c2; exact Or.inl ⟨rfl, by omega⟩
    · rw [if_neg c1, if_neg c2]; rw [ilt] at c1 c2; exact Or.inr ⟨rfl, by omega, by omega⟩
theorem own_laX {CH TM TA TB : List Int32} {n i : Int32} (hC : own_V CH 3354 0 128) (hT : own_V TM 129 (-1) 15) (lA : TA.length = 240) (lB : TB.length = 240) (n1 : n.toInt ≤ 240) (ag : own_ag TA TB n) (i0 : 0 ≤ i.toInt) (i1 : i.toInt ≤ 300) : ∀ (f : Nat) (v2 v3 v4 : Int32), -1 ≤ v2.toInt → v2.toInt ≤ 15 → 0 ≤ v3.toInt → v3.toInt ≤ 128 → 0 ≤ v4.toInt → v4.toInt ≤ 8 → 8 - v4.toInt < f → ∃ k : Int32, f_longestAt_7 CH TM TA n f i v2 v3 v4 = some k ∧ f_longestAt_7 CH TM TB n f i v2 v3 v4 = some k ∧ -1 ≤ k.toInt ∧ k.toInt ≤ 15 := by
  intro f
  have e0 : (0 : Int32).toInt = 0 := rfl
  have e8 : (8 : Int32).toInt = 8 := rfl
  have e97 : (97 : Int32).toInt = 97 := rfl
  have lC := hC.1
  have lT := hT.1
  induction f with
  | zero => intro v2 v3 v4 _ _ _ _ a b c; exfalso; omega
  | succ f ih =>
    intro v2 v3 v4 a0 a1 b0 b1 c0 c1 c
    unfold f_longestAt_7
    by_cases g : v4 < 8
    rotate_left
    · rw [if_neg g, if_neg g]; exact ⟨v2, rfl, rfl, a0, a1⟩
    rw [if_pos g, if_pos g]
    rw [ilt] at g
    have p4 := own_p1 (a := v4) (by omega)
    have iv : (i + v4).toInt = i.toInt + v4.toInt := iadd_i (by omega) (by omega)
    have g1 : ¬ i + v4 < 0 := by rw [ilt]; omega
    rw [if_neg g1, if_neg g1]
    by_cases g2 : i + v4 < n
    rotate_left
    · rw [if_neg g2, if_neg g2]; exact ⟨v2, rfl, rfl, a0, a1⟩
    rw [if_pos g2, if_pos g2]
    rw [ilt] at g2
    rw [rdg (by omega) (by omega), rdg (by omega) (by omega), Option.bind_some, Option.bind_some, ag (i + v4) (by omega) g2]
    generalize gI TB (i + v4) = ch
    rcases own_let ch with ⟨e, -⟩ | ⟨e, h1, h2⟩
    · rw [e, Option.bind_some, Option.bind_some, if_pos rfl]; exact ⟨v2, rfl, rfl, a0, a1⟩
    · rw [e, Option.bind_some, Option.bind_some, if_neg (by decide), if_neg (by decide)]
      have sc : (ch - 97).toInt = ch.toInt - 97 := by rw [isub_i (by omega) (by omega), e97]
      have jx := own_ix26 (v := v3) (c := ch - 97) b0 b1 (by omega) (by omega)
      have rx := hC.2 (v3 * 26 + (ch - 97)) (by omega) (by omega)
      rw [rdg (by omega) (by omega), Option.bind_some, Option.bind_some]
      generalize gI CH (v3 * 26 + (ch - 97)) = nx at rx
      by_cases z : nx = 0
      · rw [if_pos z, if_pos z]; exact ⟨v2, rfl, rfl, a0, a1⟩
      · rw [if_neg z, if_neg z]
        have rt := hT.2 nx (by omega) (by omega)
        rw [rdg (by omega) (by omega)]
        simp only [Option.bind_some]
        by_cases q : gI TM nx < 0
        · rw [if_pos q, if_pos q]
          exact ih _ _ _ a0 a1 rx.1 rx.2 (by omega) (by omega) (by omega)
        · rw [if_neg q, if_neg q]
          rw [ilt] at q
          exact ih _ _ _ (by omega) (by omega) rx.1 rx.2 (by omega) (by omega) (by omega)
theorem own_la {CH TM TA TB : List Int32} {n i : Int32} (hC : own_V CH 3354 0 128) (hT : own_V TM 129 (-1) 15) (lA : TA.length = 240) (lB : TB.length = 240) (n1 : n.toInt ≤ 240) (ag : own_ag TA TB n) (i0 : 0 ≤ i.toInt) (i1 : i.toInt ≤ 300) : ∃ k : Int32, f_longestAt CH TM TA n i = some k ∧ f_longestAt CH TM TB n i = some k ∧ -1 ≤ k.toInt ∧ k.toInt ≤ 15 := by
  unfold f_longestAt
  exact own_laX hC hT lA lB n1 ag i0 i1 100000 (-1) 0 0 (by decide) (by decide) (by decide) (by decide) (by decide) (by decide) (by decide)
theorem own_cr {KL KR CH TM TA TB : List Int32} {lk n : Int32} (hL : own_V KL 16 0 8) (lR : KR.length = 16) (hC : own_V CH 3354 0 128) (hT : own_V TM 129 (-1) 15) (lA : TA.length = 240) (lB : TB.length = 240) (n1 : n.toInt ≤ 240) (ag : own_ag TA TB n) : ∀ (f : Nat) (OA OB : List Int32) (ol cp v1 : Int32), OA.length = 240 → OB.length = 240 → own_ag OA OB ol → 0 ≤ ol.toInt → ol.toInt ≤ 240 → 0 ≤ cp.toInt → cp.toInt ≤ 248 → 0 ≤ v1.toInt → v1.toInt ≤ 240 → 240 - v1.toInt < f → ∃ (OA' OB' : List Int32) (ol' cp' : Int32), f_commitReady_2 KL KR CH TM TA lk n f OA ol cp v1 = some (OA', ol', cp') ∧ f_commitReady_2 KL KR CH TM TB lk n f OB ol cp v1 = some (OB', ol', cp') ∧ OA'.length = 240 ∧ OB'.length = 240 ∧ own_ag OA' OB' ol' ∧ 0 ≤ ol'.toInt ∧ ol'.toInt ≤ 240 ∧ 0 ≤ cp'.toInt ∧ cp'.toInt ≤ 248 := by
  intro f
  have e0 : (0 : Int32).toInt = 0 := rfl
  have e240 : (240 : Int32).toInt = 240 := rfl
  have lL := hL.1
  induction f with
  | zero => intro OA OB ol cp v1 _ _ _ _ _ _ _ a b c; exfalso; omega
  | succ f ih =>
    intro OA OB ol cp v1 l1 l2 ao o0 o1 c0 c1 d0 d1 c
    have stop : ∃ (OA' OB' : List Int32) (ol' cp' : Int32), some (OA, ol, cp) = some (OA', ol', cp') ∧ some (OB, ol, cp) = some (OB', ol', cp') ∧ OA'.length = 240 ∧ OB'.length = 240 ∧ own_ag OA' OB' ol' ∧ 0 ≤ ol'.toInt ∧ ol'.toInt ≤ 240 ∧ 0 ≤ cp'.toInt ∧ cp'.toInt ≤ 248 := ⟨OA, OB, ol, cp, rfl, rfl, l1, l2, ao, o0, o1, c0, c1⟩
    unfold f_commitReady_2
    by_cases g : v1 < 240
    rotate_left
    · rw [if_neg g, if_neg g]; exact stop
    rw [if_pos g, if_pos g]
    rw [ilt] at g
    have p1 := own_p1 (a := v1) (by omega)
    have g1 : ¬ cp < 0 := by rw [ilt]; omega
    rw [if_neg g1, if_neg g1]
    by_cases g2 : cp < n
    rotate_left
    · rw [if_neg g2, if_neg g2]; exact stop
    rw [if_pos g2, if_pos g2]
    rw [ilt] at g2
    by_cases g3 : n < cp + lk
    · rw [if_pos g3, if_pos g3]; exact stop
    rw [if_neg g3, if_neg g3]
    by_cases g4 : ol < 240
    rotate_left
    · rw [if_neg g4, if_neg g4]; exact stop
    rw [if_pos g4, if_pos g4]
    rw [ilt] at g4
    have po := own_p1 (a := ol) (by omega)
    have pc := own_p1 (a := cp) (by omega)
    obtain ⟨k, k1, k2, k3, k4⟩ := own_la hC hT lA lB n1 ag c0 (by omega)
    unfold f_commitOne f_commitOne_74
    rw [k1, k2, Option.bind_some, Option.bind_some]
    by_cases q : k < 0
    · rw [if_pos q, if_pos q, rdg c0 (by omega), rdg c0 (by omega), Option.bind_some, Option.bind_some, ag cp c0 g2, wrA_in o0 (by omega), wrA_in o0 (by omega), Option.bind_some, Option.bind_some, Option.bind_some, Option.bind_some]
      exact ih _ _ _ _ _ (by rw [List.length_set]; exact l1) (by rw [List.length_set]; exact l2) (ao.put l1 l2 o0 (by omega) (by omega)) (by omega) (by omega) (by omega) (by omega) (by omega) (by omega) (by omega)
    · rw [if_neg q, if_neg q]
      rw [ilt] at q
      have rl := hL.2 k (by omega) (by omega)
      have ak : (cp + gI KL k).toInt = cp.toInt + (gI KL k).toInt := iadd_i (by omega) (by omega)
      rw [rdg (by omega) (by omega), Option.bind_some, Option.bind_some, wrA_in o0 (by omega), wrA_in o0 (by omega), Option.bind_some, Option.bind_some, rdg (by omega) (by omega), Option.bind_some, Option.bind_some, Option.bind_some, Option.bind_some]
      exact ih _ _ _ _ _ (by rw [List.length_set]; exact l1) (by rw [List.length_set]; exact l2) (ao.put l1 l2 o0 (by omega) (by omega)) (by omega) (by omega) (by omega) (by omega) (by omega) (by omega) (by omega)
theorem own_rt {KL KR CH TM TA TB : List Int32} {n cp : Int32} (hL : own_V KL 16 0 8) (lR : KR.length = 16) (hC : own_V CH 3354 0 128) (hT : own_V TM 129 (-1) 15) (lA : TA.length = 240) (lB : TB.length = 240) (n1 : n.toInt ≤ 240) (ag : own_ag TA TB n) : ∀ (f : Nat) (LA LB : List Int32) (tn v1 v2 : Int32), LA.length = 8 → LB.length = 8 → own_ag LA LB tn → 0 ≤ tn.toInt → tn.toInt ≤ 8 → 0 ≤ v1.toInt → v1.toInt ≤ 248 → 0 ≤ v2.toInt → v2.toInt ≤ 8 → 8 - v2.toInt < f → ∃ (LA' LB' : List Int32) (tn' : Int32), f_rebuildTail_12 KL KR CH TM TA n cp f LA tn v1 v2 = some (LA', tn') ∧ f_rebuildTail_12 KL KR CH TM TB n cp f LB tn v1 v2 = some (LB', tn') ∧ LA'.length = 8 ∧ LB'.length = 8 ∧ own_ag LA' LB' tn' ∧ 0 ≤ tn'.toInt ∧ tn'.toInt ≤ 8 := by
  intro f
  have e0 : (0 : Int32).toInt = 0 := rfl
  have e8 : (8 : Int32).toInt = 8 := rfl
  have lL := hL.1
  induction f with
  | zero => intro LA LB tn v1 v2 _ _ _ _ _ _ _ a b c; exfalso; omega
  | succ f ih =>
    intro LA LB tn v1 v2 l1 l2 ao o0 o1 c0 c1 d0 d1 c
    have stop : ∃ (LA' LB' : List Int32) (tn' : Int32), some (LA, tn) = some (LA', tn') ∧ some (LB, tn) = some (LB', tn') ∧ LA'.length = 8 ∧ LB'.length = 8 ∧ own_ag LA' LB' tn' ∧ 0 ≤ tn'.toInt ∧ tn'.toInt ≤ 8 := ⟨LA, LB, tn, rfl, rfl, l1, l2, ao, o0, o1⟩
    unfold f_rebuildTail_12
    by_cases g : v2 < 8
    rotate_left
    · rw [if_neg g, if_neg g]; exact stop
    rw [if_pos g, if_pos g]
    rw [ilt] at g
    have p2 := own_p1 (a := v2) (by omega)
    have p1 := own_p1 (a := v1) (by omega)
    have g1 : ¬ v1 < 0 := by rw [ilt]; omega
    rw [if_neg g1, if_neg g1]
    by_cases g2 : v1 < n
    rotate_left
    · rw [if_neg g2, if_neg g2]; exact stop
    rw [if_pos g2, if_pos g2]
    rw [ilt] at g2
    by_cases g4 : tn < 8
    rotate_left
    · rw [if_neg g4, if_neg g4]; exact stop
    rw [if_pos g4, if_pos g4]
    rw [ilt] at g4
    have po := own_p1 (a := tn) (by omega)
    obtain ⟨k, k1, k2, k3, k4⟩ := own_la hC hT lA lB n1 ag c0 (by omega)
    rw [k1, k2, Option.bind_some, Option.bind_some]
    unfold f_rebuildTail_95
    by_cases q : k < 0
    · rw [if_pos q, if_pos q, rdg c0 (by omega), rdg c0 (by omega), Option.bind_some, Option.bind_some, ag v1 c0 g2, wrA_in o0 (by omega), wrA_in o0 (by omega), Option.bind_some, Option.bind_some]
      exact ih _ _ _ _ _ (by rw [List.length_set]; exact l1) (by rw [List.length_set]; exact l2) (ao.put l1 l2 o0 (by omega) (by omega)) (by omega) (by omega) (by omega) (by omega) (by omega) (by omega) (by omega)
    · rw [if_neg q, if_neg q]
      rw [ilt] at q
      have rl := hL.2 k (by omega) (by omega)
      have ak : (v1 + gI KL k).toInt = v1.toInt + (gI KL k).toInt := iadd_i (by omega) (by omega)
      rw [rdg (by omega) (by omega), Option.bind_some, Option.bind_some, wrA_in o0 (by omega), wrA_in o0 (by omega), Option.bind_some, Option.bind_some, rdg (by omega) (by omega), Option.bind_some, Option.bind_some]
      exact ih _ _ _ _ _ (by rw [List.length_set]; exact l1) (by rw [List.length_set]; exact l2) (ao.put l1 l2 o0 (by omega) (by omega)) (by omega) (by omega) (by omega) (by omega) (by omega) (by omega) (by omega)
theorem own_pc (m : Int32) : ∃ c : Int32, f_popCount m = some c ∧ 0 ≤ c.toInt ∧ c.toInt ≤ 16 := by
  have e1 : (1 : Int32).toInt = 1 := rfl
  have e16 : (16 : Int32).toInt = 16 := rfl
  have key : ∀ (f : Nat) (v2 v3 : Int32), 0 ≤ v2.toInt → v2.toInt ≤ v3.toInt → v3.toInt ≤ 16 → 16 - v3.toInt < f → ∃ c : Int32, f_popCount_4 f m v2 v3 = some c ∧ 0 ≤ c.toInt ∧ c.toInt ≤ 16 := by
    intro f
    induction f with
    | zero => intro v2 v3 a b d c; exfalso; omega
    | succ f ih =>
      intro v2 v3 a b d c
      unfold f_popCount_4
      by_cases g : v3 < 16
      · rw [if_pos g]
        rw [ilt] at g
        have p3 := own_p1 (a := v3) (by omega)
        have p2 := own_p1 (a := v2) (by omega)
        by_cases q : (m >>> (v3 &&& 31)) &&& 1 = 0
        · rw [if_pos q]; exact ih _ _ a (by omega) (by omega) (by omega)
        · rw [if_neg q]; exact ih _ _ (by omega) (by omega) (by omega) (by omega)
      · rw [if_neg g]
        exact ⟨v2, rfl, a, by omega⟩
  unfold f_popCount
  exact key 100000 0 0 (by decide) (by decide) (by decide) (by decide)
abbrev own_Rl (TA MA OA LA TB MB OB LB : List Int32) (n st ol cp tn : Int32) : Prop := (TA.length = 240) ∧ (MA.length = 240) ∧ (OA.length = 240) ∧ (LA.length = 8) ∧ (TB.length = 240) ∧ (MB.length = 240) ∧ (OB.length = 240) ∧ (LB.length = 8) ∧ (0 ≤ n.toInt) ∧ (n.toInt ≤ 240) ∧ (0 ≤ st.toInt) ∧ (st.toInt ≤ 128) ∧ (0 ≤ ol.toInt) ∧ (ol.toInt ≤ 240) ∧ (0 ≤ cp.toInt) ∧ (cp.toInt ≤ 248) ∧ (0 ≤ tn.toInt) ∧ (tn.toInt ≤ 8) ∧ (own_ag TA TB n) ∧ (own_ag MA MB n) ∧ (own_ag OA OB ol) ∧ (own_ag LA LB tn)
theorem own_Rl.a1 {TA MA OA LA TB MB OB LB : List Int32} {n st ol cp tn : Int32} (self : own_Rl TA MA OA LA TB MB OB LB n st ol cp tn) : TA.length = 240 := self.1
theorem own_Rl.a2 {TA MA OA LA TB MB OB LB : List Int32} {n st ol cp tn : Int32} (self : own_Rl TA MA OA LA TB MB OB LB n st ol cp tn) : MA.length = 240 := self.2.1
theorem own_Rl.a3 {TA MA OA LA TB MB OB LB : List Int32} {n st ol cp tn : Int32} (self : own_Rl TA MA OA LA TB MB OB LB n st ol cp tn) : OA.length = 240 := self.2.2.1
theorem own_Rl.a4 {TA MA OA LA TB MB OB LB : List Int32} {n st ol cp tn : Int32} (self : own_Rl TA MA OA LA TB MB OB LB n st ol cp tn) : LA.length = 8 := self.2.2.2.1
theorem own_Rl.b1 {TA MA OA LA TB MB OB LB : List Int32} {n st ol cp tn : Int32} (self : own_Rl TA MA OA LA TB MB OB LB n st ol cp tn) : TB.length = 240 := self.2.2.2.2.1
theorem own_Rl.b2 {TA MA OA LA TB MB OB LB : List Int32} {n st ol cp tn : Int32} (self : own_Rl TA MA OA LA TB MB OB LB n st ol cp tn) : MB.length = 240 := self.2.2.2.2.2.1
theorem own_Rl.b3 {TA MA OA LA TB MB OB LB : List Int32} {n st ol cp tn : Int32} (self : own_Rl TA MA OA LA TB MB OB LB n st ol cp tn) : OB.length = 240 := self.2.2.2.2.2.2.1
theorem own_Rl.b4 {TA MA OA LA TB MB OB LB : List Int32} {n st ol cp tn : Int32} (self : own_Rl TA MA OA LA TB MB OB LB n st ol cp tn) : LB.length = 8 := self.2.2.2.2.2.2.2.1
theorem own_Rl.n0 {TA MA OA LA TB MB OB LB : List Int32} {n st ol cp tn : Int32} (self : own_Rl TA MA OA LA TB MB OB LB n st ol cp tn) : 0 ≤ n.toInt := self.2.2.2.2.2.2.2.2.1
theorem own_Rl.n1 {TA MA OA LA TB MB OB LB : List Int32} {n st ol cp tn : Int32} (self : own_Rl TA MA OA LA TB MB OB LB n st ol cp tn) : n.toInt ≤ 240 := self.2.2.2.2.2.2.2.2.2.1
theorem own_Rl.s0 {TA MA OA LA TB MB OB LB : List Int32} {n st ol cp tn : Int32} (self : own_Rl TA MA OA LA TB MB OB LB n st ol cp tn) : 0 ≤ st.toInt := self.2.2.2.2.2.2.2.2.2.2.1
theorem own_Rl.s1 {TA MA OA LA TB MB OB LB : List Int32} {n st ol cp tn : Int32} (self : own_Rl TA MA OA LA TB MB OB LB n st ol cp tn) : st.toInt ≤ 128 := self.2.2.2.2.2.2.2.2.2.2.2.1
theorem own_Rl.o0 {TA MA OA LA TB MB OB LB : List Int32} {n st ol cp tn : Int32} (self : own_Rl TA MA OA LA TB MB OB LB n st ol cp tn) : 0 ≤ ol.toInt := self.2.2.2.2.2.2.2.2.2.2.2.2.1
theorem own_Rl.o1 {TA MA OA LA TB MB OB LB : List Int32} {n st ol cp tn : Int32} (self : own_Rl TA MA OA LA TB MB OB LB n st ol cp tn) : ol.toInt ≤ 240 := self.2.2.2.2.2.2.2.2.2.2.2.2.2.1
theorem own_Rl.c0 {TA MA OA LA TB MB OB LB : List Int32} {n st ol cp tn : Int32} (self : own_Rl TA MA OA LA TB MB OB LB n st ol cp tn) : 0 ≤ cp.toInt := self.2.2.2.2.2.2.2.2.2.2.2.2.2.2.1
theorem own_Rl.c1 {TA MA OA LA TB MB OB LB : List Int32} {n st ol cp tn : Int32} (self : own_Rl TA MA OA LA TB MB OB LB n st ol cp tn) : cp.toInt ≤ 248 := self.2.2.2.2.2.2.2.2.2.2.2.2.2.2.2.1
theorem own_Rl.t0 {TA MA OA LA TB MB OB LB : List Int32} {n st ol cp tn : Int32} (self : own_Rl TA MA OA LA TB MB OB LB n st ol cp tn) : 0 ≤ tn.toInt := self.2.2.2.2.2.2.2.2.2.2.2.2.2.2.2.2.1
theorem own_Rl.t1 {TA MA OA LA TB MB OB LB : List Int32} {n st ol cp tn : Int32} (self : own_Rl TA MA OA LA TB MB OB LB n st ol cp tn) : tn.toInt ≤ 8 := self.2.2.2.2.2.2.2.2.2.2.2.2.2.2.2.2.2.1
theorem own_Rl.tx {TA MA OA LA TB MB OB LB : List Int32} {n st ol cp tn : Int32} (self : own_Rl TA MA OA LA TB MB OB LB n st ol cp tn) : own_ag TA TB n := self.2.2.2.2.2.2.2.2.2.2.2.2.2.2.2.2.2.2.1
theorem own_Rl.ms {TA MA OA LA TB MB OB LB : List Int32} {n st ol cp tn : Int32} (self : own_Rl TA MA OA LA TB MB OB LB n st ol cp tn) : own_ag MA MB n := self.2.2.2.2.2.2.2.2.2.2.2.2.2.2.2.2.2.2.2.1
theorem own_Rl.ou {TA MA OA LA TB MB OB LB : List Int32} {n st ol cp tn : Int32} (self : own_Rl TA MA OA LA TB MB OB LB n st ol cp tn) : own_ag OA OB ol := self.2.2.2.2.2.2.2.2.2.2.2.2.2.2.2.2.2.2.2.2.1
theorem own_Rl.tl {TA MA OA LA TB MB OB LB : List Int32} {n st ol cp tn : Int32} (self : own_Rl TA MA OA LA TB MB OB LB n st ol cp tn) : own_ag LA LB tn := self.2.2.2.2.2.2.2.2.2.2.2.2.2.2.2.2.2.2.2.2.2
theorem own_feed {KL KR CH DE TM OM : List Int32} {lk : Int32} (hL : own_V KL 16 0 8) (lR : KR.length = 16) (hC : own_V CH 3354 0 128) (hD : own_V DE 3354 0 128) (hT : own_V TM 129 (-1) 15) (lO : OM.length = 129) {TA MA OA LA TB MB OB LB : List Int32} {n st to ol cp tn : Int32} (R : own_Rl TA MA OA LA TB MB OB LB n st ol cp tn) (v : Int32) :
    (∃ r : Int32, r.toInt < 0 ∧ f_feed KL KR CH DE TM OM 1 lk TA MA OA LA n st to ol cp tn v = some (r, TA, MA, OA, LA, n, st, to, ol, cp, tn) ∧ f_feed KL KR CH DE TM OM 1 lk TB MB OB LB n st to ol cp tn v = some (r, TB, MB, OB, LB, n, st, to, ol, cp, tn)) ∨
    (n.toInt < 240 ∧ ∃ (r : Int32) (MA' OA' LA' MB' OB' LB' : List Int32) (st' to' ol' cp' tn' : Int32), 0 ≤ r.toInt ∧ f_feed KL KR CH DE TM OM 1 lk TA MA OA LA n st to ol cp tn v = some (r, TA.set n.toInt.toNat v, MA', OA', LA', n + 1, st', to', ol', cp', tn') ∧ f_feed KL KR CH DE TM OM 1 lk TB MB OB LB n st to ol cp tn v = some (r, TB.set n.toInt.toNat v, MB', OB', LB', n + 1, st', to', ol', cp', tn') ∧ own_Rl (TA.set n.toInt.toNat v) MA' OA' LA' (TB.set n.toInt.toNat v) MB' OB' LB' (n + 1) st' ol' cp' tn') := by
  obtain ⟨a1, a2, a3, a4, b1, b2, b3, b4, n0, n1, s0, s1, o0, o1, c0, c1, t0, t1, tx, ms, ou, tl⟩ := R
  have e0 : (0 : Int32).toInt = 0 := rfl
  have e97 : (97 : Int32).toInt = 97 := rfl
  have e129 : (129 : Int32).toInt = 129 := rfl
  have e240 : (240 : Int32).toInt = 240 := rfl
  have lD := hD.1
  rcases own_pri v with ⟨e, -⟩ | ⟨e, p1, p2⟩
  · left
    refine ⟨-2, by decide, ?_, ?_⟩ <;> unfold f_feed <;> rw [if_pos rfl, e, Option.bind_some, if_pos rfl]
  by_cases g : n < 240
  rotate_left
  · left
    refine ⟨-3, by decide, ?_, ?_⟩ <;> unfold f_feed <;> rw [if_pos rfl, e, Option.bind_some, if_neg (by decide), if_neg g]
  right
  have g0 := g
  rw [ilt] at g
  refine ⟨by omega, ?_⟩
  have pn := own_p1 (a := n) (by omega)
  obtain ⟨s', es, q0, q1⟩ : ∃ s' : Int32, f_nextState DE st v = some s' ∧ 0 ≤ s'.toInt ∧ s'.toInt ≤ 128 := by
    unfold f_nextState
    rcases own_let v with ⟨e, -⟩ | ⟨e, h1, h2⟩
    · rw [e, Option.bind_some, if_pos rfl]; exact ⟨0, rfl, by decide, by decide⟩
    · have sc : (v - 97).toInt = v.toInt - 97 := by rw [isub_i (by omega) (by omega), e97]
      have jx := own_ix26 (v := st) (c := v - 97) s0 s1 (by omega) (by omega)
      have rx := hD.2 (st * 26 + (v - 97)) (by omega) (by omega)
      rw [e, Option.bind_some, if_neg (by decide), if_neg (by rw [ilt]; omega), if_pos (by rw [ilt]; omega), rdg (by omega) (by omega), Option.bind_some]
      exact ⟨_, rfl, rx.1, rx.2⟩
  obtain ⟨r, er, r0, r1⟩ := own_pc (gI OM s')
  have aT := tx.put (x := v) a1 b1 n0 (by omega) (by omega)
  have aM := ms.put (x := gI OM s') a2 b2 n0 (by omega) (by omega)
  have lTA : (TA.set n.toInt.toNat v).length = 240 := by rw [List.length_set]; exact a1
  have lTB : (TB.set n.toInt.toNat v).length = 240 := by rw [List.length_set]; exact b1
  obtain ⟨OA', OB', ol', cp', x1, x2, x3, x4, x5, x6, x7, x8, x9⟩ := own_cr (lk := lk) (n := n + 1) hL lR hC hT lTA lTB (by omega) aT 100000 OA OB ol cp 0 a3 b3 ou o0 o1 c0 c1 (by decide) (by decide) (by decide)
  obtain ⟨LA', LB', tn', y1, y2, y3, y4, y5, y6, y7⟩ := own_rt (n := n + 1) (cp := cp') hL lR hC hT lTA lTB (by omega) aT 100000 LA LB 0 cp' 0 a4 b4 (fun j j0 j1 => by omega) (by decide) (by decide) x8 x9 (by decide) (by decide) (by decide)
  refine ⟨r, MA.set n.toInt.toNat (gI OM s'), OA', LA', MB.set n.toInt.toNat (gI OM s'), OB', LB', s', to + r, ol', cp', tn', r0, ?_, ?_, lTA, by rw [List.length_set]; exact a2, x3, y3, lTB, by rw [List.length_set]; exact b2, x4, y4, by omega, by omega, q0, q1, x6, x7, x8, x9, y6, y7, aT, aM, x5, y5⟩
  · unfold f_feed f_commitReady f_rebuildTail
    rw [if_pos rfl, e, Option.bind_some, if_neg (by decide), if_pos g0, es, Option.bind_some, rdg q0 (by omega), Option.bind_some, wrA_in n0 (by omega), Option.bind_some, wrA_in n0 (by omega), Option.bind_some, er, Option.bind_some, x1, Option.bind_some]
    show Option.bind (f_rebuildTail_12 KL KR CH TM (TA.set n.toInt.toNat v) (n + 1) cp' 100000 LA 0 cp' 0) _ = _
    rw [y1, Option.bind_some]
  · unfold f_feed f_commitReady f_rebuildTail
    rw [if_pos rfl, e, Option.bind_some, if_neg (by decide), if_pos g0, es, Option.bind_some, rdg q0 (by omega), Option.bind_some, wrA_in n0 (by omega), Option.bind_some, wrA_in n0 (by omega), Option.bind_some, er, Option.bind_some, x2, Option.bind_some]
    show Option.bind (f_rebuildTail_12 KL KR CH TM (TB.set n.toInt.toNat v) (n + 1) cp' 100000 LB 0 cp' 0) _ = _
    rw [y2, Option.bind_some]
theorem own_k8 {k : Int32} (k0 : 0 ≤ k.toInt) (k1 : k.toInt < 16) : (k * 8).toInt = k.toInt * 8 := by
  have e8 : (8 : Int32).toInt = 8 := rfl
  rw [imul_i (by rw [e8]; omega) (by rw [e8]; omega), e8]
theorem own_kx {k j : Int32} (k0 : 0 ≤ k.toInt) (k1 : k.toInt < 16) (j0 : 0 ≤ j.toInt) (j1 : j.toInt < 8) : (k * 8 + j).toInt = k.toInt * 8 + j.toInt := by
  rw [iadd_i (by rw [own_k8 k0 k1]; omega) (by rw [own_k8 k0 k1]; omega), own_k8 k0 k1]
theorem own_adc {PD : List Int32} {mk ml ct pn : Int32} (l : PD.length = 8) (p0 : 0 ≤ pn.toInt) (v : Int32) :
    (∃ e : Int32, e.toInt < 0 ∧ f_addChar mk ml 0 ct PD pn v = some (e, PD, pn)) ∨ (97 ≤ v.toInt ∧ v.toInt ≤ 122 ∧ ct.toInt < mk.toInt ∧ pn.toInt < ml.toInt ∧ pn.toInt < 8 ∧ f_addChar mk ml 0 ct PD pn v = some (pn + 1, PD.set pn.toInt.toNat v, pn + 1)) := by
  have e8 : (8 : Int32).toInt = 8 := rfl
  unfold f_addChar
  rw [if_pos rfl]
  rcases own_let v with ⟨e, -⟩ | ⟨e, h1, h2⟩
  · left
    rw [e, Option.bind_some, if_pos rfl]
    exact ⟨-2, by decide, rfl⟩
  · rw [e, Option.bind_some, if_neg (by decide)]
    by_cases c1 : ct < mk
    · by_cases c2 : pn < ml
      · by_cases c3 : pn < 8
        · right
          rw [if_pos c1, if_pos c2, if_pos c3]
          rw [ilt] at c1 c2 c3
          rw [wrA_in p0 (by omega), Option.bind_some]
          exact ⟨h1, h2, c1, c2, by omega, rfl⟩
        · left
          rw [if_pos c1, if_pos c2, if_neg c3]
          exact ⟨-3, by decide, rfl⟩
      · left
        rw [if_pos c1, if_neg c2]
        exact ⟨-3, by decide, rfl⟩
    · left
      rw [if_neg c1]
      exact ⟨-3, by decide, rfl⟩
def own_df (KC KL PD : List Int32) (pn k : Int32) : Prop := ¬ gI KL k = pn ∨ ∃ j : Int32, 0 ≤ j.toInt ∧ j.toInt < pn.toInt ∧ ¬ gI KC (k * 8 + j) = gI PD j
theorem own_pe {KC KL PD : List Int32} {pn k : Int32} (lC : KC.length = 128) (lL : KL.length = 16) (lP : PD.length = 8) (p0 : 0 ≤ pn.toInt) (p1 : pn.toInt ≤ 8) (k0 : 0 ≤ k.toInt) (k1 : k.toInt < 16) : (f_pendingEquals KC KL PD pn k = some 0 ∧ own_df KC KL PD pn k) ∨ (f_pendingEquals KC KL PD pn k = some 1 ∧ ¬ own_df KC KL PD pn k) := by
  have e8 : (8 : Int32).toInt = 8 := rfl
  unfold f_pendingEquals
  rw [rdg k0 (by omega), Option.bind_some]
  by_cases g : gI KL k = pn
  rotate_left
  · left
    rw [if_neg g]
    exact ⟨rfl, Or.inl g⟩
  rw [if_pos g]
  have key : ∀ (f : Nat) (v3 : Int32), 0 ≤ v3.toInt → v3.toInt ≤ pn.toInt → 8 - v3.toInt < f → (∀ j : Int32, 0 ≤ j.toInt → j.toInt < v3.toInt → gI KC (k * 8 + j) = gI PD j) → (f_pendingEquals_22 KC KL PD pn f (k * 8) v3 = some 0 ∧ own_df KC KL PD pn k) ∨ (f_pendingEquals_22 KC KL PD pn f (k * 8) v3 = some 1 ∧ ¬ own_df KC KL PD pn k) := by
    intro f
    induction f with
    | zero => intro v3 a b c; exfalso; omega
    | succ f ih =>
      intro v3 a b c h
      unfold f_pendingEquals_22
      by_cases g1 : v3 < pn
      · have g1' := ilt.mp g1
        have kx := own_kx (j := v3) k0 k1 a (by omega)
        have p3 := own_p1 (a := v3) (by omega)
        rw [if_pos g1, if_pos (by rw [ilt]; omega), rdg (by omega) (by omega), Option.bind_some, rdg a (by omega), Option.bind_some]
        by_cases q : gI KC (k * 8 + v3) = gI PD v3
        · rw [if_pos q]
          refine ih _ (by omega) (by omega) (by omega) (fun j j0 j1 => ?_)
          by_cases e : j = v3
          · rw [e]; exact q
          · rw [ieq] at e
            exact h j j0 (by omega)
        · rw [if_neg q]
          exact Or.inl ⟨rfl, Or.inr ⟨v3, a, g1', q⟩⟩
      · rw [if_neg g1]
        rw [ilt] at g1
        refine Or.inr ⟨rfl, ?_⟩
        rintro (z | ⟨j, j0, j1, z⟩)
        · exact z g
        · exact z (h j j0 (by omega))
  exact key 100000 0 (by decide) p0 (by decide) (fun j j0 j1 => by have e0 : (0 : Int32).toInt = 0 := rfl; omega)
theorem own_pd {KC KL PD : List Int32} {ct pn : Int32} (lC : KC.length = 128) (lL : KL.length = 16) (lP : PD.length = 8) (p0 : 0 ≤ pn.toInt) (p1 : pn.toInt ≤ 8) (c0 : 0 ≤ ct.toInt) (c1 : ct.toInt ≤ 16) : (f_pendingIsDuplicate KC KL PD ct pn = some 0 ∧ ∀ k : Int32, 0 ≤ k.toInt → k.toInt < ct.toInt → own_df KC KL PD pn k) ∨ (f_pendingIsDuplicate KC KL PD ct pn = some 1 ∧ ∃ k : Int32, 0 ≤ k.toInt ∧ k.toInt < ct.toInt ∧ ¬ own_df KC KL PD pn k) := by
  have e16 : (16 : Int32).toInt = 16 := rfl
  have e0 : (0 : Int32).toInt = 0 := rfl
  have key : ∀ (f : Nat) (v1 : Int32), 0 ≤ v1.toInt → v1.toInt ≤ ct.toInt → 16 - v1.toInt < f → (∀ k : Int32, 0 ≤ k.toInt → k.toInt < v1.toInt → own_df KC KL PD pn k) → (f_pendingIsDuplicate_2 KC KL PD ct pn f v1 = some 0 ∧ ∀ k : Int32, 0 ≤ k.toInt → k.toInt < ct.toInt → own_df KC KL PD pn k) ∨ (f_pendingIsDuplicate_2 KC KL PD ct pn f v1 = some 1 ∧ ∃ k : Int32, 0 ≤ k.toInt ∧ k.toInt < ct.toInt ∧ ¬ own_df KC KL PD pn k) := by
    intro f
    induction f with
    | zero => intro v1 a b c; exfalso; omega
    | succ f ih =>
      intro v1 a b c h
      unfold f_pendingIsDuplicate_2
      by_cases g1 : v1 < ct
      · have g1' := ilt.mp g1
        have p3 := own_p1 (a := v1) (by omega)
        rw [if_pos g1, if_pos (by rw [ilt]; omega)]
        rcases own_pe lC lL lP p0 p1 a (by omega) with ⟨q, q'⟩ | ⟨q, q'⟩
        · rw [q, Option.bind_some, if_pos rfl]
          refine ih _ (by omega) (by omega) (by omega) (fun j j0 j1 => ?_)
          by_cases e : j = v1
          · rw [e]; exact q'
          · rw [ieq] at e
            exact h j j0 (by omega)
        · rw [q, Option.bind_some, if_neg (by decide)]
          exact Or.inr ⟨rfl, v1, a, g1', q'⟩
      · rw [if_neg g1]
        rw [ilt] at g1
        exact Or.inl ⟨rfl, fun k k0 k1 => h k k0 (by omega)⟩
  exact key 100000 0 (by decide) c0 (by decide) (fun j j0 j1 => by omega)
theorem own_sp {PD KC KL KR : List Int32} {ct pn v : Int32} (lC : KC.length = 128) (lL : KL.length = 16) (lR : KR.length = 16) (lP : PD.length = 8) (p0 : 0 ≤ pn.toInt) (p1 : pn.toInt ≤ 8) (c0 : 0 ≤ ct.toInt) (c1 : ct.toInt < 16) : ∃ KC' : List Int32, f_storePending PD KC KL KR ct pn v = some (KC', KL.set ct.toInt.toNat pn, KR.set ct.toInt.toNat v, ct + 1, 0) ∧ KC'.length = 128 ∧ ∀ k j : Int32, 0 ≤ k.toInt → k.toInt < 16 → 0 ≤ j.toInt → j.toInt < 8 → gI KC' (k * 8 + j) = if k = ct ∧ j.toInt < pn.toInt then gI PD j else gI KC (k * 8 + j) := by
  have e8 : (8 : Int32).toInt = 8 := rfl
  have e0 : (0 : Int32).toInt = 0 := rfl
  have f44 : ∀ KC' : List Int32, f_storePending_44 PD KC' KL KR ct pn v = some (KC', KL.set ct.toInt.toNat pn, KR.set ct.toInt.toNat v, ct + 1, 0) := by
    intro KC'
    unfold f_storePending_44
    rw [wrA_in c0 (by omega), Option.bind_some, wrA_in c0 (by omega), Option.bind_some]
  have key : ∀ (f : Nat) (K : List Int32) (v3 : Int32), 0 ≤ v3.toInt → v3.toInt ≤ pn.toInt → 8 - v3.toInt < f → K.length = 128 → (∀ k j : Int32, 0 ≤ k.toInt → k.toInt < 16 → 0 ≤ j.toInt → j.toInt < 8 → gI K (k * 8 + j) = if k = ct ∧ j.toInt < v3.toInt then gI PD j else gI KC (k * 8 + j)) → ∃ KC' : List Int32, f_storePending_10 (f_storePending_44 PD) PD f K KL KR ct pn v (ct * 8) v3 = some (KC', KL.set ct.toInt.toNat pn, KR.set ct.toInt.toNat v, ct + 1, 0) ∧ KC'.length = 128 ∧ ∀ k j : Int32, 0 ≤ k.toInt → k.toInt < 16 → 0 ≤ j.toInt → j.toInt < 8 → gI KC' (k * 8 + j) = if k = ct ∧ j.toInt < pn.toInt then gI PD j else gI KC (k * 8 + j) := by
    intro f
    induction f with
    | zero => intro K v3 a b c; exfalso; omega
    | succ f ih =>
      intro K v3 a b c lK h
      unfold f_storePending_10
      by_cases g : v3 < pn
      · have g' := ilt.mp g
        have p3 := own_p1 (a := v3) (by omega)
        have kx := own_kx (j := v3) c0 c1 a (by omega)
        rw [if_pos g, if_pos (by rw [ilt]; omega), rdg a (by omega), Option.bind_some, wrA_in (by omega) (by omega), Option.bind_some]
        refine ih _ _ (by omega) (by omega) (by omega) (by rw [List.length_set]; exact lK) (fun k j k0 k1 j0 j1 => ?_)
        have kj := own_kx k0 k1 j0 j1
        rw [gset (by omega) (by omega) (by omega)]
        by_cases e : ct * 8 + v3 = k * 8 + j
        · rw [if_pos e]
          rw [ieq] at e
          have e1 : k = ct := by rw [ieq]; omega
          have e2 : j = v3 := by rw [ieq]; omega
          rw [if_pos ⟨e1, by rw [e2]; omega⟩, e2]
        · rw [if_neg e, h k j k0 k1 j0 j1]
          by_cases q : k = ct ∧ j.toInt < v3.toInt
          · rw [if_pos q, if_pos ⟨q.1, by omega⟩]
          · rw [if_neg q, if_neg]
            rintro ⟨q1, q2⟩
            apply e
            have : ¬ j.toInt < v3.toInt := fun z => q ⟨q1, z⟩
            rw [ieq, kx, kj, q1]
            omega
      · rw [if_neg g, f44]
        rw [ilt] at g
        have ev : v3.toInt = pn.toInt := by omega
        rw [ev] at h
        exact ⟨K, rfl, lK, h⟩
  unfold f_storePending
  exact key 100000 KC 0 (by decide) p0 (by decide) lC (fun k j _ _ j0 _ => by rw [if_neg (fun z => by omega)])
abbrev own_KW (KC KL KR : List Int32) (ct : Int32) : Prop := (KC.length = 128) ∧ (KL.length = 16) ∧ (KR.length = 16) ∧ (0 ≤ ct.toInt) ∧ (ct.toInt ≤ 4) ∧ (∀ k : Int32, 0 ≤ k.toInt → k.toInt < ct.toInt → 1 ≤ (gI KL k).toInt ∧ (gI KL k).toInt ≤ 3) ∧ (∀ k j : Int32, 0 ≤ k.toInt → k.toInt < ct.toInt → 0 ≤ j.toInt → j.toInt < (gI KL k).toInt → 97 ≤ (gI KC (k * 8 + j)).toInt ∧ (gI KC (k * 8 + j)).toInt ≤ 122) ∧ (∀ k : Int32, 0 ≤ k.toInt → k.toInt < ct.toInt → 32 ≤ (gI KR k).toInt ∧ (gI KR k).toInt ≤ 126) ∧ (∀ i k : Int32, 0 ≤ i.toInt → i.toInt < k.toInt → k.toInt < ct.toInt → ¬ gI KL i = gI KL k ∨ ∃ j : Int32, 0 ≤ j.toInt ∧ j.toInt < (gI KL k).toInt ∧ ¬ gI KC (i * 8 + j) = gI KC (k * 8 + j)) ∧ (∀ k : Int32, ct.toInt ≤ k.toInt → k.toInt < 16 → gI KL k = 0) ∧ (∀ k : Int32, ct.toInt ≤ k.toInt → k.toInt < 16 → gI KR k = 0) ∧ (∀ k j : Int32, 0 ≤ k.toInt → k.toInt < 16 → (gI KL k).toInt ≤ j.toInt → 0 ≤ j.toInt → j.toInt < 8 → gI KC (k * 8 + j) = 0)
theorem own_KW.lC {KC KL KR : List Int32} {ct : Int32} (self : own_KW KC KL KR ct) : KC.length = 128 := self.1
theorem own_KW.lL {KC KL KR : List Int32} {ct : Int32} (self : own_KW KC KL KR ct) : KL.length = 16 := self.2.1
theorem own_KW.lR {KC KL KR : List Int32} {ct : Int32} (self : own_KW KC KL KR ct) : KR.length = 16 := self.2.2.1
theorem own_KW.c0 {KC KL KR : List Int32} {ct : Int32} (self : own_KW KC KL KR ct) : 0 ≤ ct.toInt := self.2.2.2.1
theorem own_KW.c4 {KC KL KR : List Int32} {ct : Int32} (self : own_KW KC KL KR ct) : ct.toInt ≤ 4 := self.2.2.2.2.1
theorem own_KW.n {KC KL KR : List Int32} {ct : Int32} (self : own_KW KC KL KR ct) : ∀ k : Int32, 0 ≤ k.toInt → k.toInt < ct.toInt → 1 ≤ (gI KL k).toInt ∧ (gI KL k).toInt ≤ 3 := self.2.2.2.2.2.1
theorem own_KW.c {KC KL KR : List Int32} {ct : Int32} (self : own_KW KC KL KR ct) : ∀ k j : Int32, 0 ≤ k.toInt → k.toInt < ct.toInt → 0 ≤ j.toInt → j.toInt < (gI KL k).toInt → 97 ≤ (gI KC (k * 8 + j)).toInt ∧ (gI KC (k * 8 + j)).toInt ≤ 122 := self.2.2.2.2.2.2.1
theorem own_KW.r {KC KL KR : List Int32} {ct : Int32} (self : own_KW KC KL KR ct) : ∀ k : Int32, 0 ≤ k.toInt → k.toInt < ct.toInt → 32 ≤ (gI KR k).toInt ∧ (gI KR k).toInt ≤ 126 := self.2.2.2.2.2.2.2.1
theorem own_KW.d {KC KL KR : List Int32} {ct : Int32} (self : own_KW KC KL KR ct) : ∀ i k : Int32, 0 ≤ i.toInt → i.toInt < k.toInt → k.toInt < ct.toInt → ¬ gI KL i = gI KL k ∨ ∃ j : Int32, 0 ≤ j.toInt ∧ j.toInt < (gI KL k).toInt ∧ ¬ gI KC (i * 8 + j) = gI KC (k * 8 + j) := self.2.2.2.2.2.2.2.2.1
theorem own_KW.zL {KC KL KR : List Int32} {ct : Int32} (self : own_KW KC KL KR ct) : ∀ k : Int32, ct.toInt ≤ k.toInt → k.toInt < 16 → gI KL k = 0 := self.2.2.2.2.2.2.2.2.2.1
theorem own_KW.zR {KC KL KR : List Int32} {ct : Int32} (self : own_KW KC KL KR ct) : ∀ k : Int32, ct.toInt ≤ k.toInt → k.toInt < 16 → gI KR k = 0 := self.2.2.2.2.2.2.2.2.2.2.1
theorem own_KW.zC {KC KL KR : List Int32} {ct : Int32} (self : own_KW KC KL KR ct) : ∀ k j : Int32, 0 ≤ k.toInt → k.toInt < 16 → (gI KL k).toInt ≤ j.toInt → 0 ≤ j.toInt → j.toInt < 8 → gI KC (k * 8 + j) = 0 := self.2.2.2.2.2.2.2.2.2.2.2
theorem own_KW.vL {KC KL KR : List Int32} {ct : Int32} (h : own_KW KC KL KR ct) : own_V KL 16 0 8 := by
  refine ⟨h.lL, fun j j0 j1 => ?_⟩
  by_cases q : j.toInt < ct.toInt
  · have := h.n j j0 q
    omega
  · rw [h.zL j (by omega) (by omega)]
    decide
theorem own_ek {KC KL KR PD : List Int32} {ct pn v : Int32} (h : own_KW KC KL KR ct) (lP : PD.length = 8) (p0 : 0 ≤ pn.toInt) (p3 : pn.toInt ≤ 3) (pl : ∀ j : Int32, 0 ≤ j.toInt → j.toInt < pn.toInt → 97 ≤ (gI PD j).toInt ∧ (gI PD j).toInt ≤ 122) (pc : 0 < pn.toInt → ct.toInt < 4) :
    (∃ e : Int32, f_endKeyword PD 0 KC KL KR ct pn v = some (e, KC, KL, KR, ct, pn)) ∨ ∃ (e : Int32) (KC' KL' KR' : List Int32), f_endKeyword PD 0 KC KL KR ct pn v = some (e, KC', KL', KR', ct + 1, 0) ∧ own_KW KC' KL' KR' (ct + 1) := by
  obtain ⟨lC, lL, lR, c0, c4, hn, hc, hr, hd, zL, zR, zC⟩ := h
  have e16 : (16 : Int32).toInt = 16 := rfl
  have e0 : (0 : Int32).toInt = 0 := rfl
  unfold f_endKeyword
  rw [if_pos rfl]
  by_cases z : pn = 0
  · left
    rw [if_pos z]
    exact ⟨_, rfl⟩
  rw [if_neg z]
  have pp : 0 < pn.toInt := by rw [ieq] at z; omega
  have cl := pc pp
  rcases own_pri v with ⟨e, -⟩ | ⟨e, v0, v1⟩
  · left
    rw [e, Option.bind_some, if_pos rfl]
    exact ⟨_, rfl⟩
  rw [e, Option.bind_some, if_neg (by decide)]
  rcases own_pd lC lL lP p0 (by omega) c0 (by omega) with ⟨q, q'⟩ | ⟨q, -⟩
  rotate_left
  · left
    rw [q, Option.bind_some, if_neg (by decide)]
    exact ⟨_, rfl⟩
  right
  obtain ⟨KC', es, lC', hK⟩ := own_sp (v := v) lC lL lR lP p0 (by omega) c0 (by omega)
  rw [q, Option.bind_some, if_pos rfl, if_pos (by rw [ilt]; omega), es, Option.bind_some]
  have pc1 := own_p1 (a := ct) (by omega)
  have gL : ∀ k : Int32, 0 ≤ k.toInt → gI (KL.set ct.toInt.toNat pn) k = if ct = k then pn else gI KL k := fun k k0 => gset c0 (by omega) k0
  have gR : ∀ k : Int32, 0 ≤ k.toInt → gI (KR.set ct.toInt.toNat v) k = if ct = k then v else gI KR k := fun k k0 => gset c0 (by omega) k0
  have kne : ∀ k : Int32, k.toInt < ct.toInt → ¬ ct = k := fun k hk q => by rw [ieq] at q; omega
  have kne' : ∀ k : Int32, k.toInt < ct.toInt → ¬ k = ct := fun k hk q => by rw [ieq] at q; omega
  refine ⟨_, KC', _, _, rfl, lC', by rw [List.length_set]; exact lL, by rw [List.length_set]; exact lR, by omega, by omega, ?_, ?_, ?_, ?_, ?_, ?_, ?_⟩
  · intro k k0 k1
    rw [gL k k0]
    by_cases q : ct = k
    · rw [if_pos q]; omega
    · rw [if_neg q]; rw [ieq] at q; exact hn k k0 (by omega)
  · intro k j k0 k1 j0 j1
    rw [gL k k0] at j1
    by_cases q : ct = k
    · rw [if_pos q] at j1
      rw [hK k j k0 (by omega) j0 (by omega), if_pos ⟨q.symm, j1⟩]
      exact pl j j0 j1
    · rw [if_neg q] at j1
      have q2 : ¬ k = ct := fun w => q w.symm
      rw [ieq] at q
      have := hn k k0 (by omega)
      rw [hK k j k0 (by omega) j0 (by omega), if_neg (fun w => q2 w.1)]
      exact hc k j k0 (by omega) j0 j1
  · intro k k0 k1
    rw [gR k k0]
    by_cases q : ct = k
    · rw [if_pos q]; omega
    · rw [if_neg q]; rw [ieq] at q; exact hr k k0 (by omega)
  · intro i k i0 ik k1
    rw [gL i i0, gL k (by omega), if_neg (kne i (by omega))]
    by_cases w : ct = k
    · rw [if_pos w]
      rcases q' i i0 (by omega) with y | ⟨j, j0, j1, y⟩
      · exact Or.inl y
      · refine Or.inr ⟨j, j0, j1, ?_⟩
        rw [hK i j i0 (by omega) j0 (by omega), if_neg (fun u => kne' i (by omega) u.1), hK k j (by omega) (by omega) j0 (by omega), if_pos ⟨w.symm, j1⟩]
        exact y
    · rw [if_neg w]
      have w2 : ¬ k = ct := fun u => w u.symm
      rw [ieq] at w
      have b := hn k (by omega) (by omega)
      rcases hd i k i0 ik (by omega) with y | ⟨j, j0, j1, y⟩
      · exact Or.inl y
      · refine Or.inr ⟨j, j0, j1, ?_⟩
        rw [hK i j i0 (by omega) j0 (by omega), if_neg (fun u => kne' i (by omega) u.1), hK k j (by omega) (by omega) j0 (by omega), if_neg (fun u => w2 u.1)]
        exact y
  · intro k k0 k1
    rw [gL k (by omega), if_neg (fun w => by rw [ieq] at w; omega)]
    exact zL k (by omega) k1
  · intro k k0 k1
    rw [gR k (by omega), if_neg (fun w => by rw [ieq] at w; omega)]
    exact zR k (by omega) k1
  · intro k j k0 k1 jl j0 j1
    rw [gL k k0] at jl
    by_cases w : ct = k
    · rw [if_pos w] at jl
      rw [hK k j k0 k1 j0 j1, if_neg (fun u => by omega)]
      refine zC k j k0 k1 ?_ j0 j1
      rw [zL k (by rw [← w]; omega) k1]
      omega
    · rw [if_neg w] at jl
      rw [hK k j k0 k1 j0 j1, if_neg (fun u => w u.1.symm)]
      exact zC k j k0 k1 jl j0 j1
def own_fd (KL KR CH DE TM OM : List Int32) (lk : Int32) (T0 M0 O0 L0 TX : List Int32) : Nat → Option (List Int32 × List Int32 × List Int32 × List Int32 × Int32 × Int32 × Int32 × Int32 × Int32 × Int32)
  | 0 => some (T0, M0, O0, L0, 0, 0, 0, 0, 0, 0)
  | p + 1 => (own_fd KL KR CH DE TM OM lk T0 M0 O0 L0 TX p).bind fun (T, M, O, L, n, st, to, ol, cp, tn) => (f_feed KL KR CH DE TM OM 1 lk T M O L n st to ol cp tn (gI TX (Int32.ofNat p))).bind fun (r, s) => if r < 0 then none else some s
theorem own_fd_cong {KL KR CH DE TM OM : List Int32} {lk : Int32} {T0 M0 O0 L0 TX TY : List Int32} : ∀ p : Nat, p ≤ 240 → (∀ j : Int32, 0 ≤ j.toInt → j.toInt < p → gI TX j = gI TY j) → own_fd KL KR CH DE TM OM lk T0 M0 O0 L0 TX p = own_fd KL KR CH DE TM OM lk T0 M0 O0 L0 TY p := by
  intro p
  induction p with
  | zero => intro _ _; rfl
  | succ p ih =>
    intro hp h
    have e : (Int32.ofNat p).toInt = p := Int32.toInt_ofNat_of_lt (by omega)
    rw [own_fd, own_fd, ih (by omega) (fun j a b => h j a (by omega)), h (Int32.ofNat p) (by omega) (by omega)]
theorem own_fd_pre {KL KR CH DE TM OM : List Int32} {lk : Int32} {T0 M0 O0 L0 TX : List Int32} (p : Nat) : ∀ (m : Nat) {s}, own_fd KL KR CH DE TM OM lk T0 M0 O0 L0 TX (p + m) = some s → ∃ s', own_fd KL KR CH DE TM OM lk T0 M0 O0 L0 TX p = some s' := by
  intro m
  induction m with
  | zero => intro s h; exact ⟨s, h⟩
  | succ m ih =>
    intro s h
    rw [← Nat.add_assoc, own_fd] at h
    rcases hq : own_fd KL KR CH DE TM OM lk T0 M0 O0 L0 TX (p + m) with _ | s'
    · rw [hq] at h; exact absurd h (by simp)
    · exact ih hq
theorem own_fd_n {KL KR CH DE TM OM : List Int32} {lk : Int32} {T0 M0 O0 L0 TX : List Int32} {p : Nat} {T M O L : List Int32} {n st to ol cp tn : Int32} {s : List Int32 × List Int32 × List Int32 × List Int32 × Int32 × Int32 × Int32 × Int32 × Int32 × Int32} (h : own_fd KL KR CH DE TM OM lk T0 M0 O0 L0 TX p = some (T, M, O, L, n, st, to, ol, cp, tn)) (h2 : own_fd KL KR CH DE TM OM lk T0 M0 O0 L0 TX (p + 1) = some s) : ∃ r : Int32, ¬ r < 0 ∧ f_feed KL KR CH DE TM OM 1 lk T M O L n st to ol cp tn (gI TX (Int32.ofNat p)) = some (r, s) := by
  rw [own_fd, h, Option.bind_some] at h2
  have h3 : ((f_feed KL KR CH DE TM OM 1 lk T M O L n st to ol cp tn (gI TX (Int32.ofNat p))).bind fun (r, s) => if r < 0 then none else some s) = some s := h2
  rcases hq : f_feed KL KR CH DE TM OM 1 lk T M O L n st to ol cp tn (gI TX (Int32.ofNat p)) with _ | ⟨r, s'⟩
  · rw [hq] at h3; exact absurd h3 (by simp)
  · rw [hq, Option.bind_some] at h3
    have h4 : (if r < 0 then none else some s') = some s := h3
    by_cases q : r < 0
    · rw [if_pos q] at h4; exact absurd h4 (by simp)
    · rw [if_neg q] at h4
      exact ⟨r, q, by rw [Option.some.inj h4]⟩
theorem own_435 {scr MA MB : List Int32} {n v4 : Int32} (l1 : MA.length = 240) (l2 : MB.length = 240) (n1 : n.toInt ≤ 240) (ag : own_ag MA MB n) : ∀ (f : Nat) (v6 : Int32), 0 ≤ v6.toInt → v6.toInt ≤ 240 → 240 - v6.toInt < f → f_L_law_435 scr f MA n MB n v4 v6 = some 1 := by
  intro f
  have e0 : (0 : Int32).toInt = 0 := rfl
  have e240 : (240 : Int32).toInt = 240 := rfl
  induction f with
  | zero => intro v6 a b c; exfalso; omega
  | succ f ih =>
    intro v6 a b c
    unfold f_L_law_435
    by_cases g : v6 < 240
    rotate_left
    · rw [if_neg g]
    rw [if_pos g]
    rw [ilt] at g
    by_cases g2 : v6 < v4
    rotate_left
    · rw [if_neg g2]
    rw [if_pos g2]
    have p := own_p1 (a := v6) (by omega)
    have eq : f_occurrenceMask MA n v6 = f_occurrenceMask MB n v6 ∧ ∃ x, f_occurrenceMask MB n v6 = some x := by
      have nz : ¬ v6 < 0 := by rw [ilt]; omega
      unfold f_occurrenceMask
      by_cases h : v6 < n
      · have h' := ilt.mp h
        rw [if_neg nz, if_neg nz, if_pos h, if_pos h, rdg a (by omega), rdg a (by omega), Option.bind_some, Option.bind_some, ag v6 a h']
        exact ⟨rfl, _, rfl⟩
      · rw [if_neg nz, if_neg nz, if_neg h, if_neg h]
        exact ⟨rfl, _, rfl⟩
    obtain ⟨e1, x, e2⟩ := eq
    rw [e1, e2, Option.bind_some, Option.bind_some, if_pos rfl]
    exact ih _ (by omega) (by omega) (by omega)
theorem own_390 {scr TA MA OA LA TB MB OB LB : List Int32} {n st ol cp tn v4 v5 : Int32} (R : own_Rl TA MA OA LA TB MB OB LB n st ol cp tn) : ∀ (f : Nat) (v6 : Int32), 0 ≤ v6.toInt → v6.toInt ≤ 240 → 240 - v6.toInt < f → f_L_law_390 (f_L_law_435 scr 100000) scr f MA OA LA n ol tn MB OB LB n ol tn v4 v5 v6 = some 1 := by
  intro f
  have e0 : (0 : Int32).toInt = 0 := rfl
  have e8 : (8 : Int32).toInt = 8 := rfl
  have e240 : (240 : Int32).toInt = 240 := rfl
  obtain ⟨a1, a2, a3, a4, b1, b2, b3, b4, n0, n1, s0, s1, o0, o1, c0, c1, t0, t1, tx, ms, ou, tl⟩ := R
  have last := own_435 (scr := scr) (v4 := v4) a2 b2 n1 ms 100000 0 (by decide) (by decide) (by decide)
  induction f with
  | zero => intro v6 a b c; exfalso; omega
  | succ f ih =>
    intro v6 a b c
    unfold f_L_law_390
    by_cases g : v6 < 240
    rotate_left
    · rw [if_neg g]; exact last
    rw [if_pos g]
    rw [ilt] at g
    by_cases g2 : v6 < v5
    rotate_left
    · rw [if_neg g2]; exact last
    rw [if_pos g2]
    have p := own_p1 (a := v6) (by omega)
    have eq : f_outChar OA LA ol tn v6 = f_outChar OB LB ol tn v6 ∧ ∃ x, f_outChar OB LB ol tn v6 = some x := by
      have nz : ¬ v6 < 0 := by rw [ilt]; omega
      unfold f_outChar
      rw [if_neg nz, if_neg nz]
      by_cases h : v6 < ol
      · have h' := ilt.mp h
        rw [if_pos h, if_pos h, rdg a (by omega), rdg a (by omega), Option.bind_some, Option.bind_some, ou v6 a h']
        exact ⟨rfl, _, rfl⟩
      · rw [if_neg h, if_neg h]
        rw [ilt] at h
        have sv : (v6 - ol).toInt = v6.toInt - ol.toInt := isub_i (by omega) (by omega)
        by_cases h2 : v6 - ol < tn
        · have h2' := ilt.mp h2
          have u8 : v6 - ol < 8 := by rw [ilt]; omega
          rw [if_pos h2, if_pos h2, if_pos u8, if_pos u8, rdg (by omega) (by omega), rdg (by omega) (by omega), Option.bind_some, Option.bind_some, tl (v6 - ol) (by omega) h2']
          exact ⟨rfl, _, rfl⟩
        · rw [if_neg h2, if_neg h2]
          exact ⟨rfl, _, rfl⟩
    obtain ⟨e1, x, e2⟩ := eq
    rw [e1, e2, Option.bind_some, Option.bind_some, if_pos rfl]
    exact ih _ (by omega) (by omega) (by omega)
theorem own_323 {scr DP TA MA OA LA TB MB OB LB : List Int32} {ct n st to ol cp tn : Int32} (lD : DP.length = 129) (R : own_Rl TA MA OA LA TB MB OB LB n st ol cp tn) : f_L_law_323 scr DP MA OA LA n st to ol tn DP MB OB LB ct n st to ol tn ct n = some 1 := by
  have e129 : (129 : Int32).toInt = 129 := rfl
  have e0 : (0 : Int32).toInt = 0 := rfl
  have s0 := R.s0
  have s1 := R.s1
  obtain ⟨x, ex⟩ : ∃ x, f_longestPartial DP n st = some x := by
    unfold f_longestPartial
    by_cases h : n = 0
    · rw [if_pos h]; exact ⟨_, rfl⟩
    · rw [if_neg h, if_neg (by rw [ilt]; omega), if_pos (by rw [ilt]; omega), rdg s0 (by omega), Option.bind_some]
      exact ⟨_, rfl⟩
  unfold f_L_law_323 f_keywordCount f_textLength f_totalOccurrences f_outLength
  rw [Option.bind_some, if_pos rfl, Option.bind_some, if_pos rfl, Option.bind_some, Option.bind_some, if_pos rfl, ex, Option.bind_some, Option.bind_some, if_pos rfl, Option.bind_some, Option.bind_some, if_pos rfl]
  exact own_390 R 100000 0 (by decide) (by decide) (by decide)
theorem own_283 {scr KL KR CH DE DP TM OM T0 M0 O0 L0 TA MA OA LA TB MB OB LB : List Int32} {lk ct n st to ol cp tn : Int32} (lD : DP.length = 129) (R : own_Rl TA MA OA LA TB MB OB LB n st ol cp tn) (hf : own_fd KL KR CH DE TM OM lk T0 M0 O0 L0 TA n.toInt.toNat = some (TB, MB, OB, LB, n, st, to, ol, cp, tn)) :
    ∀ (f p : Nat) (v5 : Int32) (T M O L : List Int32) (n' st' to' ol' cp' tn' : Int32), v5.toInt = p → (p : Int) ≤ n.toInt → 240 - p < f → own_fd KL KR CH DE TM OM lk T0 M0 O0 L0 TA p = some (T, M, O, L, n', st', to', ol', cp', tn') → f_L_law_283 (f_L_law_323 scr) scr f DP TA MA OA LA n st to ol tn KL KR CH DE DP TM OM T M O L 1 ct lk n' st' to' ol' cp' tn' ct n v5 = some 1 := by
  intro f
  have e0 : (0 : Int32).toInt = 0 := rfl
  have e240 : (240 : Int32).toInt = 240 := rfl
  have n0 := R.n0
  have n1 := R.n1
  have a1 := R.a1
  induction f with
  | zero => intro p v5 T M O L n' st' to' ol' cp' tn' hp a b; exfalso; omega
  | succ f ih =>
    intro p v5 T M O L n' st' to' ol' cp' tn' hp a b hq
    unfold f_L_law_283
    have done : p = n.toInt.toNat → f_L_law_323 scr DP MA OA LA n st to ol tn DP M O L ct n' st' to' ol' tn' ct n = some 1 := by
      intro z
      rw [z, hf] at hq
      have inj := Option.some.inj hq
      injection inj with i1 i2
      injection i2 with i3 i4
      injection i4 with i5 i6
      injection i6 with i7 i8
      injection i8 with i9 i10
      injection i10 with i11 i12
      injection i12 with i13 i14
      injection i14 with i15 i16
      injection i16 with i17 i18
      subst i1 i3 i5 i7 i9 i11 i13 i15 i17 i18
      exact own_323 lD R
    by_cases g : v5 < 240
    rotate_left
    · rw [if_neg g]
      rw [ilt] at g
      exact done (by omega)
    rw [if_pos g]
    rw [ilt] at g
    by_cases g2 : v5 < n
    rotate_left
    · rw [if_neg g2]
      rw [ilt] at g2
      exact done (by omega)
    have g2' := ilt.mp g2
    rw [if_pos g2]
    have p5 := own_p1 (a := v5) (by omega)
    have tc : f_textChar TA n v5 = some (gI TA v5) := by
      unfold f_textChar
      rw [if_neg (by rw [ilt]; omega), if_pos g2, rdg (by omega) (by omega), Option.bind_some]
    have pm : n.toInt.toNat = (p + 1) + (n.toInt.toNat - (p + 1)) := by omega
    rw [pm] at hf
    obtain ⟨⟨T', M', O', L', n2, st2, to2, ol2, cp2, tn2⟩, hs⟩ := own_fd_pre (p + 1) _ hf
    rw [← pm] at hf
    obtain ⟨r, nr, er⟩ := own_fd_n hq hs
    have ov : Int32.ofNat p = v5 := by rw [ieq, hp, Int32.toInt_ofNat_of_lt (by omega)]
    rw [ov] at er
    rw [tc, Option.bind_some, er, Option.bind_some]
    show (if r < 0 then _ else _) = _
    rw [if_neg nr]
    exact ih (p + 1) _ _ _ _ _ _ _ _ _ _ _ (by omega) (by omega) (by omega) hs
theorem own_265 {scr KC KL KR CH0 DE0 FA0 DP0 TM0 OM0 QU0 OM1 CH DE FA DP TM OM QU T0 M0 O0 L0 TA MA OA LA TB MB OB LB : List Int32} {nc lk ct n st to ol cp tn bnc blk bn bst bto bol bcp btn : Int32} (hbt : f_buildTrie KC KL ct CH0 DP0 TM0 OM0 1 1 = some (CH, DP, TM, OM1, nc, lk)) (hcl : f_computeLinks CH DE0 FA0 OM1 QU0 = some (DE, FA, OM, QU)) (cz : ¬ ct = 0) (lD : DP.length = 129) (R : own_Rl TA MA OA LA TB MB OB LB n st ol cp tn) (hf : own_fd KL KR CH DE TM OM lk T0 M0 O0 L0 TA n.toInt.toNat = some (TB, MB, OB, LB, n, st, to, ol, cp, tn)) :
    f_L_law_265 scr DP TA MA OA LA n st to ol tn KC KL KR CH0 DE0 FA0 DP0 TM0 OM0 QU0 T0 M0 O0 L0 0 ct 0 bnc blk bn bst bto bol bcp btn ct = some 1 := by
  have hbt' : f_buildTrie KC KL ct CH0 DP0 TM0 OM0 bnc blk = some (CH, DP, TM, OM1, nc, lk) := hbt
  have eb : f_build KC KL ct 0 CH0 DE0 FA0 DP0 TM0 OM0 QU0 0 bnc blk bn bst bto bol bcp btn = some (0, CH, DE, FA, DP, TM, OM, QU, 1, nc, lk, 0, 0, 0, 0, 0, 0) := by
    unfold f_build f_clearText
    rw [if_pos rfl, if_pos rfl, if_neg cz, hbt', Option.bind_some]
    show Option.bind (f_computeLinks CH DE0 FA0 OM1 QU0) _ = _
    rw [hcl, Option.bind_some]
    rfl
  unfold f_L_law_265 f_textLength
  rw [eb, Option.bind_some]
  show (if (0 : Int32) = 0 then _ else _) = _
  rw [if_pos rfl, Option.bind_some]
  exact own_283 lD R hf 100000 0 0 T0 M0 O0 L0 0 0 0 0 0 0 rfl R.n0 (by omega) rfl
abbrev own_PB (KC KL KR BC BL BR : List Int32) (k : Int32) : Prop := (BC.length = 128) ∧ (BL.length = 16) ∧ (BR.length = 16) ∧ (∀ i j : Int32, 0 ≤ i.toInt → i.toInt < 16 → 0 ≤ j.toInt → j.toInt < 8 → gI BC (i * 8 + j) = if i.toInt < k.toInt then gI KC (i * 8 + j) else 0) ∧ (∀ i : Int32, 0 ≤ i.toInt → i.toInt < 16 → gI BL i = if i.toInt < k.toInt then gI KL i else 0) ∧ (∀ i : Int32, 0 ≤ i.toInt → i.toInt < 16 → gI BR i = if i.toInt < k.toInt then gI KR i else 0)
theorem own_PB.lC {KC KL KR BC BL BR : List Int32} {k : Int32} (self : own_PB KC KL KR BC BL BR k) : BC.length = 128 := self.1
theorem own_PB.lL {KC KL KR BC BL BR : List Int32} {k : Int32} (self : own_PB KC KL KR BC BL BR k) : BL.length = 16 := self.2.1
theorem own_PB.lR {KC KL KR BC BL BR : List Int32} {k : Int32} (self : own_PB KC KL KR BC BL BR k) : BR.length = 16 := self.2.2.1
theorem own_PB.c {KC KL KR BC BL BR : List Int32} {k : Int32} (self : own_PB KC KL KR BC BL BR k) : ∀ i j : Int32, 0 ≤ i.toInt → i.toInt < 16 → 0 ≤ j.toInt → j.toInt < 8 → gI BC (i * 8 + j) = if i.toInt < k.toInt then gI KC (i * 8 + j) else 0 := self.2.2.2.1
theorem own_PB.l {KC KL KR BC BL BR : List Int32} {k : Int32} (self : own_PB KC KL KR BC BL BR k) : ∀ i : Int32, 0 ≤ i.toInt → i.toInt < 16 → gI BL i = if i.toInt < k.toInt then gI KL i else 0 := self.2.2.2.2.1
theorem own_PB.r {KC KL KR BC BL BR : List Int32} {k : Int32} (self : own_PB KC KL KR BC BL BR k) : ∀ i : Int32, 0 ≤ i.toInt → i.toInt < 16 → gI BR i = if i.toInt < k.toInt then gI KR i else 0 := self.2.2.2.2.2
theorem own_PB.all {KC KL KR BC BL BR : List Int32} {k ct : Int32} (P : own_PB KC KL KR BC BL BR k) (h : own_KW KC KL KR ct) (e : k.toInt = ct.toInt) : BC = KC ∧ BL = KL ∧ BR = KR := by
  have lC := P.lC
  have lL := P.lL
  have lR := P.lR
  have hC := h.lC
  have hL := h.lL
  have hR := h.lR
  have e0 : (0 : Int32).toInt = 0 := rfl
  refine ⟨gext (by omega) (by omega) (fun x x0 x1 => ?_), gext (by omega) (by omega) (fun x x0 x1 => ?_), gext (by omega) (by omega) (fun x x0 x1 => ?_)⟩
  · have i1 : (Int32.ofNat (x.toInt.toNat / 8)).toInt = ((x.toInt.toNat / 8 : Nat) : Int) := Int32.toInt_ofNat_of_lt (by omega)
    have j1 : (Int32.ofNat (x.toInt.toNat % 8)).toInt = ((x.toInt.toNat % 8 : Nat) : Int) := Int32.toInt_ofNat_of_lt (by omega)
    generalize Int32.ofNat (x.toInt.toNat / 8) = i at i1
    generalize Int32.ofNat (x.toInt.toNat % 8) = j at j1
    have kx := own_kx (k := i) (j := j) (by omega) (by omega) (by omega) (by omega)
    have ex : x = i * 8 + j := by rw [ieq, kx, i1, j1]; omega
    rw [ex, P.c i j (by omega) (by omega) (by omega) (by omega)]
    by_cases q : i.toInt < k.toInt
    · rw [if_pos q]
    · rw [if_neg q]
      refine (h.zC i j (by omega) (by omega) ?_ (by omega) (by omega)).symm
      rw [h.zL i (by omega) (by omega)]
      omega
  · rw [P.l x x0 (by omega)]
    by_cases q : x.toInt < k.toInt
    · rw [if_pos q]
    · rw [if_neg q, h.zL x (by omega) (by omega)]
  · rw [P.r x x0 (by omega)]
    by_cases q : x.toInt < k.toInt
    · rw [if_pos q]
    · rw [if_neg q, h.zR x (by omega) (by omega)]
theorem own_adc2 {PD : List Int32} {ct pn v : Int32} (l : PD.length = 8) (p0 : 0 ≤ pn.toInt) (p3 : pn.toInt < 3) (c4 : ct.toInt < 4) (h1 : 97 ≤ v.toInt) (h2 : v.toInt ≤ 122) : f_addChar 4 3 0 ct PD pn v = some (pn + 1, PD.set pn.toInt.toNat v, pn + 1) := by
  have e8 : (8 : Int32).toInt = 8 := rfl
  have e4 : (4 : Int32).toInt = 4 := rfl
  have e3 : (3 : Int32).toInt = 3 := rfl
  unfold f_addChar
  rcases own_let v with ⟨-, n⟩ | ⟨e, -⟩
  · exact absurd ⟨h1, h2⟩ n
  · rw [if_pos rfl, e, Option.bind_some, if_neg (by decide), if_pos (by rw [ilt]; omega), if_pos (by rw [ilt]; omega), if_pos (by rw [ilt]; omega), wrA_in p0 (by omega), Option.bind_some]
theorem own_kch {KC KL KR PD : List Int32} {ct pn k : Int32} (h : own_KW KC KL KR ct) (k0 : 0 ≤ k.toInt) (k1 : k.toInt < ct.toInt) : f_keywordChar KC KL KR PD ct pn k (-1) = some (gI KR k) ∧ (∀ j : Int32, 0 ≤ j.toInt → j.toInt < (gI KL k).toInt → f_keywordChar KC KL KR PD ct pn k j = some (gI KC (k * 8 + j))) ∧ f_keywordLength KL ct pn k = some (gI KL k) := by
  have lC := h.lC
  have lL := h.lL
  have lR := h.lR
  have c4 := h.c4
  have n := h.n k k0 k1
  have e0 : (0 : Int32).toInt = 0 := rfl
  have em : (-1 : Int32).toInt = -1 := rfl
  have a1 : ¬ k < 0 := by rw [ilt]; omega
  have a2 : k < ct := by rw [ilt]; omega
  refine ⟨?_, fun j j0 j1 => ?_, ?_⟩
  · unfold f_keywordChar f_acceptedChar
    rw [if_neg a1, if_pos a2, if_pos rfl, rdg k0 (by omega), Option.bind_some, Option.bind_some]
  · have kx := own_kx (k := k) (j := j) k0 (by omega) j0 (by omega)
    unfold f_keywordChar f_acceptedChar
    rw [if_neg a1, if_pos a2, if_neg (by rw [ieq]; omega), if_neg (by rw [ilt]; omega), rdg k0 (by omega), Option.bind_some, if_pos (by rw [ilt]; exact j1), rdg (by omega) (by omega), Option.bind_some, Option.bind_some]
  · unfold f_keywordLength
    rw [if_neg a1, if_pos a2, rdg k0 (by omega), Option.bind_some]
theorem own_ek2 {KC KL KR BC BL BR PD : List Int32} {ct k : Int32} (h : own_KW KC KL KR ct) (P : own_PB KC KL KR BC BL BR k) (lP : PD.length = 8) (k0 : 0 ≤ k.toInt) (k1 : k.toInt < ct.toInt) (hp : ∀ j : Int32, 0 ≤ j.toInt → j.toInt < (gI KL k).toInt → gI PD j = gI KC (k * 8 + j)) : ∃ BC' BL' BR' : List Int32, f_endKeyword PD 0 BC BL BR k (gI KL k) (gI KR k) = some (k, BC', BL', BR', k + 1, 0) ∧ own_PB KC KL KR BC' BL' BR' (k + 1) := by
  obtain ⟨lC, lL, lR, pc, pl, pr⟩ := P
  have c4 := h.c4
  have n := h.n k k0 k1
  have r := h.r k k0 k1
  have e0 : (0 : Int32).toInt = 0 := rfl
  have e1 : (1 : Int32).toInt = 1 := rfl
  have e16 : (16 : Int32).toInt = 16 := rfl
  have p1 := own_p1 (a := k) (by omega)
  have m1 : (k + 1) - 1 = k := by rw [ieq, isub_i (by omega) (by omega), p1, e1]; omega
  obtain ⟨BC', es, lC', hK⟩ := own_sp (pn := gI KL k) (ct := k) (v := gI KR k) lC lL lR lP (by omega) (by omega) k0 (by omega)
  have nd : f_pendingIsDuplicate BC BL PD k (gI KL k) = some 0 := by
    rcases own_pd (pn := gI KL k) (ct := k) lC lL lP (by omega) (by omega) k0 (by omega) with ⟨q, -⟩ | ⟨-, i, i0, i1, q⟩
    · exact q
    · exfalso
      apply q
      unfold own_df
      rw [pl i i0 (by omega), if_pos i1]
      rcases h.d i k i0 i1 k1 with y | ⟨j, j0, j1, y⟩
      · exact Or.inl y
      · refine Or.inr ⟨j, j0, j1, ?_⟩
        rw [pc i j i0 (by omega) j0 (by omega), if_pos i1, hp j j0 j1]
        exact y
  refine ⟨BC', BL.set k.toInt.toNat (gI KL k), BR.set k.toInt.toNat (gI KR k), ?_, lC', by rw [List.length_set]; exact lL, by rw [List.length_set]; exact lR, ?_, ?_, ?_⟩
  · unfold f_endKeyword
    rcases own_pri (gI KR k) with ⟨-, q⟩ | ⟨q, -⟩
    · exact absurd r q
    · rw [if_pos rfl, if_neg (by rw [ieq]; omega), q, Option.bind_some, if_neg (by decide), nd, Option.bind_some, if_pos rfl, if_pos (by rw [ilt]; omega), es, Option.bind_some]
      show some ((k + 1) - 1, BC', _) = _
      rw [m1]
  · intro i j i0 i1 j0 j1
    rw [hK i j i0 i1 j0 j1]
    by_cases q : i = k
    · have q' := q
      rw [ieq] at q'
      rw [if_pos (c := i.toInt < (k + 1).toInt) (by omega)]
      by_cases w : j.toInt < (gI KL k).toInt
      · rw [if_pos ⟨q, w⟩, hp j j0 w, q]
      · rw [if_neg (fun u => w u.2), pc i j i0 i1 j0 j1, if_neg (by omega), h.zC i j i0 i1 (by rw [q]; omega) j0 j1]
    · rw [if_neg (fun u => q u.1), pc i j i0 i1 j0 j1]
      rw [ieq] at q
      by_cases w : i.toInt < k.toInt
      · rw [if_pos w, if_pos (by omega)]
      · rw [if_neg w, if_neg (by omega)]
  · intro i i0 i1
    rw [gset k0 (by omega) i0]
    by_cases q : k = i
    · rw [if_pos q, if_pos (by rw [← q]; omega), q]
    · rw [if_neg q, pl i i0 i1]
      rw [ieq] at q
      by_cases w : i.toInt < k.toInt
      · rw [if_pos w, if_pos (by omega)]
      · rw [if_neg w, if_neg (by omega)]
  · intro i i0 i1
    rw [gset k0 (by omega) i0]
    by_cases q : k = i
    · rw [if_pos q, if_pos (by rw [← q]; omega), q]
    · rw [if_neg q, pr i i0 i1]
      rw [ieq] at q
      by_cases w : i.toInt < k.toInt
      · rw [if_pos w, if_pos (by omega)]
      · rw [if_neg w, if_neg (by omega)]
theorem own_168 {scr KC KL KR PA CH0 DE0 FA0 DP0 TM0 OM0 QU0 OM1 CH DE FA DP TM OM QU T0 M0 O0 L0 TA MA OA LA TB MB OB LB : List Int32} {nc lk ct pn n st to ol cp tn bnc blk bn bst bto bol bcp btn : Int32} (h : own_KW KC KL KR ct) (hbt : f_buildTrie KC KL ct CH0 DP0 TM0 OM0 1 1 = some (CH, DP, TM, OM1, nc, lk)) (hcl : f_computeLinks CH DE0 FA0 OM1 QU0 = some (DE, FA, OM, QU)) (cz : ¬ ct = 0) (lD : DP.length = 129) (R : own_Rl TA MA OA LA TB MB OB LB n st ol cp tn) (hf : own_fd KL KR CH DE TM OM lk T0 M0 O0 L0 TA n.toInt.toNat = some (TB, MB, OB, LB, n, st, to, ol, cp, tn)) :
    ∀ (f : Nat) (BC BL BR PD : List Int32) (k : Int32), 0 ≤ k.toInt → k.toInt ≤ ct.toInt → 16 - k.toInt < f → PD.length = 8 → own_PB KC KL KR BC BL BR k → f_L_law_168 (f_L_law_265 scr) scr f KC KL KR PA DP TA MA OA LA ct pn n st to ol tn BC BL BR PD CH0 DE0 FA0 DP0 TM0 OM0 QU0 T0 M0 O0 L0 4 3 0 k 0 bnc blk bn bst bto bol bcp btn ct k = some 1 := by
  intro f
  have e0 : (0 : Int32).toInt = 0 := rfl
  have e8 : (8 : Int32).toInt = 8 := rfl
  have e16 : (16 : Int32).toInt = 16 := rfl
  have c4 := h.c4
  induction f with
  | zero => intro BC BL BR PD k a b c; exfalso; omega
  | succ f ih =>
    intro BC BL BR PD k a b c lP P
    unfold f_L_law_168
    rw [if_pos (by rw [ilt]; omega)]
    by_cases g : k < ct
    rotate_left
    · rw [if_neg g]
      rw [ilt] at g
      have kc : k = ct := by rw [ieq]; omega
      obtain ⟨q1, q2, q3⟩ := P.all h (by omega)
      rw [q1, q2, q3, kc]
      exact own_265 hbt hcl cz lD R hf
    have g' := ilt.mp g
    rw [if_pos g]
    have nl := h.n k a g'
    have pk := own_p1 (a := k) (by omega)
    obtain ⟨w1, w2, w3⟩ := own_kch (PD := PA) (pn := pn) h a g'
    rw [w3, Option.bind_some]
    have n237 : ∀ PD : List Int32, PD.length = 8 → (∀ j : Int32, 0 ≤ j.toInt → j.toInt < (gI KL k).toInt → gI PD j = gI KC (k * 8 + j)) → f_L_law_237 (f_L_law_168 (f_L_law_265 scr) scr f) (f_L_law_265 scr) scr KC KL KR PA DP TA MA OA LA ct pn n st to ol tn BC BL BR PD CH0 DE0 FA0 DP0 TM0 OM0 QU0 T0 M0 O0 L0 4 3 0 k (gI KL k) bnc blk bn bst bto bol bcp btn ct k = some 1 := by
      intro PD lP hp
      obtain ⟨BC', BL', BR', ek, P'⟩ := own_ek2 h P lP a g' hp
      unfold f_L_law_237
      rw [w1, Option.bind_some, ek, Option.bind_some]
      show (if k = k then _ else _) = _
      rw [if_pos rfl]
      exact ih _ _ _ _ _ (by omega) (by omega) (by omega) lP P'
    have key : ∀ (m : Nat) (PD : List Int32) (j : Int32), 0 ≤ j.toInt → j.toInt ≤ (gI KL k).toInt → 8 - j.toInt < m → PD.length = 8 → (∀ i : Int32, 0 ≤ i.toInt → i.toInt < j.toInt → gI PD i = gI KC (k * 8 + i)) → f_L_law_192 (f_L_law_237 (f_L_law_168 (f_L_law_265 scr) scr f) (f_L_law_265 scr) scr) scr m KC KL KR PA DP TA MA OA LA ct pn n st to ol tn BC BL BR PD CH0 DE0 FA0 DP0 TM0 OM0 QU0 T0 M0 O0 L0 4 3 0 k j bnc blk bn bst bto bol bcp btn ct k (gI KL k) j = some 1 := by
      intro m
      induction m with
      | zero => intro PD j a b c; exfalso; omega
      | succ m ihm =>
        intro PD j a2 b2 c2 lP hp
        unfold f_L_law_192
        rw [if_pos (by rw [ilt]; omega)]
        by_cases q : j < gI KL k
        · have q' := ilt.mp q
          have pj := own_p1 (a := j) (by omega)
          have lt := h.c k j a g' a2 q'
          rw [if_pos q, w2 j a2 q', Option.bind_some, own_adc2 lP a2 (by omega) (by omega) lt.1 lt.2, Option.bind_some]
          show (if j + 1 = j + 1 then _ else _) = _
          rw [if_pos rfl]
          refine ihm _ _ (by omega) (by omega) (by omega) (by rw [List.length_set]; exact lP) (fun i i0 i1 => ?_)
          rw [gset a2 (by omega) i0]
          by_cases z : j = i
          · rw [if_pos z, z]
          · rw [if_neg z]
            rw [ieq] at z
            exact hp i i0 (by omega)
        · rw [if_neg q]
          rw [ilt] at q
          have je : j = gI KL k := by rw [ieq]; omega
          rw [je] at hp ⊢
          exact n237 PD lP hp
    exact key 100000 PD 0 (by decide) (by omega) (by decide) lP (fun i i0 i1 => by omega)
abbrev own_IA (CH0 DE0 FA0 DP0 TM0 OM0 QU0 T0 M0 O0 L0 KC KL KR PD CH DE FA DP TM OM QU TX MS OU TL : List Int32) (ph ct pn nc lk n st to ol cp tn : Int32) : Prop := (own_KW KC KL KR ct) ∧ (PD.length = 8) ∧ (TX.length = 240) ∧ (MS.length = 240) ∧ (OU.length = 240) ∧ (TL.length = 8) ∧ ((ph = 0 ∧ 0 ≤ pn.toInt ∧ pn.toInt ≤ 3 ∧ (∀ j : Int32, 0 ≤ j.toInt → j.toInt < pn.toInt → 97 ≤ (gI PD j).toInt ∧ (gI PD j).toInt ≤ 122) ∧ (0 < pn.toInt → ct.toInt < 4) ∧ CH = CH0 ∧ DE = DE0 ∧ FA = FA0 ∧ DP = DP0 ∧ TM = TM0 ∧ OM = OM0 ∧ QU = QU0) ∨ (ph = 1 ∧ ¬ ct = 0 ∧ (∃ OM1, f_buildTrie KC KL ct CH0 DP0 TM0 OM0 1 1 = some (CH, DP, TM, OM1, nc, lk) ∧ f_computeLinks CH DE0 FA0 OM1 QU0 = some (DE, FA, OM, QU)) ∧ own_V CH 3354 0 128 ∧ own_V DE 3354 0 128 ∧ own_V TM 129 (-1) 15 ∧ OM.length = 129 ∧ DP.length = 129 ∧ ∃ TB MB OB LB, own_fd KL KR CH DE TM OM lk T0 M0 O0 L0 TX n.toInt.toNat = some (TB, MB, OB, LB, n, st, to, ol, cp, tn) ∧ own_Rl TX MS OU TL TB MB OB LB n st ol cp tn))
theorem own_IA.w {CH0 DE0 FA0 DP0 TM0 OM0 QU0 T0 M0 O0 L0 KC KL KR PD CH DE FA DP TM OM QU TX MS OU TL : List Int32} {ph ct pn nc lk n st to ol cp tn : Int32} (self : own_IA CH0 DE0 FA0 DP0 TM0 OM0 QU0 T0 M0 O0 L0 KC KL KR PD CH DE FA DP TM OM QU TX MS OU TL ph ct pn nc lk n st to ol cp tn) : own_KW KC KL KR ct := self.1
theorem own_IA.lP {CH0 DE0 FA0 DP0 TM0 OM0 QU0 T0 M0 O0 L0 KC KL KR PD CH DE FA DP TM OM QU TX MS OU TL : List Int32} {ph ct pn nc lk n st to ol cp tn : Int32} (self : own_IA CH0 DE0 FA0 DP0 TM0 OM0 QU0 T0 M0 O0 L0 KC KL KR PD CH DE FA DP TM OM QU TX MS OU TL ph ct pn nc lk n st to ol cp tn) : PD.length = 8 := self.2.1
theorem own_IA.l1 {CH0 DE0 FA0 DP0 TM0 OM0 QU0 T0 M0 O0 L0 KC KL KR PD CH DE FA DP TM OM QU TX MS OU TL : List Int32} {ph ct pn nc lk n st to ol cp tn : Int32} (self : own_IA CH0 DE0 FA0 DP0 TM0 OM0 QU0 T0 M0 O0 L0 KC KL KR PD CH DE FA DP TM OM QU TX MS OU TL ph ct pn nc lk n st to ol cp tn) : TX.length = 240 := self.2.2.1
theorem own_IA.l2 {CH0 DE0 FA0 DP0 TM0 OM0 QU0 T0 M0 O0 L0 KC KL KR PD CH DE FA DP TM OM QU TX MS OU TL : List Int32} {ph ct pn nc lk n st to ol cp tn : Int32} (self : own_IA CH0 DE0 FA0 DP0 TM0 OM0 QU0 T0 M0 O0 L0 KC KL KR PD CH DE FA DP TM OM QU TX MS OU TL ph ct pn nc lk n st to ol cp tn) : MS.length = 240 := self.2.2.2.1
theorem own_IA.l3 {CH0 DE0 FA0 DP0 TM0 OM0 QU0 T0 M0 O0 L0 KC KL KR PD CH DE FA DP TM OM QU TX MS OU TL : List Int32} {ph ct pn nc lk n st to ol cp tn : Int32} (self : own_IA CH0 DE0 FA0 DP0 TM0 OM0 QU0 T0 M0 O0 L0 KC KL KR PD CH DE FA DP TM OM QU TX MS OU TL ph ct pn nc lk n st to ol cp tn) : OU.length = 240 := self.2.2.2.2.1
theorem own_IA.l4 {CH0 DE0 FA0 DP0 TM0 OM0 QU0 T0 M0 O0 L0 KC KL KR PD CH DE FA DP TM OM QU TX MS OU TL : List Int32} {ph ct pn nc lk n st to ol cp tn : Int32} (self : own_IA CH0 DE0 FA0 DP0 TM0 OM0 QU0 T0 M0 O0 L0 KC KL KR PD CH DE FA DP TM OM QU TX MS OU TL ph ct pn nc lk n st to ol cp tn) : TL.length = 8 := self.2.2.2.2.2.1
theorem own_IA.p {CH0 DE0 FA0 DP0 TM0 OM0 QU0 T0 M0 O0 L0 KC KL KR PD CH DE FA DP TM OM QU TX MS OU TL : List Int32} {ph ct pn nc lk n st to ol cp tn : Int32} (self : own_IA CH0 DE0 FA0 DP0 TM0 OM0 QU0 T0 M0 O0 L0 KC KL KR PD CH DE FA DP TM OM QU TX MS OU TL ph ct pn nc lk n st to ol cp tn) : (ph = 0 ∧ 0 ≤ pn.toInt ∧ pn.toInt ≤ 3 ∧ (∀ j : Int32, 0 ≤ j.toInt → j.toInt < pn.toInt → 97 ≤ (gI PD j).toInt ∧ (gI PD j).toInt ≤ 122) ∧ (0 < pn.toInt → ct.toInt < 4) ∧ CH = CH0 ∧ DE = DE0 ∧ FA = FA0 ∧ DP = DP0 ∧ TM = TM0 ∧ OM = OM0 ∧ QU = QU0) ∨ (ph = 1 ∧ ¬ ct = 0 ∧ (∃ OM1, f_buildTrie KC KL ct CH0 DP0 TM0 OM0 1 1 = some (CH, DP, TM, OM1, nc, lk) ∧ f_computeLinks CH DE0 FA0 OM1 QU0 = some (DE, FA, OM, QU)) ∧ own_V CH 3354 0 128 ∧ own_V DE 3354 0 128 ∧ own_V TM 129 (-1) 15 ∧ OM.length = 129 ∧ DP.length = 129 ∧ ∃ TB MB OB LB, own_fd KL KR CH DE TM OM lk T0 M0 O0 L0 TX n.toInt.toNat = some (TB, MB, OB, LB, n, st, to, ol, cp, tn) ∧ own_Rl TX MS OU TL TB MB OB LB n st ol cp tn) := self.2.2.2.2.2.2
theorem own_140 {scr KC0 KL0 KR0 PD0 CH0 DE0 FA0 DP0 TM0 OM0 QU0 T0 M0 O0 L0 KC KL KR PD CH DE FA DP TM OM QU TX MS OU TL : List Int32} {ph ct pn nc lk n st to ol cp tn : Int32} (hi : f_init 4 3 = some (KC0, KL0, KR0, PD0, CH0, DE0, FA0, DP0, TM0, OM0, QU0, T0, M0, O0, L0, 4, 3, 0, 0, 0, 1, 1, 0, 0, 0, 0, 0, 0)) (k0 : own_V KC0 128 0 0) (k1 : own_V KL0 16 0 0) (k2 : own_V KR0 16 0 0) (k3 : PD0.length = 8) (I : own_IA CH0 DE0 FA0 DP0 TM0 OM0 QU0 T0 M0 O0 L0 KC KL KR PD CH DE FA DP TM OM QU TX MS OU TL ph ct pn nc lk n st to ol cp tn) : f_L_law_140 scr KC KL KR PD DP TX MS OU TL ph ct pn n st to ol tn = some 1 := by
  unfold f_L_law_140 f_phase f_keywordCount
  rw [Option.bind_some]
  have e0 : (0 : Int32).toInt = 0 := rfl
  rcases I.p with ⟨hp, -⟩ | ⟨hp, cz, ⟨OM1, hbt, hcl⟩, -, -, -, -, lD, TB, MB, OB, LB, hf, R⟩
  · rw [hp, if_neg (by decide)]
  · rw [hp, if_pos rfl, hi, Option.bind_some]
    have z : ∀ {L : List Int32} {N : Nat}, own_V L N 0 0 → ∀ j : Int32, 0 ≤ j.toInt → j.toInt < N → gI L j = 0 := fun h j j0 j1 => by
      have := h.2 j j0 j1
      rw [ieq]
      omega
    exact own_168 I.w hbt hcl cz lD R hf 100000 KC0 KL0 KR0 PD0 0 (by decide) I.w.c0 (by decide) k3 ⟨k0.1, k1.1, k2.1, fun i j i0 i1 j0 j1 => by
      have kx := own_kx i0 i1 j0 j1
      rw [if_neg (by omega), z k0 _ (by omega) (by omega)], fun i i0 i1 => by rw [if_neg (by omega), z k1 _ i0 i1], fun i i0 i1 => by rw [if_neg (by omega), z k2 _ i0 i1]⟩
theorem own_12 (scr : List Int32) (hs : scr.length ≤ 260) {KC0 KL0 KR0 PD0 CH0 DE0 FA0 DP0 TM0 OM0 QU0 T0 M0 O0 L0 : List Int32} (hi : f_init 4 3 = some (KC0, KL0, KR0, PD0, CH0, DE0, FA0, DP0, TM0, OM0, QU0, T0, M0, O0, L0, 4, 3, 0, 0, 0, 1, 1, 0, 0, 0, 0, 0, 0)) (k0 : own_V KC0 128 0 0) (k1 : own_V KL0 16 0 0) (k2 : own_V KR0 16 0 0) (k3 : PD0.length = 8) (hC : own_V CH0 3354 0 128) (hD : own_V DE0 3354 0 128) (hF : own_V FA0 129 0 128) (lD : DP0.length = 129) (hT : own_V TM0 129 (-1) 15) (lO : OM0.length = 129) (hQ : own_V QU0 129 0 128) (lT : T0.length = 240) (lM : M0.length = 240) (lU : O0.length = 240) (lL : L0.length = 8) :
    ∀ (f : Nat) (KC KL KR PD CH DE FA DP TM OM QU TX MS OU TL : List Int32) (ph ct pn nc lk n st to ol cp tn v2 : Int32), own_IA CH0 DE0 FA0 DP0 TM0 OM0 QU0 T0 M0 O0 L0 KC KL KR PD CH DE FA DP TM OM QU TX MS OU TL ph ct pn nc lk n st to ol cp tn → 0 ≤ v2.toInt → v2.toInt ≤ 300 → 310 - v2.toInt ≤ f → f_L_law_12 (f_L_law_140 scr) scr f KC KL KR PD CH DE FA DP TM OM QU TX MS OU TL 4 3 ph ct pn nc lk n st to ol cp tn v2 = some 1 := by
  intro f
  have hl := iscr hs
  have e0 : (0 : Int32).toInt = 0 := rfl
  have e1 : (1 : Int32).toInt = 1 := rfl
  have e2 : (2 : Int32).toInt = 2 := rfl
  have e3 : (3 : Int32).toInt = 3 := rfl
  have e4 : (4 : Int32).toInt = 4 := rfl
  induction f with
  | zero => intro KC KL KR PD CH DE FA DP TM OM QU TX MS OU TL ph ct pn nc lk n st to ol cp tn v2 I a b c; exfalso; omega
  | succ f ih =>
    intro KC KL KR PD CH DE FA DP TM OM QU TX MS OU TL ph ct pn nc lk n st to ol cp tn v2 I a b c
    unfold f_L_law_12
    have p1 := own_p1 (a := v2) (by omega)
    have p2 : (v2 + 2).toInt = v2.toInt + 2 := by rw [iadd_i (by omega) (by omega), e2]
    by_cases g : v2 + 1 < scr.length.toInt32
    rotate_left
    · rw [if_neg g]
      exact own_140 hi k0 k1 k2 k3 I
    have g' := ilt.mp g
    rw [hl] at g'
    rw [if_pos g, rdg a (by omega), Option.bind_some, rdg (by omega) (by omega), Option.bind_some]
    have next : ∀ (KC KL KR PD CH DE FA DP TM OM QU TX MS OU TL : List Int32) (ph ct pn nc lk n st to ol cp tn : Int32), own_IA CH0 DE0 FA0 DP0 TM0 OM0 QU0 T0 M0 O0 L0 KC KL KR PD CH DE FA DP TM OM QU TX MS OU TL ph ct pn nc lk n st to ol cp tn → f_L_law_12 (f_L_law_140 scr) scr f KC KL KR PD CH DE FA DP TM OM QU TX MS OU TL 4 3 ph ct pn nc lk n st to ol cp tn (v2 + 2) = some 1 := fun _ _ _ _ _ _ _ _ _ _ _ _ _ _ _ _ _ _ _ _ _ _ _ _ _ _ q => ih _ _ _ _ _ _ _ _ _ _ _ _ _ _ _ _ _ _ _ _ _ _ _ _ _ _ _ q (by omega) (by omega) (by omega)
    have same := next _ _ _ _ _ _ _ _ _ _ _ _ _ _ _ _ _ _ _ _ _ _ _ _ _ _ I
    generalize gI scr v2 &&& 7 = op
    generalize gI scr (v2 + 1) = x
    obtain ⟨w, lP, l1, l2, l3, l4, hp⟩ := id I
    by_cases o1 : 1 < op
    rotate_left
    · -- a letter
      rw [if_neg o1]
      generalize 96 + (x &&& 7) = v
      rcases hp with ⟨rfl, q0, q1, ql, qc, qr⟩ | ⟨rfl, qr⟩
      · rcases own_adc (mk := 4) (ml := 3) (ct := ct) lP q0 v with ⟨e, -, ee⟩ | ⟨h1, h2, h3, h4, h5, ee⟩
        · rw [ee, Option.bind_some]
          exact same
        · rw [ee, Option.bind_some]
          have pp := own_p1 (a := pn) (by omega)
          refine next _ _ _ _ _ _ _ _ _ _ _ _ _ _ _ _ _ _ _ _ _ _ _ _ _ _ ⟨w, by rw [List.length_set]; exact lP, l1, l2, l3, l4, Or.inl ⟨rfl, by omega, by omega, fun j j0 j1 => ?_, fun _ => by omega, qr⟩⟩
          rw [gset q0 (by omega) j0]
          by_cases z : pn = j
          · rw [if_pos z]; exact ⟨h1, h2⟩
          · rw [if_neg z]
            rw [ieq] at z
            exact ql j j0 (by omega)
      · have ee : f_addChar 4 3 1 ct PD pn v = some (-1, PD, pn) := by
          unfold f_addChar
          rw [if_neg (by decide)]
        rw [ee, Option.bind_some]
        exact same
    rw [if_pos o1]
    by_cases o2 : op = 2
    · -- a keyword's end
      rw [if_pos o2]
      generalize 31 + (x &&& 63) = v
      rcases hp with ⟨rfl, q0, q1, ql, qc, qr⟩ | ⟨rfl, qr⟩
      · rcases own_ek (v := v) w lP q0 q1 ql qc with ⟨e, ee⟩ | ⟨e, KC', KL', KR', ee, w'⟩
        · rw [ee, Option.bind_some]
          exact same
        · rw [ee, Option.bind_some]
          exact next _ _ _ _ _ _ _ _ _ _ _ _ _ _ _ _ _ _ _ _ _ _ _ _ _ _ ⟨w', lP, l1, l2, l3, l4, Or.inl ⟨rfl, by decide, by decide, fun j j0 j1 => by omega, fun h => by omega, qr⟩⟩
      · have ee : f_endKeyword PD 1 KC KL KR ct pn v = some (-1, KC, KL, KR, ct, pn) := by
          unfold f_endKeyword
          rw [if_neg (by decide)]
        rw [ee, Option.bind_some]
        exact same
    rw [if_neg o2]
    by_cases o3 : op = 3
    · -- build
      rw [if_pos o3]
      rcases hp with ⟨rfl, q0, q1, ql, qc, rfl, rfl, rfl, rfl, rfl, rfl, rfl⟩ | ⟨rfl, qr⟩
      · by_cases z : pn = 0
        · by_cases cz : ct = 0
          · have ee : f_build KC KL ct pn CH DE FA DP TM OM QU 0 nc lk n st to ol cp tn = some (-4, CH, DE, FA, DP, TM, OM, QU, 0, nc, lk, n, st, to, ol, cp, tn) := by
              unfold f_build
              rw [if_pos rfl, if_pos z, if_pos cz]
            rw [ee, Option.bind_some]
            exact same
          · obtain ⟨⟨CH1, DP1, TM1, OM1, nc1, lk1⟩, eb, b1, b2, b3, b4, b5, b6⟩ := own_btT (ct := ct) w.lC w.vL 100000 CH DP TM OM 1 1 0 hC lD hT lO (by decide) (by decide) (by decide) (by decide) (by decide) (by decide) (by decide)
            have eb' : f_buildTrie KC KL ct CH DP TM OM 1 1 = some (CH1, DP1, TM1, OM1, nc1, lk1) := eb
            have eb2 : f_buildTrie KC KL ct CH DP TM OM nc lk = some (CH1, DP1, TM1, OM1, nc1, lk1) := eb
            have v1 : own_V CH1 3354 0 128 := b1
            have v2' : DP1.length = 129 := b2
            have v3 : own_V TM1 129 (-1) 15 := b3
            have v4 : OM1.length = 129 := b4
            obtain ⟨⟨DE1, FA1, OM2, QU1⟩, ec, d1, d2, d3, d4⟩ := own_clT v1 hD hF v4 hQ
            have u1 : own_V DE1 3354 0 128 := d1
            have u3 : OM2.length = 129 := d3
            have ee : f_build KC KL ct pn CH DE FA DP TM OM QU 0 nc lk n st to ol cp tn = some (0, CH1, DE1, FA1, DP1, TM1, OM2, QU1, 1, nc1, lk1, 0, 0, 0, 0, 0, 0) := by
              unfold f_build f_clearText
              rw [if_pos rfl, if_pos z, if_neg cz, eb2, Option.bind_some]
              show Option.bind (f_computeLinks CH1 DE FA OM1 QU) _ = _
              rw [ec, Option.bind_some]
              rfl
            rw [ee, Option.bind_some]
            exact next _ _ _ _ _ _ _ _ _ _ _ _ _ _ _ _ _ _ _ _ _ _ _ _ _ _ ⟨w, lP, l1, l2, l3, l4, Or.inr ⟨rfl, cz, ⟨OM1, eb', ec⟩, v1, u1, v3, u3, v2', T0, M0, O0, L0, rfl, l1, l2, l3, l4, lT, lM, lU, lL, by decide, by decide, by decide, by decide, by decide, by decide, by decide, by decide, by decide, by decide, fun j j0 j1 => by omega, fun j j0 j1 => by omega, fun j j0 j1 => by omega, fun j j0 j1 => by omega⟩⟩
        · have ee : f_build KC KL ct pn CH DE FA DP TM OM QU 0 nc lk n st to ol cp tn = some (-7, CH, DE, FA, DP, TM, OM, QU, 0, nc, lk, n, st, to, ol, cp, tn) := by
            unfold f_build
            rw [if_pos rfl, if_neg z]
          rw [ee, Option.bind_some]
          exact same
      · have ee : f_build KC KL ct pn CH DE FA DP TM OM QU 1 nc lk n st to ol cp tn = some (-1, CH, DE, FA, DP, TM, OM, QU, 1, nc, lk, n, st, to, ol, cp, tn) := by
          unfold f_build
          rw [if_neg (by decide)]
        rw [ee, Option.bind_some]
        exact same
    rw [if_neg o3]
    by_cases o7 : op = 7
    · -- the text goes
      rw [if_pos o7]
      rcases hp with ⟨rfl, qr⟩ | ⟨rfl, cz, hb, v1, v2', v3, v4, v5, TB, MB, OB, LB, hf, R⟩
      · have ee : f_resetText 0 n st to ol cp tn = some (-1, n, st, to, ol, cp, tn) := by
          unfold f_resetText
          rw [if_neg (by decide)]
        rw [ee, Option.bind_some]
        exact same
      · have ee : f_resetText 1 n st to ol cp tn = some (0, 0, 0, 0, 0, 0, 0) := by
          unfold f_resetText f_clearText
          rw [if_pos rfl]
          rfl
        rw [ee, Option.bind_some]
        exact next _ _ _ _ _ _ _ _ _ _ _ _ _ _ _ _ _ _ _ _ _ _ _ _ _ _ ⟨w, lP, l1, l2, l3, l4, Or.inr ⟨rfl, cz, hb, v1, v2', v3, v4, v5, T0, M0, O0, L0, rfl, l1, l2, l3, l4, lT, lM, lU, lL, by decide, by decide, by decide, by decide, by decide, by decide, by decide, by decide, by decide, by decide, fun j j0 j1 => by omega, fun j j0 j1 => by omega, fun j j0 j1 => by omega, fun j j0 j1 => by omega⟩⟩
    · -- a character
      rw [if_neg o7]
      generalize (if (x &&& 48) = 48 then (127 : Int32) else 97 + (x &&& 7)) = v
      unfold f_L_law_127
      rcases hp with ⟨rfl, qr⟩ | ⟨rfl, cz, hb, v1, v2', v3, v4, v5, TB, MB, OB, LB, hf, R⟩
      · have ee : f_feed KL KR CH DE TM OM 0 lk TX MS OU TL n st to ol cp tn v = some (-1, TX, MS, OU, TL, n, st, to, ol, cp, tn) := by
          unfold f_feed
          rw [if_neg (by decide)]
        rw [ee, Option.bind_some]
        exact same
      · have n0 := R.n0
        rcases own_feed (lk := lk) (to := to) w.vL w.lR v1 v2' v3 v4 R v with ⟨r, -, fa, -⟩ | ⟨n240, r, MA', OA', LA', MB', OB', LB', st', to', ol', cp', tn', r0, fa, fb, R'⟩
        · rw [fa, Option.bind_some]
          exact same
        · have pn1 := own_p1 (a := n) (by omega)
          rw [fa, Option.bind_some]
          refine next _ _ _ _ _ _ _ _ _ _ _ _ _ _ _ _ _ _ _ _ _ _ _ _ _ _ ⟨w, lP, R'.a1, R'.a2, R'.a3, R'.a4, Or.inr ⟨rfl, cz, hb, v1, v2', v3, v4, v5, TB.set n.toInt.toNat v, MB', OB', LB', ?_, R'⟩⟩
          have en : (n + 1).toInt.toNat = n.toInt.toNat + 1 := by omega
          have on : Int32.ofNat n.toInt.toNat = n := by rw [ieq, Int32.toInt_ofNat_of_lt (by omega)]; omega
          have gv : gI (TX.set n.toInt.toNat v) n = v := by rw [gset n0 (by omega) n0, if_pos rfl]
          have cg := own_fd_cong (KL := KL) (KR := KR) (CH := CH) (DE := DE) (TM := TM) (OM := OM) (lk := lk) (T0 := T0) (M0 := M0) (O0 := O0) (L0 := L0) (TX := TX.set n.toInt.toNat v) (TY := TX) n.toInt.toNat (by omega) (fun j j0 j1 => by rw [gset n0 (by omega) j0, if_neg (fun z => by rw [ieq] at z; omega)])
          rw [en, own_fd, cg, hf, Option.bind_some, on, gv]
          show Option.bind (f_feed KL KR CH DE TM OM 1 lk TB MB OB LB n st to ol cp tn v) _ = _
          rw [fb, Option.bind_some]
          show (if r < 0 then none else _) = _
          rw [if_neg (by rw [ilt]; omega)]
theorem own_inT : ∀ (f : Nat) (KC KL KR PD CH DE FA DP TM OM QU TX MS OU TL : List Int32) (mk ml ph ct pn nc lk n st to ol cp tn v : Int32), own_V TM 129 (-1) 15 → 0 ≤ v.toInt → v.toInt ≤ 129 → 129 - v.toInt < f → ∃ TM', own_V TM' 129 (-1) 15 ∧ f_init_215 f_init_237 f KC KL KR PD CH DE FA DP TM OM QU TX MS OU TL mk ml ph ct pn nc lk n st to ol cp tn v = some (KC, KL, KR, PD, CH, DE, FA, DP, TM', OM, QU, TX, MS, OU, TL, mk, ml, ph, ct, pn, nc, lk, 0, 0, 0, 0, 0, 0) := by
  intro f
  have e129 : (129 : Int32).toInt = 129 := rfl
  induction f with
  | zero => intro KC KL KR PD CH DE FA DP TM OM QU TX MS OU TL mk ml ph ct pn nc lk n st to ol cp tn v _ a b c; exfalso; omega
  | succ f ih =>
    intro KC KL KR PD CH DE FA DP TM OM QU TX MS OU TL mk ml ph ct pn nc lk n st to ol cp tn v h a b c
    unfold f_init_215
    by_cases g : v < 129
    · rw [if_pos g]
      rw [ilt] at g
      have p := own_p1 (a := v) (by omega)
      have lT := h.1
      rw [wrA_in a (by omega), Option.bind_some]
      exact ih _ _ _ _ _ _ _ _ _ _ _ _ _ _ _ _ _ _ _ _ _ _ _ _ _ _ _ _ _ (h.put a (by omega) (by decide) (by decide)) (by omega) (by omega) (by omega)
    · rw [if_neg g]
      unfold f_init_237 f_clearText
      exact ⟨TM, h, rfl⟩
theorem own_rep (n : Nat) (hn : n ≤ 100000) (lo hi : Int) (l0 : lo ≤ 0) (h0 : 0 ≤ hi) : own_V (List.replicate n 0) n lo hi := by
  refine ⟨by simp, fun j j0 j1 => ?_⟩
  rw [gI_rep j0 j1]
  exact ⟨l0, h0⟩
theorem own_true (scr : List Int32) (h : scr.length ≤ 260) : f_L_law scr = some 1 := by
  have e0 : (0 : Int32).toInt = 0 := rfl
  obtain ⟨TM0, hT, hi⟩ : ∃ TM0, own_V TM0 129 (-1) 15 ∧ f_init 4 3 = some (List.replicate 128 0, List.replicate 16 0, List.replicate 16 0, List.replicate 8 0, List.replicate 3354 0, List.replicate 3354 0, List.replicate 129 0, List.replicate 129 0, TM0, List.replicate 129 0, List.replicate 129 0, List.replicate 240 0, List.replicate 240 0, List.replicate 240 0, List.replicate 8 0, 4, 3, 0, 0, 0, 1, 1, 0, 0, 0, 0, 0, 0) := by
    have r := own_rep 129 (by omega) (-1) 15 (by omega) (by omega)
    unfold f_init f_init_144 f_init_153 f_init_165 f_init_176
    generalize List.replicate 128 (0 : Int32) = x1
    generalize List.replicate 16 (0 : Int32) = x2
    generalize List.replicate 8 (0 : Int32) = x3
    generalize List.replicate 3354 (0 : Int32) = x4
    generalize List.replicate 240 (0 : Int32) = x5
    generalize List.replicate 129 (0 : Int32) = x6 at r
    exact own_inT 100000 x1 x2 x2 x3 x4 x4 x6 x6 x6 x6 x6 x5 x5 x5 x3 4 3 0 0 0 1 1 0 0 0 0 0 0 0 r (by decide) (by decide) (by decide)
  unfold f_L_law
  rw [hi, Option.bind_some]
  have a1 := own_rep 128 (by omega) 0 0 (by omega) (by omega)
  have a2 := own_rep 16 (by omega) 0 0 (by omega) (by omega)
  have a3 := own_rep 3354 (by omega) 0 128 (by omega) (by omega)
  have a4 := own_rep 129 (by omega) 0 128 (by omega) (by omega)
  have a5 := own_rep 8 (by omega) 0 0 (by omega) (by omega)
  have a6 := own_rep 240 (by omega) 0 0 (by omega) (by omega)
  have kw : own_KW (List.replicate 128 0) (List.replicate 16 0) (List.replicate 16 0) 0 := by
    have z : ∀ {L : List Int32} {N : Nat}, own_V L N 0 0 → ∀ j : Int32, 0 ≤ j.toInt → j.toInt < N → gI L j = 0 := fun h j j0 j1 => by
      have := h.2 j j0 j1
      rw [ieq]
      omega
    refine ⟨a1.1, a2.1, a2.1, by decide, by decide, fun k k0 k1 => by omega, fun k j k0 k1 => by omega, fun k k0 k1 => by omega, fun i k i0 ik k1 => by omega, fun k k0 k1 => z a2 k (by omega) (by omega), fun k k0 k1 => z a2 k (by omega) (by omega), fun k j k0 k1 _ j0 j1 => ?_⟩
    have kx := own_kx k0 k1 j0 j1
    exact z a1 _ (by omega) (by omega)
  exact own_12 scr h hi a1 a2 a2 a5.1 a3 a3 a4 a4.1 hT a4.1 a4 a6.1 a6.1 a6.1 a5.1 100000 _ _ _ _ _ _ _ _ _ _ _ _ _ _ _ 0 0 0 1 1 0 0 0 0 0 0 0 ⟨kw, a5.1, a6.1, a6.1, a6.1, a5.1, Or.inl ⟨rfl, by decide, by decide, fun j j0 j1 => by omega, fun h => by omega, rfl, rfl, rfl, rfl, rfl, rfl, rfl⟩⟩ (by decide) (by decide) (by decide)
set_option maxRecDepth 65536 in
theorem comes_1 {Post : Tables → Env → Array Value → State → Outcome → State → Prop} (hpost : ∀ tb e args s v u, (limb_1_1.after args s (.returned v) u = true ∧ limb_1_2.after args s (.returned v) u = true ∧ True) → FrameEnd s (.returned v) u (Jvm.fieldLocs frame_1_writes args s ++ Jvm.arrayLocs frame_1_arrays args s ++ Jvm.staticLocs frame_1_statics s) 72 33216 → Post tb e args s (.returned v) u) :
    ArmFor flags0 classFile x code maxLocals ret World_1 tables_1 room_1 Calls_1 rest_1 Pre_1 Post := by
  intro l hfl _ _ p e ha hc hk s m args below hf hA hF happ hP
  obtain ⟨hcalls, hrest, hpre⟩ := hP
  obtain ⟨-, -, -, hnamed, -, -, -, hat⟩ := (Spec.applies_iff hf).mp happ
  obtain ⟨hg, hn⟩ := and_e (Cond.before_iff.mp (show (Jvm.Cond.and given_1 narrow_1).before args s = true from hpre))
  obtain ⟨h1, h2⟩ := and_e hg
  have hw := fun d (hd : d ∈ tables_1) => atoms_spec (ws := Jvm.Cond.code x code maxLocals ret :: tables_1) hat d (List.mem_cons_of_mem _ hd)
  obtain ⟨w0, rfl⟩ : ∃ w0 : Value, args = #[w0] := by
    have hs : args.size = 1 := by simpa [Cond.value, given_1] using h1
    obtain ⟨L⟩ := args
    match L, hs with
    | [w0], _ => exact ⟨w0, rfl⟩
  have hfit : Fit s := fun {y c} hc i hi => by
    obtain ⟨ha, rfl⟩ := Array.getElem?_eq_some_iff.mp hc
    have q := List.all_eq_true.mp ((Array.all_eq_true_iff_forall_mem.mp hF) _ (Array.getElem_mem ha)) i (List.mem_range.mpr hi)
    simpa [Array.getElem?_eq_getElem hi] using q
  obtain ⟨hn1, hn2⟩ := and_e hn
  obtain ⟨ad, e0⟩ := arr_v hn1
  obtain ⟨cl, A⟩ := Arr.start e0 hn1
  obtain rfl : w0 = .ref ad := Option.some.inj e0
  obtain ⟨scr, hs1, hs2, hs3⟩ := script_of hfit A e0 hn2
  have E : OEndsQ own_P 0 0 (entL [.ref 0] d_0.maxL) [] [.inr (.inl (false, scr))] (LawQ 1 32 16554) := ok_L_law (own_true scr hs2)
  have hS : SR [ad] [.ref 0] [.ref ad] := ⟨_, _, rfl, ⟨ad, rfl, rfl⟩, rfl⟩
  have hH : HR own_P s s.heap.size s.heap [ad] [.inr (.inl (false, scr))] := hr_script rfl A hs1 hs2 hs3
  have M := law_met (l := l) own_chk (fun w hw' => hw w (own_in w hw')) hm_0 E hS (Nat.le_of_ble_eq_true rfl) hH tables_1 room_1 (Nat.le_of_ble_eq_true rfl) (Nat.le_of_ble_eq_true rfl) (Nat.le_of_ble_eq_true rfl) (Nat.le_of_ble_eq_true rfl)
  obtain ⟨n, o, h1, h2, h3, L, rfl, N, hq⟩ := M p e ha hc hk s m _ below hf ((Spec.applies_iff_loose hf).mp happ).1 ⟨rfl, State.Warmed39.refl s, rfl⟩ trivial
  refine ⟨n, _, h1, h2, h3, hpost _ _ _ _ _ _ ⟨Cond.after_iff.mpr rfl, Cond.after_iff.mpr (eq_i res_at (Term.int_eval (1)) rfl), trivial⟩ ⟨hq.1, hq.2.1, (hq.2.2.sift fun y hy => Or.inr (N y hy)).mono (by decide) (by decide)⟩⟩
theorem main_1_1 : Claimed_1_1 := comes_1 fun _ _ _ _ _ _ h hF => ⟨h.1, hF⟩
theorem main_1_2 : Claimed_1_2 := comes_1 fun _ _ _ _ _ _ h hF => ⟨h.2.1, hF⟩
end Jvm.Pilot.@@N@@
namespace Jvm.Pilot.@@N@@
open Jvm Jvm.ClassFile Sem Op Lib Jvm.Free Jvm.Stand Jvm.Pilot.@@N@@.Jvm.D
/-! MADE BY PROGRAM (witnessworld.py) out of the Statement's table words and the real class files: 9 classes; the members and pool entries that the words name. The judged class is class 1, her method 1. -/
namespace start1
open Jvm.ClassFile
def u (s : String) : CpInfo := .utf8 (stringToUtf16 s)
/-- a pool by its gaps: so many unusable entries, then the entry; so many at the end -/
def gap : Nat → List CpInfo → List CpInfo
  | 0, r => r
  | n + 1, r => .unusable :: gap n r
def poolList (es : List (Nat × CpInfo)) (last : Nat) : List CpInfo := es.foldr (fun e r => gap e.1 (e.2 :: r)) (gap last [])
def pool (es : List (Nat × CpInfo)) (last : Nat) : Array CpInfo := ⟨poolList es last⟩
def fileOf (pool : Array CpInfo) (this : Nat) (attrs : Array Attribute := #[]) (ms : Array MethodInfo := #[]) (fl : Nat := 33) (sup : Nat := 0) (ifs : Array Nat := #[]) (fds : Array FieldInfo := #[]) : ClassFile where
  minorVersion := 0
  majorVersion := 65
  constantPool := pool
  accessFlags := fl
  thisClass := this
  superClass := sup
  interfaces := ifs
  fields := fds
  methods := ms
  attributes := attrs
def plain (name : String) (sup : Option ClassId) : Class where
  name := name
  kind := .ordinary
  loader := none
  accessFlags := 33
  super := sup
  interfaces := #[]
  cf := none
  fields := #[]
  methods := #[]
  instanceTypes := #[]
  staticTypes := #[]
  resolved := #[]
  callSites := []
  init := .initialized
  statics := none
  mirror := none

def pool0 : Array CpInfo := pool [(5, u "<init>"), (0, u "()V"), (1, .class_ 10), (1, u "java/lang/Object")] 113

def k0c0 : Code := { maxStack := 0, maxLocals := 1, code := object_method_1_code, exceptionTable := #[], attributes := #[] }
def k0m0 : Method := { name := "<init>", desc := "()V", sig := { parameters := [], returnType := none }, accessFlags := 1, code := some k0c0 }
/-- java/lang/Object -/
def k0 : Class := { plain "java/lang/Object" none with
  accessFlags := 33
  interfaces := #[]
  cf := some (fileOf pool0 8 #[] #[{ accessFlags := 1, nameIndex := 5, descriptorIndex := 6, attributes := #[] }] 33 0 #[] #[])
  fields := #[]
  methods := #[k0m0]
  instanceTypes := #[]
  staticTypes := #[]
  resolved := Array.replicate 124 none
  statics := none }

def pool1 : Array CpInfo := pool [(2, .class_ 4), (1, u "java/lang/Object"), (0, u "<init>"), (0, u "()V"), (0, .class_ 8), (0, u "MultiPatternScan"), (0, .methodref 7 10), (0, .nameAndType 5 11), (0, u "(II)V"), (0, .methodref 7 13), (0, .nameAndType 14 15), (0, u "addChar"), (0, u "(I)I"), (0, .methodref 7 17), (0, .nameAndType 18 15), (0, u "endKeyword"), (0, .methodref 7 20), (0, .nameAndType 21 22), (0, u "build"), (0, u "()I"), (0, .methodref 7 24), (0, .nameAndType 25 22), (0, u "resetText"), (0, .methodref 7 27), (0, .nameAndType 28 15), (0, u "feed"), (0, .methodref 7 30), (0, .nameAndType 31 22), (0, u "phase"), (0, .methodref 7 33), (0, .nameAndType 34 22), (0, u "keywordCount"), (0, .methodref 7 36), (0, .nameAndType 37 15), (0, u "keywordLength"), (0, .methodref 7 39), (0, .nameAndType 40 41), (0, u "keywordChar"), (0, u "(II)I"), (0, .methodref 7 43), (0, .nameAndType 44 22), (0, u "textLength"), (0, .methodref 7 46), (0, .nameAndType 47 15), (0, u "textChar"), (0, .methodref 7 49), (0, .nameAndType 50 22), (0, u "totalOccurrences"), (0, .methodref 7 52), (0, .nameAndType 53 22), (0, u "longestPartial"), (0, .methodref 7 55), (0, .nameAndType 56 22), (0, u "outLength"), (0, .methodref 7 58), (0, .nameAndType 59 15), (0, u "outChar"), (0, .methodref 7 61), (0, .nameAndType 62 15), (0, u "occurrenceMask"), (0, .class_ 64), (0, u "MultiPatternScanL7"), (2, u "law"), (0, u "([I)Z")] 3

def k1m0 : Method := { name := "<init>", desc := "()V", sig := { parameters := [], returnType := none }, accessFlags := 1, code := none }
def k1c1 : Code := { maxStack := 4, maxLocals := 8, code := code, exceptionTable := #[], attributes := #[] }
def k1m1 : Method := { name := "law", desc := "([I)Z", sig := { parameters := [(.array .int)], returnType := some .boolean }, accessFlags := 9, code := some k1c1 }
/-- MultiPatternScanL7 -/
def k1 : Class := { plain "MultiPatternScanL7" (some 0) with
  accessFlags := 33
  interfaces := #[]
  cf := some (fileOf pool1 63 #[] #[{ accessFlags := 1, nameIndex := 5, descriptorIndex := 6, attributes := #[] }, { accessFlags := 9, nameIndex := 67, descriptorIndex := 68, attributes := #[] }] 33 2 #[] #[])
  fields := #[]
  methods := #[k1m0, k1m1]
  instanceTypes := #[]
  staticTypes := #[]
  resolved := Array.replicate 72 none
  statics := none }

def pool2 : Array CpInfo := pool [(1, .methodref 2 3), (0, .class_ 4), (0, .nameAndType 5 6), (0, u "java/lang/Object"), (0, u "<init>"), (0, u "()V"), (0, .fieldref 8 9), (0, .class_ 10), (0, .nameAndType 11 12), (0, u "MultiPatternScan"), (0, u "kwChars"), (0, u "[I"), (0, .fieldref 8 14), (0, .nameAndType 15 12), (0, u "kwLen"), (0, .fieldref 8 17), (0, .nameAndType 18 12), (0, u "kwRepl"), (0, .fieldref 8 20), (0, .nameAndType 21 12), (0, u "pend"), (0, .fieldref 8 23), (0, .nameAndType 24 12), (0, u "child"), (0, .fieldref 8 26), (0, .nameAndType 27 12), (0, u "delta"), (0, .fieldref 8 29), (0, .nameAndType 30 12), (0, u "fail"), (0, .fieldref 8 32), (0, .nameAndType 33 12), (0, u "depth"), (0, .fieldref 8 35), (0, .nameAndType 36 12), (0, u "term"), (0, .fieldref 8 38), (0, .nameAndType 39 12), (0, u "outMask"), (0, .fieldref 8 41), (0, .nameAndType 42 12), (0, u "queue"), (0, .fieldref 8 44), (0, .nameAndType 45 12), (0, u "text"), (0, .fieldref 8 47), (0, .nameAndType 48 12), (0, u "masks"), (0, .fieldref 8 50), (0, .nameAndType 51 12), (0, u "out"), (0, .fieldref 8 53), (0, .nameAndType 54 12), (0, u "tail"), (0, .fieldref 8 56), (0, .nameAndType 57 58), (0, u "maxKw"), (0, u "I"), (0, .fieldref 8 60), (0, .nameAndType 61 58), (0, u "maxLen"), (0, .fieldref 8 63), (0, .nameAndType 64 58), (0, u "phaseNow"), (0, .fieldref 8 66), (0, .nameAndType 67 58), (0, u "count"), (0, .fieldref 8 69), (0, .nameAndType 70 58), (0, u "pendLen"), (0, .fieldref 8 72), (0, .nameAndType 73 58), (0, u "nodeCount"), (0, .fieldref 8 75), (0, .nameAndType 76 58), (0, u "longestKw"), (0, .methodref 8 78), (0, .nameAndType 79 6), (0, u "clearText"), (0, .methodref 8 81), (0, .nameAndType 82 83), (0, u "isLetter"), (0, u "(I)Z"), (0, .methodref 8 85), (0, .nameAndType 86 83), (0, u "isPrintable"), (0, .methodref 8 88), (0, .nameAndType 89 90), (0, u "pendingIsDuplicate"), (0, u "()Z"), (0, .methodref 8 92), (0, .nameAndType 93 94), (0, u "storePending"), (0, u "(I)V"), (0, .methodref 8 96), (0, .nameAndType 97 6), (0, u "buildTrie"), (0, .methodref 8 99), (0, .nameAndType 100 6), (0, u "computeLinks"), (0, .fieldref 8 102), (0, .nameAndType 103 58), (0, u "n"), (0, .fieldref 8 105), (0, .nameAndType 106 58), (0, u "state"), (0, .methodref 8 108), (0, .nameAndType 109 110), (0, u "nextState"), (0, u "(II)I"), (0, .methodref 8 112), (0, .nameAndType 113 114), (0, u "popCount"), (0, u "(I)I"), (0, .fieldref 8 116), (0, .nameAndType 117 58), (0, u "total"), (0, .methodref 8 119), (0, .nameAndType 120 6), (0, u "commitReady"), (0, .methodref 8 122), (0, .nameAndType 123 6), (0, u "rebuildTail"), (0, .methodref 8 125), (0, .nameAndType 126 110), (0, u "acceptedChar"), (0, .fieldref 8 128), (0, .nameAndType 129 58), (0, u "outLen"), (0, .fieldref 8 131), (0, .nameAndType 132 58), (0, u "tailLen"), (0, .methodref 8 134), (0, .nameAndType 135 83), (0, u "pendingEquals"), (0, .methodref 8 137), (0, .nameAndType 138 94), (0, u "insertKeyword"), (0, .methodref 8 140), (0, .nameAndType 141 110), (0, u "expandNode"), (0, .fieldref 8 143), (0, .nameAndType 144 58), (0, u "commitPos"), (0, .methodref 8 146), (0, .nameAndType 147 6), (0, u "commitOne"), (0, .methodref 8 149), (0, .nameAndType 150 114), (0, u "longestAt"), (0, u "PHASE_BUILD"), (2, u "PHASE_SCAN"), (1, u "OK"), (0, u "ERR_PHASE"), (1, u "ERR_CHAR"), (1, u "ERR_FULL"), (1, u "ERR_EMPTY"), (1, u "ERR_DUPLICATE"), (1, u "ERR_REPL"), (1, u "ERR_PENDING"), (1, u "MAX_KEYWORDS"), (1, u "MAX_KEYWORD_LEN"), (1, u "MAX_TEXT"), (1, u "MAX_NODES"), (1, u "ALPHA"), (1, u "TAIL_CAP"), (0, u "(II)V"), (3, u "addChar"), (0, u "endKeyword"), (0, u "build"), (0, u "()I"), (0, u "feed"), (0, u "resetText"), (0, u "phase"), (0, u "keywordCount"), (0, u "keywordLength"), (0, u "keywordChar"), (0, u "textLength"), (0, u "textChar"), (0, u "occurrenceMask"), (0, u "totalOccurrences"), (0, u "longestPartial"), (0, u "outLength"), (0, u "outChar")] 2

def k2c0 : Code := { maxStack := 3, maxLocals := 6, code := prog_1_method_1_code, exceptionTable := #[], attributes := #[] }
def k2m0 : Method := { name := "<init>", desc := "(II)V", sig := { parameters := [.int, .int], returnType := none }, accessFlags := 1, code := some k2c0 }
def k2c1 : Code := { maxStack := 3, maxLocals := 2, code := prog_1_method_2_code, exceptionTable := #[], attributes := #[] }
def k2m1 : Method := { name := "addChar", desc := "(I)I", sig := { parameters := [.int], returnType := some .int }, accessFlags := 1, code := some k2c1 }
def k2c2 : Code := { maxStack := 2, maxLocals := 2, code := prog_1_method_3_code, exceptionTable := #[], attributes := #[] }
def k2m2 : Method := { name := "endKeyword", desc := "(I)I", sig := { parameters := [.int], returnType := some .int }, accessFlags := 1, code := some k2c2 }
def k2c3 : Code := { maxStack := 2, maxLocals := 1, code := prog_1_method_4_code, exceptionTable := #[], attributes := #[] }
def k2m3 : Method := { name := "build", desc := "()I", sig := { parameters := [], returnType := some .int }, accessFlags := 1, code := some k2c3 }
def k2c4 : Code := { maxStack := 4, maxLocals := 4, code := prog_1_method_5_code, exceptionTable := #[], attributes := #[] }
def k2m4 : Method := { name := "feed", desc := "(I)I", sig := { parameters := [.int], returnType := some .int }, accessFlags := 1, code := some k2c4 }
def k2c5 : Code := { maxStack := 2, maxLocals := 1, code := prog_1_method_6_code, exceptionTable := #[], attributes := #[] }
def k2m5 : Method := { name := "resetText", desc := "()I", sig := { parameters := [], returnType := some .int }, accessFlags := 1, code := some k2c5 }
def k2c6 : Code := { maxStack := 1, maxLocals := 1, code := prog_1_method_7_code, exceptionTable := #[], attributes := #[] }
def k2m6 : Method := { name := "phase", desc := "()I", sig := { parameters := [], returnType := some .int }, accessFlags := 1, code := some k2c6 }
def k2c7 : Code := { maxStack := 1, maxLocals := 1, code := prog_1_method_8_code, exceptionTable := #[], attributes := #[] }
def k2m7 : Method := { name := "keywordCount", desc := "()I", sig := { parameters := [], returnType := some .int }, accessFlags := 1, code := some k2c7 }
def k2c8 : Code := { maxStack := 2, maxLocals := 2, code := prog_1_method_9_code, exceptionTable := #[], attributes := #[] }
def k2m8 : Method := { name := "keywordLength", desc := "(I)I", sig := { parameters := [.int], returnType := some .int }, accessFlags := 1, code := some k2c8 }
def k2c9 : Code := { maxStack := 3, maxLocals := 3, code := prog_1_method_10_code, exceptionTable := #[], attributes := #[] }
def k2m9 : Method := { name := "keywordChar", desc := "(II)I", sig := { parameters := [.int, .int], returnType := some .int }, accessFlags := 1, code := some k2c9 }
def k2c10 : Code := { maxStack := 1, maxLocals := 1, code := prog_1_method_11_code, exceptionTable := #[], attributes := #[] }
def k2m10 : Method := { name := "textLength", desc := "()I", sig := { parameters := [], returnType := some .int }, accessFlags := 1, code := some k2c10 }
def k2c11 : Code := { maxStack := 2, maxLocals := 2, code := prog_1_method_12_code, exceptionTable := #[], attributes := #[] }
def k2m11 : Method := { name := "textChar", desc := "(I)I", sig := { parameters := [.int], returnType := some .int }, accessFlags := 1, code := some k2c11 }
def k2c12 : Code := { maxStack := 2, maxLocals := 2, code := prog_1_method_13_code, exceptionTable := #[], attributes := #[] }
def k2m12 : Method := { name := "occurrenceMask", desc := "(I)I", sig := { parameters := [.int], returnType := some .int }, accessFlags := 1, code := some k2c12 }
def k2c13 : Code := { maxStack := 1, maxLocals := 1, code := prog_1_method_14_code, exceptionTable := #[], attributes := #[] }
def k2m13 : Method := { name := "totalOccurrences", desc := "()I", sig := { parameters := [], returnType := some .int }, accessFlags := 1, code := some k2c13 }
def k2c14 : Code := { maxStack := 2, maxLocals := 1, code := prog_1_method_15_code, exceptionTable := #[], attributes := #[] }
def k2m14 : Method := { name := "longestPartial", desc := "()I", sig := { parameters := [], returnType := some .int }, accessFlags := 1, code := some k2c14 }
def k2c15 : Code := { maxStack := 2, maxLocals := 1, code := prog_1_method_16_code, exceptionTable := #[], attributes := #[] }
def k2m15 : Method := { name := "outLength", desc := "()I", sig := { parameters := [], returnType := some .int }, accessFlags := 1, code := some k2c15 }
def k2c16 : Code := { maxStack := 2, maxLocals := 3, code := prog_1_method_17_code, exceptionTable := #[], attributes := #[] }
def k2m16 : Method := { name := "outChar", desc := "(I)I", sig := { parameters := [.int], returnType := some .int }, accessFlags := 1, code := some k2c16 }
def k2c17 : Code := { maxStack := 3, maxLocals := 3, code := prog_1_method_18_code, exceptionTable := #[], attributes := #[] }
def k2m17 : Method := { name := "acceptedChar", desc := "(II)I", sig := { parameters := [.int, .int], returnType := some .int }, accessFlags := 2, code := some k2c17 }
def k2c18 : Code := { maxStack := 2, maxLocals := 2, code := prog_1_method_19_code, exceptionTable := #[], attributes := #[] }
def k2m18 : Method := { name := "pendingIsDuplicate", desc := "()Z", sig := { parameters := [], returnType := some .boolean }, accessFlags := 2, code := some k2c18 }
def k2c19 : Code := { maxStack := 3, maxLocals := 4, code := prog_1_method_20_code, exceptionTable := #[], attributes := #[] }
def k2m19 : Method := { name := "pendingEquals", desc := "(I)Z", sig := { parameters := [.int], returnType := some .boolean }, accessFlags := 2, code := some k2c19 }
def k2c20 : Code := { maxStack := 4, maxLocals := 4, code := prog_1_method_21_code, exceptionTable := #[], attributes := #[] }
def k2m20 : Method := { name := "storePending", desc := "(I)V", sig := { parameters := [.int], returnType := none }, accessFlags := 2, code := some k2c20 }
def k2c21 : Code := { maxStack := 3, maxLocals := 2, code := prog_1_method_22_code, exceptionTable := #[], attributes := #[] }
def k2m21 : Method := { name := "buildTrie", desc := "()V", sig := { parameters := [], returnType := none }, accessFlags := 2, code := some k2c21 }
def k2c22 : Code := { maxStack := 5, maxLocals := 7, code := prog_1_method_23_code, exceptionTable := #[], attributes := #[] }
def k2m22 : Method := { name := "insertKeyword", desc := "(I)V", sig := { parameters := [.int], returnType := none }, accessFlags := 2, code := some k2c22 }
def k2c23 : Code := { maxStack := 3, maxLocals := 5, code := prog_1_method_24_code, exceptionTable := #[], attributes := #[] }
def k2m23 : Method := { name := "computeLinks", desc := "()V", sig := { parameters := [], returnType := none }, accessFlags := 2, code := some k2c23 }
def k2c24 : Code := { maxStack := 5, maxLocals := 8, code := prog_1_method_25_code, exceptionTable := #[], attributes := #[] }
def k2m24 : Method := { name := "expandNode", desc := "(II)I", sig := { parameters := [.int, .int], returnType := some .int }, accessFlags := 2, code := some k2c24 }
def k2c25 : Code := { maxStack := 4, maxLocals := 3, code := prog_1_method_26_code, exceptionTable := #[], attributes := #[] }
def k2m25 : Method := { name := "nextState", desc := "(II)I", sig := { parameters := [.int, .int], returnType := some .int }, accessFlags := 2, code := some k2c25 }
def k2c26 : Code := { maxStack := 2, maxLocals := 1, code := prog_1_method_27_code, exceptionTable := #[], attributes := #[] }
def k2m26 : Method := { name := "clearText", desc := "()V", sig := { parameters := [], returnType := none }, accessFlags := 2, code := some k2c26 }
def k2c27 : Code := { maxStack := 4, maxLocals := 8, code := prog_1_method_28_code, exceptionTable := #[], attributes := #[] }
def k2m27 : Method := { name := "longestAt", desc := "(I)I", sig := { parameters := [.int], returnType := some .int }, accessFlags := 2, code := some k2c27 }
def k2c28 : Code := { maxStack := 2, maxLocals := 2, code := prog_1_method_29_code, exceptionTable := #[], attributes := #[] }
def k2m28 : Method := { name := "commitReady", desc := "()V", sig := { parameters := [], returnType := none }, accessFlags := 2, code := some k2c28 }
def k2c29 : Code := { maxStack := 4, maxLocals := 2, code := prog_1_method_30_code, exceptionTable := #[], attributes := #[] }
def k2m29 : Method := { name := "commitOne", desc := "()V", sig := { parameters := [], returnType := none }, accessFlags := 2, code := some k2c29 }
def k2c30 : Code := { maxStack := 4, maxLocals := 4, code := prog_1_method_31_code, exceptionTable := #[], attributes := #[] }
def k2m30 : Method := { name := "rebuildTail", desc := "()V", sig := { parameters := [], returnType := none }, accessFlags := 2, code := some k2c30 }
def k2c31 : Code := { maxStack := 2, maxLocals := 2, code := prog_1_method_32_code, exceptionTable := #[], attributes := #[] }
def k2m31 : Method := { name := "isLetter", desc := "(I)Z", sig := { parameters := [.int], returnType := some .boolean }, accessFlags := 2, code := some k2c31 }
def k2c32 : Code := { maxStack := 2, maxLocals := 2, code := prog_1_method_33_code, exceptionTable := #[], attributes := #[] }
def k2m32 : Method := { name := "isPrintable", desc := "(I)Z", sig := { parameters := [.int], returnType := some .boolean }, accessFlags := 2, code := some k2c32 }
def k2c33 : Code := { maxStack := 2, maxLocals := 4, code := prog_1_method_34_code, exceptionTable := #[], attributes := #[] }
def k2m33 : Method := { name := "popCount", desc := "(I)I", sig := { parameters := [.int], returnType := some .int }, accessFlags := 2, code := some k2c33 }
/-- MultiPatternScan -/
def k2 : Class := { plain "MultiPatternScan" (some 0) with
  accessFlags := 49
  interfaces := #[]
  cf := some (fileOf pool2 8 #[] #[{ accessFlags := 1, nameIndex := 5, descriptorIndex := 182, attributes := #[] }, { accessFlags := 1, nameIndex := 186, descriptorIndex := 114, attributes := #[] }, { accessFlags := 1, nameIndex := 187, descriptorIndex := 114, attributes := #[] }, { accessFlags := 1, nameIndex := 188, descriptorIndex := 189, attributes := #[] }, { accessFlags := 1, nameIndex := 190, descriptorIndex := 114, attributes := #[] }, { accessFlags := 1, nameIndex := 191, descriptorIndex := 189, attributes := #[] }, { accessFlags := 1, nameIndex := 192, descriptorIndex := 189, attributes := #[] }, { accessFlags := 1, nameIndex := 193, descriptorIndex := 189, attributes := #[] }, { accessFlags := 1, nameIndex := 194, descriptorIndex := 114, attributes := #[] }, { accessFlags := 1, nameIndex := 195, descriptorIndex := 110, attributes := #[] }, { accessFlags := 1, nameIndex := 196, descriptorIndex := 189, attributes := #[] }, { accessFlags := 1, nameIndex := 197, descriptorIndex := 114, attributes := #[] }, { accessFlags := 1, nameIndex := 198, descriptorIndex := 114, attributes := #[] }, { accessFlags := 1, nameIndex := 199, descriptorIndex := 189, attributes := #[] }, { accessFlags := 1, nameIndex := 200, descriptorIndex := 189, attributes := #[] }, { accessFlags := 1, nameIndex := 201, descriptorIndex := 189, attributes := #[] }, { accessFlags := 1, nameIndex := 202, descriptorIndex := 114, attributes := #[] }, { accessFlags := 2, nameIndex := 126, descriptorIndex := 110, attributes := #[] }, { accessFlags := 2, nameIndex := 89, descriptorIndex := 90, attributes := #[] }, { accessFlags := 2, nameIndex := 135, descriptorIndex := 83, attributes := #[] }, { accessFlags := 2, nameIndex := 93, descriptorIndex := 94, attributes := #[] }, { accessFlags := 2, nameIndex := 97, descriptorIndex := 6, attributes := #[] }, { accessFlags := 2, nameIndex := 138, descriptorIndex := 94, attributes := #[] }, { accessFlags := 2, nameIndex := 100, descriptorIndex := 6, attributes := #[] }, { accessFlags := 2, nameIndex := 141, descriptorIndex := 110, attributes := #[] }, { accessFlags := 2, nameIndex := 109, descriptorIndex := 110, attributes := #[] }, { accessFlags := 2, nameIndex := 79, descriptorIndex := 6, attributes := #[] }, { accessFlags := 2, nameIndex := 150, descriptorIndex := 114, attributes := #[] }, { accessFlags := 2, nameIndex := 120, descriptorIndex := 6, attributes := #[] }, { accessFlags := 2, nameIndex := 147, descriptorIndex := 6, attributes := #[] }, { accessFlags := 2, nameIndex := 123, descriptorIndex := 6, attributes := #[] }, { accessFlags := 2, nameIndex := 82, descriptorIndex := 83, attributes := #[] }, { accessFlags := 2, nameIndex := 86, descriptorIndex := 83, attributes := #[] }, { accessFlags := 2, nameIndex := 113, descriptorIndex := 114, attributes := #[] }] 49 2 #[] #[{ accessFlags := 25, nameIndex := 151, descriptorIndex := 58, attributes := #[] }, { accessFlags := 25, nameIndex := 154, descriptorIndex := 58, attributes := #[] }, { accessFlags := 25, nameIndex := 156, descriptorIndex := 58, attributes := #[] }, { accessFlags := 25, nameIndex := 157, descriptorIndex := 58, attributes := #[] }, { accessFlags := 25, nameIndex := 159, descriptorIndex := 58, attributes := #[] }, { accessFlags := 25, nameIndex := 161, descriptorIndex := 58, attributes := #[] }, { accessFlags := 25, nameIndex := 163, descriptorIndex := 58, attributes := #[] }, { accessFlags := 25, nameIndex := 165, descriptorIndex := 58, attributes := #[] }, { accessFlags := 25, nameIndex := 167, descriptorIndex := 58, attributes := #[] }, { accessFlags := 25, nameIndex := 169, descriptorIndex := 58, attributes := #[] }, { accessFlags := 25, nameIndex := 171, descriptorIndex := 58, attributes := #[] }, { accessFlags := 25, nameIndex := 173, descriptorIndex := 58, attributes := #[] }, { accessFlags := 25, nameIndex := 175, descriptorIndex := 58, attributes := #[] }, { accessFlags := 26, nameIndex := 177, descriptorIndex := 58, attributes := #[] }, { accessFlags := 26, nameIndex := 179, descriptorIndex := 58, attributes := #[] }, { accessFlags := 26, nameIndex := 181, descriptorIndex := 58, attributes := #[] }, { accessFlags := 2, nameIndex := 57, descriptorIndex := 58, attributes := #[] }, { accessFlags := 2, nameIndex := 61, descriptorIndex := 58, attributes := #[] }, { accessFlags := 2, nameIndex := 64, descriptorIndex := 58, attributes := #[] }, { accessFlags := 2, nameIndex := 67, descriptorIndex := 58, attributes := #[] }, { accessFlags := 2, nameIndex := 11, descriptorIndex := 12, attributes := #[] }, { accessFlags := 2, nameIndex := 15, descriptorIndex := 12, attributes := #[] }, { accessFlags := 2, nameIndex := 18, descriptorIndex := 12, attributes := #[] }, { accessFlags := 2, nameIndex := 70, descriptorIndex := 58, attributes := #[] }, { accessFlags := 2, nameIndex := 21, descriptorIndex := 12, attributes := #[] }, { accessFlags := 2, nameIndex := 73, descriptorIndex := 58, attributes := #[] }, { accessFlags := 2, nameIndex := 76, descriptorIndex := 58, attributes := #[] }, { accessFlags := 2, nameIndex := 24, descriptorIndex := 12, attributes := #[] }, { accessFlags := 2, nameIndex := 27, descriptorIndex := 12, attributes := #[] }, { accessFlags := 2, nameIndex := 30, descriptorIndex := 12, attributes := #[] }, { accessFlags := 2, nameIndex := 33, descriptorIndex := 12, attributes := #[] }, { accessFlags := 2, nameIndex := 36, descriptorIndex := 12, attributes := #[] }, { accessFlags := 2, nameIndex := 39, descriptorIndex := 12, attributes := #[] }, { accessFlags := 2, nameIndex := 42, descriptorIndex := 12, attributes := #[] }, { accessFlags := 2, nameIndex := 103, descriptorIndex := 58, attributes := #[] }, { accessFlags := 2, nameIndex := 106, descriptorIndex := 58, attributes := #[] }, { accessFlags := 2, nameIndex := 117, descriptorIndex := 58, attributes := #[] }, { accessFlags := 2, nameIndex := 45, descriptorIndex := 12, attributes := #[] }, { accessFlags := 2, nameIndex := 48, descriptorIndex := 12, attributes := #[] }, { accessFlags := 2, nameIndex := 129, descriptorIndex := 58, attributes := #[] }, { accessFlags := 2, nameIndex := 144, descriptorIndex := 58, attributes := #[] }, { accessFlags := 2, nameIndex := 51, descriptorIndex := 12, attributes := #[] }, { accessFlags := 2, nameIndex := 132, descriptorIndex := 58, attributes := #[] }, { accessFlags := 2, nameIndex := 54, descriptorIndex := 12, attributes := #[] }])
  fields := #[{ name := "PHASE_BUILD", type := .int, accessFlags := 25, slot := 0, constantValue := 0 }, { name := "PHASE_SCAN", type := .int, accessFlags := 25, slot := 1, constantValue := 0 }, { name := "OK", type := .int, accessFlags := 25, slot := 2, constantValue := 0 }, { name := "ERR_PHASE", type := .int, accessFlags := 25, slot := 3, constantValue := 0 }, { name := "ERR_CHAR", type := .int, accessFlags := 25, slot := 4, constantValue := 0 }, { name := "ERR_FULL", type := .int, accessFlags := 25, slot := 5, constantValue := 0 }, { name := "ERR_EMPTY", type := .int, accessFlags := 25, slot := 6, constantValue := 0 }, { name := "ERR_DUPLICATE", type := .int, accessFlags := 25, slot := 7, constantValue := 0 }, { name := "ERR_REPL", type := .int, accessFlags := 25, slot := 8, constantValue := 0 }, { name := "ERR_PENDING", type := .int, accessFlags := 25, slot := 9, constantValue := 0 }, { name := "MAX_KEYWORDS", type := .int, accessFlags := 25, slot := 10, constantValue := 0 }, { name := "MAX_KEYWORD_LEN", type := .int, accessFlags := 25, slot := 11, constantValue := 0 }, { name := "MAX_TEXT", type := .int, accessFlags := 25, slot := 12, constantValue := 0 }, { name := "MAX_NODES", type := .int, accessFlags := 26, slot := 13, constantValue := 0 }, { name := "ALPHA", type := .int, accessFlags := 26, slot := 14, constantValue := 0 }, { name := "TAIL_CAP", type := .int, accessFlags := 26, slot := 15, constantValue := 0 }, { name := "maxKw", type := .int, accessFlags := 2, slot := 0, constantValue := 0 }, { name := "maxLen", type := .int, accessFlags := 2, slot := 1, constantValue := 0 }, { name := "phaseNow", type := .int, accessFlags := 2, slot := 2, constantValue := 0 }, { name := "count", type := .int, accessFlags := 2, slot := 3, constantValue := 0 }, { name := "kwChars", type := (.array .int), accessFlags := 2, slot := 4, constantValue := 0 }, { name := "kwLen", type := (.array .int), accessFlags := 2, slot := 5, constantValue := 0 }, { name := "kwRepl", type := (.array .int), accessFlags := 2, slot := 6, constantValue := 0 }, { name := "pendLen", type := .int, accessFlags := 2, slot := 7, constantValue := 0 }, { name := "pend", type := (.array .int), accessFlags := 2, slot := 8, constantValue := 0 }, { name := "nodeCount", type := .int, accessFlags := 2, slot := 9, constantValue := 0 }, { name := "longestKw", type := .int, accessFlags := 2, slot := 10, constantValue := 0 }, { name := "child", type := (.array .int), accessFlags := 2, slot := 11, constantValue := 0 }, { name := "delta", type := (.array .int), accessFlags := 2, slot := 12, constantValue := 0 }, { name := "fail", type := (.array .int), accessFlags := 2, slot := 13, constantValue := 0 }, { name := "depth", type := (.array .int), accessFlags := 2, slot := 14, constantValue := 0 }, { name := "term", type := (.array .int), accessFlags := 2, slot := 15, constantValue := 0 }, { name := "outMask", type := (.array .int), accessFlags := 2, slot := 16, constantValue := 0 }, { name := "queue", type := (.array .int), accessFlags := 2, slot := 17, constantValue := 0 }, { name := "n", type := .int, accessFlags := 2, slot := 18, constantValue := 0 }, { name := "state", type := .int, accessFlags := 2, slot := 19, constantValue := 0 }, { name := "total", type := .int, accessFlags := 2, slot := 20, constantValue := 0 }, { name := "text", type := (.array .int), accessFlags := 2, slot := 21, constantValue := 0 }, { name := "masks", type := (.array .int), accessFlags := 2, slot := 22, constantValue := 0 }, { name := "outLen", type := .int, accessFlags := 2, slot := 23, constantValue := 0 }, { name := "commitPos", type := .int, accessFlags := 2, slot := 24, constantValue := 0 }, { name := "out", type := (.array .int), accessFlags := 2, slot := 25, constantValue := 0 }, { name := "tailLen", type := .int, accessFlags := 2, slot := 26, constantValue := 0 }, { name := "tail", type := (.array .int), accessFlags := 2, slot := 27, constantValue := 0 }]
  methods := #[k2m0, k2m1, k2m2, k2m3, k2m4, k2m5, k2m6, k2m7, k2m8, k2m9, k2m10, k2m11, k2m12, k2m13, k2m14, k2m15, k2m16, k2m17, k2m18, k2m19, k2m20, k2m21, k2m22, k2m23, k2m24, k2m25, k2m26, k2m27, k2m28, k2m29, k2m30, k2m31, k2m32, k2m33]
  instanceTypes := #[.int, .int, .int, .int, (.array .int), (.array .int), (.array .int), .int, (.array .int), .int, .int, (.array .int), (.array .int), (.array .int), (.array .int), (.array .int), (.array .int), (.array .int), .int, .int, .int, (.array .int), (.array .int), .int, .int, (.array .int), .int, (.array .int)]
  staticTypes := #[.int, .int, .int, .int, .int, .int, .int, .int, .int, .int, .int, .int, .int, .int, .int, .int]
  resolved := Array.replicate 205 none
  statics := none }

def pool3 : Array CpInfo := pool [(1, u "java/lang/Cloneable"), (0, .class_ 1), (0, u "java/lang/Object"), (0, .class_ 3)] 3

/-- java/lang/Cloneable -/
def k3 : Class := { plain "java/lang/Cloneable" (some 0) with
  accessFlags := 1537
  interfaces := #[]
  cf := some (fileOf pool3 2 #[] #[] 1537 4 #[] #[])
  fields := #[]
  methods := #[]
  instanceTypes := #[]
  staticTypes := #[]
  resolved := Array.replicate 8 none
  statics := none }

def pool4 : Array CpInfo := pool [(1, u "java/io/Serializable"), (0, .class_ 1), (0, u "java/lang/Object"), (0, .class_ 3)] 3

/-- java/io/Serializable -/
def k4 : Class := { plain "java/io/Serializable" (some 0) with
  accessFlags := 1537
  interfaces := #[]
  cf := some (fileOf pool4 2 #[] #[] 1537 4 #[] #[])
  fields := #[]
  methods := #[]
  instanceTypes := #[]
  staticTypes := #[]
  resolved := Array.replicate 8 none
  statics := none }

/-- the primitive byte -/
def k5 : Class := { plain "byte" none with kind := .primitive 'B', accessFlags := 0x411 }
/-- [B -/
def k6 : Class := { plain "[B" (some 0) with kind := .array 5 .byte, interfaces := #[3, 4], accessFlags := 1041 }

/-- the primitive int -/
def k7 : Class := { plain "int" none with kind := .primitive 'I', accessFlags := 0x411 }
/-- [I -/
def k8 : Class := { plain "[I" (some 0) with kind := .array 7 .int, interfaces := #[3, 4], accessFlags := 1041 }

def heap : Heap := #[{ cls := 8, slots := #[.int 1, .int 2, .int 3], vm := .none }]
def classes : Array Class := #[k0, k1, k2, k3, k4, k5, k6, k7, k8]
def interned : List (Array UInt16 × Addr) := []
def slotsUsed : Nat := 3
def theMethod : MethodId := ⟨1, 1⟩
def args0 : Array Value := #[.ref 0]
def aboutOver (below : List Frame) : State where
  vm := { classes := classes, interned := interned.toArray }
  heap := heap
  slotsUsed := slotsUsed
  threads := #[{ frames := .invoking theMethod args0 :: below }]
def below0 : List Frame := [.native { method := ⟨0, 0⟩, args := #[] }]
def about1 : State := aboutOver below0
def p0 : Program := .bare "" "" ""
def e0 : Env := launch0.env 0 0 0
theorem w_frames : about1.frames = Frame.invoking theMethod args0 :: below0 := rfl
set_option maxRecDepth 65536 in
theorem w_args : argsFit about1.vm theMethod args0 = true := by decide +kernel
set_option maxRecDepth 65536 in
theorem w_heap : heapFits about1 = true := by decide +kernel
set_option maxRecDepth 65536 in
theorem w_runnable : about1.curStatus? = some .runnable := by decide +kernel
set_option maxRecDepth 65536 in
theorem w_alone : about1.alone = true := by decide +kernel
set_option maxRecDepth 65536 in
theorem w_named : about1.methodNamed? x = some theMethod := by decide +kernel
set_option maxRecDepth 65536 in
theorem w_hears : about1.hears theMethod below0 = true := by decide +kernel
set_option maxRecDepth 65536 in
theorem w_ripe : about1.ripe theMethod args0 below0 = true := by decide +kernel
theorem w_running : about1.status = .running := rfl
set_option maxRecDepth 65536 in
theorem w_room : about1.hasRoom e0.platform room_1 = true :=
  launch0.hasRoom_least _ room_1 (by decide +kernel) (by decide +kernel) (by decide +kernel) (by decide +kernel) (by decide +kernel) (by decide +kernel)
theorem allAtoms_all (ts : List Jvm.Cond) (a : Array Jvm.Value) (st : Jvm.State) : (allAtoms ts).before a st = ts.all (fun c => c.before a st) := by
  induction ts with
  | nil => rfl
  | cons c t ih =>
    show (Jvm.Cond.and c (allAtoms t)).before a st = _
    rw [Jvm.Cond.before_and, ih, List.all_cons]
def words1 : List Jvm.Cond := Jvm.Cond.code x code maxLocals ret :: tables_1
/-- a 'code' word, met by the world's own term for the bytes: nothing is compared byte by byte -/
theorem code_word {y : MethodName} {bytes : ByteArray} {mx : Nat} {rt : Option FieldType} {a : Array Value} {s : State} {m : MethodId} {meth : Method} {c : Code} (h1 : s.methodNamed? y = some m) (h2 : s.vm.method? m = some meth) (h3 : meth.code = some c) (h4 : c.code = bytes)
    (h5 : (c.maxLocals == mx && c.exceptionTable.isEmpty && decide (c.maxStack ≤ mostOperands) && decide (meth.sig.returnType = rt) && !meth.locks && decide (parseMethodDescriptor y.desc = some meth.sig)) = true) : (Jvm.Cond.code y bytes mx rt).before a s = true := by
  simp only [Bool.and_eq_true, beq_iff_eq, Bool.not_eq_true', decide_eq_true_eq] at h5
  obtain ⟨⟨⟨⟨⟨g1, g2⟩, g3⟩, g4⟩, g5⟩, g6⟩ := h5
  simp [Cond.before, Cond.holds, Cond.value, h1, h2, h3, h4, g1, g2, g3, g4, g5, g6]
def isCode : Jvm.Cond → Bool
  | .code _ _ _ _ => true
  | _ => false
theorem all_split {L : List Jvm.Cond} {P : Jvm.Cond → Bool} (h1 : L.all (fun c => isCode c || P c) = true) (h2 : ∀ c ∈ L.filter isCode, P c = true) : L.all P = true := by
  refine List.all_eq_true.mpr fun c hc => ?_
  have h := List.all_eq_true.mp h1 c hc
  rcases Bool.eq_false_or_eq_true (isCode c) with hi | hi
  · exact h2 c (List.mem_filter.mpr ⟨hc, hi⟩)
  · simpa [hi] using h
set_option maxRecDepth 65536 in
theorem w_c0 : (Jvm.Cond.code x code maxLocals ret).before args0 about1 = true := code_word (m := ⟨1, 1⟩) (meth := k1m1) (c := k1c1) (by decide +kernel) rfl rfl rfl (by decide +kernel)
set_option maxRecDepth 65536 in
theorem w_c1 : (Jvm.Cond.code ({ cls := "MultiPatternScan", name := "<init>", desc := "(II)V" } : Jvm.MethodName) prog_1_method_1_code (6 : Nat) (Option.none : Option Jvm.ClassFile.FieldType)).before args0 about1 = true := code_word (m := ⟨2, 0⟩) (meth := k2m0) (c := k2c0) (by decide +kernel) rfl rfl rfl (by decide +kernel)
set_option maxRecDepth 65536 in
theorem w_c2 : (Jvm.Cond.code ({ cls := "java/lang/Object", name := "<init>", desc := "()V" } : Jvm.MethodName) object_method_1_code (1 : Nat) (Option.none : Option Jvm.ClassFile.FieldType)).before args0 about1 = true := code_word (m := ⟨0, 0⟩) (meth := k0m0) (c := k0c0) (by decide +kernel) rfl rfl rfl (by decide +kernel)
set_option maxRecDepth 65536 in
theorem w_c3 : (Jvm.Cond.code ({ cls := "MultiPatternScan", name := "clearText", desc := "()V" } : Jvm.MethodName) prog_1_method_27_code (1 : Nat) (Option.none : Option Jvm.ClassFile.FieldType)).before args0 about1 = true := code_word (m := ⟨2, 26⟩) (meth := k2m26) (c := k2c26) (by decide +kernel) rfl rfl rfl (by decide +kernel)
set_option maxRecDepth 65536 in
theorem w_c4 : (Jvm.Cond.code ({ cls := "MultiPatternScan", name := "build", desc := "()I" } : Jvm.MethodName) prog_1_method_4_code (1 : Nat) (Option.some Jvm.ClassFile.FieldType.int)).before args0 about1 = true := code_word (m := ⟨2, 3⟩) (meth := k2m3) (c := k2c3) (by decide +kernel) rfl rfl rfl (by decide +kernel)
set_option maxRecDepth 65536 in
theorem w_c5 : (Jvm.Cond.code ({ cls := "MultiPatternScan", name := "addChar", desc := "(I)I" } : Jvm.MethodName) prog_1_method_2_code (2 : Nat) (Option.some Jvm.ClassFile.FieldType.int)).before args0 about1 = true := code_word (m := ⟨2, 1⟩) (meth := k2m1) (c := k2c1) (by decide +kernel) rfl rfl rfl (by decide +kernel)
set_option maxRecDepth 65536 in
theorem w_c6 : (Jvm.Cond.code ({ cls := "MultiPatternScan", name := "isLetter", desc := "(I)Z" } : Jvm.MethodName) prog_1_method_32_code (2 : Nat) (Option.some Jvm.ClassFile.FieldType.boolean)).before args0 about1 = true := code_word (m := ⟨2, 31⟩) (meth := k2m31) (c := k2c31) (by decide +kernel) rfl rfl rfl (by decide +kernel)
set_option maxRecDepth 65536 in
theorem w_c7 : (Jvm.Cond.code ({ cls := "MultiPatternScan", name := "endKeyword", desc := "(I)I" } : Jvm.MethodName) prog_1_method_3_code (2 : Nat) (Option.some Jvm.ClassFile.FieldType.int)).before args0 about1 = true := code_word (m := ⟨2, 2⟩) (meth := k2m2) (c := k2c2) (by decide +kernel) rfl rfl rfl (by decide +kernel)
set_option maxRecDepth 65536 in
theorem w_c8 : (Jvm.Cond.code ({ cls := "MultiPatternScan", name := "isPrintable", desc := "(I)Z" } : Jvm.MethodName) prog_1_method_33_code (2 : Nat) (Option.some Jvm.ClassFile.FieldType.boolean)).before args0 about1 = true := code_word (m := ⟨2, 32⟩) (meth := k2m32) (c := k2c32) (by decide +kernel) rfl rfl rfl (by decide +kernel)
set_option maxRecDepth 65536 in
theorem w_c9 : (Jvm.Cond.code ({ cls := "MultiPatternScan", name := "pendingIsDuplicate", desc := "()Z" } : Jvm.MethodName) prog_1_method_19_code (2 : Nat) (Option.some Jvm.ClassFile.FieldType.boolean)).before args0 about1 = true := code_word (m := ⟨2, 18⟩) (meth := k2m18) (c := k2c18) (by decide +kernel) rfl rfl rfl (by decide +kernel)
set_option maxRecDepth 65536 in
theorem w_c10 : (Jvm.Cond.code ({ cls := "MultiPatternScan", name := "storePending", desc := "(I)V" } : Jvm.MethodName) prog_1_method_21_code (4 : Nat) (Option.none : Option Jvm.ClassFile.FieldType)).before args0 about1 = true := code_word (m := ⟨2, 20⟩) (meth := k2m20) (c := k2c20) (by decide +kernel) rfl rfl rfl (by decide +kernel)
set_option maxRecDepth 65536 in
theorem w_c11 : (Jvm.Cond.code ({ cls := "MultiPatternScan", name := "buildTrie", desc := "()V" } : Jvm.MethodName) prog_1_method_22_code (2 : Nat) (Option.none : Option Jvm.ClassFile.FieldType)).before args0 about1 = true := code_word (m := ⟨2, 21⟩) (meth := k2m21) (c := k2c21) (by decide +kernel) rfl rfl rfl (by decide +kernel)
set_option maxRecDepth 65536 in
theorem w_c12 : (Jvm.Cond.code ({ cls := "MultiPatternScan", name := "insertKeyword", desc := "(I)V" } : Jvm.MethodName) prog_1_method_23_code (7 : Nat) (Option.none : Option Jvm.ClassFile.FieldType)).before args0 about1 = true := code_word (m := ⟨2, 22⟩) (meth := k2m22) (c := k2c22) (by decide +kernel) rfl rfl rfl (by decide +kernel)
set_option maxRecDepth 65536 in
theorem w_c13 : (Jvm.Cond.code ({ cls := "MultiPatternScan", name := "computeLinks", desc := "()V" } : Jvm.MethodName) prog_1_method_24_code (5 : Nat) (Option.none : Option Jvm.ClassFile.FieldType)).before args0 about1 = true := code_word (m := ⟨2, 23⟩) (meth := k2m23) (c := k2c23) (by decide +kernel) rfl rfl rfl (by decide +kernel)
set_option maxRecDepth 65536 in
theorem w_c14 : (Jvm.Cond.code ({ cls := "MultiPatternScan", name := "expandNode", desc := "(II)I" } : Jvm.MethodName) prog_1_method_25_code (8 : Nat) (Option.some Jvm.ClassFile.FieldType.int)).before args0 about1 = true := code_word (m := ⟨2, 24⟩) (meth := k2m24) (c := k2c24) (by decide +kernel) rfl rfl rfl (by decide +kernel)
set_option maxRecDepth 65536 in
theorem w_c15 : (Jvm.Cond.code ({ cls := "MultiPatternScan", name := "phase", desc := "()I" } : Jvm.MethodName) prog_1_method_7_code (1 : Nat) (Option.some Jvm.ClassFile.FieldType.int)).before args0 about1 = true := code_word (m := ⟨2, 6⟩) (meth := k2m6) (c := k2c6) (by decide +kernel) rfl rfl rfl (by decide +kernel)
set_option maxRecDepth 65536 in
theorem w_c16 : (Jvm.Cond.code ({ cls := "MultiPatternScan", name := "keywordCount", desc := "()I" } : Jvm.MethodName) prog_1_method_8_code (1 : Nat) (Option.some Jvm.ClassFile.FieldType.int)).before args0 about1 = true := code_word (m := ⟨2, 7⟩) (meth := k2m7) (c := k2c7) (by decide +kernel) rfl rfl rfl (by decide +kernel)
set_option maxRecDepth 65536 in
theorem w_c17 : (Jvm.Cond.code ({ cls := "MultiPatternScan", name := "keywordLength", desc := "(I)I" } : Jvm.MethodName) prog_1_method_9_code (2 : Nat) (Option.some Jvm.ClassFile.FieldType.int)).before args0 about1 = true := code_word (m := ⟨2, 8⟩) (meth := k2m8) (c := k2c8) (by decide +kernel) rfl rfl rfl (by decide +kernel)
set_option maxRecDepth 65536 in
theorem w_c18 : (Jvm.Cond.code ({ cls := "MultiPatternScan", name := "keywordChar", desc := "(II)I" } : Jvm.MethodName) prog_1_method_10_code (3 : Nat) (Option.some Jvm.ClassFile.FieldType.int)).before args0 about1 = true := code_word (m := ⟨2, 9⟩) (meth := k2m9) (c := k2c9) (by decide +kernel) rfl rfl rfl (by decide +kernel)
set_option maxRecDepth 65536 in
theorem w_c19 : (Jvm.Cond.code ({ cls := "MultiPatternScan", name := "acceptedChar", desc := "(II)I" } : Jvm.MethodName) prog_1_method_18_code (3 : Nat) (Option.some Jvm.ClassFile.FieldType.int)).before args0 about1 = true := code_word (m := ⟨2, 17⟩) (meth := k2m17) (c := k2c17) (by decide +kernel) rfl rfl rfl (by decide +kernel)
set_option maxRecDepth 65536 in
theorem w_c20 : (Jvm.Cond.code ({ cls := "MultiPatternScan", name := "textLength", desc := "()I" } : Jvm.MethodName) prog_1_method_11_code (1 : Nat) (Option.some Jvm.ClassFile.FieldType.int)).before args0 about1 = true := code_word (m := ⟨2, 10⟩) (meth := k2m10) (c := k2c10) (by decide +kernel) rfl rfl rfl (by decide +kernel)
set_option maxRecDepth 65536 in
theorem w_c21 : (Jvm.Cond.code ({ cls := "MultiPatternScan", name := "totalOccurrences", desc := "()I" } : Jvm.MethodName) prog_1_method_14_code (1 : Nat) (Option.some Jvm.ClassFile.FieldType.int)).before args0 about1 = true := code_word (m := ⟨2, 13⟩) (meth := k2m13) (c := k2c13) (by decide +kernel) rfl rfl rfl (by decide +kernel)
set_option maxRecDepth 65536 in
theorem w_c22 : (Jvm.Cond.code ({ cls := "MultiPatternScan", name := "longestPartial", desc := "()I" } : Jvm.MethodName) prog_1_method_15_code (1 : Nat) (Option.some Jvm.ClassFile.FieldType.int)).before args0 about1 = true := code_word (m := ⟨2, 14⟩) (meth := k2m14) (c := k2c14) (by decide +kernel) rfl rfl rfl (by decide +kernel)
set_option maxRecDepth 65536 in
theorem w_c23 : (Jvm.Cond.code ({ cls := "MultiPatternScan", name := "outLength", desc := "()I" } : Jvm.MethodName) prog_1_method_16_code (1 : Nat) (Option.some Jvm.ClassFile.FieldType.int)).before args0 about1 = true := code_word (m := ⟨2, 15⟩) (meth := k2m15) (c := k2c15) (by decide +kernel) rfl rfl rfl (by decide +kernel)
set_option maxRecDepth 65536 in
theorem w_c24 : (Jvm.Cond.code ({ cls := "MultiPatternScan", name := "resetText", desc := "()I" } : Jvm.MethodName) prog_1_method_6_code (1 : Nat) (Option.some Jvm.ClassFile.FieldType.int)).before args0 about1 = true := code_word (m := ⟨2, 5⟩) (meth := k2m5) (c := k2c5) (by decide +kernel) rfl rfl rfl (by decide +kernel)
set_option maxRecDepth 65536 in
theorem w_c25 : (Jvm.Cond.code ({ cls := "MultiPatternScan", name := "feed", desc := "(I)I" } : Jvm.MethodName) prog_1_method_5_code (4 : Nat) (Option.some Jvm.ClassFile.FieldType.int)).before args0 about1 = true := code_word (m := ⟨2, 4⟩) (meth := k2m4) (c := k2c4) (by decide +kernel) rfl rfl rfl (by decide +kernel)
set_option maxRecDepth 65536 in
theorem w_c26 : (Jvm.Cond.code ({ cls := "MultiPatternScan", name := "pendingEquals", desc := "(I)Z" } : Jvm.MethodName) prog_1_method_20_code (4 : Nat) (Option.some Jvm.ClassFile.FieldType.boolean)).before args0 about1 = true := code_word (m := ⟨2, 19⟩) (meth := k2m19) (c := k2c19) (by decide +kernel) rfl rfl rfl (by decide +kernel)
set_option maxRecDepth 65536 in
theorem w_c27 : (Jvm.Cond.code ({ cls := "MultiPatternScan", name := "nextState", desc := "(II)I" } : Jvm.MethodName) prog_1_method_26_code (3 : Nat) (Option.some Jvm.ClassFile.FieldType.int)).before args0 about1 = true := code_word (m := ⟨2, 25⟩) (meth := k2m25) (c := k2c25) (by decide +kernel) rfl rfl rfl (by decide +kernel)
set_option maxRecDepth 65536 in
theorem w_c28 : (Jvm.Cond.code ({ cls := "MultiPatternScan", name := "popCount", desc := "(I)I" } : Jvm.MethodName) prog_1_method_34_code (4 : Nat) (Option.some Jvm.ClassFile.FieldType.int)).before args0 about1 = true := code_word (m := ⟨2, 33⟩) (meth := k2m33) (c := k2c33) (by decide +kernel) rfl rfl rfl (by decide +kernel)
set_option maxRecDepth 65536 in
theorem w_c29 : (Jvm.Cond.code ({ cls := "MultiPatternScan", name := "commitReady", desc := "()V" } : Jvm.MethodName) prog_1_method_29_code (2 : Nat) (Option.none : Option Jvm.ClassFile.FieldType)).before args0 about1 = true := code_word (m := ⟨2, 28⟩) (meth := k2m28) (c := k2c28) (by decide +kernel) rfl rfl rfl (by decide +kernel)
set_option maxRecDepth 65536 in
theorem w_c30 : (Jvm.Cond.code ({ cls := "MultiPatternScan", name := "rebuildTail", desc := "()V" } : Jvm.MethodName) prog_1_method_31_code (4 : Nat) (Option.none : Option Jvm.ClassFile.FieldType)).before args0 about1 = true := code_word (m := ⟨2, 30⟩) (meth := k2m30) (c := k2c30) (by decide +kernel) rfl rfl rfl (by decide +kernel)
set_option maxRecDepth 65536 in
theorem w_c31 : (Jvm.Cond.code ({ cls := "MultiPatternScan", name := "longestAt", desc := "(I)I" } : Jvm.MethodName) prog_1_method_28_code (8 : Nat) (Option.some Jvm.ClassFile.FieldType.int)).before args0 about1 = true := code_word (m := ⟨2, 27⟩) (meth := k2m27) (c := k2c27) (by decide +kernel) rfl rfl rfl (by decide +kernel)
set_option maxRecDepth 65536 in
theorem w_c32 : (Jvm.Cond.code ({ cls := "MultiPatternScan", name := "commitOne", desc := "()V" } : Jvm.MethodName) prog_1_method_30_code (2 : Nat) (Option.none : Option Jvm.ClassFile.FieldType)).before args0 about1 = true := code_word (m := ⟨2, 29⟩) (meth := k2m29) (c := k2c29) (by decide +kernel) rfl rfl rfl (by decide +kernel)
set_option maxRecDepth 65536 in
theorem w_c33 : (Jvm.Cond.code ({ cls := "MultiPatternScan", name := "textChar", desc := "(I)I" } : Jvm.MethodName) prog_1_method_12_code (2 : Nat) (Option.some Jvm.ClassFile.FieldType.int)).before args0 about1 = true := code_word (m := ⟨2, 11⟩) (meth := k2m11) (c := k2c11) (by decide +kernel) rfl rfl rfl (by decide +kernel)
set_option maxRecDepth 65536 in
theorem w_c34 : (Jvm.Cond.code ({ cls := "MultiPatternScan", name := "outChar", desc := "(I)I" } : Jvm.MethodName) prog_1_method_17_code (3 : Nat) (Option.some Jvm.ClassFile.FieldType.int)).before args0 about1 = true := code_word (m := ⟨2, 16⟩) (meth := k2m16) (c := k2c16) (by decide +kernel) rfl rfl rfl (by decide +kernel)
set_option maxRecDepth 65536 in
theorem w_c35 : (Jvm.Cond.code ({ cls := "MultiPatternScan", name := "occurrenceMask", desc := "(I)I" } : Jvm.MethodName) prog_1_method_13_code (2 : Nat) (Option.some Jvm.ClassFile.FieldType.int)).before args0 about1 = true := code_word (m := ⟨2, 12⟩) (meth := k2m12) (c := k2c12) (by decide +kernel) rfl rfl rfl (by decide +kernel)
def codes1 : List Jvm.Cond := [Jvm.Cond.code x code maxLocals ret, Jvm.Cond.code ({ cls := "MultiPatternScan", name := "<init>", desc := "(II)V" } : Jvm.MethodName) prog_1_method_1_code (6 : Nat) (Option.none : Option Jvm.ClassFile.FieldType), Jvm.Cond.code ({ cls := "java/lang/Object", name := "<init>", desc := "()V" } : Jvm.MethodName) object_method_1_code (1 : Nat) (Option.none : Option Jvm.ClassFile.FieldType), Jvm.Cond.code ({ cls := "MultiPatternScan", name := "clearText", desc := "()V" } : Jvm.MethodName) prog_1_method_27_code (1 : Nat) (Option.none : Option Jvm.ClassFile.FieldType), Jvm.Cond.code ({ cls := "MultiPatternScan", name := "build", desc := "()I" } : Jvm.MethodName) prog_1_method_4_code (1 : Nat) (Option.some Jvm.ClassFile.FieldType.int), Jvm.Cond.code ({ cls := "MultiPatternScan", name := "addChar", desc := "(I)I" } : Jvm.MethodName) prog_1_method_2_code (2 : Nat) (Option.some Jvm.ClassFile.FieldType.int), Jvm.Cond.code ({ cls := "MultiPatternScan", name := "isLetter", desc := "(I)Z" } : Jvm.MethodName) prog_1_method_32_code (2 : Nat) (Option.some Jvm.ClassFile.FieldType.boolean), Jvm.Cond.code ({ cls := "MultiPatternScan", name := "endKeyword", desc := "(I)I" } : Jvm.MethodName) prog_1_method_3_code (2 : Nat) (Option.some Jvm.ClassFile.FieldType.int), Jvm.Cond.code ({ cls := "MultiPatternScan", name := "isPrintable", desc := "(I)Z" } : Jvm.MethodName) prog_1_method_33_code (2 : Nat) (Option.some Jvm.ClassFile.FieldType.boolean), Jvm.Cond.code ({ cls := "MultiPatternScan", name := "pendingIsDuplicate", desc := "()Z" } : Jvm.MethodName) prog_1_method_19_code (2 : Nat) (Option.some Jvm.ClassFile.FieldType.boolean), Jvm.Cond.code ({ cls := "MultiPatternScan", name := "storePending", desc := "(I)V" } : Jvm.MethodName) prog_1_method_21_code (4 : Nat) (Option.none : Option Jvm.ClassFile.FieldType), Jvm.Cond.code ({ cls := "MultiPatternScan", name := "buildTrie", desc := "()V" } : Jvm.MethodName) prog_1_method_22_code (2 : Nat) (Option.none : Option Jvm.ClassFile.FieldType), Jvm.Cond.code ({ cls := "MultiPatternScan", name := "insertKeyword", desc := "(I)V" } : Jvm.MethodName) prog_1_method_23_code (7 : Nat) (Option.none : Option Jvm.ClassFile.FieldType), Jvm.Cond.code ({ cls := "MultiPatternScan", name := "computeLinks", desc := "()V" } : Jvm.MethodName) prog_1_method_24_code (5 : Nat) (Option.none : Option Jvm.ClassFile.FieldType), Jvm.Cond.code ({ cls := "MultiPatternScan", name := "expandNode", desc := "(II)I" } : Jvm.MethodName) prog_1_method_25_code (8 : Nat) (Option.some Jvm.ClassFile.FieldType.int), Jvm.Cond.code ({ cls := "MultiPatternScan", name := "phase", desc := "()I" } : Jvm.MethodName) prog_1_method_7_code (1 : Nat) (Option.some Jvm.ClassFile.FieldType.int), Jvm.Cond.code ({ cls := "MultiPatternScan", name := "keywordCount", desc := "()I" } : Jvm.MethodName) prog_1_method_8_code (1 : Nat) (Option.some Jvm.ClassFile.FieldType.int), Jvm.Cond.code ({ cls := "MultiPatternScan", name := "keywordLength", desc := "(I)I" } : Jvm.MethodName) prog_1_method_9_code (2 : Nat) (Option.some Jvm.ClassFile.FieldType.int), Jvm.Cond.code ({ cls := "MultiPatternScan", name := "keywordChar", desc := "(II)I" } : Jvm.MethodName) prog_1_method_10_code (3 : Nat) (Option.some Jvm.ClassFile.FieldType.int), Jvm.Cond.code ({ cls := "MultiPatternScan", name := "acceptedChar", desc := "(II)I" } : Jvm.MethodName) prog_1_method_18_code (3 : Nat) (Option.some Jvm.ClassFile.FieldType.int), Jvm.Cond.code ({ cls := "MultiPatternScan", name := "textLength", desc := "()I" } : Jvm.MethodName) prog_1_method_11_code (1 : Nat) (Option.some Jvm.ClassFile.FieldType.int), Jvm.Cond.code ({ cls := "MultiPatternScan", name := "totalOccurrences", desc := "()I" } : Jvm.MethodName) prog_1_method_14_code (1 : Nat) (Option.some Jvm.ClassFile.FieldType.int), Jvm.Cond.code ({ cls := "MultiPatternScan", name := "longestPartial", desc := "()I" } : Jvm.MethodName) prog_1_method_15_code (1 : Nat) (Option.some Jvm.ClassFile.FieldType.int), Jvm.Cond.code ({ cls := "MultiPatternScan", name := "outLength", desc := "()I" } : Jvm.MethodName) prog_1_method_16_code (1 : Nat) (Option.some Jvm.ClassFile.FieldType.int), Jvm.Cond.code ({ cls := "MultiPatternScan", name := "resetText", desc := "()I" } : Jvm.MethodName) prog_1_method_6_code (1 : Nat) (Option.some Jvm.ClassFile.FieldType.int), Jvm.Cond.code ({ cls := "MultiPatternScan", name := "feed", desc := "(I)I" } : Jvm.MethodName) prog_1_method_5_code (4 : Nat) (Option.some Jvm.ClassFile.FieldType.int), Jvm.Cond.code ({ cls := "MultiPatternScan", name := "pendingEquals", desc := "(I)Z" } : Jvm.MethodName) prog_1_method_20_code (4 : Nat) (Option.some Jvm.ClassFile.FieldType.boolean), Jvm.Cond.code ({ cls := "MultiPatternScan", name := "nextState", desc := "(II)I" } : Jvm.MethodName) prog_1_method_26_code (3 : Nat) (Option.some Jvm.ClassFile.FieldType.int), Jvm.Cond.code ({ cls := "MultiPatternScan", name := "popCount", desc := "(I)I" } : Jvm.MethodName) prog_1_method_34_code (4 : Nat) (Option.some Jvm.ClassFile.FieldType.int), Jvm.Cond.code ({ cls := "MultiPatternScan", name := "commitReady", desc := "()V" } : Jvm.MethodName) prog_1_method_29_code (2 : Nat) (Option.none : Option Jvm.ClassFile.FieldType), Jvm.Cond.code ({ cls := "MultiPatternScan", name := "rebuildTail", desc := "()V" } : Jvm.MethodName) prog_1_method_31_code (4 : Nat) (Option.none : Option Jvm.ClassFile.FieldType), Jvm.Cond.code ({ cls := "MultiPatternScan", name := "longestAt", desc := "(I)I" } : Jvm.MethodName) prog_1_method_28_code (8 : Nat) (Option.some Jvm.ClassFile.FieldType.int), Jvm.Cond.code ({ cls := "MultiPatternScan", name := "commitOne", desc := "()V" } : Jvm.MethodName) prog_1_method_30_code (2 : Nat) (Option.none : Option Jvm.ClassFile.FieldType), Jvm.Cond.code ({ cls := "MultiPatternScan", name := "textChar", desc := "(I)I" } : Jvm.MethodName) prog_1_method_12_code (2 : Nat) (Option.some Jvm.ClassFile.FieldType.int), Jvm.Cond.code ({ cls := "MultiPatternScan", name := "outChar", desc := "(I)I" } : Jvm.MethodName) prog_1_method_17_code (3 : Nat) (Option.some Jvm.ClassFile.FieldType.int), Jvm.Cond.code ({ cls := "MultiPatternScan", name := "occurrenceMask", desc := "(I)I" } : Jvm.MethodName) prog_1_method_13_code (2 : Nat) (Option.some Jvm.ClassFile.FieldType.int)]
set_option maxRecDepth 65536 in
theorem codes_eq : words1.filter isCode = codes1 := rfl
theorem w_codes : ∀ c ∈ words1.filter isCode, c.before args0 about1 = true := by
  rw [codes_eq]
  intro c hc
  simp only [codes1, List.mem_cons, List.not_mem_nil, or_false] at hc
  rcases hc with rfl | rfl | rfl | rfl | rfl | rfl | rfl | rfl | rfl | rfl | rfl | rfl | rfl | rfl | rfl | rfl | rfl | rfl | rfl | rfl | rfl | rfl | rfl | rfl | rfl | rfl | rfl | rfl | rfl | rfl | rfl | rfl | rfl | rfl | rfl | rfl
  · exact w_c0
  · exact w_c1
  · exact w_c2
  · exact w_c3
  · exact w_c4
  · exact w_c5
  · exact w_c6
  · exact w_c7
  · exact w_c8
  · exact w_c9
  · exact w_c10
  · exact w_c11
  · exact w_c12
  · exact w_c13
  · exact w_c14
  · exact w_c15
  · exact w_c16
  · exact w_c17
  · exact w_c18
  · exact w_c19
  · exact w_c20
  · exact w_c21
  · exact w_c22
  · exact w_c23
  · exact w_c24
  · exact w_c25
  · exact w_c26
  · exact w_c27
  · exact w_c28
  · exact w_c29
  · exact w_c30
  · exact w_c31
  · exact w_c32
  · exact w_c33
  · exact w_c34
  · exact w_c35
set_option maxRecDepth 65536 in
theorem w_t1 : (words1.take 24).all (fun c => isCode c || c.before args0 about1) = true := by decide +kernel
set_option maxRecDepth 65536 in
theorem w_t2 : ((words1.drop 24).take 24).all (fun c => isCode c || c.before args0 about1) = true := by decide +kernel
set_option maxRecDepth 65536 in
theorem w_t3 : (((words1.drop 24).drop 24).take 24).all (fun c => isCode c || c.before args0 about1) = true := by decide +kernel
set_option maxRecDepth 65536 in
theorem w_t4 : ((((words1.drop 24).drop 24).drop 24).take 24).all (fun c => isCode c || c.before args0 about1) = true := by decide +kernel
set_option maxRecDepth 65536 in
theorem w_t5 : (((((words1.drop 24).drop 24).drop 24).drop 24).take 24).all (fun c => isCode c || c.before args0 about1) = true := by decide +kernel
set_option maxRecDepth 65536 in
theorem w_t6 : ((((((words1.drop 24).drop 24).drop 24).drop 24).drop 24).take 24).all (fun c => isCode c || c.before args0 about1) = true := by decide +kernel
set_option maxRecDepth 65536 in
theorem w_t7 : (((((((words1.drop 24).drop 24).drop 24).drop 24).drop 24).drop 24).take 24).all (fun c => isCode c || c.before args0 about1) = true := by decide +kernel
set_option maxRecDepth 65536 in
theorem w_t8 : ((((((((words1.drop 24).drop 24).drop 24).drop 24).drop 24).drop 24).drop 24).take 24).all (fun c => isCode c || c.before args0 about1) = true := by decide +kernel
set_option maxRecDepth 65536 in
theorem w_t9 : ((((((((words1.drop 24).drop 24).drop 24).drop 24).drop 24).drop 24).drop 24).drop 24).all (fun c => isCode c || c.before args0 about1) = true := by decide +kernel
theorem w_tables : (allAtoms (Jvm.Cond.code x code maxLocals ret :: tables_1)).before args0 about1 = true := by
  rw [allAtoms_all]
  show words1.all (fun c => c.before args0 about1) = true
  refine all_split ?_ w_codes
  rw [← List.take_append_drop 24 words1, List.all_append, w_t1, ← List.take_append_drop 24 (words1.drop 24), List.all_append, w_t2, ← List.take_append_drop 24 ((words1.drop 24).drop 24), List.all_append, w_t3, ← List.take_append_drop 24 (((words1.drop 24).drop 24).drop 24), List.all_append, w_t4, ← List.take_append_drop 24 ((((words1.drop 24).drop 24).drop 24).drop 24), List.all_append, w_t5, ← List.take_append_drop 24 (((((words1.drop 24).drop 24).drop 24).drop 24).drop 24), List.all_append, w_t6, ← List.take_append_drop 24 ((((((words1.drop 24).drop 24).drop 24).drop 24).drop 24).drop 24), List.all_append, w_t7, ← List.take_append_drop 24 (((((((words1.drop 24).drop 24).drop 24).drop 24).drop 24).drop 24).drop 24), List.all_append, w_t8, w_t9]
  rfl
set_option maxRecDepth 65536 in
theorem w_rest : rest_1_c.before args0 about1 = true := by decide +kernel
set_option maxRecDepth 65536 in
theorem w_case : (Jvm.Cond.and given_1 narrow_1).before args0 about1 = true := by decide +kernel
theorem w_applies : (headSpec (Jvm.Cond.code x code maxLocals ret :: tables_1) room_1).applies x e0.platform about1 = true :=
  (Spec.applies_iff w_frames).mpr ⟨w_running, w_runnable, w_alone, w_named, w_hears, w_ripe, w_room, w_tables⟩
theorem atStart : AtStart classFile x code maxLocals ret World_1 tables_1 room_1 Calls_1 rest_1 Pre_1 launch0 p0 e0 about1 theMethod args0 below0 :=
  ⟨lists_1, trivial, launch0.admits_env _ _ _, launch0.least_env, fairChoices_fair.cas, fairChoices_fair.clock, w_frames, w_args, w_heap, w_applies, trivial, w_rest, w_case⟩
end start1
theorem witness_1 : WitnessClaimed_1 := ⟨start1.p0, start1.e0, start1.about1, start1.theMethod, start1.args0, start1.below0, start1.atStart⟩
end Jvm.Pilot.@@N@@
