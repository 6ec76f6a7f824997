import JvmDerived
import JvmDerived.Pilot.@@N@@Statement
import JvmDerived.Pilot.@@N@@Code
set_option linter.unusedVariables false
set_option linter.unusedSimpArgs false
namespace Jvm.Own
open Jvm Jvm.ClassFile Sem Op Lib Jvm.Free Jvm.Stand Jvm.LawKit Jvm.RoadKit Bundle

/-! A plain machine: the few instructions that these classes use, over a heap of plain lists. -/
/-- an object (class number, fields in order) | an int array (false) or boolean array (true) | a long array -/
abbrev ACell := (Nat × List Value) ⊕ ((Bool × List Int32) ⊕ List Int64)
abbrev AHeap := List ACell
/-- instruction, length, variables forgotten ahead of it, link number, constant -/
abbrev It := Instr × Nat × List Bool × Nat × Int
/-- a field: name, descriptor, type, final -/
abbrev FD := String × String × FieldType × Bool
/-- a class: name, number of its slots, its fields -/
abbrev CD := String × Nat × List FD
/-- a method: name, bytes, variables, return type; kind (0 static, 1 constructor, 2 private, 3 virtual), parameters, class number, frames, words; code -/
abbrev MD := MethodName × ByteArray × Nat × Option FieldType × Nat × Nat × Nat × Nat × Nat × List (Nat × It)
/-- classes, methods, number of cells that are only read -/
abbrev PD := List CD × List MD × Nat
abbrev PD.cls (P : PD) : List CD := P.1
abbrev PD.mth (P : PD) : List MD := P.2.1
abbrev PD.nr (P : PD) : Nat := P.2.2
abbrev MD.name (d : MD) : MethodName := d.1
abbrev MD.bytes (d : MD) : ByteArray := d.2.1
abbrev MD.maxL (d : MD) : Nat := d.2.2.1
abbrev MD.ret (d : MD) : Option FieldType := d.2.2.2.1
abbrev MD.kind (d : MD) : Nat := d.2.2.2.2.1
abbrev MD.npar (d : MD) : Nat := d.2.2.2.2.2.1
abbrev MD.cid (d : MD) : Nat := d.2.2.2.2.2.2.1
abbrev MD.rf (d : MD) : Nat := d.2.2.2.2.2.2.2.1
abbrev MD.rw (d : MD) : Nat := d.2.2.2.2.2.2.2.2.1
abbrev MD.code (d : MD) : List (Nat × It) := d.2.2.2.2.2.2.2.2.2

def rdA {α : Type} (L : List α) (j : Int32) : Option α := if j < 0 then none else L[j.toNatClampNeg]?
def wrA {α : Type} (L : List α) (j : Int32) (x : α) : Option (List α) := if j < 0 then none else if j.toNatClampNeg < L.length then some (L.set j.toNatClampNeg x) else none
def getL (L : List Slot) (k : Nat) : Option Value := match L[k]? with | some (.val v) => some v | _ => none
def isC2 : Option Slot → Bool | some (.val v) => v.category == 2 | _ => false
def isSec : Option Slot → Bool | some .second => true | _ => false
def free1 : Option Slot → Bool | some .unset => true | some (.val v) => v.category == 1 | _ => false
def st1 (L : List Slot) (k : Nat) (v : Value) : Option (List Slot) :=
  if free1 L[k]? && (k == 0 || !isC2 L[k - 1]?) && !isSec L[k + 1]? then some (L.set k (.val v)) else none
def free2 : Option Slot → Option Slot → Bool | some .unset, some .unset => true | some (.val v), some .second => v.category == 2 | _, _ => false
def st2 (L : List Slot) (k : Nat) (v : Value) : Option (List Slot) :=
  if free2 L[k]? L[k + 1]? && (k == 0 || !isC2 L[k - 1]?) && !isSec L[k + 2]? then some ((L.set k (.val v)).set (k + 1) .second) else none
def forget : List Bool → List Slot → List Slot
  | [], L => L
  | _ :: _, [] => []
  | true :: r, _ :: L => .unset :: forget r L
  | false :: r, s :: L => s :: forget r L
def catSum : List Value → Nat
  | [] => 0
  | v :: r => v.category + catSum r
def entA : List Value → List Slot
  | [] => []
  | v :: r => if v.category = 2 then .val v :: .second :: entA r else .val v :: entA r
def entL (as : List Value) (n : Nat) : List Slot := entA as ++ List.replicate (n - (entA as).length) .unset
def putOk : FieldType → Value → Bool
  | .int, .int _ => true
  | .long, .long _ => true
  | .boolean, .int x => (x == 0) || (x == 1)
  | .array _, .ref _ => true
  | _, _ => false
def dflt : FieldType → Value
  | .long => .long 0
  | .array _ => .null
  | _ => .int 0
def dfOk : FieldType → Bool
  | .int => true
  | .boolean => true
  | .long => true
  | .array _ => true
  | _ => false
def tgt (pc : Nat) (o : Int) : Option Nat := if 0 ≤ (pc : Int) + o then some ((pc : Int) + o).toNat else none
def fetch : List (Nat × It) → Nat → Option It
  | [], _ => none
  | (q, i) :: r, pc => if q = pc then some i else fetch r pc
/-- one instruction that neither branches nor calls nor returns -/
def xI (P : PD) (ini : Bool) (cid : Nat) (i : Instr) (a : Nat) (b : Int) (L : List Slot) (S : List Value) (H : AHeap) : Option (List Slot × List Value × AHeap) :=
  match i with
  | .aload_n k => match getL L k.val with | some (.ref x) => some (L, .ref x :: S, H) | _ => none
  | .aload k => match getL L k with | some (.ref x) => some (L, .ref x :: S, H) | _ => none
  | .iload_n k => match getL L k.val with | some (.int x) => some (L, .int x :: S, H) | _ => none
  | .iload k => match getL L k with | some (.int x) => some (L, .int x :: S, H) | _ => none
  | .lload_n k => match getL L k.val with | some (.long x) => some (L, .long x :: S, H) | _ => none
  | .lload k => match getL L k with | some (.long x) => some (L, .long x :: S, H) | _ => none
  | .istore_n k => match S with | .int x :: S' => (st1 L k.val (.int x)).map fun L' => (L', S', H) | _ => none
  | .istore k => match S with | .int x :: S' => (st1 L k (.int x)).map fun L' => (L', S', H) | _ => none
  | .astore_n k => match S with | .ref x :: S' => (st1 L k.val (.ref x)).map fun L' => (L', S', H) | _ => none
  | .astore k => match S with | .ref x :: S' => (st1 L k (.ref x)).map fun L' => (L', S', H) | _ => none
  | .lstore_n k => match S with | .long x :: S' => (st2 L k.val (.long x)).map fun L' => (L', S', H) | _ => none
  | .lstore k => match S with | .long x :: S' => (st2 L k (.long x)).map fun L' => (L', S', H) | _ => none
  | .iinc k d => match getL L k with | some (.int x) => (st1 L k (.int (x + Int32.ofInt d))).map fun L' => (L', S, H) | _ => none
  | .iconst d => some (L, .int (Int32.ofInt d) :: S, H)
  | .bipush d => some (L, .int (Int8.ofInt d).toInt32 :: S, H)
  | .sipush d => some (L, .int (Int16.ofInt d).toInt32 :: S, H)
  | .lconst k => some (L, .long (Int64.ofNat k) :: S, H)
  | .ldc _ => some (L, .int (Int32.ofInt b) :: S, H)
  | .ldc2_w _ => some (L, .long (Int64.ofInt b) :: S, H)
  | .iadd => match S with | .int y :: .int x :: S' => some (L, .int (x + y) :: S', H) | _ => none
  | .isub => match S with | .int y :: .int x :: S' => some (L, .int (x - y) :: S', H) | _ => none
  | .imul => match S with | .int y :: .int x :: S' => some (L, .int (x * y) :: S', H) | _ => none
  | .iand => match S with | .int y :: .int x :: S' => some (L, .int (x &&& y) :: S', H) | _ => none
  | .ior => match S with | .int y :: .int x :: S' => some (L, .int (x ||| y) :: S', H) | _ => none
  | .ixor => match S with | .int y :: .int x :: S' => some (L, .int (x ^^^ y) :: S', H) | _ => none
  | .ishl => match S with | .int y :: .int x :: S' => some (L, .int (x <<< (y &&& 31)) :: S', H) | _ => none
  | .ishr => match S with | .int y :: .int x :: S' => some (L, .int (x >>> (y &&& 31)) :: S', H) | _ => none
  | .iushr => match S with | .int y :: .int x :: S' => some (L, .int (XT.ushr x y) :: S', H) | _ => none
  | .idiv => match S with | .int y :: .int x :: S' => if y = 0 then none else some (L, .int (x / y) :: S', H) | _ => none
  | .irem => match S with | .int y :: .int x :: S' => if y = 0 then none else some (L, .int (x % y) :: S', H) | _ => none
  | .ladd => match S with | .long y :: .long x :: S' => some (L, .long (x + y) :: S', H) | _ => none
  | .lsub => match S with | .long y :: .long x :: S' => some (L, .long (x - y) :: S', H) | _ => none
  | .lmul => match S with | .long y :: .long x :: S' => some (L, .long (x * y) :: S', H) | _ => none
  | .land => match S with | .long y :: .long x :: S' => some (L, .long (x &&& y) :: S', H) | _ => none
  | .lor => match S with | .long y :: .long x :: S' => some (L, .long (x ||| y) :: S', H) | _ => none
  | .lxor => match S with | .long y :: .long x :: S' => some (L, .long (x ^^^ y) :: S', H) | _ => none
  | .lshl => match S with | .int y :: .long x :: S' => some (L, .long (x <<< (y.toInt64 &&& 63)) :: S', H) | _ => none
  | .lshr => match S with | .int y :: .long x :: S' => some (L, .long (x >>> (y.toInt64 &&& 63)) :: S', H) | _ => none
  | .lushr => match S with | .int y :: .long x :: S' => some (L, .long (XT.ushrL x y) :: S', H) | _ => none
  | .ldiv => match S with | .long y :: .long x :: S' => if y = 0 then none else some (L, .long (x / y) :: S', H) | _ => none
  | .lrem => match S with | .long y :: .long x :: S' => if y = 0 then none else some (L, .long (x % y) :: S', H) | _ => none
  | .lcmp => match S with | .long y :: .long x :: S' => some (L, .int (XT.cmpL x y) :: S', H) | _ => none
  | .i2l => match S with | .int x :: S' => some (L, .long x.toInt64 :: S', H) | _ => none
  | .l2i => match S with | .long x :: S' => some (L, .int x.toInt32 :: S', H) | _ => none
  | .dup => match S with
    | .int x :: S' => some (L, .int x :: .int x :: S', H)
    | .ref x :: S' => some (L, .ref x :: .ref x :: S', H)
    | _ => none
  | .dup2 => match S with
    | .int x :: .ref y :: S' => some (L, .int x :: .ref y :: .int x :: .ref y :: S', H)
    | .long x :: S' => some (L, .long x :: .long x :: S', H)
    | _ => none
  | .pop => match S with | .int _ :: S' => some (L, S', H) | _ => none
  | .getfield _ => match S with
    | .ref o :: S' => match H[o]? with
      | some (.inl (c, fs)) => if c = cid then match fs[a]? with
        | some (.int x) => some (L, .int x :: S', H)
        | some (.long x) => some (L, .long x :: S', H)
        | some (.ref x) => some (L, .ref x :: S', H)
        | _ => none
        else none
      | _ => none
    | _ => none
  | .putfield _ => match S with
    | v :: .ref o :: S' => match H[o]? with
      | some (.inl (c, fs)) => if c = cid ∧ P.nr ≤ o then match (P.cls[c]?).bind fun cd => cd.2.2[a]? with
        | some (_, _, ty, fin) => if putOk ty v && (!fin || ini) then some (L, S', H.set o (.inl (c, fs.set a v))) else none
        | none => none
        else none
      | _ => none
    | _ => none
  | .iaload => match S with
    | .int j :: .ref o :: S' => match H[o]? with
      | some (.inr (.inl (false, A))) => (rdA A j).map fun x => (L, .int x :: S', H)
      | _ => none
    | _ => none
  | .baload => match S with
    | .int j :: .ref o :: S' => match H[o]? with
      | some (.inr (.inl (true, A))) => (rdA A j).map fun x => (L, .int x :: S', H)
      | _ => none
    | _ => none
  | .laload => match S with
    | .int j :: .ref o :: S' => match H[o]? with
      | some (.inr (.inr A)) => (rdA A j).map fun x => (L, .long x :: S', H)
      | _ => none
    | _ => none
  | .iastore => match S with
    | .int x :: .int j :: .ref o :: S' => match H[o]? with
      | some (.inr (.inl (false, A))) => if P.nr ≤ o then (wrA A j x).map fun A' => (L, S', H.set o (.inr (.inl (false, A')))) else none
      | _ => none
    | _ => none
  | .bastore => match S with
    | .int x :: .int j :: .ref o :: S' => match H[o]? with
      | some (.inr (.inl (true, A))) => if P.nr ≤ o then (wrA A j (x &&& 1)).map fun A' => (L, S', H.set o (.inr (.inl (true, A')))) else none
      | _ => none
    | _ => none
  | .lastore => match S with
    | .long x :: .int j :: .ref o :: S' => match H[o]? with
      | some (.inr (.inr A)) => if P.nr ≤ o then (wrA A j x).map fun A' => (L, S', H.set o (.inr (.inr A'))) else none
      | _ => none
    | _ => none
  | .arraylength => match S with
    | .ref o :: S' => match H[o]? with
      | some (.inr (.inl (_, A))) => some (L, .int A.length.toInt32 :: S', H)
      | _ => none
    | _ => none
  | _ => none
/-- one instruction that makes a cell: how many slots it takes stands last -/
def xN (P : PD) (i : Instr) (a : Nat) (S : List Value) (H : AHeap) : Option (List Value × AHeap × Nat) :=
  match i with
  | .new _ => match P.cls[a]? with
    | some cd => some (.ref H.length :: S, H ++ [.inl (a, cd.2.2.map fun f => dflt f.2.2.1)], cd.2.1)
    | none => none
  | .newarray t => match S with
    | .int n :: S' => if n < 0 ∨ 100000 < n.toNatClampNeg then none else match t with
      | .int => some (.ref H.length :: S', H ++ [.inr (.inl (false, List.replicate n.toNatClampNeg 0))], n.toNatClampNeg)
      | .boolean => some (.ref H.length :: S', H ++ [.inr (.inl (true, List.replicate n.toNatClampNeg 0))], n.toNatClampNeg)
      | .long => some (.ref H.length :: S', H ++ [.inr (.inr (List.replicate n.toNatClampNeg 0))], n.toNatClampNeg)
      | _ => none
    | _ => none
  | _ => none
/-- the words that a call from d to y asks -/
def fitsRoom (d y : MD) (rest : List Value) : Bool := decide (y.rf + 1 ≤ d.rf) && decide (catSum rest + (y.maxL + 11) + y.rw ≤ d.rw)
/-- the arguments of a call, first to last, and what lies under them -/
def argsOf (n : Nat) (S : List Value) : Option (List Value × List Value) := if n ≤ S.length then some ((S.take n).reverse, S.drop n) else none
def recvOk (P : PD) (H : AHeap) (y : MD) (as : List Value) : Bool :=
  if y.kind = 0 then true else match as with
    | .ref o :: _ => match H[o]? with
      | some (.inl (c, _)) => decide (c = y.cid)
      | _ => false
    | _ => false
def nargs (y : MD) : Nat := if y.kind = 0 then y.npar else y.npar + 1
def invKind (i : Instr) (k : Nat) : Bool := match i with
  | .invokestatic _ => k == 0
  | .invokespecial _ => k == 1
  | .invokevirtual _ => k == 2 || k == 3
  | _ => false
/-- what a method returns of an int on its stack -/
def retV (r : Option FieldType) (x : Int32) : Option Value := match r with
  | some .int => some (.int x)
  | some .boolean => some (.int (x &&& 1))
  | _ => none
def isInv : Instr → Bool
  | .invokestatic _ => true
  | .invokespecial _ => true
  | .invokevirtual _ => true
  | _ => false
def isNew : Instr → Bool
  | .new _ => true
  | .newarray _ => true
  | _ => false
/-- what a run answers: what it returns, the heap, how many cells and slots it has made -/
abbrev Res := Option Value × AHeap × Nat × Nat
def addR (r : Res) (kc ks : Nat) : Res := (r.1, r.2.1, r.2.2.1 + kc, r.2.2.2 + ks)
/-- n instructions at the most, from pc of method mi to its return -/
def exe (P : PD) : Nat → Nat → Nat → List Slot → List Value → AHeap → Option Res
  | 0, _, _, _, _, _ => none
  | n + 1, mi, pc, L0, S, H => match P.mth[mi]? with
    | none => none
    | some d => match fetch d.code pc with
      | none => none
      | some (i, len, er, a, b) =>
        let L := forget er L0
        match i with
        | .goto o => match tgt pc o with
          | some q => exe P n mi q L S H
          | none => none
        | .if_icmp cd o => match S with
          | .int y :: .int x :: S' => if if_icmp.holds cd x y = true then match tgt pc o with
              | some q => exe P n mi q L S' H
              | none => none
            else exe P n mi (pc + 3) L S' H
          | _ => none
        | .ifCond cd o => match S with
          | .int x :: S' => if ifCond.holds cd x = true then match tgt pc o with
              | some q => exe P n mi q L S' H
              | none => none
            else exe P n mi (pc + 3) L S' H
          | _ => none
        | .ifnonnull o => match S with
          | .ref _ :: S' => match tgt pc o with
            | some q => exe P n mi q L S' H
            | none => none
          | _ => none
        | .ireturn => match S with
          | [.int x] => match retV d.ret x with
            | some v => some (some v, H, 0, 0)
            | none => none
          | _ => none
        | .lreturn => match S with
          | [.long x] => if d.ret = some .long then some (some (.long x), H, 0, 0) else none
          | _ => none
        | .return_ => match S with
          | [] => if d.ret = none then some (none, H, 0, 0) else none
          | _ => none
        | i => if isInv i = true then
            if b = -1 then match i, S with
              | .invokespecial _, .ref _ :: S' => if 1 ≤ d.rf ∧ catSum S' + 12 ≤ d.rw then exe P n mi (pc + 3) L S' H else none
              | _, _ => none
            else match P.mth[a]? with
              | none => none
              | some y => match argsOf (nargs y) S with
                | none => none
                | some (as, rest) =>
                  if decide (0 < a) && invKind i y.kind && recvOk P H y as && fitsRoom d y rest && decide ((entA as).length ≤ y.maxL) then
                    match exe P n a 0 (entL as y.maxL) [] H with
                    | some (v, H1, kc, ks) => (exe P n mi (pc + 3) L (v.toList ++ rest) H1).map fun r => addR r kc ks
                    | none => none
                  else none
          else if isNew i = true then match xN P i a S H with
            | some (S', H', ks) => (exe P n mi (pc + len) L S' H').map fun r => addR r 1 ks
            | none => none
          else match xI P (d.name.name == "<init>") d.cid i a b L S H with
            | some (L', S', H') => exe P n mi (pc + len) L' S' H'
            | none => none
end Jvm.Own
namespace Jvm.Own
open Jvm Jvm.ClassFile Sem Op Lib Jvm.Free Jvm.Stand Jvm.LawKit Jvm.RoadKit Bundle

/-! The words that the machine's program rests on -/
def fWord (C : String) (f : FD) : Jvm.Cond := if f.2.2.2 then .laysFinal C C f.1 f.2.1 else .lays C C f.1 f.2.1
def cWords (cd : CD) : List Jvm.Cond := .instantiable cd.1 cd.2.1 :: .initialized cd.1 :: cd.2.2.map (fWord cd.1)
def mWords (y : MD) : List Jvm.Cond := .code y.name y.bytes y.maxL y.ret :: .initialized y.name.cls ::
  (if y.kind = 0 then [.static y.name] else if y.kind = 1 then [.instanceMethod y.name] else if y.kind = 2 then [.instanceMethod y.name, .privateMethod y.name]
   else [.declares y.name, .selects y.name.cls y.name y.name, .instanceMethod y.name])
def fieldOf (P : PD) (c a : Nat) : Option FD := (P.cls[c]?).bind fun cd => cd.2.2[a]?
def fLink (P : PD) (d : MD) (k a : Nat) : List Jvm.Cond := match fieldOf P d.cid a with | some f => [.fieldLink d.name.cls k d.name.cls f.1 f.2.1] | none => []
def mLink (P : PD) (d : MD) (k a : Nat) (b : Int) : List Jvm.Cond :=
  if b = -1 then [.methodLink d.name.cls k Lib.objectInit, .instanceMethod Lib.objectInit, .code Lib.objectInit ⟨#[0xb1]⟩ 1 none]
  else match P.mth[a]? with | some y => [.methodLink d.name.cls k y.name] | none => []
def iWords (P : PD) (d : MD) (x : Nat × It) : List Jvm.Cond := match x with
  | (_, .getfield k, _, _, a, _) => fLink P d k a
  | (_, .putfield k, _, _, a, _) => fLink P d k a
  | (_, .ldc k, _, _, _, b) => [.constant d.name.cls k (Int32.ofInt b)]
  | (_, .ldc2_w k, _, _, _, b) => [.constantLong d.name.cls k (Int64.ofInt b)]
  | (_, .new k, _, _, a, _) => match P.cls[a]? with | some cd => [.classLink d.name.cls k cd.1] | none => []
  | (_, .newarray t, _, _, _, _) => [.arrayClass (newarray.typeOf t)]
  | (_, .invokestatic k, _, _, a, b) => mLink P d k a b
  | (_, .invokespecial k, _, _, a, b) => mLink P d k a b
  | (_, .invokevirtual k, _, _, a, b) => mLink P d k a b
  | _ => []
def wordsOf (P : PD) : List Jvm.Cond := P.cls.flatMap cWords ++ (P.mth.drop 1).flatMap mWords ++ P.mth.flatMap fun d => d.code.flatMap (iWords P d)
/-! What can be looked up in the program itself -/
def nodup : List String → Bool
  | [] => true
  | x :: r => !r.contains x && nodup r
def fChk (f : FD) : Bool := decide (parseFieldDescriptor f.2.1 = some f.2.2.1) && dfOk f.2.2.1
def cChk (cd : CD) : Bool := nodup (cd.2.2.map fun f => f.1) && cd.2.2.all fChk
def sigChk (y : MD) : Bool := match parseMethodDescriptor y.name.desc with
  | some g => decide (g.parameters.length = y.npar)
  | none => false
def lenOk (i : Instr) (n : Nat) : Bool := match i with
  | .aload _ | .iload _ | .lload _ | .istore _ | .astore _ | .lstore _ | .bipush _ | .ldc _ | .newarray _ => n == 2
  | .iinc _ _ | .sipush _ | .ldc2_w _ | .getfield _ | .putfield _ | .new _ | .goto _ | .if_icmp _ _ | .ifCond _ _ | .ifnonnull _ | .invokestatic _ | .invokespecial _ | .invokevirtual _ => n == 3
  | _ => n == 1
def codeChk (y : MD) : Bool := y.code.all fun x => decide (decode y.bytes x.1 = .ok (x.2.1, x.2.2.1)) && lenOk x.2.1 x.2.2.1
def clsChk (P : PD) (y : MD) : Bool := match P.cls[y.cid]? with | some cd => cd.1 == y.name.cls | none => y.kind == 0
def mChk (P : PD) (y : MD) : Bool := plainName y.name.cls && sigChk y && codeChk y && clsChk P y && decide (y.name.cls ≠ "java/lang/invoke/MethodHandle") && decide (y.name.cls ≠ "java/lang/invoke/VarHandle") && (y.kind != 1 || (y.name.name == "<init>" && decide (y.ret = none)))
def chk (P : PD) : Bool := P.cls.all cChk && P.mth.all (mChk P)

/-! Plain and real values -/
def VR (ρ : List Addr) : Value → Value → Prop
  | .ref k, w => ∃ a, ρ[k]? = some a ∧ w = .ref a
  | v, w => w = v
def SR (ρ : List Addr) : List Value → List Value → Prop
  | [], ws => ws = []
  | v :: vs, ws => ∃ w ws', ws = w :: ws' ∧ VR ρ v w ∧ SR ρ vs ws'
def OV (ρ : List Addr) : Option Value → Option Value → Prop
  | none, w => w = none
  | some v, w => ∃ u, w = some u ∧ VR ρ v u
def WFc (A : Array Slot) : Prop := (∀ (i : Nat) w, A[i]? = some (.val w) → w.category = 2 → A[i + 1]? = some .second) ∧ ∀ (i : Nat), A[i]? = some .second → ∃ j w, i = j + 1 ∧ A[j]? = some (.val w) ∧ w.category = 2
def SlR (ρ : List Addr) : Slot → Option Slot → Prop
  | .unset, _ => True
  | .second, o => o = some .second
  | .val v, o => ∃ w, VR ρ v w ∧ o = some (.val w)
def LR (ρ : List Addr) (L : List Slot) (A : Array Slot) : Prop := A.size = L.length ∧ WFc A ∧ ∀ (i : Nat) s, L[i]? = some s → SlR ρ s A[i]?
theorem VR.mono {ρ t : List Addr} {v w : Value} (h : VR ρ v w) : VR (ρ ++ t) v w := by
  cases v <;> first | exact h | skip
  obtain ⟨a, h1, h2⟩ := h
  exact ⟨a, by rw [List.getElem?_append_left (List.getElem?_eq_some_iff.mp h1).1]; exact h1, h2⟩
theorem SR.mono {ρ t : List Addr} : ∀ {v w : List Value}, SR ρ v w → SR (ρ ++ t) v w
  | [], _, h => h
  | _ :: _, _, ⟨w, ws, h1, h2, h3⟩ => ⟨w, ws, h1, h2.mono, SR.mono h3⟩
theorem SlR.mono {ρ t : List Addr} {s : Slot} {o : Option Slot} (h : SlR ρ s o) : SlR (ρ ++ t) s o := by
  cases s with
  | unset => trivial
  | second => exact h
  | val v => obtain ⟨w, h1, h2⟩ := h; exact ⟨w, h1.mono, h2⟩
theorem LR.mono {ρ t : List Addr} {L : List Slot} {A : Array Slot} (h : LR ρ L A) : LR (ρ ++ t) L A := ⟨h.1, h.2.1, fun i s q => (h.2.2 i s q).mono⟩
theorem VR.cat {ρ : List Addr} {v w : Value} (h : VR ρ v w) : w.category = v.category := by
  cases v <;> first | (obtain ⟨a, -, rfl⟩ := h; rfl) | (cases h; rfl)
theorem SR.cat {ρ : List Addr} : ∀ {v w : List Value}, SR ρ v w → (w.map fun v => v.category).sum = catSum v
  | [], _, h => by cases h; rfl
  | _ :: _, _, ⟨w, ws, h1, h2, h3⟩ => by subst h1; simp [catSum, h2.cat, SR.cat h3]
theorem SR.len {ρ : List Addr} : ∀ {v w : List Value}, SR ρ v w → w.length = v.length
  | [], _, h => by cases h; rfl
  | _ :: _, _, ⟨w, ws, h1, h2, h3⟩ => by subst h1; simp [SR.len h3]
theorem SR.app {ρ : List Addr} : ∀ {v w v' w' : List Value}, SR ρ v w → SR ρ v' w' → SR ρ (v ++ v') (w ++ w')
  | [], _, _, _, h, h' => by cases h; exact h'
  | _ :: _, _, _, _, ⟨w, ws, h1, h2, h3⟩, h' => by subst h1; exact ⟨w, ws ++ _, rfl, h2, SR.app h3 h'⟩
theorem SR.rev {ρ : List Addr} : ∀ {v w : List Value}, SR ρ v w → SR ρ v.reverse w.reverse
  | [], _, h => by cases h; exact rfl
  | _ :: _, _, ⟨w, ws, h1, h2, h3⟩ => by subst h1; simp only [List.reverse_cons]; exact (SR.rev h3).app ⟨w, [], rfl, h2, rfl⟩
theorem SR.take {ρ : List Addr} : ∀ (n : Nat) {v w : List Value}, SR ρ v w → SR ρ (v.take n) (w.take n)
  | 0, _, _, _ => rfl
  | n + 1, [], _, h => by cases h; exact rfl
  | n + 1, _ :: _, _, ⟨w, ws, h1, h2, h3⟩ => by subst h1; exact ⟨w, _, rfl, h2, SR.take n h3⟩
theorem SR.drop {ρ : List Addr} : ∀ (n : Nat) {v w : List Value}, SR ρ v w → SR ρ (v.drop n) (w.drop n)
  | 0, _, _, h => h
  | n + 1, [], _, h => by cases h; exact rfl
  | n + 1, _ :: _, _, ⟨w, ws, h1, h2, h3⟩ => by subst h1; exact SR.drop n h3
theorem OV.list {ρ : List Addr} {v w : Option Value} (h : OV ρ v w) : SR ρ v.toList w.toList := by
  cases v with
  | none => cases h; exact rfl
  | some v => obtain ⟨u, rfl, h⟩ := h; exact ⟨u, [], rfl, h, rfl⟩
theorem LR.get {ρ : List Addr} {L : List Slot} {A : Array Slot} (h : LR ρ L A) {k : Nat} {v : Value} (g : getL L k = some v) : ∃ w, VR ρ v w ∧ A[k]? = some (.val w) := by
  unfold getL at g
  split at g
  · rename_i u q
    cases g
    exact h.2.2 k _ q
  · cases g
theorem forget_get : ∀ (er : List Bool) (L : List Slot) (i : Nat) (s : Slot), (forget er L)[i]? = some s → s = .unset ∨ L[i]? = some s
  | [], L, i, s, h => Or.inr h
  | _ :: _, [], i, s, h => by simp [forget] at h
  | true :: r, t :: L, 0, s, h => by simp [forget] at h; exact Or.inl h.symm
  | false :: r, t :: L, 0, s, h => by simp [forget] at h; exact Or.inr (by simp [h])
  | true :: r, t :: L, i + 1, s, h => by simp [forget] at h; simpa using forget_get r L i s h
  | false :: r, t :: L, i + 1, s, h => by simp [forget] at h; simpa using forget_get r L i s h
theorem forget_len : ∀ (er : List Bool) (L : List Slot), (forget er L).length = L.length
  | [], _ => rfl
  | _ :: _, [] => rfl
  | true :: r, _ :: L => by simp [forget, forget_len r L]
  | false :: r, _ :: L => by simp [forget, forget_len r L]
theorem LR.forget {ρ : List Addr} {A : Array Slot} (er : List Bool) {L : List Slot} (h : LR ρ L A) : LR ρ (forget er L) A :=
  ⟨by rw [forget_len]; exact h.1, h.2.1, fun i s q => by
    rcases forget_get er L i s q with rfl | z
    · trivial
    · exact h.2.2 i s z⟩
/-! Stores -/
theorem setAt_ok {A : Array Slot} {i : Nat} (h : i < A.size) (x : Slot) : setAt A i x = some (A.setIfInBounds i x) := by simp [setAt, h]
theorem get_set (A : Array Slot) (i j : Nat) (x : Slot) : (A.setIfInBounds i x)[j]? = if i = j then (if i < A.size then some x else none) else A[j]? := by
  rw [Array.getElem?_setIfInBounds]
theorem sl_unset {A : Array Slot} {k : Nat} {w : Value} (h : A[k]? = some .unset) : storeLocals A k w = storeSelf A k w := by
  unfold storeLocals; rw [h]; rfl
theorem sl_second {A : Array Slot} {k : Nat} {w : Value} (h : A[k]? = some .second) (hk : k - 1 < A.size) : storeLocals A k w = storeSelf (A.setIfInBounds (k - 1) .unset) k w := by
  unfold storeLocals; rw [h]
  show (setAt A (k - 1) .unset).bind _ = _
  rw [setAt_ok hk]; rfl
theorem sl_val2 {A : Array Slot} {k : Nat} {w u : Value} (h : A[k]? = some (.val u)) (hu : u.category = 2) (hk : k + 1 < A.size) : storeLocals A k w = storeSelf (A.setIfInBounds (k + 1) .unset) k w := by
  unfold storeLocals; rw [h]
  show (if u.category = 2 then (setAt A (k + 1) .unset).bind _ else _) = _
  rw [if_pos hu, setAt_ok hk]; rfl
theorem sl_val1 {A : Array Slot} {k : Nat} {w u : Value} (h : A[k]? = some (.val u)) (hu : ¬ u.category = 2) : storeLocals A k w = storeSelf A k w := by
  unfold storeLocals; rw [h]
  show (if u.category = 2 then (setAt A (k + 1) .unset).bind _ else _) = _
  rw [if_neg hu]
theorem ss_1 {A : Array Slot} {k : Nat} {w : Value} (hk : k < A.size) (hw : ¬ w.category = 2) : storeSelf A k w = some (A.setIfInBounds k (.val w)) := by
  unfold storeSelf; rw [setAt_ok hk]
  show (if w.category = 2 then _ else _) = _
  rw [if_neg hw]
theorem ss_2c {A : Array Slot} {k : Nat} {w u : Value} (hk : k < A.size) (hk1 : k + 1 < A.size) (hk2 : k + 2 < A.size) (hw : w.category = 2) (h : (A.setIfInBounds k (.val w))[k + 1]? = some (.val u)) (hu : u.category = 2) : storeSelf A k w = some (((A.setIfInBounds k (.val w)).setIfInBounds (k + 2) .unset).setIfInBounds (k + 1) .second) := by
  unfold storeSelf; rw [setAt_ok hk]
  show (if w.category = 2 then _ else _) = _
  rw [if_pos hw, h]
  show (if u.category = 2 then (setAt _ (k + 2) .unset).bind _ else _) = _
  rw [if_pos hu, setAt_ok (by simpa using hk2)]
  exact setAt_ok (by simpa using hk1) _
theorem ss_2 {A : Array Slot} {k : Nat} {w : Value} {o : Slot} (hk : k < A.size) (hk1 : k + 1 < A.size) (hw : w.category = 2) (h : (A.setIfInBounds k (.val w))[k + 1]? = some o) (ho : ¬ ∃ u, o = .val u ∧ u.category = 2) : storeSelf A k w = some ((A.setIfInBounds k (.val w)).setIfInBounds (k + 1) .second) := by
  unfold storeSelf; rw [setAt_ok hk]
  show (if w.category = 2 then _ else _) = _
  rw [if_pos hw, h]
  cases o with
  | unset => exact setAt_ok (by simpa using hk1) _
  | second => exact setAt_ok (by simpa using hk1) _
  | val u =>
    show (if u.category = 2 then _ else _) = _
    rw [if_neg fun z => ho ⟨u, rfl, z⟩]
    exact setAt_ok (by simpa using hk1) _
theorem store1_sim {ρ : List Addr} {L : List Slot} {A : Array Slot} (h : LR ρ L A) {k : Nat} {v w : Value} {L' : List Slot} (hs : st1 L k v = some L') (hv : VR ρ v w) (hc : w.category = 1) : ∃ A', storeLocals A k w = some A' ∧ LR ρ L' A' := by
  unfold st1 at hs
  split at hs
  · rename_i q
    cases hs
    simp only [Bool.and_eq_true] at q
    obtain ⟨⟨q1, q2⟩, q3⟩ := q
    obtain ⟨hA, ⟨w1, w2⟩, hl⟩ := h
    have hk : k < L.length := by
      rcases Nat.lt_or_ge k L.length with z | z
      · exact z
      · rw [List.getElem?_eq_none z] at q1; cases q1
    have hkA : k < A.size := hA ▸ hk
    obtain ⟨sl, hsl⟩ : ∃ sl, A[k]? = some sl := ⟨A[k], Array.getElem?_eq_getElem hkA⟩
    have hc2 : ¬ w.category = 2 := by rw [hc]; decide
    classical
    have key : ∃ A', storeLocals A k w = some A' ∧ A'.size = A.size ∧ (∀ j, A'[j]? = if j = k then some (.val w) else if (sl = .second ∧ j + 1 = k) ∨ ((∃ u, sl = .val u ∧ u.category = 2) ∧ j = k + 1) then some .unset else A[j]?) := by
      cases sl with
      | unset =>
        refine ⟨A.setIfInBounds k (.val w), by rw [sl_unset hsl]; exact ss_1 hkA hc2, by simp, fun j => ?_⟩
        rw [get_set]
        by_cases e : k = j
        · subst e; simp [hkA]
        · have e' : ¬ j = k := fun z => e z.symm
          simp [e, e']
      | second =>
        obtain ⟨j0, u, rfl, g1, g2⟩ := w2 k hsl
        refine ⟨(A.setIfInBounds j0 .unset).setIfInBounds (j0 + 1) (.val w), by rw [sl_second hsl (show j0 + 1 - 1 < A.size by omega)]; exact ss_1 (by simpa using hkA) hc2, by simp, fun j => ?_⟩
        rw [get_set, get_set]
        by_cases e : j0 + 1 = j
        · subst e; simp [hkA]
        · by_cases e2 : j0 = j
          · subst e2; simp; omega
          · have e' : ¬ j = j0 + 1 := fun z => e z.symm
            have e2' : ¬ j = j0 := fun z => e2 z.symm
            simp [e, e', e2, e2']
      | val u =>
        by_cases hu : u.category = 2
        · have g := w1 k u hsl hu
          have hk1 : k + 1 < A.size := (Array.getElem?_eq_some_iff.mp g).1
          refine ⟨(A.setIfInBounds (k + 1) .unset).setIfInBounds k (.val w), by rw [sl_val2 hsl hu hk1]; exact ss_1 (by simpa using hkA) hc2, by simp, fun j => ?_⟩
          rw [get_set, get_set]
          by_cases e : k = j
          · subst e; simp [hkA]
          · have e' : ¬ j = k := fun z => e z.symm
            by_cases e2 : k + 1 = j
            · subst e2; simp [hk1, hu]
            · have e2' : ¬ j = k + 1 := fun z => e2 z.symm
              simp [e, e', e2, e2']
        · refine ⟨A.setIfInBounds k (.val w), by rw [sl_val1 hsl hu]; exact ss_1 hkA hc2, by simp, fun j => ?_⟩
          rw [get_set]
          by_cases e : k = j
          · subst e; simp [hkA]
          · have e' : ¬ j = k := fun z => e z.symm
            simp [e, e', hu]
    obtain ⟨A', k1, k2, k3⟩ := key
    refine ⟨A', k1, by rw [k2, hA]; simp, ⟨fun i u g1 g2 => ?_, fun i g1 => ?_⟩, fun i s g => ?_⟩
    · rw [k3] at g1
      split at g1
      · cases g1; exact absurd g2 hc2
      · rename_i e1
        split at g1
        · cases g1
        · rename_i e2
          have g3 := w1 i u g1 g2
          rw [k3]
          split
          · rename_i e3
            have : sl = .second := by rw [← e3] at hsl; exact Option.some.inj (hsl.symm.trans g3)
            exact absurd (Or.inl ⟨this, e3⟩) e2
          · rename_i e3
            split
            · rename_i e4
              rcases e4 with ⟨z1, z2⟩ | ⟨⟨u', z1, z2⟩, z3⟩
              · exfalso
                have : k = i + 1 + 1 := z2.symm
                subst this
                rw [z1] at hsl
                obtain ⟨j0, u0, y1, y2, y3⟩ := w2 _ hsl
                have : j0 = i + 1 := by omega
                subst this
                rw [g3] at y2; cases y2
              · exact absurd (by omega) e1
            · exact g3
    · rw [k3] at g1
      split at g1
      · cases g1
      · rename_i e1
        split at g1
        · cases g1
        · rename_i e2
          obtain ⟨j, u, z1, z2, z3⟩ := w2 i g1
          refine ⟨j, u, z1, ?_, z3⟩
          rw [k3]
          split
          · rename_i e3
            subst e3
            have : sl = .val u := Option.some.inj (hsl.symm.trans z2)
            exact absurd (Or.inr ⟨⟨u, this, z3⟩, z1⟩) e2
          · split
            · rename_i e3 e4
              rcases e4 with ⟨y1, y2⟩ | ⟨⟨u', y1, y2⟩, y3⟩
              · exact absurd (z1.trans y2) e1
              · subst y3
                have g5 := w1 k u' (y1 ▸ hsl) y2
                rw [z2] at g5; cases g5
            · exact z2
    · rw [List.getElem?_set] at g
      split at g
      · rename_i e
        subst e
        cases g
        exact ⟨w, hv, by rw [k3]; simp⟩
      · rename_i e
        have e' : ¬ i = k := fun z => e z.symm
        have g2 := hl i s g
        rw [k3, if_neg e']
        split
        · rename_i e4
          cases s with
          | unset => trivial
          | second =>
            exfalso
            have g2' : A[i]? = some .second := g2
            rcases e4 with ⟨y1, y2⟩ | ⟨⟨u', y1, y2⟩, y3⟩
            · obtain ⟨j0, u0, x1, x2, x3⟩ := w2 k (y1 ▸ hsl)
              have : i = j0 := by omega
              subst this
              rw [x2] at g2'; cases g2'
            · subst y3
              rw [g] at q3
              simp [isSec] at q3
          | val v0 =>
            exfalso
            obtain ⟨w0, x1, x2⟩ := g2
            rcases e4 with ⟨y1, y2⟩ | ⟨⟨u', y1, y2⟩, y3⟩
            · obtain ⟨j0, u0, z1, z2, z3⟩ := w2 k (y1 ▸ hsl)
              have : i = j0 := by omega
              subst this
              have hw0 : w0 = u0 := by rw [x2] at z2; cases z2; rfl
              have hcat : v0.category = 2 := by rw [← x1.cat, hw0]; exact z3
              subst y2
              have : L[i + 1 - 1]? = some (.val v0) := g
              rw [this] at q2
              simp [isC2, hcat] at q2
            · subst y3
              have g5 := w1 k u' (y1 ▸ hsl) y2
              rw [x2] at g5; cases g5
        · exact g2
  · cases hs
end Jvm.Own
namespace Jvm.Own
open Jvm Jvm.ClassFile Sem Op Lib Jvm.Free Jvm.Stand Jvm.LawKit Jvm.RoadKit Bundle
theorem store2_sim {ρ : List Addr} {L : List Slot} {A : Array Slot} (h : LR ρ L A) {k : Nat} {v w : Value} {L' : List Slot} (hs : st2 L k v = some L') (hv : VR ρ v w) (hc : w.category = 2) : ∃ A', storeLocals A k w = some A' ∧ LR ρ L' A' := by
  unfold st2 at hs
  split at hs
  · rename_i q
    cases hs
    simp only [Bool.and_eq_true] at q
    obtain ⟨⟨q1, q2⟩, q3⟩ := q
    obtain ⟨hA, ⟨w1, w2⟩, hl⟩ := h
    have hk1 : k + 1 < L.length := by
      rcases Nat.lt_or_ge (k + 1) L.length with z | z
      · exact z
      · rw [List.getElem?_eq_none z] at q1
        cases h0 : L[k]? with
        | none => rw [h0] at q1; cases q1
        | some s0 => rw [h0] at q1; cases s0 <;> cases q1
    have hk : k < L.length := by omega
    have hkA : k < A.size := hA ▸ hk
    have hkA1 : k + 1 < A.size := hA ▸ hk1
    obtain ⟨sl, hsl⟩ : ∃ sl, A[k]? = some sl := ⟨A[k], Array.getElem?_eq_getElem hkA⟩
    obtain ⟨sm, hsm⟩ : ∃ sm, A[k + 1]? = some sm := ⟨A[k + 1], Array.getElem?_eq_getElem hkA1⟩
    have n1 : ¬ k = k + 1 := by omega
    have n2 : ¬ k + 2 = k + 1 := by omega
    have n3 : ¬ k + 2 = k := by omega
    classical
    have key : ∃ A', storeLocals A k w = some A' ∧ A'.size = A.size ∧ (∀ j, A'[j]? = if j = k then some (.val w) else if j = k + 1 then some .second else if (sl = .second ∧ j + 1 = k) ∨ ((∃ u, sm = .val u ∧ u.category = 2) ∧ j = k + 2) then some .unset else A[j]?) := by
      by_cases hm : ∃ u, sm = .val u ∧ u.category = 2
      · obtain ⟨u, rfl, hu⟩ := hm
        have g := w1 (k + 1) u hsm hu
        have hk2 : k + 2 < A.size := (Array.getElem?_eq_some_iff.mp g).1
        cases sl with
        | unset =>
          refine ⟨((A.setIfInBounds k (.val w)).setIfInBounds (k + 2) .unset).setIfInBounds (k + 1) .second, ?_, by simp, fun j => ?_⟩
          · rw [sl_unset hsl]; exact ss_2c hkA hkA1 hk2 hc (by rw [get_set, if_neg n1]; exact hsm) hu
          · rw [get_set, get_set, get_set]
            by_cases e0 : j = k
            · subst e0; simp [hkA]
            · by_cases e1 : j = k + 1
              · subst e1; simp [hkA1]
              · by_cases e2 : j = k + 2
                · subst e2; simp [hk2, hu]
                · have e0' : ¬ k = j := fun z => e0 z.symm
                  have e1' : ¬ k + 1 = j := fun z => e1 z.symm
                  have e2' : ¬ k + 2 = j := fun z => e2 z.symm
                  simp [e0, e1, e2, e0', e1', e2']
        | second =>
          obtain ⟨j0, u0, rfl, g1, g2⟩ := w2 k hsl
          have hj0 : j0 < A.size := by omega
          refine ⟨(((A.setIfInBounds j0 .unset).setIfInBounds (j0 + 1) (.val w)).setIfInBounds (j0 + 1 + 2) .unset).setIfInBounds (j0 + 1 + 1) .second, ?_, by simp, fun j => ?_⟩
          · have m1 : ¬ j0 + 1 = j0 + 1 + 1 := by omega
            have m2 : ¬ j0 = j0 + 1 + 1 := by omega
            rw [sl_second hsl (show j0 + 1 - 1 < A.size by omega)]
            exact ss_2c (by simpa using hkA) (by simpa using hkA1) (by simpa using hk2) hc (by rw [get_set, if_neg m1, get_set, if_neg (by omega)]; exact hsm) hu
          · rw [get_set, get_set, get_set, get_set]
            by_cases e0 : j = j0 + 1
            · subst e0; simp [hkA]
            · by_cases e1 : j = j0 + 1 + 1
              · subst e1; simp [hkA1]
              · by_cases e2 : j = j0 + 1 + 2
                · subst e2; simp [hk2, hu]
                · by_cases e3 : j = j0
                  · subst e3
                    rw [if_neg (by omega), if_neg (by omega), if_neg (by omega), if_pos rfl, if_pos hj0, if_neg (by omega), if_neg (by omega), if_pos (Or.inl ⟨rfl, rfl⟩)]
                  · have e0' : ¬ j0 + 1 = j := fun z => e0 z.symm
                    have e1' : ¬ j0 + 1 + 1 = j := fun z => e1 z.symm
                    have e2' : ¬ j0 + 1 + 2 = j := fun z => e2 z.symm
                    have e3' : ¬ j0 = j := fun z => e3 z.symm
                    simp [e0, e1, e2, e3, e0', e1', e2', e3']
        | val u1 =>
          have hu1 : ¬ u1.category = 2 := fun z => by have := w1 k u1 hsl z; rw [hsm] at this; cases this
          refine ⟨((A.setIfInBounds k (.val w)).setIfInBounds (k + 2) .unset).setIfInBounds (k + 1) .second, ?_, by simp, fun j => ?_⟩
          · rw [sl_val1 hsl hu1]; exact ss_2c hkA hkA1 hk2 hc (by rw [get_set, if_neg n1]; exact hsm) hu
          · rw [get_set, get_set, get_set]
            by_cases e0 : j = k
            · subst e0; simp [hkA]
            · by_cases e1 : j = k + 1
              · subst e1; simp [hkA1]
              · by_cases e2 : j = k + 2
                · subst e2; simp [hk2, hu]
                · have e0' : ¬ k = j := fun z => e0 z.symm
                  have e1' : ¬ k + 1 = j := fun z => e1 z.symm
                  have e2' : ¬ k + 2 = j := fun z => e2 z.symm
                  simp [e0, e1, e2, e0', e1', e2']
      · cases sl with
        | unset =>
          refine ⟨(A.setIfInBounds k (.val w)).setIfInBounds (k + 1) .second, ?_, by simp, fun j => ?_⟩
          · rw [sl_unset hsl]; exact ss_2 hkA hkA1 hc (by rw [get_set, if_neg n1]; exact hsm) hm
          · rw [get_set, get_set]
            by_cases e0 : j = k
            · subst e0; simp [hkA]
            · by_cases e1 : j = k + 1
              · subst e1; simp [hkA1]
              · have e0' : ¬ k = j := fun z => e0 z.symm
                have e1' : ¬ k + 1 = j := fun z => e1 z.symm
                simp [e0, e1, e0', e1', hm]
        | second =>
          obtain ⟨j0, u0, rfl, g1, g2⟩ := w2 k hsl
          have hj0 : j0 < A.size := by omega
          have m1 : ¬ j0 + 1 = j0 + 1 + 1 := by omega
          have m2 : ¬ j0 = j0 + 1 + 1 := by omega
          refine ⟨((A.setIfInBounds j0 .unset).setIfInBounds (j0 + 1) (.val w)).setIfInBounds (j0 + 1 + 1) .second, ?_, by simp, fun j => ?_⟩
          · rw [sl_second hsl (show j0 + 1 - 1 < A.size by omega)]
            exact ss_2 (by simpa using hkA) (by simpa using hkA1) hc (by rw [get_set, if_neg m1, get_set, if_neg (by omega)]; exact hsm) hm
          · rw [get_set, get_set, get_set]
            by_cases e0 : j = j0 + 1
            · subst e0; simp [hkA]
            · by_cases e1 : j = j0 + 1 + 1
              · subst e1; simp [hkA1]
              · by_cases e3 : j = j0
                · subst e3
                  rw [if_neg (by omega), if_neg (by omega), if_pos rfl, if_pos hj0, if_neg (by omega), if_neg (by omega), if_pos (Or.inl ⟨rfl, rfl⟩)]
                · have e0' : ¬ j0 + 1 = j := fun z => e0 z.symm
                  have e1' : ¬ j0 + 1 + 1 = j := fun z => e1 z.symm
                  have e3' : ¬ j0 = j := fun z => e3 z.symm
                  simp [e0, e1, e3, e0', e1', e3', hm]
        | val u1 =>
          by_cases hu1 : u1.category = 2
          · refine ⟨((A.setIfInBounds (k + 1) .unset).setIfInBounds k (.val w)).setIfInBounds (k + 1) .second, ?_, by simp, fun j => ?_⟩
            · rw [sl_val2 hsl hu1 hkA1]
              exact ss_2 (o := .unset) (by simpa using hkA) (by simpa using hkA1) hc (by rw [get_set, if_neg n1, get_set, if_pos rfl, if_pos hkA1]) (by rintro ⟨u, z, -⟩; cases z)
            · rw [get_set, get_set, get_set]
              by_cases e0 : j = k
              · subst e0; simp [hkA]
              · by_cases e1 : j = k + 1
                · subst e1; simp [hkA1]
                · have e0' : ¬ k = j := fun z => e0 z.symm
                  have e1' : ¬ k + 1 = j := fun z => e1 z.symm
                  simp [e0, e1, e0', e1', hm]
          · refine ⟨(A.setIfInBounds k (.val w)).setIfInBounds (k + 1) .second, ?_, by simp, fun j => ?_⟩
            · rw [sl_val1 hsl hu1]; exact ss_2 hkA hkA1 hc (by rw [get_set, if_neg n1]; exact hsm) hm
            · rw [get_set, get_set]
              by_cases e0 : j = k
              · subst e0; simp [hkA]
              · by_cases e1 : j = k + 1
                · subst e1; simp [hkA1]
                · have e0' : ¬ k = j := fun z => e0 z.symm
                  have e1' : ¬ k + 1 = j := fun z => e1 z.symm
                  simp [e0, e1, e0', e1', hm]
    obtain ⟨A', k1, k2, k3⟩ := key
    refine ⟨A', k1, by rw [k2, hA]; simp, ⟨fun i u g1 g2 => ?_, fun i g1 => ?_⟩, fun i s g => ?_⟩
    · by_cases e1 : i = k
      · subst e1; rw [k3]; simp
      · have g1' := g1
        rw [k3, if_neg e1] at g1'
        split at g1'
        · cases g1'
        · rename_i e2
          split at g1'
          · cases g1'
          · rename_i e4
            have g3 := w1 i u g1' g2
            rw [k3]
            have c1 : ¬ i + 1 = k := fun e3 => by
              have : sl = .second := by rw [← e3] at hsl; exact Option.some.inj (hsl.symm.trans g3)
              exact e4 (Or.inl ⟨this, e3⟩)
            have c2 : ¬ i + 1 = k + 1 := by omega
            have c3 : ¬ ((sl = .second ∧ i + 1 + 1 = k) ∨ ((∃ u, sm = .val u ∧ u.category = 2) ∧ i + 1 = k + 2)) := fun z => by
              rcases z with ⟨z1, z2⟩ | ⟨z1, z2⟩
              · subst z2
                rw [z1] at hsl
                obtain ⟨j0, u0, y1, y2, y3⟩ := w2 _ hsl
                have : j0 = i + 1 := by omega
                subst this
                rw [g3] at y2; cases y2
              · omega
            rw [if_neg c1, if_neg c2, if_neg c3]
            exact g3
    · rw [k3] at g1
      split at g1
      · cases g1
      · rename_i e1
        split at g1
        · rename_i e2
          exact ⟨k, w, e2, by rw [k3]; simp, hc⟩
        · rename_i e2
          split at g1
          · cases g1
          · rename_i e4
            obtain ⟨j, u, z1, z2, z3⟩ := w2 i g1
            refine ⟨j, u, z1, ?_, z3⟩
            rw [k3]
            have c1 : ¬ j = k := by omega
            have c2 : ¬ j = k + 1 := fun e => by
              subst e
              exact e4 (Or.inr ⟨⟨u, Option.some.inj (hsm.symm.trans z2), z3⟩, by omega⟩)
            have c3 : ¬ ((sl = .second ∧ j + 1 = k) ∨ ((∃ u, sm = .val u ∧ u.category = 2) ∧ j = k + 2)) := fun z => by
              rcases z with ⟨y1, y2⟩ | ⟨⟨u', y1, y2⟩, y3⟩
              · exact e1 (z1.trans y2)
              · subst y3
                have g5 := w1 (k + 1) u' (y1 ▸ hsm) y2
                rw [z2] at g5; cases g5
            rw [if_neg c1, if_neg c2, if_neg c3]
            exact z2
    · rw [List.getElem?_set] at g
      split at g
      · rename_i e
        subst e
        have : k + 1 < (L.set k (.val v)).length := by simp [hk1]
        rw [if_pos this] at g
        cases g
        show A'[k + 1]? = some .second
        rw [k3]; simp
      · rename_i e
        have e' : ¬ i = k + 1 := fun z => e z.symm
        rw [List.getElem?_set] at g
        split at g
        · rename_i e0
          subst e0
          cases g
          exact ⟨w, hv, by rw [k3]; simp⟩
        · rename_i e0
          have e0' : ¬ i = k := fun z => e0 z.symm
          have g2 := hl i s g
          rw [k3, if_neg e0', if_neg e']
          split
          · rename_i e4
            cases s with
            | unset => trivial
            | second =>
              exfalso
              have g2' : A[i]? = some .second := g2
              rcases e4 with ⟨y1, y2⟩ | ⟨⟨u', y1, y2⟩, y3⟩
              · obtain ⟨j0, u0, x1, x2, x3⟩ := w2 k (y1 ▸ hsl)
                have : i = j0 := by omega
                subst this
                rw [x2] at g2'; cases g2'
              · subst y3
                rw [g] at q3
                simp [isSec] at q3
            | val v0 =>
              exfalso
              obtain ⟨w0, x1, x2⟩ := g2
              rcases e4 with ⟨y1, y2⟩ | ⟨⟨u', y1, y2⟩, y3⟩
              · obtain ⟨j0, u0, z1, z2, z3⟩ := w2 k (y1 ▸ hsl)
                have : i = j0 := by omega
                subst this
                have hw0 : w0 = u0 := by rw [x2] at z2; cases z2; rfl
                have hcat : v0.category = 2 := by rw [← x1.cat, hw0]; exact z3
                subst y2
                have : L[i + 1 - 1]? = some (.val v0) := g
                rw [this] at q2
                simp [isC2, hcat] at q2
              · subst y3
                have g5 := w1 (k + 1) u' (y1 ▸ hsm) y2
                rw [x2] at g5; cases g5
          · exact g2
  · cases hs
/-! The frame with which a method is entered -/
theorem entA_app (ws : List Value) : ∀ acc : Array Slot, ws.foldl (fun acc v => if v.category = 2 then (acc.push (.val v)).push .second else acc.push (.val v)) acc = acc ++ (entA ws).toArray := by
  induction ws with
  | nil => intro acc; simp [entA]
  | cons v r ih =>
    intro acc
    rw [List.foldl_cons, ih]
    show _ = acc ++ (if v.category = 2 then .val v :: .second :: entA r else .val v :: entA r).toArray
    by_cases h : v.category = 2
    · rw [if_pos h, if_pos h]; simp
    · rw [if_neg h, if_neg h]; simp
theorem argsToLocals_eq (ws : List Value) (n : Nat) : argsToLocals ws.toArray n = (entL ws n).toArray := by
  unfold argsToLocals entL
  have h := entA_app ws #[]
  simp only [List.foldl_toArray', List.size_toArray] at *
  simp [h]
theorem entA_len {ρ : List Addr} : ∀ {v w : List Value}, SR ρ v w → (entA w).length = (entA v).length
  | [], _, h => by cases h; rfl
  | _ :: _, _, ⟨w, ws, h1, h2, h3⟩ => by
    subst h1
    unfold entA
    rw [h2.cat]
    split <;> simp [entA_len h3]
theorem entA_rel {ρ : List Addr} : ∀ {v w : List Value}, SR ρ v w → ∀ (m i : Nat) (s : Slot), (entA v ++ List.replicate m .unset)[i]? = some s → SlR ρ s (entA w ++ List.replicate m .unset)[i]?
  | [], _, h, m, i, s, q => by
    cases h
    simp only [entA, List.nil_append] at q ⊢
    rw [List.getElem?_replicate] at q
    split at q
    · cases q; trivial
    · cases q
  | v :: vs, _, ⟨w, ws, h1, h2, h3⟩, m, i, s, q => by
    subst h1
    unfold entA at q ⊢
    rw [h2.cat]
    split
    · rename_i c
      rw [if_pos c] at q
      match i, q with
      | 0, q => simp at q; subst q; exact ⟨w, h2, by simp⟩
      | 1, q => simp at q; subst q; simp [SlR]
      | i + 2, q => simp at q ⊢; exact entA_rel h3 m i s q
    · rename_i c
      rw [if_neg c] at q
      match i, q with
      | 0, q => simp at q; subst q; exact ⟨w, h2, by simp⟩
      | i + 1, q => simp at q ⊢; exact entA_rel h3 m i s q
theorem entA_wf : ∀ (ws : List Value) (m : Nat), (∀ (i : Nat) w, (entA ws ++ List.replicate m .unset)[i]? = some (.val w) → w.category = 2 → (entA ws ++ List.replicate m .unset)[i + 1]? = some .second) ∧
    ∀ (i : Nat), (entA ws ++ List.replicate m .unset)[i]? = some .second → ∃ j w, i = j + 1 ∧ (entA ws ++ List.replicate m .unset)[j]? = some (.val w) ∧ w.category = 2
  | [], m => by
    constructor
    · intro i w q
      simp only [entA, List.nil_append, List.getElem?_replicate] at q
      split at q <;> cases q
    · intro i q
      simp only [entA, List.nil_append, List.getElem?_replicate] at q
      split at q <;> cases q
  | v :: vs, m => by
    obtain ⟨h1, h2⟩ := entA_wf vs m
    unfold entA
    split
    · rename_i c
      constructor
      · intro i w q
        match i, q with
        | 0, q => intro _; simp
        | 1, q => simp at q
        | i + 2, q => simp at q ⊢; exact h1 i w q
      · intro i q
        match i, q with
        | 0, q => simp at q
        | 1, q => exact ⟨0, v, rfl, by simp, c⟩
        | i + 2, q =>
          simp at q
          obtain ⟨j, w, e, g1, g2⟩ := h2 i q
          exact ⟨j + 2, w, by omega, by simpa using g1, g2⟩
    · rename_i c
      constructor
      · intro i w q
        match i, q with
        | 0, q => intro z; simp at q; subst q; exact absurd z c
        | i + 1, q => simp at q ⊢; exact h1 i w q
      · intro i q
        match i, q with
        | 0, q => simp at q
        | i + 1, q =>
          simp at q
          obtain ⟨j, w, e, g1, g2⟩ := h2 i q
          exact ⟨j + 1, w, by omega, by simpa using g1, g2⟩
theorem LR.enter {ρ : List Addr} {v w : List Value} (h : SR ρ v w) {n : Nat} (hn : (entA v).length ≤ n) : LR ρ (entL v n) (argsToLocals w.toArray n) ∧ (argsToLocals w.toArray n).size = n := by
  rw [argsToLocals_eq]
  have hl := entA_len h
  refine ⟨⟨by simp [entL, hl], ?_, fun i s q => ?_⟩, by simp [entL, hl]; omega⟩
  · obtain ⟨h1, h2⟩ := entA_wf w (n - (entA w).length)
    exact ⟨fun i u q c => by simpa [entL] using h1 i u (by simpa [entL] using q) c, fun i q => by
      obtain ⟨j, u, e, g1, g2⟩ := h2 i (by simpa [entL] using q)
      exact ⟨j, u, e, by simpa [entL] using g1, g2⟩⟩
  · unfold entL at q ⊢
    rw [hl]
    simpa using entA_rel h _ i s q
end Jvm.Own
namespace Jvm.RoadKit
open Sem ClassFile Op Lib Jvm.Stand Jvm.Free Jvm.LawKit
section New
variable {p : Program} {l : Launch} {e : Env} {R : Room} {s : State} {m : MethodId} {args : Array Value} {below : List Frame} {meth : Method} {c : Code} {T : State} {locs : List Loc} {cells slots : Nat}
theorem retI (X : Stand p l e R s m args below meth c T locs cells slots) (hx : p.tables.exec = Jvm.exec) {pc : Nat} {Ls : Array Slot} {z : Int32} {rest : List Value} (hret : meth.sig.returnType = some .int) (hd : decode c.code pc = .ok (.ireturn, 1)) {fs : List Frame}
    (hl : ∀ (f : JFrame) (acts : List Action), f.method = m → f.locked = none → f.entered = [] → (doReturn e (T.setTop f) acts (some (.int z))).1 = T.setFrames fs) : Steps p.tables e below (T.setTop (mkF m pc Ls (.int z :: rest))) (T.setFrames fs) := by
  have hm' : T.vm.method? m = some meth := X.method'
  have hn : narrow .int (.int z) = .int z := rfl
  show Steps p.tables e below (T.setTop { method := m, pc := pc, locals := Ls, stack := _ :: rest, locked := none }) _
  jvm_step X.here [X.here.top, hx, hd, hm', hret, hn]
  first | (intro acts; rw [hl _ acts rfl rfl rfl]) | rw [hl _ _ rfl rfl rfl]
  exact Steps.refl _
end New
end Jvm.RoadKit
namespace Jvm.Own
open Jvm Jvm.ClassFile Sem Op Lib Jvm.Free Jvm.Stand Jvm.LawKit Jvm.RoadKit Bundle
/-! The plain heap and the real one -/
def tyA (b : Bool) : FieldType := if b then .boolean else .int
def CR (P : PD) (Z : State) (h : Heap) (ρ : List Addr) (a : Addr) : ACell → Prop
  | .inl (c, fs) => ∃ cd, P.cls[c]? = some cd ∧ Exa Z h a cd.1 ∧ fs.length = cd.2.2.length ∧ ∀ (i : Nat) v fd, fs[i]? = some v → cd.2.2[i]? = some fd → ∃ w, VR ρ v w ∧ Fld Z h a cd.1 fd.1 fd.2.1 w
  | .inr (.inl (b, L)) => ∃ cl, Arr Z h a cl (tyA b) ∧ cl.slots.size = L.length ∧ L.length < 2 ^ 31 ∧ ∀ (i : Nat) x, L[i]? = some x → cl.slots[i]? = some (.int x)
  | .inr (.inr L) => ∃ cl, Arr Z h a cl .long ∧ cl.slots.size = L.length ∧ L.length < 2 ^ 31 ∧ ∀ (i : Nat) x, L[i]? = some x → cl.slots[i]? = some (.long x)
def HR (P : PD) (Z : State) (n0 : Nat) (h : Heap) (ρ : List Addr) (H : AHeap) : Prop :=
  n0 ≤ h.size ∧ ρ.length = H.length ∧ (∀ (i j : Nat) a, ρ[i]? = some a → ρ[j]? = some a → i = j) ∧ (∀ (k : Nat) a, ρ[k]? = some a → P.nr ≤ k → n0 ≤ a) ∧ ∀ (k : Nat) a c, ρ[k]? = some a → H[k]? = some c → CR P Z h ρ a c
section Heaps
variable {P : PD} {Z : State} {n0 : Nat} {h h' : Heap} {ρ : List Addr} {H : AHeap} {a : Addr} {k : Nat} {a0 : Array Value}
theorem CR.lt {c : ACell} (q : CR P Z h ρ a c) : a < h.size := by
  match c, q with
  | .inl (_, _), q => obtain ⟨cd, -, E, -⟩ := q; exact E.lt
  | .inr (.inl (_, _)), q => obtain ⟨cl, A, -⟩ := q; exact A.lt
  | .inr (.inr _), q => obtain ⟨cl, A, -⟩ := q; exact A.lt
theorem HR.at (q : HR P Z n0 h ρ H) {c : ACell} (hc : H[k]? = some c) : ∃ a, ρ[k]? = some a ∧ CR P Z h ρ a c := by
  obtain ⟨-, q1, -, -, q4⟩ := q
  have hk : k < ρ.length := by rw [q1]; exact (List.getElem?_eq_some_iff.mp hc).1
  exact ⟨ρ[k], List.getElem?_eq_getElem hk, q4 k _ c (List.getElem?_eq_getElem hk) hc⟩
theorem HR.lt (q : HR P Z n0 h ρ H) (hk : ρ[k]? = some a) : a < h.size := by
  obtain ⟨-, q1, -, -, q4⟩ := q
  have hk' : k < H.length := by rw [← q1]; exact (List.getElem?_eq_some_iff.mp hk).1
  exact (q4 k a _ hk (List.getElem?_eq_getElem hk')).lt
theorem CR.grow {t : List Addr} {c : ACell} (E : Ext h h') (q : CR P Z h ρ a c) : CR P Z h' (ρ ++ t) a c := by
  match c, q with
  | .inl (_, _), ⟨cd, q1, q2, q3, q4⟩ => exact ⟨cd, q1, q2.ext E, q3, fun i v fd g1 g2 => by obtain ⟨w, z1, z2⟩ := q4 i v fd g1 g2; exact ⟨w, z1.mono, z2.ext E⟩⟩
  | .inr (.inl (_, _)), ⟨cl, q1, q2⟩ => exact ⟨cl, q1.ext E, q2⟩
  | .inr (.inr _), ⟨cl, q1, q2⟩ => exact ⟨cl, q1.ext E, q2⟩
theorem HR.push {c : ACell} (q : HR P Z n0 h ρ H) (E : Ext h h') (hc : CR P Z h' (ρ ++ [h.size]) h.size c) : HR P Z n0 h' (ρ ++ [h.size]) (H ++ [c]) := by
  have q0 := q
  obtain ⟨q1, q2, q3, q4, q5⟩ := q
  have old : ∀ (i : Nat) b, (ρ ++ [h.size])[i]? = some b → (ρ[i]? = some b ∧ b < h.size) ∨ (i = ρ.length ∧ b = h.size) := fun i b g => by
    rw [List.getElem?_append] at g
    split at g
    · exact Or.inl ⟨g, q0.lt g⟩
    · rename_i z
      right
      have : i - ρ.length = 0 := by
        rcases Nat.eq_zero_or_pos (i - ρ.length) with y | y
        · exact y
        · rw [List.getElem?_eq_none (by simp; omega)] at g; cases g
      rw [this] at g
      simp at g
      exact ⟨by omega, g.symm⟩
  refine ⟨Nat.le_trans q1 E.1, by simp [q2], fun i j b g1 g2 => ?_, fun i b g1 g2 => ?_, fun i b c' g1 g2 => ?_⟩
  · rcases old i b g1 with ⟨y1, y2⟩ | ⟨y1, y2⟩ <;> rcases old j b g2 with ⟨z1, z2⟩ | ⟨z1, z2⟩
    · exact q3 i j b y1 z1
    · exact absurd (z2 ▸ y2) (Nat.lt_irrefl _)
    · exact absurd (y2 ▸ z2) (Nat.lt_irrefl _)
    · rw [y1, z1]
  · rcases old i b g1 with ⟨y1, y2⟩ | ⟨y1, y2⟩
    · exact q4 i b y1 g2
    · rw [y2]; exact q1
  · rcases old i b g1 with ⟨y1, y2⟩ | ⟨y1, y2⟩
    · have hi : i < H.length := by rw [← q2]; exact (List.getElem?_eq_some_iff.mp y1).1
      rw [List.getElem?_append_left hi] at g2
      exact (q5 i b c' y1 g2).grow E
    · subst y1 y2
      rw [q2] at g2
      simp at g2
      subst g2
      exact hc
theorem CR.other {v : Value} {sl : Nat} {b : Addr} {c : ACell} (W : Wr h h' a sl v) (ne : b ≠ a) (q : CR P Z h ρ b c) : CR P Z h' ρ b c := by
  match c, q with
  | .inl (_, _), ⟨cd, q1, q2, q3, q4⟩ => exact ⟨cd, q1, q2.wr W, q3, fun i v fd g1 g2 => by obtain ⟨w, z1, z2⟩ := q4 i v fd g1 g2; exact ⟨w, z1, z2.other W (Or.inl ne)⟩⟩
  | .inr (.inl (_, _)), ⟨cl, q1, q2⟩ => exact ⟨cl, q1.other W ne, q2⟩
  | .inr (.inr _), ⟨cl, q1, q2⟩ => exact ⟨cl, q1.other W ne, q2⟩
theorem HR.set {v : Value} {sl : Nat} {c : ACell} (q : HR P Z n0 h ρ H) (hk : ρ[k]? = some a) (W : Wr h h' a sl v) (hc : CR P Z h' ρ a c) : HR P Z n0 h' ρ (H.set k c) := by
  obtain ⟨q1, q2, q3, q4, q5⟩ := q
  refine ⟨by rw [W.size]; exact q1, by simp [q2], q3, q4, fun i b c' g1 g2 => ?_⟩
  rw [List.getElem?_set] at g2
  split at g2
  · rename_i e
    subst e
    split at g2
    · cases g2
      rw [hk] at g1; cases g1
      exact hc
    · cases g2
  · rename_i e
    exact (q5 i b c' g1 g2).other W fun z => e (q3 k i a hk (z ▸ g1))
theorem nodup_ne : ∀ {l : List String}, nodup l = true → ∀ {i j : Nat} {x y : String}, l[i]? = some x → l[j]? = some y → i ≠ j → x ≠ y
  | [], _, i, j, x, y, h1, _, _ => by simp at h1
  | z :: r, hn, i, j, x, y, h1, h2, ne => by
    simp only [nodup, Bool.and_eq_true, Bool.not_eq_true', List.contains_eq_mem, decide_eq_false_iff_not] at hn
    match i, j, h1, h2, ne with
    | 0, 0, _, _, ne => exact absurd rfl ne
    | 0, j + 1, h1, h2, _ => simp at h1 h2; subst h1; exact fun e => hn.1 (e ▸ List.mem_of_getElem? h2)
    | i + 1, 0, h1, h2, _ => simp at h1 h2; subst h2; exact fun e => hn.1 (e ▸ List.mem_of_getElem? h1)
    | i + 1, j + 1, h1, h2, ne => simp at h1 h2; exact nodup_ne hn.2 h1 h2 (fun e => ne (by rw [e]))
theorem laid_of {C : String} {f : FD} (w : (fWord C f).before a0 Z = true) : Laid Z a0 C C f.1 f.2.1 := by
  unfold fWord at w
  split at w
  · exact Or.inr w
  · exact Or.inl w
theorem HR.putF {c j : Nat} {fs : List Value} {cd : CD} {fd : FD} {v w : Value} (q : HR P Z n0 h ρ H) (hk : ρ[k]? = some a) (hc : H[k]? = some (.inl (c, fs))) (hcd : P.cls[c]? = some cd) (hfd : cd.2.2[j]? = some fd)
    (hck : cChk cd = true) (hl : ∀ f ∈ cd.2.2, (fWord cd.1 f).before a0 Z = true) (W : Wr h h' a (RoadKit.slotOf Z cd.1 fd.1 fd.2.1) w) (hv : VR ρ v w) : HR P Z n0 h' ρ (H.set k (.inl (c, fs.set j v))) := by
  obtain ⟨a', ha, cr⟩ := q.at hc
  rw [hk] at ha; cases ha
  obtain ⟨cd', q1, q2, q3, q4⟩ := cr
  rw [hcd] at q1; cases q1
  refine q.set hk W ⟨cd, hcd, q2.wr W, by simp [q3], fun i v0 fd' g1 g2 => ?_⟩
  simp only [cChk, Bool.and_eq_true, List.all_eq_true] at hck
  obtain ⟨n1, n2⟩ := hck
  by_cases e : j = i
  · subst e
    rw [hfd] at g2; cases g2
    rw [List.getElem?_set] at g1
    split at g1
    · split at g1
      · cases g1
        rename_i z
        obtain ⟨w0, -, F⟩ := q4 j _ fd (List.getElem?_eq_getElem z) hfd
        exact ⟨w, hv, F.same W⟩
      · cases g1
    · rename_i z; exact absurd rfl z
  · rw [List.getElem?_set_ne e] at g1
    obtain ⟨w0, z1, F⟩ := q4 i v0 fd' g1 g2
    refine ⟨w0, z1, F.other W (Or.inr ?_)⟩
    have m1 := List.mem_of_getElem? hfd
    have m2 := List.mem_of_getElem? g2
    have f1 := n2 fd m1
    have f2 := n2 fd' m2
    simp only [fChk, Bool.and_eq_true, decide_eq_true_eq] at f1 f2
    refine slot_ne (laid_of (hl fd' m2)) (laid_of (hl fd m1)) ?_ f2.1 f1.1
    exact nodup_ne n1 (i := i) (j := j) (by simp [g2]) (by simp [hfd]) (fun z => e z.symm)
theorem HR.wrI {b : Bool} {L : List Int32} {i : Nat} {x : Int32} (q : HR P Z n0 h ρ H) (hk : ρ[k]? = some a) (hc : H[k]? = some (.inr (.inl (b, L)))) (W : Wr h h' a i (.int x)) : HR P Z n0 h' ρ (H.set k (.inr (.inl (b, L.set i x)))) := by
  obtain ⟨a', ha, cr⟩ := q.at hc
  rw [hk] at ha; cases ha
  obtain ⟨cl, A, q2, q3, q4⟩ := cr
  have lt : i < cl.slots.size := by
    obtain ⟨cl', z1, -, z3, -⟩ := W
    rw [A.1] at z1; cases z1
    exact z3
  refine q.set hk W ⟨_, A.same W, by simp [sz_set, q2], by simpa using q3, fun j y g => ?_⟩
  rw [List.getElem?_set] at g
  split at g
  · rename_i e
    subst e
    split at g
    · cases g; simp [Cell.setSlot, lt]
    · cases g
  · rename_i e
    have := q4 j y g
    simp [Cell.setSlot, Array.getElem?_setIfInBounds, e, this]
theorem HR.wrJ {L : List Int64} {i : Nat} {x : Int64} (q : HR P Z n0 h ρ H) (hk : ρ[k]? = some a) (hc : H[k]? = some (.inr (.inr L))) (W : Wr h h' a i (.long x)) : HR P Z n0 h' ρ (H.set k (.inr (.inr (L.set i x)))) := by
  obtain ⟨a', ha, cr⟩ := q.at hc
  rw [hk] at ha; cases ha
  obtain ⟨cl, A, q2, q3, q4⟩ := cr
  have lt : i < cl.slots.size := by
    obtain ⟨cl', z1, -, z3, -⟩ := W
    rw [A.1] at z1; cases z1
    exact z3
  refine q.set hk W ⟨_, A.same W, by simp [sz_set, q2], by simpa using q3, fun j y g => ?_⟩
  rw [List.getElem?_set] at g
  split at g
  · rename_i e
    subst e
    split at g
    · cases g; simp [Cell.setSlot, lt]
    · cases g
  · rename_i e
    have := q4 j y g
    simp [Cell.setSlot, Array.getElem?_setIfInBounds, e, this]
end Heaps
theorem SR.int {ρ : List Addr} {x : Int32} {S Sc : List Value} (h : SR ρ (.int x :: S) Sc) : ∃ Sc', Sc = .int x :: Sc' ∧ SR ρ S Sc' := by
  obtain ⟨w, ws, h1, h2, h3⟩ := h
  exact ⟨ws, by rw [h1, show w = .int x from h2], h3⟩
theorem SR.long {ρ : List Addr} {x : Int64} {S Sc : List Value} (h : SR ρ (.long x :: S) Sc) : ∃ Sc', Sc = .long x :: Sc' ∧ SR ρ S Sc' := by
  obtain ⟨w, ws, h1, h2, h3⟩ := h
  exact ⟨ws, by rw [h1, show w = .long x from h2], h3⟩
theorem SR.ref {ρ : List Addr} {x : Nat} {S Sc : List Value} (h : SR ρ (.ref x :: S) Sc) : ∃ a Sc', ρ[x]? = some a ∧ Sc = .ref a :: Sc' ∧ SR ρ S Sc' := by
  obtain ⟨w, ws, h1, ⟨a, h2, h4⟩, h3⟩ := h
  exact ⟨a, ws, h2, by rw [h1, h4], h3⟩
theorem rdA_spec {α : Type} {L : List α} {j : Int32} {x : α} (h : rdA L j = some x) : ¬ j < 0 ∧ L[j.toNatClampNeg]? = some x := by
  unfold rdA at h
  split at h
  · cases h
  · rename_i q; exact ⟨q, h⟩
theorem wrA_spec {α : Type} {L L' : List α} {j : Int32} {x : α} (h : wrA L j x = some L') : ¬ j < 0 ∧ j.toNatClampNeg < L.length ∧ L' = L.set j.toNatClampNeg x := by
  unfold wrA at h
  split at h
  · cases h
  · rename_i q
    split at h
    · rename_i z; cases h; exact ⟨q, z, rfl⟩
    · cases h
end Jvm.Own
namespace Jvm.Own
open Jvm Jvm.ClassFile Sem Op Lib Jvm.Free Jvm.Stand Jvm.LawKit Jvm.RoadKit Bundle
theorem st1_len {L L' : List Slot} {k : Nat} {v : Value} (h : st1 L k v = some L') : L'.length = L.length := by
  unfold st1 at h
  split at h
  · cases h; simp
  · cases h
theorem st2_len {L L' : List Slot} {k : Nat} {v : Value} (h : st2 L k v = some L') : L'.length = L.length := by
  unfold st2 at h
  split at h
  · cases h; simp
  · cases h
theorem lrem_mod (x y : Int64) : x - (x / y) * y = x % y := by
  apply Int64.toInt_inj.mp
  have h1 := Int64.le_toInt (x % y)
  have h2 := Int64.toInt_lt (x % y)
  rw [Int64.toInt_sub, Int64.toInt_mul, Int64.toInt_div, Int.bmod_mul_bmod, Int.sub_bmod_bmod, Int.mul_comm (x.toInt.tdiv y.toInt), ← Int.tmod_def, ← Int64.toInt_mod]
  exact Int.bmod_eq_of_le_mul_two (by omega) (by omega)
theorem putOk_sim {ρ : List Addr} {ty : FieldType} {v w : Value} (h : putOk ty v = true) (hv : VR ρ v w) : narrow ty w = w ∧ fits ty w = true := by
  cases ty <;> cases v <;> first | (simp [putOk] at h; done) | skip
  · cases hv; exact ⟨rfl, rfl⟩
  · cases hv; exact ⟨rfl, rfl⟩
  · rename_i x
    cases hv
    simp only [putOk, Bool.or_eq_true, beq_iff_eq] at h
    rcases h with rfl | rfl
    · exact ⟨rfl, rfl⟩
    · exact ⟨rfl, rfl⟩
  · obtain ⟨a, -, rfl⟩ := hv; exact ⟨rfl, rfl⟩
theorem dflt_sim {ρ : List Addr} {ty : FieldType} (h : dfOk ty = true) : VR ρ (dflt ty) (defaultValue ty) := by
  cases ty <;> first | (simp [dfOk] at h; done) | exact rfl
theorem fieldOf_spec {P : PD} {c a : Nat} {cd : CD} {f : FD} (h1 : P.cls[c]? = some cd) (h2 : cd.2.2[a]? = some f) : fieldOf P c a = some f := by simp [fieldOf, h1, h2]
theorem in_wordsOf {P : PD} {d : MD} {x : Nat × It} {w : Jvm.Cond} (hd : d ∈ P.mth) (hx : x ∈ d.code) (hw : w ∈ iWords P d x) : w ∈ wordsOf P :=
  List.mem_append_right _ (List.mem_flatMap.mpr ⟨d, hd, List.mem_flatMap.mpr ⟨x, hx, hw⟩⟩)
theorem in_wordsC {P : PD} {cd : CD} {w : Jvm.Cond} (hd : cd ∈ P.cls) (hw : w ∈ cWords cd) : w ∈ wordsOf P :=
  List.mem_append_left _ (List.mem_append_left _ (List.mem_flatMap.mpr ⟨cd, hd, hw⟩))
theorem in_wordsM {P : PD} {y : MD} {j : Nat} {w : Jvm.Cond} (hd : P.mth[j]? = some y) (hj : 0 < j) (hw : w ∈ mWords y) : w ∈ wordsOf P := by
  refine List.mem_append_left _ (List.mem_append_right _ (List.mem_flatMap.mpr ⟨y, ?_, hw⟩))
  have : (P.mth.drop 1)[j - 1]? = some y := by rw [List.getElem?_drop]; rw [show 1 + (j - 1) = j by omega]; exact hd
  exact List.mem_of_getElem? this
theorem fWord_in {cd : CD} {f : FD} (h : f ∈ cd.2.2) : fWord cd.1 f ∈ cWords cd := List.mem_cons_of_mem _ (List.mem_cons_of_mem _ (List.mem_map.mpr ⟨f, h, rfl⟩))
theorem cChk_of {P : PD} (hP : chk P = true) {cd : CD} (h : cd ∈ P.cls) : cChk cd = true := by
  simp only [chk, Bool.and_eq_true, List.all_eq_true] at hP
  exact hP.1 cd h
theorem mChk_of {P : PD} (hP : chk P = true) {d : MD} (h : d ∈ P.mth) : mChk P d = true := by
  simp only [chk, Bool.and_eq_true, List.all_eq_true] at hP
  exact hP.2 d h
theorem cid_of {P : PD} (hP : chk P = true) {d : MD} (h : d ∈ P.mth) {cd : CD} (hc : P.cls[d.cid]? = some cd) : cd.1 = d.name.cls := by
  have := mChk_of hP h
  simp only [mChk, Bool.and_eq_true] at this
  have h4 := this.1.1.1.2
  unfold clsChk at h4
  rw [hc] at h4
  simpa using h4
section Step
variable {P : PD} {Z : State} {n0 : Nat} {a0 : Array Value} {l : Launch} {p : Program} {e : Env} {R : Room} {s : State} {m : MethodId} {args : Array Value} {below : List Frame} {meth : Method} {c : Code} {T : State} {locs : List Loc} {cells slots : Nat} {d : MD}
def Nxt (P : PD) (Z : State) (n0 : Nat) (l : Launch) (p : Program) (e : Env) (R : Room) (s : State) (m : MethodId) (args : Array Value) (below : List Frame) (meth : Method) (c : Code) (T : State) (cells slots : Nat) (ρ : List Addr) (g : JFrame) (pc' : Nat) (L L' : List Slot) (S' : List Value) (H1 : AHeap) : Prop :=
  ∃ T' locs' A' Sc', Stand p l e R s m args below meth c T' locs' cells slots ∧ L'.length = L.length ∧ LR ρ L' A' ∧ SR ρ S' Sc' ∧ HR P Z n0 T'.heap ρ H1 ∧ Fr n0 locs' ∧
    ∀ target, Steps p.tables e below (T'.setTop (mkF m pc' A' Sc')) target → Steps p.tables e below (T.setTop g) target
theorem Nxt.pure {ρ : List Addr} {H : AHeap} {g : JFrame} {pc' : Nat} {L L' : List Slot} {S' Sc' : List Value} {A' : Array Slot} (X : Stand p l e R s m args below meth c T locs cells slots) (hl : L'.length = L.length) (hL : LR ρ L' A') (hS : SR ρ S' Sc') (hH : HR P Z n0 T.heap ρ H) (hF : Fr n0 locs)
    (k : ∀ target, Steps p.tables e below (T.setTop (mkF m pc' A' Sc')) target → Steps p.tables e below (T.setTop g) target) : Nxt P Z n0 l p e R s m args below meth c T cells slots ρ g pc' L L' S' H :=
  ⟨T, locs, A', Sc', X, hl, hL, hS, hH, hF, k⟩
theorem Nxt.mem {ρ : List Addr} {H1 : AHeap} {g : JFrame} {pc' : Nat} {L L' : List Slot} {S' Sc' : List Value} {A' : Array Slot} {T' : State} {locs' : List Loc} (X : Stand p l e R s m args below meth c T' locs' cells slots) (hl : L'.length = L.length) (hL : LR ρ L' A') (hS : SR ρ S' Sc') (hH : HR P Z n0 T'.heap ρ H1) (hF : Fr n0 locs')
    (k : ∀ target, Steps p.tables e below (T'.setTop (mkF m pc' A' Sc')) target → Steps p.tables e below (T.setTop g) target) : Nxt P Z n0 l p e R s m args below meth c T cells slots ρ g pc' L L' S' H1 :=
  ⟨T', locs', A', Sc', X, hl, hL, hS, hH, hF, k⟩
set_option maxHeartbeats 4000000 in
theorem stepX (X : Stand p l e R s m args below meth c T locs cells slots) (hx : p.tables.exec = Jvm.exec) (hZ : Z.Warmed39 s.vm) (hown : s.vm.findClass d.name.cls = some m.cls) (hnm : meth.name = d.name.name) (hP : chk P = true) (hW : ∀ w ∈ wordsOf P, w.before a0 Z = true) (hdm : d ∈ P.mth)
    {pc len a : Nat} {er : List Bool} {b : Int} {i : Instr} (hit : (pc, i, len, er, a, b) ∈ d.code) (hd : decode c.code pc = .ok (i, len)) (hlen : lenOk i len = true) {ρ : List Addr} {L L' : List Slot} {S S' Sc : List Value} {H H1 : AHeap} {A : Array Slot}
    (hL : LR ρ L A) (hS : SR ρ S Sc) (hH : HR P Z n0 T.heap ρ H) (hF : Fr n0 locs) (h : xI P (d.name.name == "<init>") d.cid i a b L S H = some (L', S', H1)) :
    Nxt P Z n0 l p e R s m args below meth c T cells slots ρ (mkF m pc A Sc) (pc + len) L L' S' H1 := by
  have hWi : ∀ w ∈ iWords P d (pc, i, len, er, a, b), w.before a0 Z = true := fun w q => hW w (in_wordsOf hdm hit q)
  cases i with
  | aload_n k =>
    obtain rfl : len = 1 := by simpa [lenOk] using hlen
    simp only [xI] at h
    split at h
    · rename_i x q
      cases h
      obtain ⟨w, hv, hg⟩ := hL.get q
      obtain ⟨ad, h1, rfl⟩ := hv
      exact Nxt.pure X rfl hL ⟨_, _, rfl, ⟨ad, h1, rfl⟩, hS⟩ hH hF (fun t z => XS.aloadN (g := mkF m pc A Sc) X.here hx rfl hd hg rfl z)
    · cases h
  | aload k =>
    obtain rfl : len = 2 := by simpa [lenOk] using hlen
    simp only [xI] at h
    split at h
    · rename_i x q
      cases h
      obtain ⟨w, hv, hg⟩ := hL.get q
      obtain ⟨ad, h1, rfl⟩ := hv
      exact Nxt.pure X rfl hL ⟨_, _, rfl, ⟨ad, h1, rfl⟩, hS⟩ hH hF (fun t z => XS.aload (g := mkF m pc A Sc) X.here hx rfl hd hg rfl z)
    · cases h
  | iload_n k =>
    obtain rfl : len = 1 := by simpa [lenOk] using hlen
    simp only [xI] at h
    split at h
    · rename_i x q
      cases h
      obtain ⟨w, hv, hg⟩ := hL.get q
      obtain rfl : w = .int _ := hv
      exact Nxt.pure X rfl hL ⟨_, _, rfl, rfl, hS⟩ hH hF (fun t z => XS.iloadN (g := mkF m pc A Sc) X.here hx rfl hd hg z)
    · cases h
  | iload k =>
    obtain rfl : len = 2 := by simpa [lenOk] using hlen
    simp only [xI] at h
    split at h
    · rename_i x q
      cases h
      obtain ⟨w, hv, hg⟩ := hL.get q
      obtain rfl : w = .int _ := hv
      exact Nxt.pure X rfl hL ⟨_, _, rfl, rfl, hS⟩ hH hF (fun t z => XS.iload (g := mkF m pc A Sc) X.here hx rfl hd hg z)
    · cases h
  | lload_n k =>
    obtain rfl : len = 1 := by simpa [lenOk] using hlen
    simp only [xI] at h
    split at h
    · rename_i x q
      cases h
      obtain ⟨w, hv, hg⟩ := hL.get q
      obtain rfl : w = .long _ := hv
      exact Nxt.pure X rfl hL ⟨_, _, rfl, rfl, hS⟩ hH hF (fun t z => XT.lloadN (g := mkF m pc A Sc) X.here hx rfl hd hg z)
    · cases h
  | lload k =>
    obtain rfl : len = 2 := by simpa [lenOk] using hlen
    simp only [xI] at h
    split at h
    · rename_i x q
      cases h
      obtain ⟨w, hv, hg⟩ := hL.get q
      obtain rfl : w = .long _ := hv
      exact Nxt.pure X rfl hL ⟨_, _, rfl, rfl, hS⟩ hH hF (fun t z => XT.lload (g := mkF m pc A Sc) X.here hx rfl hd hg z)
    · cases h
  | istore_n k =>
    obtain rfl : len = 1 := by simpa [lenOk] using hlen
    simp only [xI] at h
    split at h
    · rename_i x S0
      obtain ⟨L1, q, e1⟩ := Option.map_eq_some_iff.mp h
      cases e1
      obtain ⟨S2, rfl, h2⟩ := hS.int
      obtain ⟨A', z1, z2⟩ := store1_sim hL q (show VR ρ (.int x) (.int x) from rfl) rfl
      exact Nxt.pure X (st1_len q) z2 h2 hH hF (fun t z => XS.istoreN (g := mkF m pc A _) X.here hx rfl hd rfl z1 z)
    · cases h
  | istore k =>
    obtain rfl : len = 2 := by simpa [lenOk] using hlen
    simp only [xI] at h
    split at h
    · rename_i x S0
      obtain ⟨L1, q, e1⟩ := Option.map_eq_some_iff.mp h
      cases e1
      obtain ⟨S2, rfl, h2⟩ := hS.int
      obtain ⟨A', z1, z2⟩ := store1_sim hL q (show VR ρ (.int x) (.int x) from rfl) rfl
      exact Nxt.pure X (st1_len q) z2 h2 hH hF (fun t z => XS.istore (g := mkF m pc A _) X.here hx rfl hd rfl z1 z)
    · cases h
  | astore_n k =>
    obtain rfl : len = 1 := by simpa [lenOk] using hlen
    simp only [xI] at h
    split at h
    · rename_i x S0
      obtain ⟨L1, q, e1⟩ := Option.map_eq_some_iff.mp h
      cases e1
      obtain ⟨ad, S2, h1, rfl, h2⟩ := hS.ref
      obtain ⟨A', z1, z2⟩ := store1_sim hL q (show VR ρ (.ref x) (.ref ad) from ⟨ad, h1, rfl⟩) rfl
      exact Nxt.pure X (st1_len q) z2 h2 hH hF (fun t z => XS.astoreN (g := mkF m pc A _) X.here hx rfl hd rfl rfl z1 z)
    · cases h
  | astore k =>
    obtain rfl : len = 2 := by simpa [lenOk] using hlen
    simp only [xI] at h
    split at h
    · rename_i x S0
      obtain ⟨L1, q, e1⟩ := Option.map_eq_some_iff.mp h
      cases e1
      obtain ⟨ad, S2, h1, rfl, h2⟩ := hS.ref
      obtain ⟨A', z1, z2⟩ := store1_sim hL q (show VR ρ (.ref x) (.ref ad) from ⟨ad, h1, rfl⟩) rfl
      exact Nxt.pure X (st1_len q) z2 h2 hH hF (fun t z => XS.astore (g := mkF m pc A _) X.here hx rfl hd rfl rfl z1 z)
    · cases h
  | lstore_n k =>
    obtain rfl : len = 1 := by simpa [lenOk] using hlen
    simp only [xI] at h
    split at h
    · rename_i x S0
      obtain ⟨L1, q, e1⟩ := Option.map_eq_some_iff.mp h
      cases e1
      obtain ⟨S2, rfl, h2⟩ := hS.long
      obtain ⟨A', z1, z2⟩ := store2_sim hL q (show VR ρ (.long x) (.long x) from rfl) rfl
      exact Nxt.pure X (st2_len q) z2 h2 hH hF (fun t z => XT.lstoreN (g := mkF m pc A _) X.here hx rfl hd rfl z1 z)
    · cases h
  | lstore k =>
    obtain rfl : len = 2 := by simpa [lenOk] using hlen
    simp only [xI] at h
    split at h
    · rename_i x S0
      obtain ⟨L1, q, e1⟩ := Option.map_eq_some_iff.mp h
      cases e1
      obtain ⟨S2, rfl, h2⟩ := hS.long
      obtain ⟨A', z1, z2⟩ := store2_sim hL q (show VR ρ (.long x) (.long x) from rfl) rfl
      exact Nxt.pure X (st2_len q) z2 h2 hH hF (fun t z => XT.lstore (g := mkF m pc A _) X.here hx rfl hd rfl z1 z)
    · cases h
  | iinc k dd =>
    obtain rfl : len = 3 := by simpa [lenOk] using hlen
    simp only [xI] at h
    split at h
    · rename_i x q0
      obtain ⟨L1, q, e1⟩ := Option.map_eq_some_iff.mp h
      cases e1
      obtain ⟨w, hv, hg⟩ := hL.get q0
      obtain rfl : w = .int _ := hv
      obtain ⟨A', z1, z2⟩ := store1_sim hL q (show VR ρ (.int (x + Int32.ofInt dd)) (.int (x + Int32.ofInt dd)) from rfl) rfl
      exact Nxt.pure X (st1_len q) z2 hS hH hF (fun t z => XS.iinc (g := mkF m pc A Sc) X.here hx rfl hd hg z1 z)
    · cases h
  | iconst v =>
    obtain rfl : len = 1 := by simpa [lenOk] using hlen
    simp only [xI] at h
    cases h
    exact Nxt.pure X rfl hL ⟨_, _, rfl, rfl, hS⟩ hH hF (fun t z => XS.iconst (g := mkF m pc A Sc) X.here hx rfl hd z)
  | bipush v =>
    obtain rfl : len = 2 := by simpa [lenOk] using hlen
    simp only [xI] at h
    cases h
    exact Nxt.pure X rfl hL ⟨_, _, rfl, rfl, hS⟩ hH hF (fun t z => XS.bipush (g := mkF m pc A Sc) X.here hx rfl hd z)
  | sipush v =>
    obtain rfl : len = 3 := by simpa [lenOk] using hlen
    simp only [xI] at h
    cases h
    exact Nxt.pure X rfl hL ⟨_, _, rfl, rfl, hS⟩ hH hF (fun t z => XS.sipush (g := mkF m pc A Sc) X.here hx rfl hd z)
  | lconst v =>
    obtain rfl : len = 1 := by simpa [lenOk] using hlen
    simp only [xI] at h
    cases h
    exact Nxt.pure X rfl hL ⟨_, _, rfl, rfl, hS⟩ hH hF (fun t z => XT.lconst (g := mkF m pc A Sc) X.here hx rfl hd z)
  | ldc k =>
    obtain rfl : len = 2 := by simpa [lenOk] using hlen
    simp only [xI] at h
    cases h
    have w1 := hWi (.constant d.name.cls k (Int32.ofInt b)) (List.mem_singleton.mpr rfl)
    exact Nxt.pure X rfl hL ⟨_, _, rfl, rfl, hS⟩ hH hF (fun t z => X.ldcInt hx hown (mvT hZ w1) (g := mkF m pc A Sc) rfl hd t z)
  | ldc2_w k =>
    obtain rfl : len = 3 := by simpa [lenOk] using hlen
    simp only [xI] at h
    cases h
    have w1 := hWi (.constantLong d.name.cls k (Int64.ofInt b)) (List.mem_singleton.mpr rfl)
    exact Nxt.pure X rfl hL ⟨_, _, rfl, rfl, hS⟩ hH hF (fun t z => X.ldc2Long hx hown (mvT hZ w1) (g := mkF m pc A Sc) rfl hd t z)
  | iadd =>
    obtain rfl : len = 1 := by simpa [lenOk] using hlen
    simp only [xI] at h
    split at h
    · rename_i y x S0
      cases h
      obtain ⟨S1, rfl, h1⟩ := hS.int
      obtain ⟨S2, rfl, h2⟩ := h1.int
      exact Nxt.pure X rfl hL ⟨_, _, rfl, rfl, h2⟩ hH hF (fun t z => XS.iadd (g := mkF m pc A _) X.here hx rfl hd rfl z)
    · cases h
  | isub =>
    obtain rfl : len = 1 := by simpa [lenOk] using hlen
    simp only [xI] at h
    split at h
    · rename_i y x S0
      cases h
      obtain ⟨S1, rfl, h1⟩ := hS.int
      obtain ⟨S2, rfl, h2⟩ := h1.int
      exact Nxt.pure X rfl hL ⟨_, _, rfl, rfl, h2⟩ hH hF (fun t z => XS.isub (g := mkF m pc A _) X.here hx rfl hd rfl z)
    · cases h
  | imul =>
    obtain rfl : len = 1 := by simpa [lenOk] using hlen
    simp only [xI] at h
    split at h
    · rename_i y x S0
      cases h
      obtain ⟨S1, rfl, h1⟩ := hS.int
      obtain ⟨S2, rfl, h2⟩ := h1.int
      exact Nxt.pure X rfl hL ⟨_, _, rfl, rfl, h2⟩ hH hF (fun t z => XS.imul (g := mkF m pc A _) X.here hx rfl hd rfl z)
    · cases h
  | iand =>
    obtain rfl : len = 1 := by simpa [lenOk] using hlen
    simp only [xI] at h
    split at h
    · rename_i y x S0
      cases h
      obtain ⟨S1, rfl, h1⟩ := hS.int
      obtain ⟨S2, rfl, h2⟩ := h1.int
      exact Nxt.pure X rfl hL ⟨_, _, rfl, rfl, h2⟩ hH hF (fun t z => XS.iand (g := mkF m pc A _) X.here hx rfl hd rfl z)
    · cases h
  | ior =>
    obtain rfl : len = 1 := by simpa [lenOk] using hlen
    simp only [xI] at h
    split at h
    · rename_i y x S0
      cases h
      obtain ⟨S1, rfl, h1⟩ := hS.int
      obtain ⟨S2, rfl, h2⟩ := h1.int
      exact Nxt.pure X rfl hL ⟨_, _, rfl, rfl, h2⟩ hH hF (fun t z => XT.ior (g := mkF m pc A _) X.here hx rfl hd rfl z)
    · cases h
  | ixor =>
    obtain rfl : len = 1 := by simpa [lenOk] using hlen
    simp only [xI] at h
    split at h
    · rename_i y x S0
      cases h
      obtain ⟨S1, rfl, h1⟩ := hS.int
      obtain ⟨S2, rfl, h2⟩ := h1.int
      exact Nxt.pure X rfl hL ⟨_, _, rfl, rfl, h2⟩ hH hF (fun t z => XT.ixor (g := mkF m pc A _) X.here hx rfl hd rfl z)
    · cases h
  | ishl =>
    obtain rfl : len = 1 := by simpa [lenOk] using hlen
    simp only [xI] at h
    split at h
    · rename_i y x S0
      cases h
      obtain ⟨S1, rfl, h1⟩ := hS.int
      obtain ⟨S2, rfl, h2⟩ := h1.int
      exact Nxt.pure X rfl hL ⟨_, _, rfl, rfl, h2⟩ hH hF (fun t z => XT.ishl (g := mkF m pc A _) X.here hx rfl hd rfl z)
    · cases h
  | ishr =>
    obtain rfl : len = 1 := by simpa [lenOk] using hlen
    simp only [xI] at h
    split at h
    · rename_i y x S0
      cases h
      obtain ⟨S1, rfl, h1⟩ := hS.int
      obtain ⟨S2, rfl, h2⟩ := h1.int
      exact Nxt.pure X rfl hL ⟨_, _, rfl, rfl, h2⟩ hH hF (fun t z => XT.ishr (g := mkF m pc A _) X.here hx rfl hd rfl z)
    · cases h
  | iushr =>
    obtain rfl : len = 1 := by simpa [lenOk] using hlen
    simp only [xI] at h
    split at h
    · rename_i y x S0
      cases h
      obtain ⟨S1, rfl, h1⟩ := hS.int
      obtain ⟨S2, rfl, h2⟩ := h1.int
      exact Nxt.pure X rfl hL ⟨_, _, rfl, rfl, h2⟩ hH hF (fun t z => XT.iushr (g := mkF m pc A _) X.here hx rfl hd rfl z)
    · cases h
  | ladd =>
    obtain rfl : len = 1 := by simpa [lenOk] using hlen
    simp only [xI] at h
    split at h
    · rename_i y x S0
      cases h
      obtain ⟨S1, rfl, h1⟩ := hS.long
      obtain ⟨S2, rfl, h2⟩ := h1.long
      exact Nxt.pure X rfl hL ⟨_, _, rfl, rfl, h2⟩ hH hF (fun t z => XT.ladd (g := mkF m pc A _) X.here hx rfl hd rfl z)
    · cases h
  | lsub =>
    obtain rfl : len = 1 := by simpa [lenOk] using hlen
    simp only [xI] at h
    split at h
    · rename_i y x S0
      cases h
      obtain ⟨S1, rfl, h1⟩ := hS.long
      obtain ⟨S2, rfl, h2⟩ := h1.long
      exact Nxt.pure X rfl hL ⟨_, _, rfl, rfl, h2⟩ hH hF (fun t z => XT.lsub (g := mkF m pc A _) X.here hx rfl hd rfl z)
    · cases h
  | lmul =>
    obtain rfl : len = 1 := by simpa [lenOk] using hlen
    simp only [xI] at h
    split at h
    · rename_i y x S0
      cases h
      obtain ⟨S1, rfl, h1⟩ := hS.long
      obtain ⟨S2, rfl, h2⟩ := h1.long
      exact Nxt.pure X rfl hL ⟨_, _, rfl, rfl, h2⟩ hH hF (fun t z => XT.lmul (g := mkF m pc A _) X.here hx rfl hd rfl z)
    · cases h
  | land =>
    obtain rfl : len = 1 := by simpa [lenOk] using hlen
    simp only [xI] at h
    split at h
    · rename_i y x S0
      cases h
      obtain ⟨S1, rfl, h1⟩ := hS.long
      obtain ⟨S2, rfl, h2⟩ := h1.long
      exact Nxt.pure X rfl hL ⟨_, _, rfl, rfl, h2⟩ hH hF (fun t z => XT.land (g := mkF m pc A _) X.here hx rfl hd rfl z)
    · cases h
  | lor =>
    obtain rfl : len = 1 := by simpa [lenOk] using hlen
    simp only [xI] at h
    split at h
    · rename_i y x S0
      cases h
      obtain ⟨S1, rfl, h1⟩ := hS.long
      obtain ⟨S2, rfl, h2⟩ := h1.long
      exact Nxt.pure X rfl hL ⟨_, _, rfl, rfl, h2⟩ hH hF (fun t z => XT.lor (g := mkF m pc A _) X.here hx rfl hd rfl z)
    · cases h
  | lxor =>
    obtain rfl : len = 1 := by simpa [lenOk] using hlen
    simp only [xI] at h
    split at h
    · rename_i y x S0
      cases h
      obtain ⟨S1, rfl, h1⟩ := hS.long
      obtain ⟨S2, rfl, h2⟩ := h1.long
      exact Nxt.pure X rfl hL ⟨_, _, rfl, rfl, h2⟩ hH hF (fun t z => XT.lxor (g := mkF m pc A _) X.here hx rfl hd rfl z)
    · cases h
  | lcmp =>
    obtain rfl : len = 1 := by simpa [lenOk] using hlen
    simp only [xI] at h
    split at h
    · rename_i y x S0
      cases h
      obtain ⟨S1, rfl, h1⟩ := hS.long
      obtain ⟨S2, rfl, h2⟩ := h1.long
      exact Nxt.pure X rfl hL ⟨_, _, rfl, rfl, h2⟩ hH hF (fun t z => XT.lcmp (g := mkF m pc A _) X.here hx rfl hd rfl z)
    · cases h
  | lshl =>
    obtain rfl : len = 1 := by simpa [lenOk] using hlen
    simp only [xI] at h
    split at h
    · rename_i y x S0
      cases h
      obtain ⟨S1, rfl, h1⟩ := hS.int
      obtain ⟨S2, rfl, h2⟩ := h1.long
      exact Nxt.pure X rfl hL ⟨_, _, rfl, rfl, h2⟩ hH hF (fun t z => XT.lshl (g := mkF m pc A _) X.here hx rfl hd rfl z)
    · cases h
  | lshr =>
    obtain rfl : len = 1 := by simpa [lenOk] using hlen
    simp only [xI] at h
    split at h
    · rename_i y x S0
      cases h
      obtain ⟨S1, rfl, h1⟩ := hS.int
      obtain ⟨S2, rfl, h2⟩ := h1.long
      exact Nxt.pure X rfl hL ⟨_, _, rfl, rfl, h2⟩ hH hF (fun t z => XT.lshr (g := mkF m pc A _) X.here hx rfl hd rfl z)
    · cases h
  | lushr =>
    obtain rfl : len = 1 := by simpa [lenOk] using hlen
    simp only [xI] at h
    split at h
    · rename_i y x S0
      cases h
      obtain ⟨S1, rfl, h1⟩ := hS.int
      obtain ⟨S2, rfl, h2⟩ := h1.long
      exact Nxt.pure X rfl hL ⟨_, _, rfl, rfl, h2⟩ hH hF (fun t z => XT.lushr (g := mkF m pc A _) X.here hx rfl hd rfl z)
    · cases h
  | idiv =>
    obtain rfl : len = 1 := by simpa [lenOk] using hlen
    simp only [xI] at h
    split at h
    · rename_i y x S0
      split at h
      · cases h
      · rename_i hy
        cases h
        obtain ⟨S1, rfl, h1⟩ := hS.int
        obtain ⟨S2, rfl, h2⟩ := h1.int
        exact Nxt.pure X rfl hL ⟨_, _, rfl, rfl, h2⟩ hH hF (fun t z => XS.idiv (g := mkF m pc A _) X.here hx rfl hd rfl hy z)
    · cases h
  | irem =>
    obtain rfl : len = 1 := by simpa [lenOk] using hlen
    simp only [xI] at h
    split at h
    · rename_i y x S0
      split at h
      · cases h
      · rename_i hy
        cases h
        obtain ⟨S1, rfl, h1⟩ := hS.int
        obtain ⟨S2, rfl, h2⟩ := h1.int
        exact Nxt.pure X rfl hL ⟨_, _, rfl, rfl, h2⟩ hH hF (fun t z => iremM (g := mkF m pc A _) X hx rfl hd rfl hy z)
    · cases h
  | ldiv =>
    obtain rfl : len = 1 := by simpa [lenOk] using hlen
    simp only [xI] at h
    split at h
    · rename_i y x S0
      split at h
      · cases h
      · rename_i hy
        cases h
        obtain ⟨S1, rfl, h1⟩ := hS.long
        obtain ⟨S2, rfl, h2⟩ := h1.long
        exact Nxt.pure X rfl hL ⟨_, _, rfl, rfl, h2⟩ hH hF (fun t z => XT.ldiv (g := mkF m pc A _) X.here hx rfl hd rfl hy z)
    · cases h
  | lrem =>
    obtain rfl : len = 1 := by simpa [lenOk] using hlen
    simp only [xI] at h
    split at h
    · rename_i y x S0
      split at h
      · cases h
      · rename_i hy
        cases h
        obtain ⟨S1, rfl, h1⟩ := hS.long
        obtain ⟨S2, rfl, h2⟩ := h1.long
        exact Nxt.pure X rfl hL ⟨_, _, rfl, rfl, h2⟩ hH hF (fun t z => XT.lrem (g := mkF m pc A _) X.here hx rfl hd rfl hy (by rw [lrem_mod]; exact z))
    · cases h
  | i2l =>
    obtain rfl : len = 1 := by simpa [lenOk] using hlen
    simp only [xI] at h
    split at h
    · rename_i x S0
      cases h
      obtain ⟨S1, rfl, h1⟩ := hS.int
      exact Nxt.pure X rfl hL ⟨_, _, rfl, rfl, h1⟩ hH hF (fun t z => XT.i2l (g := mkF m pc A _) X.here hx rfl hd rfl z)
    · cases h
  | l2i =>
    obtain rfl : len = 1 := by simpa [lenOk] using hlen
    simp only [xI] at h
    split at h
    · rename_i x S0
      cases h
      obtain ⟨S1, rfl, h1⟩ := hS.long
      exact Nxt.pure X rfl hL ⟨_, _, rfl, rfl, h1⟩ hH hF (fun t z => XT.l2i (g := mkF m pc A _) X.here hx rfl hd rfl z)
    · cases h
  | dup =>
    obtain rfl : len = 1 := by simpa [lenOk] using hlen
    simp only [xI] at h
    split at h
    · rename_i x S0
      cases h
      obtain ⟨S1, rfl, h1⟩ := hS.int
      exact Nxt.pure X rfl hL ⟨_, _, rfl, rfl, _, _, rfl, rfl, h1⟩ hH hF (fun t z => XS.dup (g := mkF m pc A _) X.here hx rfl hd rfl rfl z)
    · rename_i x S0
      cases h
      obtain ⟨ad, S1, g1, rfl, h1⟩ := hS.ref
      exact Nxt.pure X rfl hL ⟨_, _, rfl, ⟨ad, g1, rfl⟩, _, _, rfl, ⟨ad, g1, rfl⟩, h1⟩ hH hF (fun t z => XS.dup (g := mkF m pc A _) X.here hx rfl hd rfl rfl z)
    · cases h
  | dup2 =>
    obtain rfl : len = 1 := by simpa [lenOk] using hlen
    simp only [xI] at h
    split at h
    · rename_i x y S0
      cases h
      obtain ⟨S1, rfl, h1⟩ := hS.int
      obtain ⟨ad, S2, g1, rfl, h2⟩ := h1.ref
      exact Nxt.pure X rfl hL ⟨_, _, rfl, rfl, _, _, rfl, ⟨ad, g1, rfl⟩, _, _, rfl, rfl, _, _, rfl, ⟨ad, g1, rfl⟩, h2⟩ hH hF (fun t z => XT.dup2 (g := mkF m pc A _) X.here hx rfl hd rfl rfl rfl z)
    · rename_i x S0
      cases h
      obtain ⟨S1, rfl, h1⟩ := hS.long
      exact Nxt.pure X rfl hL ⟨_, _, rfl, rfl, _, _, rfl, rfl, h1⟩ hH hF (fun t z => XT.dup2L (g := mkF m pc A _) X.here hx rfl hd rfl z)
    · cases h
  | pop =>
    obtain rfl : len = 1 := by simpa [lenOk] using hlen
    simp only [xI] at h
    split at h
    · rename_i x S0
      cases h
      obtain ⟨S1, rfl, h1⟩ := hS.int
      exact Nxt.pure X rfl hL h1 hH hF (fun t z => XT.pop (g := mkF m pc A _) X.here hx rfl hd rfl rfl z)
    · cases h
  | getfield k =>
    obtain rfl : len = 3 := by simpa [lenOk] using hlen
    simp only [xI] at h
    split at h
    · rename_i o S0
      obtain ⟨ad, S1, g1, rfl, h1⟩ := hS.ref
      split at h
      · rename_i c0 fs hc0
        split at h
        · rename_i ec
          subst ec
          obtain ⟨ad', g2, cd, q1, q2, q3, q4⟩ := hH.at hc0
          rw [g1] at g2; cases g2
          have hcd := cid_of hP hdm q1
          have core : ∀ v, fs[a]? = some v → ∃ w T2, VR ρ v w ∧ Stand p l e R s m args below meth c T2 locs cells slots ∧ T2.heap = T.heap ∧ ∀ target, Steps p.tables e below (T2.setTop (mkF m (pc + 3) A (w :: S1))) target → Steps p.tables e below (T.setTop (mkF m pc A (.ref ad :: S1))) target := fun v hv => by
            have ha : a < cd.2.2.length := by rw [← q3]; exact (List.getElem?_eq_some_iff.mp hv).1
            obtain ⟨w, hvw, F⟩ := q4 a v _ hv (List.getElem?_eq_getElem ha)
            have w1 := hWi (.fieldLink d.name.cls k d.name.cls cd.2.2[a].1 cd.2.2[a].2.1) (by
              show _ ∈ fLink P d k a
              unfold fLink
              rw [fieldOf_spec q1 (List.getElem?_eq_getElem ha)]
              exact List.mem_singleton.mpr rfl)
            rw [hcd] at F
            obtain ⟨T2, X2, e2, st2⟩ := getF X hx hZ hown (host := "") (Or.inl w1) Via.refl rfl F (g := mkF m pc A (.ref ad :: S1)) rfl rfl hd
            exact ⟨w, T2, hvw, X2, e2, st2⟩
          split at h
          · rename_i x hv
            cases h
            obtain ⟨w, T2, hvw, X2, e2, st2⟩ := core _ hv
            exact Nxt.mem X2 rfl hL ⟨_, _, rfl, hvw, h1⟩ (by rw [e2]; exact hH) hF st2
          · rename_i x hv
            cases h
            obtain ⟨w, T2, hvw, X2, e2, st2⟩ := core _ hv
            exact Nxt.mem X2 rfl hL ⟨_, _, rfl, hvw, h1⟩ (by rw [e2]; exact hH) hF st2
          · rename_i x hv
            cases h
            obtain ⟨w, T2, hvw, X2, e2, st2⟩ := core _ hv
            exact Nxt.mem X2 rfl hL ⟨_, _, rfl, hvw, h1⟩ (by rw [e2]; exact hH) hF st2
          · cases h
        · cases h
      · cases h
    · cases h
  | putfield k =>
    obtain rfl : len = 3 := by simpa [lenOk] using hlen
    simp only [xI] at h
    split at h
    · rename_i v o S0
      obtain ⟨w, Sx, rfl, hvw, hS1⟩ := hS
      obtain ⟨ad, S1, g1, rfl, h1⟩ := hS1.ref
      split at h
      · rename_i c0 fs hc0
        split at h
        · rename_i ec
          obtain ⟨ec, enr⟩ := ec
          subst ec
          split at h
          · rename_i nm ds ty fin hf
            split at h
            · rename_i hok
              cases h
              simp only [Bool.and_eq_true] at hok
              obtain ⟨hok, hfin⟩ := hok
              obtain ⟨ad', g2, cd, q1, q2, q3, q4⟩ := hH.at hc0
              rw [g1] at g2; cases g2
              have hcd := cid_of hP hdm q1
              rw [q1] at hf
              have hf' : cd.2.2[a]? = some (nm, ds, ty, fin) := hf
              have ha : a < fs.length := by rw [q3]; exact (List.getElem?_eq_some_iff.mp hf').1
              obtain ⟨w0, -, F⟩ := q4 a _ _ (List.getElem?_eq_getElem ha) hf'
              have w1 := hWi (.fieldLink d.name.cls k d.name.cls nm ds) (by
                show _ ∈ fLink P d k a
                unfold fLink
                rw [fieldOf_spec q1 hf']
                exact List.mem_singleton.mpr rfl)
              have hcm : cd ∈ P.cls := List.mem_of_getElem? q1
              have w2 := hW _ (in_wordsC hcm (fWord_in (List.mem_of_getElem? hf')))
              have w3 := hW (.instantiable cd.1 cd.2.1) (in_wordsC hcm (List.mem_cons_self ..))
              have hck := cChk_of hP hcm
              have hck' := hck
              simp only [cChk, Bool.and_eq_true, List.all_eq_true] at hck'
              have f1 := hck'.2 _ (List.mem_of_getElem? hf')
              simp only [fChk, Bool.and_eq_true, decide_eq_true_eq] at f1
              obtain ⟨p1, p2⟩ := putOk_sim hok hvw
              have Ly : (Jvm.Cond.lays cd.1 cd.1 nm ds).before a0 Z = true ∨ ((Jvm.Cond.laysFinal cd.1 cd.1 nm ds).before a0 Z = true ∧ d.name.cls = cd.1 ∧ meth.name = "<init>") := by
                unfold fWord at w2
                cases fin with
                | false => exact Or.inl w2
                | true => exact Or.inr ⟨w2, hcd.symm, by rw [hnm]; simpa using hfin⟩
              obtain ⟨T2, h2, X2, e2, W2, st2⟩ := putF X hx hZ hown (host := "") (R0 := d.name.cls) (O := cd.1) (Or.inl w1) (by rw [hcd]; exact Via.refl) rfl F q2 Ly w3 f1.1 p1 p2 (g := mkF m pc A (w :: .ref ad :: S1)) rfl rfl hd
              have hH2 := hH.putF (a0 := a0) g1 hc0 q1 hf' hck (fun f hfm => hW _ (in_wordsC hcm (fWord_in hfm))) W2 hvw
              exact Nxt.mem X2 rfl hL h1 (by rw [e2]; exact hH2) (Fr.snoc X2 hF (hH.2.2.2.1 _ _ g1 enr)) st2
            · cases h
          · cases h
        · cases h
      · cases h
    · cases h
  | iaload =>
    obtain rfl : len = 1 := by simpa [lenOk] using hlen
    simp only [xI] at h
    split at h
    · rename_i j o S0
      obtain ⟨S1, rfl, h1⟩ := hS.int
      obtain ⟨ad, S2, g1, rfl, h2⟩ := h1.ref
      split at h
      · rename_i B hc0
        obtain ⟨x, q, e1⟩ := Option.map_eq_some_iff.mp h
        cases e1
        obtain ⟨hj, hat⟩ := rdA_spec q
        obtain ⟨ad', g2, cl, Ar, z1, z2, z3⟩ := hH.at hc0
        rw [g1] at g2; cases g2
        have hin : ¬ (j < 0 ∨ cl.slots.size ≤ j.toNatClampNeg) := by
          have := (List.getElem?_eq_some_iff.mp hat).1
          rintro (y | y)
          · exact hj y
          · omega
        exact Nxt.pure X rfl hL ⟨_, _, rfl, rfl, h2⟩ hH hF (fun t z => X.iaload hx (j := j) (v := .int x) Ar.1 (State.isArrayOf_alike hZ.alike Ar.2.1) Ar.2.2 hin (z3 _ _ hat) (g := mkF m pc A _) rfl rfl hd t z)
      · cases h
    · cases h
  | baload =>
    obtain rfl : len = 1 := by simpa [lenOk] using hlen
    simp only [xI] at h
    split at h
    · rename_i j o S0
      obtain ⟨S1, rfl, h1⟩ := hS.int
      obtain ⟨ad, S2, g1, rfl, h2⟩ := h1.ref
      split at h
      · rename_i B hc0
        obtain ⟨x, q, e1⟩ := Option.map_eq_some_iff.mp h
        cases e1
        obtain ⟨hj, hat⟩ := rdA_spec q
        obtain ⟨ad', g2, cl, Ar, z1, z2, z3⟩ := hH.at hc0
        rw [g1] at g2; cases g2
        have hin : ¬ (j < 0 ∨ cl.slots.size ≤ j.toNatClampNeg) := by
          have := (List.getElem?_eq_some_iff.mp hat).1
          rintro (y | y)
          · exact hj y
          · omega
        exact Nxt.pure X rfl hL ⟨_, _, rfl, rfl, h2⟩ hH hF (fun t z => X.baloadBooleans hx (j := j) (v := .int x) Ar.1 (State.isArrayOf_alike hZ.alike Ar.2.1) Ar.2.2 hin (z3 _ _ hat) (g := mkF m pc A _) rfl rfl hd t z)
      · cases h
    · cases h
  | laload =>
    obtain rfl : len = 1 := by simpa [lenOk] using hlen
    simp only [xI] at h
    split at h
    · rename_i j o S0
      obtain ⟨S1, rfl, h1⟩ := hS.int
      obtain ⟨ad, S2, g1, rfl, h2⟩ := h1.ref
      split at h
      · rename_i B hc0
        obtain ⟨x, q, e1⟩ := Option.map_eq_some_iff.mp h
        cases e1
        obtain ⟨hj, hat⟩ := rdA_spec q
        obtain ⟨ad', g2, cl, Ar, z1, z2, z3⟩ := hH.at hc0
        rw [g1] at g2; cases g2
        have hin : ¬ (j < 0 ∨ cl.slots.size ≤ j.toNatClampNeg) := by
          have := (List.getElem?_eq_some_iff.mp hat).1
          rintro (y | y)
          · exact hj y
          · omega
        exact Nxt.pure X rfl hL ⟨_, _, rfl, rfl, h2⟩ hH hF (fun t z => X.laload hx (j := j) (v := .long x) Ar.1 (State.isArrayOf_alike hZ.alike Ar.2.1) Ar.2.2 hin (z3 _ _ hat) (g := mkF m pc A _) rfl rfl hd t z)
      · cases h
    · cases h
  | iastore =>
    obtain rfl : len = 1 := by simpa [lenOk] using hlen
    simp only [xI] at h
    split at h
    · rename_i x j o S0
      obtain ⟨S1, rfl, h1⟩ := hS.int
      obtain ⟨S2, rfl, h2⟩ := h1.int
      obtain ⟨ad, S3, g1, rfl, h3⟩ := h2.ref
      split at h
      · rename_i B hc0
        split at h
        · rename_i enr
          obtain ⟨B', q, e1⟩ := Option.map_eq_some_iff.mp h
          cases e1
          obtain ⟨hj, hlt, rfl⟩ := wrA_spec q
          obtain ⟨ad', g2, cl, Ar, z1, z2, z3⟩ := hH.at hc0
          rw [g1] at g2; cases g2
          have hin : ¬ (j < 0 ∨ cl.slots.size ≤ j.toNatClampNeg) := by
            rintro (y | y)
            · exact hj y
            · omega
          obtain ⟨T2, h2', X2, e2, W2, st2⟩ := stI X hx hZ rfl Ar (j := j) (x := x) hin (g := mkF m pc A _) rfl rfl hd
          exact Nxt.mem X2 rfl hL h3 (by rw [e2]; exact hH.wrI g1 hc0 W2) (Fr.snoc X2 hF (hH.2.2.2.1 _ _ g1 enr)) st2
        · cases h
      · cases h
    · cases h
  | bastore =>
    obtain rfl : len = 1 := by simpa [lenOk] using hlen
    simp only [xI] at h
    split at h
    · rename_i x j o S0
      obtain ⟨S1, rfl, h1⟩ := hS.int
      obtain ⟨S2, rfl, h2⟩ := h1.int
      obtain ⟨ad, S3, g1, rfl, h3⟩ := h2.ref
      split at h
      · rename_i B hc0
        split at h
        · rename_i enr
          obtain ⟨B', q, e1⟩ := Option.map_eq_some_iff.mp h
          cases e1
          obtain ⟨hj, hlt, rfl⟩ := wrA_spec q
          obtain ⟨ad', g2, cl, Ar, z1, z2, z3⟩ := hH.at hc0
          rw [g1] at g2; cases g2
          have hin : ¬ (j < 0 ∨ cl.slots.size ≤ j.toNatClampNeg) := by
            rintro (y | y)
            · exact hj y
            · omega
          obtain ⟨T2, h2', X2, e2, W2, st2⟩ := stZ X hx hZ rfl Ar (j := j) (x := x) hin (g := mkF m pc A _) rfl rfl hd
          exact Nxt.mem X2 rfl hL h3 (by rw [e2]; exact hH.wrI g1 hc0 W2) (Fr.snoc X2 hF (hH.2.2.2.1 _ _ g1 enr)) st2
        · cases h
      · cases h
    · cases h
  | lastore =>
    obtain rfl : len = 1 := by simpa [lenOk] using hlen
    simp only [xI] at h
    split at h
    · rename_i x j o S0
      obtain ⟨S1, rfl, h1⟩ := hS.long
      obtain ⟨S2, rfl, h2⟩ := h1.int
      obtain ⟨ad, S3, g1, rfl, h3⟩ := h2.ref
      split at h
      · rename_i B hc0
        split at h
        · rename_i enr
          obtain ⟨B', q, e1⟩ := Option.map_eq_some_iff.mp h
          cases e1
          obtain ⟨hj, hlt, rfl⟩ := wrA_spec q
          obtain ⟨ad', g2, cl, Ar, z1, z2, z3⟩ := hH.at hc0
          rw [g1] at g2; cases g2
          have hin : ¬ (j < 0 ∨ cl.slots.size ≤ j.toNatClampNeg) := by
            rintro (y | y)
            · exact hj y
            · omega
          obtain ⟨T2, h2', X2, e2, W2, st2⟩ := stJ X hx hZ rfl Ar (j := j) (x := x) hin (g := mkF m pc A _) rfl rfl hd
          exact Nxt.mem X2 rfl hL h3 (by rw [e2]; exact hH.wrJ g1 hc0 W2) (Fr.snoc X2 hF (hH.2.2.2.1 _ _ g1 enr)) st2
        · cases h
      · cases h
    · cases h
  | arraylength =>
    obtain rfl : len = 1 := by simpa [lenOk] using hlen
    simp only [xI] at h
    split at h
    · rename_i o S0
      obtain ⟨ad, S1, g1, rfl, h1⟩ := hS.ref
      split at h
      · rename_i bb B hc0
        cases h
        obtain ⟨ad', g2, cl, Ar, z1, z2, z3⟩ := hH.at hc0
        rw [g1] at g2; cases g2
        exact Nxt.pure X rfl hL ⟨_, _, rfl, rfl, h1⟩ hH hF (fun t z => X.arraylength hx (cell := cl) Ar.1 (State.isArrayOf_alike hZ.alike Ar.2.1) (g := mkF m pc A _) rfl rfl hd t (by rw [z1]; exact z))
      · cases h
    · cases h
  | _ => simp [xI] at h
set_option maxHeartbeats 4000000 in
theorem stepN (X : Stand p l e R s m args below meth c T locs cells slots) (hx : p.tables.exec = Jvm.exec) (hZ : Z.Warmed39 s.vm) (hown : s.vm.findClass d.name.cls = some m.cls) (hP : chk P = true) (hW : ∀ w ∈ wordsOf P, w.before a0 Z = true) (hdm : d ∈ P.mth)
    {pc len a ks : Nat} {er : List Bool} {b : Int} {i : Instr} (hit : (pc, i, len, er, a, b) ∈ d.code) (hd : decode c.code pc = .ok (i, len)) (hlen : lenOk i len = true) {ρ : List Addr} {S S' Sc : List Value} {H H1 : AHeap} {A : Array Slot}
    (hS : SR ρ S Sc) (hH : HR P Z n0 T.heap ρ H) (h : xN P i a S H = some (S', H1, ks)) (hc : cells + 1 ≤ R.cells) (hl : slots + ks ≤ R.slots) :
    ∃ T' ad Sc', Stand p l e R s m args below meth c T' locs (cells + 1) (slots + ks) ∧ SR (ρ ++ [ad]) S' Sc' ∧ HR P Z n0 T'.heap (ρ ++ [ad]) H1 ∧
      ∀ target, Steps p.tables e below (T'.setTop (mkF m (pc + len) A Sc')) target → Steps p.tables e below (T.setTop (mkF m pc A Sc)) target := by
  have hWi : ∀ w ∈ iWords P d (pc, i, len, er, a, b), w.before a0 Z = true := fun w q => hW w (in_wordsOf hdm hit q)
  cases i with
  | new k =>
    obtain rfl : len = 3 := by simpa [lenOk] using hlen
    simp only [xN] at h
    split at h
    · rename_i cd q1
      cases h
      have hcm : cd ∈ P.cls := List.mem_of_getElem? q1
      have w1 := hWi (.classLink d.name.cls k cd.1) (by simp only [iWords, q1]; exact List.mem_singleton.mpr rfl)
      have w2 := hW (.instantiable cd.1 cd.2.1) (in_wordsC hcm (List.mem_cons_self ..))
      have w3 := hW (.initialized cd.1) (in_wordsC hcm (List.mem_cons_of_mem _ (List.mem_cons_self ..)))
      obtain ⟨T2, h2, X2, e2, E2, A2, D2, -, st2⟩ := newO X hx hZ hown w1 w2 w3 rfl (g := mkF m pc A Sc) rfl hd hc hl
      have hck := cChk_of hP hcm
      simp only [cChk, Bool.and_eq_true, List.all_eq_true] at hck
      have hcr : CR P Z h2 (ρ ++ [T.heap.size]) T.heap.size (.inl (a, cd.2.2.map fun f => dflt f.2.2.1)) := by
        refine ⟨cd, q1, A2, by simp, fun j v fd y1 y2 => ?_⟩
        rw [List.getElem?_map, y2] at y1
        cases y1
        have f1 := hck.2 _ (List.mem_of_getElem? y2)
        simp only [fChk, Bool.and_eq_true, decide_eq_true_eq] at f1
        exact ⟨_, dflt_sim f1.2, D2 (laid_of (hW _ (in_wordsC hcm (fWord_in (List.mem_of_getElem? y2))))) f1.1⟩
      refine ⟨T2, T.heap.size, _, X2, ⟨_, _, rfl, ⟨T.heap.size, ?_, rfl⟩, hS.mono⟩, (by rw [e2]; exact hH.push E2 hcr), st2⟩
      rw [← hH.2.1]; simp
    · cases h
  | newarray t =>
    obtain rfl : len = 2 := by simpa [lenOk] using hlen
    simp only [xN] at h
    split at h
    · rename_i n S0
      obtain ⟨S1, rfl, h1⟩ := hS.int
      split at h
      · cases h
      · rename_i hn
        have hn1 : ¬ n < 0 := fun z => hn (Or.inl z)
        have hn2 : n.toNatClampNeg ≤ 100000 := Nat.le_of_not_lt fun z => hn (Or.inr z)
        have w1 := hWi (.arrayClass (newarray.typeOf t)) (List.mem_singleton.mpr rfl)
        have top : (ρ ++ [T.heap.size])[H.length]? = some T.heap.size := by rw [← hH.2.1]; simp
        split at h
        · cases h
          obtain ⟨T2, h2, cA, X2, e2, E2, A2, st2⟩ := newP X hx hZ w1 rfl (g := mkF m pc A _) rfl hd rfl hn1 (cap := n.toNatClampNeg) (Nat.le_refl _) (by omega) hc hl
          have hcr : CR P Z h2 (ρ ++ [T.heap.size]) T.heap.size ((.inr (.inl (false, List.replicate n.toNatClampNeg 0)) : ACell)) := by
            refine ⟨_, A2, by simp [sz_new], by simp; omega, fun j x y => ?_⟩
            rw [List.getElem?_replicate] at y
            split at y
            · rename_i lt
              cases y
              simp [newA, lt, newarray.typeOf, defaultValue]
            · cases y
          exact ⟨T2, T.heap.size, _, X2, ⟨_, _, rfl, ⟨T.heap.size, top, rfl⟩, h1.mono⟩, (by rw [e2]; exact hH.push E2 hcr), st2⟩
        · cases h
          obtain ⟨T2, h2, cA, X2, e2, E2, A2, st2⟩ := newP X hx hZ w1 rfl (g := mkF m pc A _) rfl hd rfl hn1 (cap := n.toNatClampNeg) (Nat.le_refl _) (by omega) hc hl
          have hcr : CR P Z h2 (ρ ++ [T.heap.size]) T.heap.size ((.inr (.inl (true, List.replicate n.toNatClampNeg 0)) : ACell)) := by
            refine ⟨_, A2, by simp [sz_new], by simp; omega, fun j x y => ?_⟩
            rw [List.getElem?_replicate] at y
            split at y
            · rename_i lt
              cases y
              simp [newA, lt, newarray.typeOf, defaultValue]
            · cases y
          exact ⟨T2, T.heap.size, _, X2, ⟨_, _, rfl, ⟨T.heap.size, top, rfl⟩, h1.mono⟩, (by rw [e2]; exact hH.push E2 hcr), st2⟩
        · cases h
          obtain ⟨T2, h2, cA, X2, e2, E2, A2, st2⟩ := newP X hx hZ w1 rfl (g := mkF m pc A _) rfl hd rfl hn1 (cap := n.toNatClampNeg) (Nat.le_refl _) (by omega) hc hl
          have hcr : CR P Z h2 (ρ ++ [T.heap.size]) T.heap.size ((.inr (.inr (List.replicate n.toNatClampNeg 0)) : ACell)) := by
            refine ⟨_, A2, by simp [sz_new], by simp; omega, fun j x y => ?_⟩
            rw [List.getElem?_replicate] at y
            split at y
            · rename_i lt
              cases y
              simp [newA, lt, newarray.typeOf, defaultValue]
            · cases y
          exact ⟨T2, T.heap.size, _, X2, ⟨_, _, rfl, ⟨T.heap.size, top, rfl⟩, h1.mono⟩, (by rw [e2]; exact hH.push E2 hcr), st2⟩
        · cases h
    · cases h
  | _ => simp [xN] at h
end Step
end Jvm.Own
namespace Jvm.Own
open Jvm Jvm.ClassFile Sem Op Lib Jvm.Free Jvm.Stand Jvm.LawKit Jvm.RoadKit Bundle
theorem fetch_mem : ∀ {l : List (Nat × It)} {pc : Nat} {i : It}, fetch l pc = some i → (pc, i) ∈ l
  | [], _, _, h => by simp [fetch] at h
  | (q, j) :: r, pc, i, h => by
    unfold fetch at h
    split at h
    · rename_i e; cases h; subst e; exact List.mem_cons_self ..
    · exact List.mem_cons_of_mem _ (fetch_mem h)
theorem tgt_spec {pc q : Nat} {o : Int} (h : tgt pc o = some q) : 0 ≤ (pc : Int) + o ∧ ((pc : Int) + o).toNat = q := by
  unfold tgt at h
  split at h
  · rename_i z; cases h; exact ⟨z, rfl⟩
  · cases h
/-- the end of a method's run -/
def Done (P : PD) (Z : State) (n0 : Nat) (p : Program) (e : Env) (below : List Frame) (s : State) (ρ : List Addr) (v : Option Value) (H' : AHeap) (kc ks : Nat) (t0 : State) : Prop :=
  ∃ s₂ v' L' t, Steps p.tables e below t0 s₂ ∧ s₂.status = .running ∧ Ended s₂ below (.returned v') ∧ OV (ρ ++ t) v v' ∧ HR P Z n0 s₂.heap (ρ ++ t) H' ∧ Fr n0 L' ∧ FrameEnd s (.returned v') s₂ L' kc ks
def Cx (P : PD) (Z : State) (p : Program) (R : Room) (s : State) (m : MethodId) (meth : Method) (c : Code) (d : MD) : Prop :=
  p.tables.exec = Jvm.exec ∧ Z.Warmed39 s.vm ∧ c.code = d.bytes ∧ c.maxLocals = d.maxL ∧ s.vm.findClass d.name.cls = some m.cls ∧ meth.name = d.name.name ∧ meth.sig.returnType = d.ret ∧ meth.locks = false ∧ d.rf ≤ R.frames ∧ d.rw ≤ R.locals
/-- what the machine says of a run that has come to pc is what the model does -/
def Says (P : PD) (Z : State) (n0 : Nat) (l : Launch) (n : Nat) : Prop :=
  ∀ (mi pc : Nat) (L : List Slot) (S : List Value) (H : AHeap) (v : Option Value) (H' : AHeap) (kc ks : Nat), exe P n mi pc L S H = some (v, H', kc, ks) → ∀ d, P.mth[mi]? = some d →
    ∀ (p : Program) (e : Env) (R : Room) (s : State) (m : MethodId) (args : Array Value) (below : List Frame) (meth : Method) (c : Code) (T : State) (locs : List Loc) (cells slots : Nat),
      Stand p l e R s m args below meth c T locs cells slots → Cx P Z p R s m meth c d → cells + kc ≤ R.cells → slots + ks ≤ R.slots →
      ∀ (ρ : List Addr) (A : Array Slot) (Sc : List Value), LR ρ L A → L.length = d.maxL → SR ρ S Sc → HR P Z n0 T.heap ρ H → Fr n0 locs →
        Done P Z n0 p e below s ρ v H' (cells + kc) (slots + ks) (T.setTop (mkF m pc A Sc))
def QQ (P : PD) (Z : State) (n0 : Nat) (ρ : List Addr) (v : Option Value) (H1 : AHeap) (v' : Option Value) (h' : Heap) (L : List Loc) : Prop := Fr n0 L ∧ ∃ t, OV (ρ ++ t) v v' ∧ HR P Z n0 h' (ρ ++ t) H1
theorem met_of {P : PD} {Z : State} {n0 : Nat} {l : Launch} {n : Nat} (ih : Says P Z n0 l n) {j : Nat} {y : MD} (hy : P.mth[j]? = some y) (hpn : plainName y.name.cls = true) {as ws : List Value} {H H1 : AHeap} {v : Option Value} {kc ks : Nat} (he : exe P n j 0 (entL as y.maxL) [] H = some (v, H1, kc, ks)) {ρ : List Addr} (hS : SR ρ as ws) (hlen : (entA as).length ≤ y.maxL) {h : Heap} (hH : HR P Z n0 h ρ H) (w0 : List Jvm.Cond) (rm : Room) (r1 : y.rf ≤ rm.frames) (r2 : y.rw ≤ rm.locals) (r3 : kc ≤ rm.cells) (r4 : ks ≤ rm.slots) :
    MetFree l y.name (head1 (Jvm.Cond.code y.name y.bytes y.maxL y.ret :: w0) rm) (fun a U => a = ws.toArray ∧ Z.Warmed39 U.vm ∧ U.heap = h) (fun _ _ _ _ _ => True)
      (fun _ U o U' => ∃ v' L, o = .returned v' ∧ QQ P Z n0 ρ v H1 v' U'.heap L ∧ FrameEnd U o U' L kc ks) := by
  refine MetFree.of_bodySF (plainFor_of_name hpn) hisR ?_
  intro p e s m args below meth c s₁ Bd hml0 hP hK
  obtain ⟨rfl, hZ, hh⟩ := hP
  have X0 : Stand p l e rm s m ws.toArray below meth c s₁ [] 0 0 := Stand.of_body Bd
  have e0 : s₁.heap = h := by rw [← hh, Bd.state]; rfl
  obtain ⟨hL, hsz⟩ := LR.enter hS hlen
  have hLl : (entL as y.maxL).length = y.maxL := by rw [← hL.1]; exact hsz
  obtain ⟨s₂, v', L', t, h1, h2, h3, h4, h5, h6, h7⟩ := ih j 0 _ [] H v H1 kc ks he y hy p e _ s m ws.toArray below meth c s₁ [] 0 0 X0
    ⟨Bd.exec, hZ, Bd.bytes, hml0, findClass_of_methodNamed Bd.named, (name_of_methodNamed Bd.named Bd.method).1, Bd.returns, BodyLoose.notSynchronized Bd, r1, r2⟩
    (by rw [Nat.zero_add]; exact r3) (by rw [Nat.zero_add]; exact r4) ρ _ [] hL hLl rfl (by rw [e0]; exact hH) (Fr.nil n0)
  refine ⟨s₂, _, h1, h2, h3, v', L', rfl, ⟨h6, t, h4, h5⟩, ?_⟩
  rw [Nat.zero_add, Nat.zero_add] at h7
  exact h7
section Sound
variable {P : PD} {Z : State} {n0 : Nat} {a0 : Array Value} {l : Launch}
theorem Done.step {p : Program} {e : Env} {below : List Frame} {s : State} {ρ t : List Addr} {v : Option Value} {H' : AHeap} {kc ks : Nat} {t0 t1 : State} (h : Done P Z n0 p e below s (ρ ++ t) v H' kc ks t1) (k : ∀ target, Steps p.tables e below t1 target → Steps p.tables e below t0 target) : Done P Z n0 p e below s ρ v H' kc ks t0 := by
  obtain ⟨s₂, v', L', t', h1, h2, h3, h4, h5, h6, h7⟩ := h
  exact ⟨s₂, v', L', t ++ t', k _ h1, h2, h3, by rw [← List.append_assoc]; exact h4, by rw [← List.append_assoc]; exact h5, h6, h7⟩
theorem argsOf_spec {n : Nat} {S as rest : List Value} (h : argsOf n S = some (as, rest)) : n ≤ S.length ∧ as = (S.take n).reverse ∧ rest = S.drop n := by
  unfold argsOf at h
  split at h
  · rename_i z; cases h; exact ⟨z, rfl, rfl⟩
  · cases h
theorem res_ext {α : Type} {o : Option Res} {v : Option Value} {H' : AHeap} {kc ks c1 s1 : Nat} (h : (o.map fun r => addR r c1 s1) = some (v, H', kc, ks)) : ∃ kc' ks', o = some (v, H', kc', ks') ∧ kc = kc' + c1 ∧ ks = ks' + s1 := by
  obtain ⟨⟨v0, H0, c0, s0⟩, h1, h2⟩ := Option.map_eq_some_iff.mp h
  simp only [addR] at h2
  cases h2
  exact ⟨c0, s0, h1, rfl, rfl⟩
set_option maxHeartbeats 4000000 in
theorem sound (hP : chk P = true) (hW : ∀ w ∈ wordsOf P, w.before a0 Z = true) : ∀ n, Says P Z n0 l n
  | 0 => fun mi pc L S H v H' kc ks h => by simp [exe] at h
  | n + 1 => by
    have ih := sound hP hW n
    intro mi pc L S H v H' kc ks h d hmi
    unfold exe at h
    rw [hmi] at h
    simp only at h
    have hdm : d ∈ P.mth := List.mem_of_getElem? hmi
    split at h
    · cases h
    rename_i it i len er a b hft
    have hit := fetch_mem hft
    have hmc := mChk_of hP hdm
    simp only [mChk, Bool.and_eq_true] at hmc
    obtain ⟨⟨⟨⟨⟨⟨mc1, mc2⟩, mc3⟩, mc4⟩, mc5⟩, mc6⟩, mc7⟩ := hmc
    unfold codeChk at mc3
    rw [List.all_eq_true] at mc3
    have hci := mc3 _ hit
    simp only [Bool.and_eq_true, decide_eq_true_eq] at hci
    obtain ⟨hdec, hlenOk⟩ := hci
    -- a jump, or a fall through
    have jump : ∀ (q : Nat) (S1 : List Value) (h1 : exe P n mi q (forget er L) S1 H = some (v, H', kc, ks)),
        (∀ (p : Program) (e : Env) (R : Room) (s : State) (m : MethodId) (args : Array Value) (below : List Frame) (meth : Method) (c : Code) (T : State) (locs : List Loc) (cells slots : Nat),
          Stand p l e R s m args below meth c T locs cells slots → Cx P Z p R s m meth c d → ∀ (ρ : List Addr) (A : Array Slot) (Sc : List Value), LR ρ L A → SR ρ S Sc → ∃ Sc1, SR ρ S1 Sc1 ∧ ∀ target, Steps p.tables e below (T.setTop (mkF m q A Sc1)) target → Steps p.tables e below (T.setTop (mkF m pc A Sc)) target) →
        ∀ (p : Program) (e : Env) (R : Room) (s : State) (m : MethodId) (args : Array Value) (below : List Frame) (meth : Method) (c : Code) (T : State) (locs : List Loc) (cells slots : Nat),
          Stand p l e R s m args below meth c T locs cells slots → Cx P Z p R s m meth c d → cells + kc ≤ R.cells → slots + ks ≤ R.slots →
          ∀ (ρ : List Addr) (A : Array Slot) (Sc : List Value), LR ρ L A → L.length = d.maxL → SR ρ S Sc → HR P Z n0 T.heap ρ H → Fr n0 locs →
            Done P Z n0 p e below s ρ v H' (cells + kc) (slots + ks) (T.setTop (mkF m pc A Sc)) := by
      intro q S1 h1 st p e R s m args below meth c T locs cells slots X cx k1 k2 ρ A Sc hL hLl hS hH hF
      obtain ⟨Sc1, hS1, st1⟩ := st p e R s m args below meth c T locs cells slots X cx ρ A Sc hL hS
      have := ih mi q _ S1 H v H' kc ks h1 d hmi p e R s m args below meth c T locs cells slots X cx k1 k2 ρ A Sc1 (hL.forget er) (by rw [forget_len]; exact hLl) hS1 hH hF
      exact Done.step (t := []) (by rw [List.append_nil]; exact this) st1
    have dec : ∀ {c : Code}, c.code = d.bytes → decode c.code pc = .ok (i, len) := fun hc => by rw [hc]; exact hdec
    split at h
    · -- goto
      rename_i o
      split at h
      · rename_i q hq
        obtain ⟨t1, t2⟩ := tgt_spec hq
        have m3 := jump q S h
        obtain rfl : len = 3 := by simpa [lenOk] using hlenOk
        exact m3 fun p e R s m args below meth c T locs cells slots X cx ρ A Sc hL hS => ⟨Sc, hS, fun t z => XS.goto (g := mkF m pc A Sc) X.here cx.1 rfl (pc0 := pc) (pc' := q) rfl (dec cx.2.2.1) t1 t2 z⟩
      · cases h
    · -- if_icmp
      rename_i cd o
      split at h
      · rename_i y x S1
        obtain rfl : len = 3 := by simpa [lenOk] using hlenOk
        split at h
        · rename_i hc
          split at h
          · rename_i q hq
            obtain ⟨t1, t2⟩ := tgt_spec hq
            have m3 := jump q S1 h
            exact m3 fun p e R s m args below meth c T locs cells slots X cx ρ A Sc hL hS => by
              obtain ⟨Sa, rfl, ha⟩ := hS.int
              obtain ⟨Sb, rfl, hb⟩ := ha.int
              exact ⟨Sb, hb, fun t z => XS.icmpYes (g := mkF m pc A _) X.here cx.1 rfl (pc0 := pc) (pc' := q) rfl (dec cx.2.2.1) rfl hc t1 t2 z⟩
          · cases h
        · rename_i hc
          have m3 := jump (pc + 3) S1 h
          exact m3 fun p e R s m args below meth c T locs cells slots X cx ρ A Sc hL hS => by
            obtain ⟨Sa, rfl, ha⟩ := hS.int
            obtain ⟨Sb, rfl, hb⟩ := ha.int
            exact ⟨Sb, hb, fun t z => XS.icmpNo (g := mkF m pc A _) X.here cx.1 rfl (dec cx.2.2.1) rfl (by simpa using hc) z⟩
      · cases h
    · -- ifCond
      rename_i cd o
      split at h
      · rename_i x S1
        obtain rfl : len = 3 := by simpa [lenOk] using hlenOk
        split at h
        · rename_i hc
          split at h
          · rename_i q hq
            obtain ⟨t1, t2⟩ := tgt_spec hq
            have m3 := jump q S1 h
            exact m3 fun p e R s m args below meth c T locs cells slots X cx ρ A Sc hL hS => by
              obtain ⟨Sa, rfl, ha⟩ := hS.int
              exact ⟨Sa, ha, fun t z => XS.ifYes (g := mkF m pc A _) X.here cx.1 rfl (pc0 := pc) (pc' := q) rfl (dec cx.2.2.1) rfl hc t1 t2 z⟩
          · cases h
        · rename_i hc
          have m3 := jump (pc + 3) S1 h
          exact m3 fun p e R s m args below meth c T locs cells slots X cx ρ A Sc hL hS => by
            obtain ⟨Sa, rfl, ha⟩ := hS.int
            exact ⟨Sa, ha, fun t z => XS.ifNo (g := mkF m pc A _) X.here cx.1 rfl (dec cx.2.2.1) rfl (by simpa using hc) z⟩
      · cases h
    · -- ifnonnull
      rename_i o
      split at h
      · rename_i x S1
        split at h
        · rename_i q hq
          obtain ⟨t1, t2⟩ := tgt_spec hq
          have m3 := jump q S1 h
          obtain rfl : len = 3 := by simpa [lenOk] using hlenOk
          exact m3 fun p e R s m args below meth c T locs cells slots X cx ρ A Sc hL hS => by
            obtain ⟨ad, Sa, -, rfl, ha⟩ := hS.ref
            exact ⟨Sa, ha, fun t z => XT.ifnonnullYes (g := mkF m pc A _) X.here cx.1 rfl (pc0 := pc) (pc' := q) rfl (dec cx.2.2.1) rfl t1 t2 z⟩
        · cases h
      · cases h
    · -- ireturn
      split at h
      · rename_i x
        split at h
        · rename_i v0 hv0
          cases h
          obtain rfl : len = 1 := by simpa [lenOk] using hlenOk
          intro p e R s m args below meth c T locs cells slots X cx k1 k2 ρ A Sc hL hLl hS hH hF
          obtain ⟨hx, hZ, hby, hml, hown, hnm, hret, hlk, -, -⟩ := cx
          obtain ⟨Sa, rfl, ha⟩ := hS.int
          unfold retV at hv0
          split at hv0
          · rename_i hr0
            cases hv0
            obtain ⟨fs, hr, hrun, hended, hWm, hsame⟩ := X.leave (v := some (.int x)) (fun q => by rw [hret, hr0] at q; cases q) hlk
            exact ⟨_, _, locs, [], retI X hx (by rw [hret, hr0]) (dec hby) hr, hrun, hended, ⟨_, rfl, rfl⟩, by rw [List.append_nil]; exact hH, hF, ⟨_, rfl⟩, hWm, hsame⟩
          · rename_i hr0
            cases hv0
            obtain ⟨fs, hr, hrun, hended, hWm, hsame⟩ := X.leave (v := some (.int (x &&& 1))) (fun q => by rw [hret, hr0] at q; cases q) hlk
            exact ⟨_, _, locs, [], retN X hx (t := .boolean) (by rw [hret, hr0]) (by simp) (dec hby) hr, hrun, hended, ⟨_, rfl, rfl⟩, by rw [List.append_nil]; exact hH, hF, ⟨_, rfl⟩, hWm, hsame⟩
          · cases hv0
        · cases h
      · cases h
    · -- lreturn
      split at h
      · rename_i x
        split at h
        · rename_i hr0
          cases h
          obtain rfl : len = 1 := by simpa [lenOk] using hlenOk
          intro p e R s m args below meth c T locs cells slots X cx k1 k2 ρ A Sc hL hLl hS hH hF
          obtain ⟨hx, hZ, hby, hml, hown, hnm, hret, hlk, -, -⟩ := cx
          obtain ⟨Sa, rfl, ha⟩ := hS.long
          obtain rfl : Sa = [] := ha
          obtain ⟨fs, hr, hrun, hended, hWm, hsame⟩ := X.leave (v := some (.long x)) (fun q => by rw [hret, hr0] at q; cases q) hlk
          exact ⟨_, _, locs, [], X.lreturnOut hx (by rw [hret, hr0]) (dec hby) hr, hrun, hended, ⟨_, rfl, rfl⟩, by rw [List.append_nil]; exact hH, hF, ⟨_, rfl⟩, hWm, hsame⟩
        · cases h
      · cases h
    · -- return
      split at h
      · split at h
        · rename_i hr0
          cases h
          obtain rfl : len = 1 := by simpa [lenOk] using hlenOk
          intro p e R s m args below meth c T locs cells slots X cx k1 k2 ρ A Sc hL hLl hS hH hF
          obtain ⟨hx, hZ, hby, hml, hown, hnm, hret, hlk, -, -⟩ := cx
          obtain rfl : Sc = [] := hS
          obtain ⟨fs, hr, hrun, hended, hWm, hsame⟩ := X.leave (v := none) (fun _ => rfl) hlk
          exact ⟨_, _, locs, [], X.returnOut hx (by rw [hret, hr0]) (dec hby) hr, hrun, hended, rfl, by rw [List.append_nil]; exact hH, hF, ⟨_, rfl⟩, hWm, hsame⟩
        · cases h
      · cases h
    · -- a call, or a plain step
      split at h
      · rename_i hinv
        split at h
        · -- Object.<init>
          rename_i hb1
          subst hb1
          have hk : ∃ k x S1, i = .invokespecial k ∧ S = .ref x :: S1 ∧ (if 1 ≤ d.rf ∧ catSum S1 + 12 ≤ d.rw then exe P n mi (pc + 3) (forget er L) S1 H else none) = some (v, H', kc, ks) := by
            split at h
            · exact ⟨_, _, _, rfl, rfl, h⟩
            · cases h
          clear h
          obtain ⟨k, x, S1, rfl, rfl, h⟩ := hk
          · split at h
            · rename_i hroom
              have m3 := ih mi (pc + 3) _ S1 H v H' kc ks h d hmi
              obtain rfl : len = 3 := by simpa [lenOk] using hlenOk
              have hWi : ∀ w ∈ iWords P d (pc, .invokespecial k, 3, er, a, -1), w.before a0 Z = true := fun w q => hW w (in_wordsOf hdm hit q)
              have hWi' : ∀ w ∈ [Jvm.Cond.methodLink d.name.cls k Lib.objectInit, .instanceMethod Lib.objectInit, .code Lib.objectInit ⟨#[0xb1]⟩ 1 none], w.before a0 Z = true := hWi
              intro p e R s m args below meth c T locs cells slots X cx k1 k2 ρ A Sc hL hLl hS hH hF
              have cx0 := cx
              obtain ⟨hx, hZ, hby, hml, hown, hnm, hret, hlk, hrf, hrw⟩ := cx
              obtain ⟨ad, Sa, -, rfl, ha⟩ := hS.ref
              obtain ⟨T2, X2, e2, st2⟩ := initO X hx hZ hown (hWi' _ (by simp)) (hWi' _ (by simp)) (hWi' _ (by simp)) rfl (g := mkF m pc A (.ref ad :: Sa)) rfl (by rw [hml]; exact hL.1.trans hLl) rfl (dec hby) (by omega) (W := catSum S1) (by show 2 * 0 + _ ≤ _; rw [ha.cat]; omega) (by omega)
              have := m3 p e R s m args below meth c T2 locs cells slots X2 cx0 k1 k2 ρ A Sa (hL.forget er) (by rw [forget_len]; exact hLl) ha (by rw [e2]; exact hH) hF
              exact Done.step (t := []) (by rw [List.append_nil]; exact this) st2
            · cases h
        · rename_i hb1
          split at h
          · cases h
          rename_i y hy
          split at h
          · cases h
          rename_i as rest hao
          split at h
          · rename_i hcond
            simp only [Bool.and_eq_true, decide_eq_true_eq] at hcond
            obtain ⟨⟨⟨⟨hj, hik⟩, hrecv⟩, hroom⟩, hent⟩ := hcond
            split at h
            · rename_i v1 H1 c1 s1 hcal
              obtain ⟨c0, s0, hcon, rfl, rfl⟩ := res_ext (α := Unit) h
              have m3 := ih mi (pc + 3) _ _ H1 v H' c0 s0 hcon d hmi
              intro p e R s m args below meth c T locs cells slots X cx k1 k2 ρ A Sc hL hLl hS hH hF
              have cx0 := cx
              obtain ⟨hx, hZ, hby, hml, hown, hnm, hret, hlk, hrf, hrw⟩ := cx
              have hym : y ∈ P.mth := List.mem_of_getElem? hy
              have hyc := mChk_of hP hym
              simp only [mChk, Bool.and_eq_true, decide_eq_true_eq] at hyc
              obtain ⟨⟨⟨⟨⟨⟨yc1, yc2⟩, yc3⟩, yc4⟩, yc5⟩, yc6⟩, yc7⟩ := hyc
              simp only [fitsRoom, Bool.and_eq_true, decide_eq_true_eq] at hroom
              obtain ⟨hn, has, hrest⟩ := argsOf_spec hao
              have hnc : nargs y ≤ Sc.length := by rw [hS.len]; exact hn
              have hSa : SR ρ as (Sc.take (nargs y)).reverse := by rw [has]; exact (hS.take _).rev
              have hSr : SR ρ rest (Sc.drop (nargs y)) := by rw [hrest]; exact hS.drop _
              have hsplit : Sc = (Sc.take (nargs y)).reverse.reverse ++ Sc.drop (nargs y) := by rw [List.reverse_reverse, List.take_append_drop]
              obtain ⟨ws, hws⟩ : ∃ ws, ws = (Sc.take (nargs y)).reverse := ⟨_, rfl⟩
              obtain ⟨rc, hrc⟩ : ∃ rc, rc = Sc.drop (nargs y) := ⟨_, rfl⟩
              have hwl : ws.length = nargs y := by rw [hws]; simp; omega
              rw [← hws] at hSa hsplit
              rw [← hrc] at hSr hsplit
              have wcode := hW (.code y.name y.bytes y.maxL y.ret) (in_wordsM hy hj (List.mem_cons_self ..))
              have winit := hW (.initialized y.name.cls) (in_wordsM hy hj (List.mem_cons_of_mem _ (List.mem_cons_self ..)))
              have wmore : ∀ w ∈ (if y.kind = 0 then [Jvm.Cond.static y.name] else if y.kind = 1 then [.instanceMethod y.name] else if y.kind = 2 then [.instanceMethod y.name, .privateMethod y.name] else [.declares y.name, .selects y.name.cls y.name y.name, .instanceMethod y.name]), w.before a0 Z = true := fun w q => hW w (in_wordsM hy hj (List.mem_cons_of_mem _ (List.mem_cons_of_mem _ q)))
              have hMH : y.name.cls ≠ "java/lang/invoke/MethodHandle" ∧ y.name.cls ≠ "java/lang/invoke/VarHandle" := ⟨yc5, yc6⟩
              have back := backOf (W := catSum rest) (len := 3) (R := R) (p := p) (e := e) (below := below) (s := s) (args := args) (met_of ih hy yc1 hcal hSa hent hH [] ({ frames := y.rf, cells := c1, slots := s1, locals := y.rw } : Room) (Nat.le_refl _) (Nat.le_refl _) (Nat.le_refl _) (Nat.le_refl _)) hZ wcode winit (by show y.rf + 1 ≤ _; omega) (by show _ + y.rw ≤ _; omega)
              have hWW : 2 * (mkF m pc A Sc).monitorRoom + (rc.map fun v => v.category).sum ≤ catSum rest := by show 2 * 0 + _ ≤ _; rw [hSr.cat]; omega
              have hpar : ∀ sig, parseMethodDescriptor y.name.desc = some sig → sig.parameters.length = y.npar := fun sig q => by
                unfold sigChk at yc2
                rw [q] at yc2
                simpa using yc2
              have fin : ∀ (v1' : Option Value) (T2 : State) (Lc : List Loc), Stand p l e R s m args below meth c T2 (locs ++ Lc) (cells + c1) (slots + s1) → QQ P Z n0 ρ v1 H1 v1' T2.heap Lc →
                  (∀ target, Steps p.tables e below (T2.setTop (mkF m (pc + 3) A (v1'.toList ++ rc))) target → Steps p.tables e below (T.setTop (mkF m pc A Sc)) target) →
                  Done P Z n0 p e below s ρ v H' (cells + (c0 + c1)) (slots + (s0 + s1)) (T.setTop (mkF m pc A Sc)) := by
                intro v1' T2 Lc X2 hq st2
                obtain ⟨hF2, t, hov, hH2⟩ := hq
                have := m3 p e R s m args below meth c T2 (locs ++ Lc) _ _ X2 cx0 (by omega) (by omega) (ρ ++ t) A (v1'.toList ++ rc) (hL.forget er).mono (by rw [forget_len]; exact hLl) (hov.list.app hSr.mono) hH2 (hF.app hF2)
                have q1 : cells + c1 + c0 = cells + (c0 + c1) := by omega
                have q2 : slots + s1 + s0 = slots + (s0 + s1) := by omega
                rw [q1, q2] at this
                exact this.step st2
              have hcR : cells + c1 ≤ R.cells := by omega
              have hsR : slots + s1 ≤ R.slots := by omega
              cases i with
              | invokestatic k =>
                obtain rfl : len = 3 := by simpa [lenOk] using hlenOk
                have hk0 : y.kind = 0 := by simpa [invKind] using hik
                have wl := hW (.methodLink d.name.cls k y.name) (in_wordsOf hdm hit (by show _ ∈ mLink P d k a b; unfold mLink; rw [if_neg hb1, hy]; exact List.mem_singleton.mpr rfl))
                have wst := wmore (.static y.name) (by rw [if_pos hk0]; exact List.mem_singleton.mpr rfl)
                have hna : nargs y = y.npar := by simp [nargs, hk0]
                obtain ⟨v1', _, ⟨T2, L2, k2', n2⟩, -, X2, ⟨Lc, hQ, l2, y2, z2⟩, st2⟩ := Jvm.LawKit.callS X hx (y := y.name) hown (mvT hZ wl) (mvT hZ wst) (mvT hZ winit) (mvT hZ wcode) hMH back (g := mkF m pc A Sc) rfl (by rw [hml]; exact hL.1.trans hLl) (argsL := ws) (rest := rc) (fun sig q => by rw [hpar sig q, hwl, hna]) hsplit hWW (dec hby) (fun _ _ => ⟨rfl, rfl, hcR, hsR⟩)
                dsimp only [Pt.U, Pt.locs, Pt.cells, Pt.slots] at X2 l2 y2 z2 st2 hQ
                subst l2 y2 z2
                exact fin v1' T2 Lc X2 hQ st2
              | invokespecial k =>
                obtain rfl : len = 3 := by simpa [lenOk] using hlenOk
                have hk1 : y.kind = 1 := by simpa [invKind] using hik
                have wl := hW (.methodLink d.name.cls k y.name) (in_wordsOf hdm hit (by show _ ∈ mLink P d k a b; unfold mLink; rw [if_neg hb1, hy]; exact List.mem_singleton.mpr rfl))
                have wst := wmore (.instanceMethod y.name) (by rw [if_neg (by omega), if_pos hk1]; exact List.mem_singleton.mpr rfl)
                have hna : nargs y = y.npar + 1 := by simp [nargs, hk1]
                simp [hk1] at yc7
                have wcode' : (Jvm.Cond.code y.name y.bytes y.maxL none).before a0 Z = true := by rw [← yc7.2]; exact wcode
                unfold recvOk at hrecv
                rw [if_neg (by omega)] at hrecv
                split at hrecv
                · rename_i o as'
                  obtain ⟨ad, ws', g1, rfl, ha'⟩ := hSa.ref
                  have hst : Sc = ws'.reverse ++ .ref ad :: rc := by rw [hsplit]; simp
                  obtain ⟨v1', _, ⟨T2, L2, k2', n2⟩, -, X2, ⟨Lc, hQ, l2, y2, z2⟩, st2⟩ := X.specialBack hx (y := y.name) yc7.1 hown (mvT hZ wl) (mvT hZ wst) (mvT hZ wcode') hMH back (g := mkF m pc A Sc) rfl (by rw [hml]; exact hL.1.trans hLl) (Steps.refl _) (a := ad) (argsL := ws') (rest := rc) (fun sig q => by rw [hpar sig q]; simp [hna] at hwl; omega) hst hWW (dec hby) (fun _ _ => ⟨rfl, rfl, hcR, hsR⟩)
                  dsimp only [Pt.U, Pt.locs, Pt.cells, Pt.slots] at X2 l2 y2 z2 st2 hQ
                  subst l2 y2 z2
                  exact fin v1' T2 Lc X2 hQ fun t z => st2.trans z
                · cases hrecv
              | invokevirtual k =>
                obtain rfl : len = 3 := by simpa [lenOk] using hlenOk
                have wl := hW (.methodLink d.name.cls k y.name) (in_wordsOf hdm hit (by show _ ∈ mLink P d k a b; unfold mLink; rw [if_neg hb1, hy]; exact List.mem_singleton.mpr rfl))
                have hk23 : y.kind = 2 ∨ y.kind = 3 := by simpa [invKind] using hik
                have hk0 : ¬ y.kind = 0 := by omega
                have hk1 : ¬ y.kind = 1 := by omega
                have hna : nargs y = y.npar + 1 := by simp [nargs, hk0]
                unfold recvOk at hrecv
                rw [if_neg hk0] at hrecv
                split at hrecv
                · rename_i o as'
                  obtain ⟨ad, ws', g1, rfl, ha'⟩ := hSa.ref
                  have hst : Sc = ws'.reverse ++ .ref ad :: rc := by rw [hsplit]; simp
                  split at hrecv
                  · rename_i c0 fs hc0
                    obtain rfl : c0 = y.cid := by simpa using hrecv
                    obtain ⟨ad', g2, cd, q1, q2, q3, q4⟩ := hH.at hc0
                    rw [g1] at g2; cases g2
                    have hcd := cid_of hP hym q1
                    have hcm : cd ∈ P.cls := List.mem_of_getElem? q1
                    rw [hcd] at q2
                    by_cases hk2 : y.kind = 2
                    · have w1 := wmore (.instanceMethod y.name) (by rw [if_neg hk0, if_neg hk1, if_pos hk2]; simp)
                      have w2 := wmore (.privateMethod y.name) (by rw [if_neg hk0, if_neg hk1, if_pos hk2]; simp)
                      have w3 := hW (.instantiable cd.1 cd.2.1) (in_wordsC hcm (List.mem_cons_self ..))
                      rw [hcd] at w3
                      obtain ⟨cI, kI, i1, i2, i3, i4, -⟩ := Cond.instantiable_spec (mvT hZ w3 (args := args) : (Jvm.Cond.instantiable y.name.cls cd.2.1).before args s = true)
                      have hsel := selects_self_of_private (args := args) i1 i2 (by simp at i4; exact i4.1) (Cond.privateMethod_at (mvP hZ w2 (args := #[]))) (mvT hZ w1) hMH
                      obtain ⟨cq, hq1, hq2⟩ := q2.cell
                      obtain ⟨v1', _, ⟨T2, L2, k2', n2⟩, -, X2, ⟨Lc, hQ, l2, y2, z2⟩, st2⟩ := X.privateBack hx (y := y.name) hown (mvT hZ wl) (mvT hZ w1) hsel (Cond.privateMethod_at (mvP hZ w2 (args := #[]))) (mvT hZ wcode) hMH back (g := mkF m pc A Sc) rfl (by rw [hml]; exact hL.1.trans hLl) (Steps.refl _) (a := ad) hq1 hq2 (argsL := ws') (rest := rc) (fun sig q => by rw [hpar sig q]; simp [hna] at hwl; omega) hst hWW (dec hby) (fun _ _ => ⟨rfl, rfl, hcR, hsR⟩)
                      dsimp only [Pt.U, Pt.locs, Pt.cells, Pt.slots] at X2 l2 y2 z2 st2 hQ
                      subst l2 y2 z2
                      exact fin v1' T2 Lc X2 hQ fun t z => st2.trans z
                    · have w1 := wmore (.declares y.name) (by rw [if_neg hk0, if_neg hk1, if_neg hk2]; simp)
                      have w2 := wmore (.selects y.name.cls y.name y.name) (by rw [if_neg hk0, if_neg hk1, if_neg hk2]; simp)
                      have w3 := wmore (.instanceMethod y.name) (by rw [if_neg hk0, if_neg hk1, if_neg hk2]; simp)
                      obtain ⟨cq, kq, qa, qb, qc⟩ := isOf hZ rfl q2
                      obtain ⟨v1', _, ⟨T2, L2, k2', n2⟩, -, X2, ⟨Lc, hQ, l2, y2, z2⟩, st2⟩ := X.virtualBack hx (y := y.name) (z := y.name) hown (mvT hZ wl) (mvT hZ w1) (notFace_of_selects (args := #[]) (mvT hZ w2)) (mvT hZ w2) (mvT hZ w3) hMH back qa qc (g := mkF m pc A Sc) rfl (by rw [hml]; exact hL.1.trans hLl) (Steps.refl _) (argsL := ws') (rest := rc) (fun sig q => by rw [hpar sig q]; simp [hna] at hwl; omega) hst hWW (dec hby) (fun _ _ => ⟨rfl, rfl, hcR, hsR⟩)
                      dsimp only [Pt.U, Pt.locs, Pt.cells, Pt.slots] at X2 l2 y2 z2 st2 hQ
                      subst l2 y2 z2
                      exact fin v1' T2 Lc X2 hQ fun t z => st2.trans z
                  · cases hrecv
                · cases hrecv
              | _ => simp [isInv] at hinv
            · cases h
          · cases h
      · split at h
        · split at h
          · rename_i S1 H1 k1' hxN
            obtain ⟨c0, s0, hcon, rfl, rfl⟩ := res_ext (α := Unit) h
            have m3 := ih mi (pc + len) _ S1 H1 v H' c0 s0 hcon d hmi
            intro p e R s m args below meth c T locs cells slots X cx k1 k2 ρ A Sc hL hLl hS hH hF
            have cx0 := cx
            obtain ⟨hx, hZ, hby, hml, hown, hnm, hret, hlk, hrf, hrw⟩ := cx
            obtain ⟨T2, ad, Sc2, X2, hS2, hH2, st2⟩ := stepN (A := A) X hx hZ hown hP hW hdm hit (dec hby) hlenOk hS hH hxN (by omega) (by omega)
            have := m3 p e R s m args below meth c T2 locs _ _ X2 cx0 (by omega) (by omega) (ρ ++ [ad]) A Sc2 (hL.forget er).mono (by rw [forget_len]; exact hLl) hS2 hH2 hF
            have q1 : cells + 1 + c0 = cells + (c0 + 1) := by omega
            have q2 : slots + k1' + s0 = slots + (s0 + k1') := by omega
            rw [q1, q2] at this
            exact this.step st2
          · cases h
        · split at h
          · rename_i L1 S1 H1 hxI
            have m3 := ih mi (pc + len) L1 S1 H1 v H' kc ks h d hmi
            intro p e R s m args below meth c T locs cells slots X cx k1 k2 ρ A Sc hL hLl hS hH hF
            have cx0 := cx
            obtain ⟨hx, hZ, hby, hml, hown, hnm, hret, hlk, hrf, hrw⟩ := cx
            obtain ⟨T2, locs2, A2, Sc2, X2, x3, hL2, hS2, hH2, hF2, st2⟩ := stepX X hx hZ hown hnm hP hW hdm hit (dec hby) hlenOk (hL.forget er) hS hH hF hxI
            have := m3 p e R s m args below meth c T2 locs2 cells slots X2 cx0 k1 k2 ρ A2 Sc2 hL2 (by rw [x3, forget_len]; exact hLl) hS2 hH2 hF2
            exact Done.step (t := []) (by rw [List.append_nil]; exact this) st2
          · cases h
end Sound
end Jvm.Own
namespace Jvm.Own
open Jvm Jvm.ClassFile Sem Op Lib Jvm.Free Jvm.Stand Jvm.LawKit Jvm.RoadKit Bundle
/-! Runs of the plain machine, rule by rule -/
def OEnds (P : PD) (mi pc : Nat) (L : List Slot) (S : List Value) (H : AHeap) (r : Res) : Prop := ∃ n0, ∀ n, n0 ≤ n → exe P n mi pc L S H = some r
def plainI : Instr → Bool
  | .goto _ => false
  | .if_icmp _ _ => false
  | .ifCond _ _ => false
  | .ifnonnull _ => false
  | .ireturn => false
  | .lreturn => false
  | .return_ => false
  | .invokestatic _ => false
  | .invokespecial _ => false
  | .invokevirtual _ => false
  | .new _ => false
  | .newarray _ => false
  | _ => true
section Rules
variable {P : PD} {mi pc len a q : Nat} {er : List Bool} {b : Int} {i : Instr} {d y : MD} {L L' : List Slot} {S S' as rest : List Value} {H H' H1 : AHeap} {r : Res} {kc ks : Nat} {v : Option Value}
theorem OEnds.up (h : ∀ n, exe P n mi q L' S' H' = some r → exe P (n + 1) mi pc L S H = some r) (E : OEnds P mi q L' S' H' r) : OEnds P mi pc L S H r := by
  obtain ⟨n0, E⟩ := E
  refine ⟨n0 + 1, fun n hn => ?_⟩
  obtain ⟨k, rfl⟩ : ∃ k, n = k + 1 := ⟨n - 1, by omega⟩
  exact h k (E k (by omega))
theorem OEnds.plain (hm : P.mth[mi]? = some d) (hf : fetch d.code pc = some (i, len, er, a, b)) (hp : plainI i = true) (hx : xI P (d.name.name == "<init>") d.cid i a b (forget er L) S H = some (L', S', H')) (E : OEnds P mi (pc + len) L' S' H' r) : OEnds P mi pc L S H r := by
  refine E.up fun n h => ?_
  unfold exe
  rw [hm]
  simp only
  rw [hf]
  simp only
  split
  all_goals first | (simp [plainI] at hp; done) | skip
  have h1 : ¬ isInv i = true := by
    cases i <;> first | (simp [plainI] at hp; done) | simp [isInv]
  have h2 : ¬ isNew i = true := by
    cases i <;> first | (simp [plainI] at hp; done) | simp [isNew]
  rw [if_neg h1, if_neg h2, hx]
  exact h
theorem OEnds.goto {o : Int} (hm : P.mth[mi]? = some d) (hf : fetch d.code pc = some (.goto o, len, er, a, b)) (ht : tgt pc o = some q) (E : OEnds P mi q (forget er L) S H r) : OEnds P mi pc L S H r := by
  refine E.up fun n h => ?_
  unfold exe
  rw [hm]
  simp only
  rw [hf]
  simp only
  rw [ht]
  exact h
theorem OEnds.icmpT {o : Int} {cd : ClassFile.Cond} {x z : Int32} (hm : P.mth[mi]? = some d) (hf : fetch d.code pc = some (.if_icmp cd o, len, er, a, b)) (ht : tgt pc o = some q) (hc : if_icmp.holds cd x z = true) (E : OEnds P mi q (forget er L) S H r) : OEnds P mi pc L (.int z :: .int x :: S) H r := by
  refine E.up fun n h => ?_
  unfold exe
  rw [hm]
  simp only
  rw [hf]
  simp only
  rw [if_pos hc, ht]
  exact h
theorem OEnds.icmpF {o : Int} {cd : ClassFile.Cond} {x z : Int32} (hm : P.mth[mi]? = some d) (hf : fetch d.code pc = some (.if_icmp cd o, len, er, a, b)) (hc : if_icmp.holds cd x z = false) (E : OEnds P mi (pc + 3) (forget er L) S H r) : OEnds P mi pc L (.int z :: .int x :: S) H r := by
  refine E.up fun n h => ?_
  unfold exe
  rw [hm]
  simp only
  rw [hf]
  simp only
  rw [if_neg (by rw [hc]; exact Bool.false_ne_true)]
  exact h
theorem OEnds.ifT {o : Int} {cd : ClassFile.Cond} {x : Int32} (hm : P.mth[mi]? = some d) (hf : fetch d.code pc = some (.ifCond cd o, len, er, a, b)) (ht : tgt pc o = some q) (hc : if_icmp.holds cd x 0 = true) (E : OEnds P mi q (forget er L) S H r) : OEnds P mi pc L (.int x :: S) H r := by
  refine E.up fun n h => ?_
  unfold exe
  rw [hm]
  simp only
  rw [hf]
  simp only
  rw [if_pos ((if0 cd x).trans hc), ht]
  exact h
theorem OEnds.ifF {o : Int} {cd : ClassFile.Cond} {x : Int32} (hm : P.mth[mi]? = some d) (hf : fetch d.code pc = some (.ifCond cd o, len, er, a, b)) (hc : if_icmp.holds cd x 0 = false) (E : OEnds P mi (pc + 3) (forget er L) S H r) : OEnds P mi pc L (.int x :: S) H r := by
  refine E.up fun n h => ?_
  unfold exe
  rw [hm]
  simp only
  rw [hf]
  simp only
  rw [if_neg (by rw [if0 cd x, hc]; exact Bool.false_ne_true)]
  exact h
theorem OEnds.nonnull {o : Int} {x : Nat} (hm : P.mth[mi]? = some d) (hf : fetch d.code pc = some (.ifnonnull o, len, er, a, b)) (ht : tgt pc o = some q) (E : OEnds P mi q (forget er L) S H r) : OEnds P mi pc L (.ref x :: S) H r := by
  refine E.up fun n h => ?_
  unfold exe
  rw [hm]
  simp only
  rw [hf]
  simp only
  rw [ht]
  exact h
theorem OEnds.iret {x : Int32} {u : Value} (hm : P.mth[mi]? = some d) (hf : fetch d.code pc = some (.ireturn, len, er, a, b)) (hv : retV d.ret x = some u) : OEnds P mi pc L [.int x] H (some u, H, 0, 0) := by
  refine ⟨1, fun n hn => ?_⟩
  obtain ⟨k, rfl⟩ : ∃ k, n = k + 1 := ⟨n - 1, by omega⟩
  unfold exe
  rw [hm]
  simp only
  rw [hf]
  simp only
  rw [hv]
theorem OEnds.lret {x : Int64} (hm : P.mth[mi]? = some d) (hf : fetch d.code pc = some (.lreturn, len, er, a, b)) (hv : d.ret = some .long) : OEnds P mi pc L [.long x] H (some (.long x), H, 0, 0) := by
  refine ⟨1, fun n hn => ?_⟩
  obtain ⟨k, rfl⟩ : ∃ k, n = k + 1 := ⟨n - 1, by omega⟩
  unfold exe
  rw [hm]
  simp only
  rw [hf]
  simp only
  rw [if_pos hv]
theorem OEnds.vret (hm : P.mth[mi]? = some d) (hf : fetch d.code pc = some (.return_, len, er, a, b)) (hv : d.ret = none) : OEnds P mi pc L [] H (none, H, 0, 0) := by
  refine ⟨1, fun n hn => ?_⟩
  obtain ⟨k, rfl⟩ : ∃ k, n = k + 1 := ⟨n - 1, by omega⟩
  unfold exe
  rw [hm]
  simp only
  rw [hf]
  simp only
  rw [if_pos hv]
theorem OEnds.oinit {k x : Nat} (hm : P.mth[mi]? = some d) (hf : fetch d.code pc = some (.invokespecial k, len, er, a, -1)) (hr : 1 ≤ d.rf ∧ catSum S + 12 ≤ d.rw) (E : OEnds P mi (pc + 3) (forget er L) S H r) : OEnds P mi pc L (.ref x :: S) H r := by
  refine E.up fun n h => ?_
  unfold exe
  rw [hm]
  simp only
  rw [hf]
  simp only [isInv, if_true]
  rw [if_pos hr]
  exact h
theorem OEnds.call (hm : P.mth[mi]? = some d) (hf : fetch d.code pc = some (i, len, er, a, b)) (hi : isInv i = true) (hb : ¬ b = -1) (hy : P.mth[a]? = some y) (hao : argsOf (nargs y) S = some (as, rest))
    (hc : (decide (0 < a) && invKind i y.kind && recvOk P H y as && fitsRoom d y rest && decide ((entA as).length ≤ y.maxL)) = true) (E1 : OEnds P a 0 (entL as y.maxL) [] H (v, H1, kc, ks)) (E2 : OEnds P mi (pc + 3) (forget er L) (v.toList ++ rest) H1 r) : OEnds P mi pc L S H (addR r kc ks) := by
  obtain ⟨n1, E1⟩ := E1
  obtain ⟨n2, E2⟩ := E2
  refine ⟨n1 + n2 + 1, fun n hn => ?_⟩
  obtain ⟨k, rfl⟩ : ∃ k, n = k + 1 := ⟨n - 1, by omega⟩
  have e1 := E1 k (by omega)
  have e2 := E2 k (by omega)
  unfold exe
  rw [hm]
  simp only
  rw [hf]
  simp only
  split
  all_goals first | (simp [isInv] at hi; done) | skip
  rw [if_pos hi, if_neg hb, hy]
  simp only
  rw [hao]
  simp only
  rw [if_pos hc, e1]
  simp only
  rw [e2]
  rfl
theorem OEnds.call0 (hm : P.mth[mi]? = some d) (hf : fetch d.code pc = some (i, len, er, a, b)) (hi : isInv i = true) (hb : ¬ b = -1) (hy : P.mth[a]? = some y) (hao : argsOf (nargs y) S = some (as, rest))
    (hc : (decide (0 < a) && invKind i y.kind && recvOk P H y as && fitsRoom d y rest && decide ((entA as).length ≤ y.maxL)) = true) (E1 : OEnds P a 0 (entL as y.maxL) [] H (v, H1, 0, 0)) (E2 : OEnds P mi (pc + 3) (forget er L) (v.toList ++ rest) H1 r) : OEnds P mi pc L S H r :=
  OEnds.call (r := r) hm hf hi hb hy hao hc E1 E2
theorem OEnds.made (hm : P.mth[mi]? = some d) (hf : fetch d.code pc = some (i, len, er, a, b)) (hi : isNew i = true) (hx : xN P i a S H = some (S', H', ks)) (E : OEnds P mi (pc + len) (forget er L) S' H' r) : OEnds P mi pc L S H (addR r 1 ks) := by
  obtain ⟨n0, E⟩ := E
  refine ⟨n0 + 1, fun n hn => ?_⟩
  obtain ⟨k, rfl⟩ : ∃ k, n = k + 1 := ⟨n - 1, by omega⟩
  have e1 := E k (by omega)
  unfold exe
  rw [hm]
  simp only
  rw [hf]
  simp only
  split
  all_goals first | (simp [isNew] at hi; done) | skip
  have h1 : ¬ isInv i = true := by
    cases i <;> first | (simp [isNew] at hi; done) | simp [isInv]
  rw [if_neg h1, if_pos hi, hx]
  simp only
  rw [e1]
  rfl
end Rules
/-- k plain instructions and jumps in one go -/
def adv (P : PD) (d : MD) : Nat → Nat → List Slot → List Value → AHeap → Option (Nat × List Slot × List Value × AHeap)
  | 0, pc, L, S, H => some (pc, L, S, H)
  | k + 1, pc, L, S, H => match fetch d.code pc with
    | some (i, len, er, a, b) => match i with
      | .goto o => match tgt pc o with
        | some q => adv P d k q (forget er L) S H
        | none => none
      | i => if plainI i = true then match xI P (d.name.name == "<init>") d.cid i a b (forget er L) S H with
          | some (L', S', H') => adv P d k (pc + len) L' S' H'
          | none => none
        else none
    | none => none
theorem OEnds.adv {P : PD} {mi : Nat} {d : MD} (hm : P.mth[mi]? = some d) {r : Res} : ∀ (k : Nat) {pc pc' : Nat} {L L' : List Slot} {S S' : List Value} {H H' : AHeap}, adv P d k pc L S H = some (pc', L', S', H') → OEnds P mi pc' L' S' H' r → OEnds P mi pc L S H r
  | 0, _, _, _, _, _, _, _, _, h, E => by
    unfold Own.adv at h
    cases h
    exact E
  | k + 1, pc, pc', L, L', S, S', H, H', h, E => by
    unfold Own.adv at h
    split at h
    · rename_i it i len er a b hf
      split at h
      · rename_i o
        split at h
        · rename_i q hq
          exact OEnds.goto hm hf hq (OEnds.adv hm k h E)
        · cases h
      · split at h
        · rename_i hp
          split at h
          · rename_i L1 S1 H1 hx
            exact OEnds.plain hm hf hp hx (OEnds.adv hm k h E)
          · cases h
        · cases h
    · cases h
theorem x_iaload {P : PD} {ini : Bool} {cid a o : Nat} {b : Int} {L : List Slot} {S : List Value} {H : AHeap} {A : List Int32} {j x : Int32} (h : H[o]? = some (.inr (.inl (false, A)))) (hx : rdA A j = some x) : xI P ini cid .iaload a b L (.int j :: .ref o :: S) H = some (L, .int x :: S, H) := by simp [xI, h, hx]
theorem x_baload {P : PD} {ini : Bool} {cid a o : Nat} {b : Int} {L : List Slot} {S : List Value} {H : AHeap} {A : List Int32} {j x : Int32} (h : H[o]? = some (.inr (.inl (true, A)))) (hx : rdA A j = some x) : xI P ini cid .baload a b L (.int j :: .ref o :: S) H = some (L, .int x :: S, H) := by simp [xI, h, hx]
theorem x_laload {P : PD} {ini : Bool} {cid a o : Nat} {b : Int} {L : List Slot} {S : List Value} {H : AHeap} {A : List Int64} {j : Int32} {x : Int64} (h : H[o]? = some (.inr (.inr A))) (hx : rdA A j = some x) : xI P ini cid .laload a b L (.int j :: .ref o :: S) H = some (L, .long x :: S, H) := by simp [xI, h, hx]
theorem x_iastore {P : PD} {ini : Bool} {cid a o : Nat} {b : Int} {L : List Slot} {S : List Value} {H : AHeap} {A A' : List Int32} {j x : Int32} (h : H[o]? = some (.inr (.inl (false, A)))) (hn : P.nr ≤ o) (hx : wrA A j x = some A') : xI P ini cid .iastore a b L (.int x :: .int j :: .ref o :: S) H = some (L, S, H.set o (.inr (.inl (false, A')))) := by simp [xI, h, hx, hn]
theorem x_bastore {P : PD} {ini : Bool} {cid a o : Nat} {b : Int} {L : List Slot} {S : List Value} {H : AHeap} {A A' : List Int32} {j x : Int32} (h : H[o]? = some (.inr (.inl (true, A)))) (hn : P.nr ≤ o) (hx : wrA A j (x &&& 1) = some A') : xI P ini cid .bastore a b L (.int x :: .int j :: .ref o :: S) H = some (L, S, H.set o (.inr (.inl (true, A')))) := by simp [xI, h, hx, hn]
theorem x_lastore {P : PD} {ini : Bool} {cid a o : Nat} {b : Int} {L : List Slot} {S : List Value} {H : AHeap} {A A' : List Int64} {j : Int32} {x : Int64} (h : H[o]? = some (.inr (.inr A))) (hn : P.nr ≤ o) (hx : wrA A j x = some A') : xI P ini cid .lastore a b L (.long x :: .int j :: .ref o :: S) H = some (L, S, H.set o (.inr (.inr A'))) := by simp [xI, h, hx, hn]
theorem x_irem {P : PD} {ini : Bool} {cid a : Nat} {b : Int} {L : List Slot} {S : List Value} {H : AHeap} {x y : Int32} (h : ¬ y = 0) : xI P ini cid .irem a b L (.int y :: .int x :: S) H = some (L, .int (x % y) :: S, H) := by simp [xI, h]
theorem x_idiv {P : PD} {ini : Bool} {cid a : Nat} {b : Int} {L : List Slot} {S : List Value} {H : AHeap} {x y : Int32} (h : ¬ y = 0) : xI P ini cid .idiv a b L (.int y :: .int x :: S) H = some (L, .int (x / y) :: S, H) := by simp [xI, h]
theorem x_lrem {P : PD} {ini : Bool} {cid a : Nat} {b : Int} {L : List Slot} {S : List Value} {H : AHeap} {x y : Int64} (h : ¬ y = 0) : xI P ini cid .lrem a b L (.long y :: .long x :: S) H = some (L, .long (x % y) :: S, H) := by simp [xI, h]
theorem x_ldiv {P : PD} {ini : Bool} {cid a : Nat} {b : Int} {L : List Slot} {S : List Value} {H : AHeap} {x y : Int64} (h : ¬ y = 0) : xI P ini cid .ldiv a b L (.long y :: .long x :: S) H = some (L, .long (x / y) :: S, H) := by simp [xI, h]
theorem c_lt {x y : Int64} : XT.cmpL x y < 0 ↔ x < y := by
  unfold XT.cmpL; split <;> (try split) <;> simp_all [Int64.lt_iff_toInt_lt, ← Int64.toInt_inj] <;> omega
theorem c_gt {x y : Int64} : 0 < XT.cmpL x y ↔ y < x := by
  unfold XT.cmpL; split <;> (try split) <;> simp_all [Int64.lt_iff_toInt_lt, ← Int64.toInt_inj] <;> omega
theorem c_eq {x y : Int64} : XT.cmpL x y = 0 ↔ x = y := by
  unfold XT.cmpL; split <;> (try split) <;> simp_all [Int64.lt_iff_toInt_lt, ← Int64.toInt_inj] <;> omega
end Jvm.Own
namespace Jvm.Own
open Jvm Jvm.ClassFile Sem Op Lib Jvm.Free Jvm.Stand Jvm.LawKit Jvm.RoadKit Bundle
theorem bnd {α β : Type} {o : Option α} {f : α → Option β} {b : β} (h : o.bind f = some b) : ∃ a, o = some a ∧ f a = some b := Option.bind_eq_some_iff.mp h
theorem x_putZ {P : PD} {ini : Bool} {k cid a o : Nat} {b : Int} {L : List Slot} {S : List Value} {H : AHeap} {fs : List Value} {nm ds : String} {x : Int32} (h : H[o]? = some (.inl (cid, fs))) (hn : P.nr ≤ o) (hf : ((P.cls[cid]?).bind fun cd => cd.2.2[a]?) = some (nm, ds, .boolean, false)) (hx : x = 0 ∨ x = 1) :
    xI P ini cid (.putfield k) a b L (.int x :: .ref o :: S) H = some (L, S, H.set o (.inl (cid, fs.set a (.int x)))) := by
  rcases hx with rfl | rfl <;> simp [xI, h, hn, hf, putOk]
section Rules
variable {P : PD} {mi pc len a q : Nat} {er : List Bool} {b : Int} {i : Instr} {d y : MD} {L L' : List Slot} {S S' as rest : List Value} {H H' H1 : AHeap} {r : Res} {kc ks : Nat} {v : Option Value}
theorem OEnds.made1 {w : Option Value} {Hf : AHeap} (hm : P.mth[mi]? = some d) (hf : fetch d.code pc = some (i, len, er, a, b)) (hi : isNew i = true) (hx : xN P i a S H = some (S', H', ks)) {c0 s0 c1 s1 : Nat} (hr : (c1, s1) = (c0 + 1, s0 + ks)) (E : OEnds P mi (pc + len) (forget er L) S' H' (w, Hf, c0, s0)) : OEnds P mi pc L S H (w, Hf, c1, s1) := by
  cases hr
  exact OEnds.made (r := (w, Hf, c0, s0)) hm hf hi hx E
/-! The same, of a run whose end is told by a property -/
def OEndsQ (P : PD) (mi pc : Nat) (L : List Slot) (S : List Value) (H : AHeap) (Q : Res → Prop) : Prop := ∃ r, OEnds P mi pc L S H r ∧ Q r
variable {Q : Res → Prop}
theorem OEndsQ.plain (hm : P.mth[mi]? = some d) (hf : fetch d.code pc = some (i, len, er, a, b)) (hp : plainI i = true) (hx : xI P (d.name.name == "<init>") d.cid i a b (forget er L) S H = some (L', S', H')) (E : OEndsQ P mi (pc + len) L' S' H' Q) : OEndsQ P mi pc L S H Q := by
  obtain ⟨r, E, hq⟩ := E; exact ⟨r, OEnds.plain hm hf hp hx E, hq⟩
theorem OEndsQ.icmpT {o : Int} {cd : ClassFile.Cond} {x z : Int32} (hm : P.mth[mi]? = some d) (hf : fetch d.code pc = some (.if_icmp cd o, len, er, a, b)) (ht : tgt pc o = some q) (hc : if_icmp.holds cd x z = true) (E : OEndsQ P mi q (forget er L) S H Q) : OEndsQ P mi pc L (.int z :: .int x :: S) H Q := by
  obtain ⟨r, E, hq⟩ := E; exact ⟨r, OEnds.icmpT hm hf ht hc E, hq⟩
theorem OEndsQ.icmpF {o : Int} {cd : ClassFile.Cond} {x z : Int32} (hm : P.mth[mi]? = some d) (hf : fetch d.code pc = some (.if_icmp cd o, len, er, a, b)) (hc : if_icmp.holds cd x z = false) (E : OEndsQ P mi (pc + 3) (forget er L) S H Q) : OEndsQ P mi pc L (.int z :: .int x :: S) H Q := by
  obtain ⟨r, E, hq⟩ := E; exact ⟨r, OEnds.icmpF hm hf hc E, hq⟩
theorem OEndsQ.ifT {o : Int} {cd : ClassFile.Cond} {x : Int32} (hm : P.mth[mi]? = some d) (hf : fetch d.code pc = some (.ifCond cd o, len, er, a, b)) (ht : tgt pc o = some q) (hc : if_icmp.holds cd x 0 = true) (E : OEndsQ P mi q (forget er L) S H Q) : OEndsQ P mi pc L (.int x :: S) H Q := by
  obtain ⟨r, E, hq⟩ := E; exact ⟨r, OEnds.ifT hm hf ht hc E, hq⟩
theorem OEndsQ.ifF {o : Int} {cd : ClassFile.Cond} {x : Int32} (hm : P.mth[mi]? = some d) (hf : fetch d.code pc = some (.ifCond cd o, len, er, a, b)) (hc : if_icmp.holds cd x 0 = false) (E : OEndsQ P mi (pc + 3) (forget er L) S H Q) : OEndsQ P mi pc L (.int x :: S) H Q := by
  obtain ⟨r, E, hq⟩ := E; exact ⟨r, OEnds.ifF hm hf hc E, hq⟩
theorem OEndsQ.nonnull {o : Int} {x : Nat} (hm : P.mth[mi]? = some d) (hf : fetch d.code pc = some (.ifnonnull o, len, er, a, b)) (ht : tgt pc o = some q) (E : OEndsQ P mi q (forget er L) S H Q) : OEndsQ P mi pc L (.ref x :: S) H Q := by
  obtain ⟨r, E, hq⟩ := E; exact ⟨r, OEnds.nonnull hm hf ht E, hq⟩
theorem OEndsQ.call0 (hm : P.mth[mi]? = some d) (hf : fetch d.code pc = some (i, len, er, a, b)) (hi : isInv i = true) (hb : ¬ b = -1) (hy : P.mth[a]? = some y) (hao : argsOf (nargs y) S = some (as, rest))
    (hc : (decide (0 < a) && invKind i y.kind && recvOk P H y as && fitsRoom d y rest && decide ((entA as).length ≤ y.maxL)) = true) (E1 : OEnds P a 0 (entL as y.maxL) [] H (v, H1, 0, 0)) (E2 : OEndsQ P mi (pc + 3) (forget er L) (v.toList ++ rest) H1 Q) : OEndsQ P mi pc L S H Q := by
  obtain ⟨r, E, hq⟩ := E2; exact ⟨r, OEnds.call0 hm hf hi hb hy hao hc E1 E, hq⟩
theorem OEndsQ.adv (hm : P.mth[mi]? = some d) (k : Nat) {pc' : Nat} (h : adv P d k pc L S H = some (pc', L', S', H')) (E : OEndsQ P mi pc' L' S' H' Q) : OEndsQ P mi pc L S H Q := by
  obtain ⟨r, E, hq⟩ := E; exact ⟨r, OEnds.adv hm k h E, hq⟩
/-- what a law's run ends with: its answer, and at the most so many cells and slots made -/
def LawQ (x : Int32) (kc ks : Nat) (r : Res) : Prop := r.1 = some (.int x) ∧ r.2.2.1 ≤ kc ∧ r.2.2.2 ≤ ks
theorem OEndsQ.iret {x u : Int32} (hm : P.mth[mi]? = some d) (hf : fetch d.code pc = some (.ireturn, len, er, a, b)) (hv : retV d.ret x = some (.int u)) : OEndsQ P mi pc L [.int x] H (LawQ u kc ks) :=
  ⟨_, OEnds.iret hm hf hv, rfl, Nat.zero_le _, Nat.zero_le _⟩
theorem OEndsQ.weak {x : Int32} {c0 s0 : Nat} (h1 : c0 ≤ kc) (h2 : s0 ≤ ks) (E : OEndsQ P mi pc L S H (LawQ x c0 s0)) : OEndsQ P mi pc L S H (LawQ x kc ks) := by
  obtain ⟨r, E, q1, q2, q3⟩ := E; exact ⟨r, E, q1, Nat.le_trans q2 h1, Nat.le_trans q3 h2⟩
theorem OEndsQ.made {x : Int32} {c0 s0 c1 s1 : Nat} (hm : P.mth[mi]? = some d) (hf : fetch d.code pc = some (i, len, er, a, b)) (hi : isNew i = true) (hx : xN P i a S H = some (S', H', ks)) (h1 : c0 + 1 ≤ c1) (h2 : s0 + ks ≤ s1) (E : OEndsQ P mi (pc + len) (forget er L) S' H' (LawQ x c0 s0)) : OEndsQ P mi pc L S H (LawQ x c1 s1) := by
  obtain ⟨⟨v, Hf, k, n⟩, E, q1, q2, q3⟩ := E
  dsimp only at q1 q2 q3
  exact ⟨_, OEnds.made hm hf hi hx E, q1, by show k + 1 ≤ c1; omega, by show n + ks ≤ s1; omega⟩
theorem OEndsQ.callN {x : Int32} {c0 s0 c1 s1 : Nat} (hm : P.mth[mi]? = some d) (hf : fetch d.code pc = some (i, len, er, a, b)) (hi : isInv i = true) (hb : ¬ b = -1) (hy : P.mth[a]? = some y) (hao : argsOf (nargs y) S = some (as, rest))
    (hc : (decide (0 < a) && invKind i y.kind && recvOk P H y as && fitsRoom d y rest && decide ((entA as).length ≤ y.maxL)) = true) (E1 : OEnds P a 0 (entL as y.maxL) [] H (v, H1, kc, ks)) (h1 : c0 + kc ≤ c1) (h2 : s0 + ks ≤ s1) (E2 : OEndsQ P mi (pc + 3) (forget er L) (v.toList ++ rest) H1 (LawQ x c0 s0)) : OEndsQ P mi pc L S H (LawQ x c1 s1) := by
  obtain ⟨⟨v, Hf, k, n⟩, E, q1, q2, q3⟩ := E2
  dsimp only at q1 q2 q3
  exact ⟨_, OEnds.call hm hf hi hb hy hao hc E1 E, q1, by show k + kc ≤ c1; omega, by show n + ks ≤ s1; omega⟩
end Rules
/-! From the machine to the claim -/
theorem law_met {P : PD} {Z : State} {a0 : Array Value} {l : Launch} {y : MD} {as ws : List Value} {H : AHeap} {ρ : List Addr} {n0 kc ks : Nat} {h : Heap} (hP : chk P = true) (hW : ∀ w ∈ wordsOf P, w.before a0 Z = true) (hy : P.mth[0]? = some y)
    (E : OEndsQ P 0 0 (entL as y.maxL) [] H (LawQ 1 kc ks)) (hS : SR ρ as ws) (hlen : (entA as).length ≤ y.maxL) (hH : HR P Z n0 h ρ H) (w0 : List Jvm.Cond) (rm : Room) (r1 : y.rf ≤ rm.frames) (r2 : y.rw ≤ rm.locals) (r3 : kc ≤ rm.cells) (r4 : ks ≤ rm.slots) :
    MetFree l y.name (head1 (Jvm.Cond.code y.name y.bytes y.maxL y.ret :: w0) rm) (fun a U => a = ws.toArray ∧ Z.Warmed39 U.vm ∧ U.heap = h) (fun _ _ _ _ _ => True)
      (fun _ U o U' => ∃ L, o = .returned (some (.int 1)) ∧ Fr n0 L ∧ FrameEnd U o U' L kc ks) := by
  obtain ⟨⟨v, H1, c1, s1⟩, ⟨n, E⟩, q1, q2, q3⟩ := E
  dsimp only at q1 q2 q3
  subst q1
  have hpn : plainName y.name.cls = true := by
    have := mChk_of hP (List.mem_of_getElem? hy)
    simp only [mChk, Bool.and_eq_true] at this
    exact this.1.1.1.1.1.1
  have M := met_of (l := l) (n := n) (sound hP hW n) hy hpn (E n (Nat.le_refl _)) hS hlen hH w0 rm r1 r2 (Nat.le_trans q2 r3) (Nat.le_trans q3 r4)
  intro p e ha hc hk s m args below hf happ hp hK
  obtain ⟨n', o, h1, h2, h3, v', L, rfl, ⟨hF, t, ⟨u, rfl, hu⟩, -⟩, hq⟩ := M p e ha hc hk s m args below hf happ hp hK
  obtain rfl : u = .int 1 := hu
  exact ⟨n', _, h1, h2, h3, L, rfl, hF, hq.1, hq.2.1, hq.2.2.mono q2 q3⟩
end Jvm.Own
namespace Jvm.Own
open Jvm Jvm.ClassFile Sem Op Lib Jvm.Free Jvm.Stand Jvm.LawKit Jvm.RoadKit Bundle
/-- the law's script: an int array of at most 260 -/
theorem script_of {s : State} {ad : Addr} {cl : Cell} (hf : Fit s) (A : Arr s s.heap ad cl .int) (e0 : (Term.arg 0).eval #[.ref ad] s none [] s = some (.ref ad)) (hn : (Jvm.Cond.le (.length (.arg 0)) (.int 260)).value #[.ref ad] s none s [] = some true) :
    ∃ scr : List Int32, cl.slots.size = scr.length ∧ scr.length ≤ 260 ∧ ∀ (i : Nat) x, scr[i]? = some x → cl.slots[i]? = some (.int x) := by
  obtain ⟨u, v, g1, g2, -, -⟩ := cmp_v (Or.inr (Or.inr hn))
  obtain ⟨a', cl', z1, z2, z3⟩ := Term.length_spec g1
  have hat := A.fin (Vm.Alike.refl _)
  rw [e0] at z1
  cases z1
  rw [hat] at z2
  cases z2
  have hsz : cl.slots.size < 2 ^ 31 := by
    rcases Nat.lt_or_ge cl.slots.size (2 ^ 31) with q | q
    · exact q
    · exfalso
      simp [Term.eval, hat] at g1
      omega
  subst z3
  have hv : v = .int 260 := by simpa [Term.eval] using g2.symm
  subst hv
  have hle : cl.slots.size.toInt32 ≤ 260 := by
    simpa [Cond.value, g1, g2] using hn
  have hle' : cl.slots.size ≤ 260 := by
    rw [Int32.le_iff_toInt_le, len_toInt hsz] at hle
    have : (260 : Int32).toInt = 260 := rfl
    rw [this] at hle
    omega
  have key : ∀ i, i < cl.slots.size → ∃ x, cl.slots[i]? = some (.int x) := fun i hi => by
    have hj := idx_in hi hsz
    obtain ⟨v, e1, e2⟩ := elem_fit hf A hj
    have : i.toInt32.toNatClampNeg = i := by
      have h1 : i.toInt32.toInt = i := len_toInt (by omega)
      simp [Int32.toNatClampNeg, h1]
    rw [this] at e1
    obtain ⟨x, rfl⟩ := fit_I e2 (Or.inl rfl)
    exact ⟨x, e1⟩
  refine ⟨cl.slots.toList.map fun v => match v with | .int x => x | _ => 0, by simp, by simpa using hle', fun i x hx => ?_⟩
  rw [List.getElem?_map] at hx
  obtain ⟨v, h1, h2⟩ := Option.map_eq_some_iff.mp hx
  have h1' : cl.slots[i]? = some v := by simpa using h1
  obtain ⟨y, hy⟩ := key i (Array.getElem?_eq_some_iff.mp h1').1
  rw [h1'] at hy
  cases hy
  rw [h1']
  simp at h2
  rw [h2]
theorem hr_script {P : PD} {s : State} {ad : Addr} {cl : Cell} {scr : List Int32} (hnr : P.nr = 1) (A : Arr s s.heap ad cl .int) (h1 : cl.slots.size = scr.length) (h2 : scr.length ≤ 260) (h3 : ∀ (i : Nat) x, scr[i]? = some x → cl.slots[i]? = some (.int x)) : HR P s s.heap.size s.heap [ad] [.inr (.inl (false, scr))] := by
  refine ⟨Nat.le_refl _, rfl, fun i j a g1 g2 => ?_, fun k a g1 g2 => ?_, fun k a c g1 g2 => ?_⟩
  · match i, j, g1, g2 with
    | 0, 0, _, _ => rfl
    | i + 1, _, g1, _ => simp at g1
    | 0, j + 1, _, g2 => simp at g2
  · match k, g1, g2 with
    | 0, _, g2 => rw [hnr] at g2; omega
    | k + 1, g1, _ => simp at g1
  · match k, g1, g2 with
    | 0, g1, g2 =>
      simp at g1 g2
      subst g1 g2
      exact ⟨cl, A, h1, by omega, h3⟩
    | k + 1, g1, _ => simp at g1
end Jvm.Own
namespace Jvm.Own
open Jvm
/-! Ints in range, arrays -/
theorem ilt {a b : Int32} : a < b ↔ a.toInt < b.toInt := Int32.lt_iff_toInt_lt
theorem ile {a b : Int32} : a ≤ b ↔ a.toInt ≤ b.toInt := Int32.le_iff_toInt_le
theorem ieq {a b : Int32} : a = b ↔ a.toInt = b.toInt := Int32.toInt_inj.symm
theorem irng (a : Int32) : -2147483648 ≤ a.toInt ∧ a.toInt < 2147483648 := ⟨Int32.le_toInt a, Int32.toInt_lt a⟩
theorem iadd_i {a b : Int32} (h1 : -2147483648 ≤ a.toInt + b.toInt) (h2 : a.toInt + b.toInt < 2147483648) : (a + b).toInt = a.toInt + b.toInt := by
  rw [Int32.toInt_add]; exact Int.bmod_eq_of_le (by omega) (by omega)
theorem isub_i {a b : Int32} (h1 : -2147483648 ≤ a.toInt - b.toInt) (h2 : a.toInt - b.toInt < 2147483648) : (a - b).toInt = a.toInt - b.toInt := by
  rw [Int32.toInt_sub]; exact Int.bmod_eq_of_le (by omega) (by omega)
theorem imul_i {a b : Int32} (h1 : -2147483648 ≤ a.toInt * b.toInt) (h2 : a.toInt * b.toInt < 2147483648) : (a * b).toInt = a.toInt * b.toInt := by
  rw [Int32.toInt_mul]; exact Int.bmod_eq_of_le (by omega) (by omega)
theorem rdA_nn {α : Type} {L : List α} {j : Int32} (h0 : 0 ≤ j.toInt) : rdA L j = L[j.toInt.toNat]? := by
  unfold rdA
  rw [if_neg (by rw [ilt]; exact Int.not_lt.mpr h0)]
  rfl
theorem rdA_in {α : Type} {L : List α} {j : Int32} (h0 : 0 ≤ j.toInt) (h1 : j.toInt.toNat < L.length) : rdA L j = some L[j.toInt.toNat] := by
  rw [rdA_nn h0, List.getElem?_eq_getElem h1]
theorem wrA_in {α : Type} {L : List α} {j : Int32} {x : α} (h0 : 0 ≤ j.toInt) (h1 : j.toInt.toNat < L.length) : wrA L j x = some (L.set j.toInt.toNat x) := by
  unfold wrA
  rw [if_neg (by rw [ilt]; exact Int.not_lt.mpr h0)]
  exact if_pos h1
theorem rdA_rep {α : Type} {n : Nat} {x : α} {j : Int32} (h0 : 0 ≤ j.toInt) (h1 : j.toInt < n) : rdA (List.replicate n x) j = some x := by
  rw [rdA_nn h0, List.getElem?_replicate, if_pos (by omega)]
end Jvm.Own
namespace Jvm.Own
open Jvm
/-! Sums of ints with their wrap, for omega; runs that answer, and what they answer -/
theorem bmod32 (x : Int) : x.bmod (2 ^ 32) = (x + 2147483648) % 4294967296 - 2147483648 := by
  rw [Int.bmod_def]
  split <;> omega
theorem iadd_e (a b : Int32) : (a + b).toInt = (a.toInt + b.toInt + 2147483648) % 4294967296 - 2147483648 := by
  rw [Int32.toInt_add, bmod32]
theorem isub_e (a b : Int32) : (a - b).toInt = (a.toInt - b.toInt + 2147483648) % 4294967296 - 2147483648 := by
  rw [Int32.toInt_sub, bmod32]
theorem imul_e (a b : Int32) : (a * b).toInt = (a.toInt * b.toInt + 2147483648) % 4294967296 - 2147483648 := by
  rw [Int32.toInt_mul, bmod32]
theorem iscr {n : Nat} (h : n ≤ 260) : (n.toInt32).toInt = n := Int32.toInt_ofNat_of_lt (by omega)
def Tot {α : Type} (x : Option α) (P : α → Prop) : Prop := ∃ r, x = some r ∧ P r
theorem Tot.mk {α : Type} {P : α → Prop} {a : α} (h : P a) : Tot (some a) P := ⟨a, rfl, h⟩
theorem Tot.bind {α β : Type} {x : Option α} {f : α → Option β} {P : α → Prop} {Q : β → Prop} (h : Tot x P) (g : ∀ a, P a → Tot (f a) Q) : Tot (x.bind f) Q := by
  obtain ⟨r, e, p⟩ := h
  rw [e]
  exact g r p
theorem Tot.mono {α : Type} {x : Option α} {P Q : α → Prop} (h : Tot x P) (g : ∀ a, P a → Q a) : Tot x Q := by
  obtain ⟨r, e, p⟩ := h
  exact ⟨r, e, g r p⟩
theorem Tot.ite {α : Type} {c : Prop} [Decidable c] {a b : Option α} {Q : α → Prop} (h1 : c → Tot a Q) (h2 : ¬ c → Tot b Q) : Tot (if c then a else b) Q := by
  by_cases h : c
  · rw [if_pos h]; exact h1 h
  · rw [if_neg h]; exact h2 h
theorem Tot.rd {α β : Type} {L : List α} {j : Int32} {f : α → Option β} {Q : β → Prop} (h0 : 0 ≤ j.toInt) (h1 : j.toInt < L.length) (g : ∀ a, L[j.toInt.toNat]? = some a → Tot (f a) Q) : Tot ((rdA L j).bind f) Q := by
  have h2 : j.toInt.toNat < L.length := by omega
  rw [rdA_in h0 h2]
  exact g _ (List.getElem?_eq_getElem h2)
theorem Tot.wr {α β : Type} {L : List α} {j : Int32} {x : α} {f : List α → Option β} {Q : β → Prop} (h0 : 0 ≤ j.toInt) (h1 : j.toInt < L.length) (g : ∀ L' : List α, L' = L.set j.toInt.toNat x → L'.length = L.length → Tot (f L') Q) : Tot ((wrA L j x).bind f) Q := by
  rw [wrA_in h0 (by omega)]
  exact g _ rfl (by simp)
theorem Tot.eq {α : Type} {x : Option α} {a : α} (h : Tot x (fun r => r = a)) : x = some a := by
  obtain ⟨r, e, p⟩ := h
  rw [e, p]
theorem Tot.of {α : Type} {x : Option α} {a : α} {P : α → Prop} (e : x = some a) (p : P a) : Tot x P := ⟨a, e, p⟩
/-- a bit mask at 15, 31 .. -/
theorem iand_rng (x : Int32) (m : Int32) (h : 0 ≤ m.toInt) : 0 ≤ (x &&& m).toInt ∧ (x &&& m).toInt ≤ m.toInt := by
  have hm : m.toBitVec.msb = false := by
    rw [BitVec.msb_eq_toInt]; simpa using h
  have hx : (x &&& m).toBitVec.msb = false := by
    rw [Int32.toBitVec_and, BitVec.msb_and, hm, Bool.and_false]
  have e1 : m.toInt = (m.toBitVec.toNat : Int) := BitVec.toInt_eq_toNat_of_msb hm
  have e2 : (x &&& m).toInt = (((x &&& m).toBitVec).toNat : Int) := BitVec.toInt_eq_toNat_of_msb hx
  have e3 : ((x &&& m).toBitVec).toNat ≤ m.toBitVec.toNat := by
    rw [Int32.toBitVec_and, BitVec.toNat_and]; exact Nat.and_le_right
  omega
def gI (L : List Int32) (j : Int32) : Int32 := (rdA L j).getD 0
theorem rdg {L : List Int32} {j : Int32} (h0 : 0 ≤ j.toInt) (h1 : j.toInt < L.length) : rdA L j = some (gI L j) := by
  have h2 : j.toInt.toNat < L.length := by omega
  unfold gI
  rw [rdA_in h0 h2]
  (first | done | rfl | simp)
theorem gset {L : List Int32} {i j : Int32} {x : Int32} (hi : 0 ≤ i.toInt) (hl : i.toInt < L.length) (hj : 0 ≤ j.toInt) : gI (L.set i.toInt.toNat x) j = if i = j then x else gI L j := by
  unfold gI
  rw [rdA_nn hj, rdA_nn hj]
  by_cases h : i = j
  · subst h
    rw [if_pos rfl, List.getElem?_set_self (by omega)]
    (first | done | rfl | simp)
  · rw [if_neg h, List.getElem?_set_ne (by rw [ieq] at h; omega)]
theorem gext {A B : List Int32} (hl : A.length < 100000) (ha : A.length = B.length) (h : ∀ i : Int32, 0 ≤ i.toInt → i.toInt < A.length → gI A i = gI B i) : A = B := by
  apply List.ext_getElem ha
  intro k h1 h2
  have e : (Int32.ofNat k).toInt = k := Int32.toInt_ofNat_of_lt (by omega)
  have q := h (Int32.ofNat k) (by omega) (by omega)
  unfold gI at q
  rw [rdA_nn (by omega), rdA_nn (by omega), e] at q
  simpa [h1, h2] using q
theorem Tot.rdI {β : Type} {L : List Int32} {j : Int32} {f : Int32 → Option β} {Q : β → Prop} (h0 : 0 ≤ j.toInt) (h1 : j.toInt < L.length) (g : Tot (f (gI L j)) Q) : Tot ((rdA L j).bind f) Q := by
  rw [rdg h0 h1]
  exact g
theorem gI_rep {n : Nat} {x : Int32} {j : Int32} (h0 : 0 ≤ j.toInt) (h1 : j.toInt < n) : gI (List.replicate n x) j = x := by
  unfold gI
  rw [rdA_rep h0 h1]
  (first | done | rfl | simp)
/-! Longs -/
theorem lltI {a b : Int64} : a < b ↔ a.toInt < b.toInt := Int64.lt_iff_toInt_lt
theorem leqI {a b : Int64} : a = b ↔ a.toInt = b.toInt := Int64.toInt_inj.symm
theorem lrng (a : Int64) : -9223372036854775808 ≤ a.toInt ∧ a.toInt < 9223372036854775808 := ⟨Int64.le_toInt a, Int64.toInt_lt a⟩
theorem ladd_i {a b : Int64} (h1 : -9223372036854775808 ≤ a.toInt + b.toInt) (h2 : a.toInt + b.toInt < 9223372036854775808) : (a + b).toInt = a.toInt + b.toInt := by
  rw [Int64.toInt_add]; exact Int.bmod_eq_of_le (by omega) (by omega)
theorem lsub_i {a b : Int64} (h1 : -9223372036854775808 ≤ a.toInt - b.toInt) (h2 : a.toInt - b.toInt < 9223372036854775808) : (a - b).toInt = a.toInt - b.toInt := by
  rw [Int64.toInt_sub]; exact Int.bmod_eq_of_le (by omega) (by omega)
theorem lmul_i {a b : Int64} (h1 : -9223372036854775808 ≤ a.toInt * b.toInt) (h2 : a.toInt * b.toInt < 9223372036854775808) : (a * b).toInt = a.toInt * b.toInt := by
  rw [Int64.toInt_mul]; exact Int.bmod_eq_of_le (by omega) (by omega)
theorem lmod_i {a b : Int64} (h : 0 ≤ a.toInt) : (a % b).toInt = a.toInt % b.toInt := by
  rw [Int64.toInt_mod, Int.tmod_eq_emod_of_nonneg h]
theorem lback {a : Int64} (h1 : -2147483648 ≤ a.toInt) (h2 : a.toInt < 2147483648) : a.toInt32.toInt64 = a := by
  rw [leqI, Int32.toInt_toInt64, Int64.toInt_toInt32, bmod32]
  omega
theorem mulb {a b M : Int} (h0 : 0 ≤ a) (h1 : a ≤ M) (h2 : 0 ≤ b) (h3 : b ≤ M) : 0 ≤ a * b ∧ a * b ≤ M * M :=
  ⟨Int.mul_nonneg h0 h2, Int.mul_le_mul h1 h3 h2 (by omega)⟩
end Jvm.Own
namespace Jvm.Pilot.@@N@@
open Jvm Jvm.ClassFile Sem Op Lib Jvm.Free Jvm.Stand Jvm.LawKit Jvm.RoadKit Bundle Jvm.Own Jvm.Pilot.@@N@@.Jvm.D
def d_0 : MD := (x, code, maxLocals, ret, 0, 1, 999, 5, 93, [(0, .iconst 1, 1, [], 0, 0), (1, .aload_n 0, 1, [], 0, 0), (2, .iconst 0, 1, [], 0, 0), (3, .invokestatic 36, 3, [], 1, 0), (6, .iconst 3, 1, [], 0, 0), (7, .iand, 1, [], 0, 0), (8, .iadd, 1, [], 0, 0), (9, .istore_n 1, 1, [], 0, 0), (10, .iconst 1, 1, [], 0, 0), (11, .aload_n 0, 1, [], 0, 0), (12, .iconst 1, 1, [], 0, 0), (13, .invokestatic 36, 3, [], 1, 0), (16, .iconst 3, 1, [], 0, 0), (17, .iand, 1, [], 0, 0), (18, .iadd, 1, [], 0, 0), (19, .istore_n 2, 1, [], 0, 0), (20, .new 8, 3, [], 0, 0), (23, .dup, 1, [], 0, 0), (24, .iload_n 1, 1, [], 0, 0), (25, .iload_n 2, 1, [], 0, 0), (26, .invokespecial 40, 3, [], 2, 0), (29, .astore_n 3, 1, [], 0, 0), (30, .iconst 0, 1, [], 0, 0), (31, .istore 4, 2, [], 0, 0), (33, .iconst 2, 1, [], 0, 0), (34, .istore 5, 2, [], 0, 0), (36, .iload 5, 2, [false, false, false, false, false, false, true, true, true, true, true, true], 0, 0), (38, .aload_n 0, 1, [], 0, 0), (39, .arraylength, 1, [], 0, 0), (40, .if_icmp .ge 206, 3, [], 0, 0), (43, .aload_n 0, 1, [], 0, 0), (44, .iload 5, 2, [], 0, 0), (46, .invokestatic 36, 3, [], 1, 0), (49, .ldc 43, 2, [], 0, 2147483647), (51, .iand, 1, [], 0, 0), (52, .bipush 6, 2, [], 0, 0), (54, .irem, 1, [], 0, 0), (55, .istore 6, 2, [], 0, 0), (57, .aload_n 0, 1, [], 0, 0), (58, .iload 5, 2, [], 0, 0), (60, .iconst 1, 1, [], 0, 0), (61, .iadd, 1, [], 0, 0), (62, .invokestatic 36, 3, [], 1, 0), (65, .istore 7, 2, [], 0, 0), (67, .iload 7, 2, [], 0, 0), (69, .sipush 255, 3, [], 0, 0), (72, .iand, 1, [], 0, 0), (73, .iload_n 1, 1, [], 0, 0), (74, .irem, 1, [], 0, 0), (75, .istore 8, 2, [], 0, 0), (77, .iload 7, 2, [], 0, 0), (79, .bipush 8, 2, [], 0, 0), (81, .iushr, 1, [], 0, 0), (82, .sipush 255, 3, [], 0, 0), (85, .iand, 1, [], 0, 0), (86, .iload_n 2, 1, [], 0, 0), (87, .irem, 1, [], 0, 0), (88, .istore 9, 2, [], 0, 0), (90, .iload 7, 2, [], 0, 0), (92, .bipush 16, 2, [], 0, 0), (94, .iushr, 1, [], 0, 0), (95, .iconst 1, 1, [], 0, 0), (96, .iand, 1, [], 0, 0), (97, .istore 10, 2, [], 0, 0), (99, .iload 6, 2, [], 0, 0), (101, .ifCond .ne 20, 3, [], 0, 0), (104, .aload_n 3, 1, [], 0, 0), (105, .iload 8, 2, [], 0, 0), (107, .iload 9, 2, [], 0, 0), (109, .iload 10, 2, [], 0, 0), (111, .invokevirtual 44, 3, [], 24, 0), (114, .pop, 1, [], 0, 0), (115, .iconst 0, 1, [], 0, 0), (116, .istore 4, 2, [], 0, 0), (118, .goto 122, 3, [], 0, 0), (121, .iload 6, 2, [], 0, 0), (123, .iconst 1, 1, [], 0, 0), (124, .if_icmp .ne 18, 3, [], 0, 0), (127, .aload_n 3, 1, [], 0, 0), (128, .iload 8, 2, [], 0, 0), (130, .iload 9, 2, [], 0, 0), (132, .invokevirtual 48, 3, [], 5, 0), (135, .pop, 1, [], 0, 0), (136, .iconst 0, 1, [], 0, 0), (137, .istore 4, 2, [], 0, 0), (139, .goto 101, 3, [], 0, 0), (142, .iload 6, 2, [], 0, 0), (144, .iconst 2, 1, [], 0, 0), (145, .if_icmp .ne 14, 3, [], 0, 0), (148, .aload_n 3, 1, [], 0, 0), (149, .invokevirtual 51, 3, [], 23, 0), (152, .pop, 1, [], 0, 0), (153, .iconst 0, 1, [], 0, 0), (154, .istore 4, 2, [], 0, 0), (156, .goto 84, 3, [], 0, 0), (159, .iload 6, 2, [], 0, 0), (161, .iconst 3, 1, [], 0, 0), (162, .if_icmp .ne 34, 3, [], 0, 0), (165, .aload_n 3, 1, [], 0, 0), (166, .iload_n 1, 1, [], 0, 0), (167, .iload_n 2, 1, [], 0, 0), (168, .invokestatic 55, 3, [], 9, 0), (171, .istore 11, 2, [], 0, 0), (173, .iload 11, 2, [], 0, 0), (175, .ifCond .ge 5, 3, [], 0, 0), (178, .iconst 0, 1, [], 0, 0), (179, .ireturn, 1, [], 0, 0), (180, .iload 11, 2, [], 0, 0), (182, .iconst 1, 1, [], 0, 0), (183, .if_icmp .ne 7, 3, [], 0, 0), (186, .iconst 1, 1, [], 0, 0), (187, .goto 4, 3, [], 0, 0), (190, .iconst 0, 1, [], 0, 0), (191, .istore 4, 2, [], 0, 0), (193, .goto 47, 3, [], 0, 0), (196, .iload 6, 2, [], 0, 0), (198, .iconst 4, 1, [], 0, 0), (199, .if_icmp .ne 34, 3, [], 0, 0), (202, .aload_n 3, 1, [], 0, 0), (203, .invokevirtual 59, 3, [], 25, 0), (206, .istore 11, 2, [], 0, 0), (208, .iload 4, 2, [], 0, 0), (210, .ifCond .eq 17, 3, [], 0, 0), (213, .iload 11, 2, [], 0, 0), (215, .ifCond .eq 12, 3, [], 0, 0), (218, .aload_n 3, 1, [], 0, 0), (219, .invokevirtual 62, 3, [], 26, 0), (222, .ifCond .eq 5, 3, [], 0, 0), (225, .iconst 0, 1, [], 0, 0), (226, .ireturn, 1, [], 0, 0), (227, .iconst 0, 1, [], 0, 0), (228, .istore 4, 2, [], 0, 0), (230, .goto 10, 3, [], 0, 0), (233, .aload_n 3, 1, [], 0, 0), (234, .invokevirtual 65, 3, [], 27, 0), (237, .iconst 0, 1, [], 0, 0), (238, .istore 4, 2, [], 0, 0), (240, .iinc 5 2, 3, [], 0, 0), (243, .goto (-207), 3, [], 0, 0), (246, .aload_n 3, 1, [true, false, false, false, true, true, true, true, true, true, true, true], 0, 0), (247, .iload_n 1, 1, [], 0, 0), (248, .iload_n 2, 1, [], 0, 0), (249, .invokestatic 55, 3, [], 9, 0), (252, .ifCond .lt 7, 3, [], 0, 0), (255, .iconst 1, 1, [], 0, 0), (256, .goto 4, 3, [], 0, 0), (259, .iconst 0, 1, [], 0, 0), (260, .ireturn, 1, [], 0, 0)])
def d_1 : MD := (⟨"LightsOutSolverOwnLaw", "cell", "([II)I"⟩, method_2_code, 2, some .int, 0, 2, 999, 0, 0, [(0, .iload_n 1, 1, [], 0, 0), (1, .aload_n 0, 1, [], 0, 0), (2, .arraylength, 1, [], 0, 0), (3, .if_icmp .ge 9, 3, [], 0, 0), (6, .aload_n 0, 1, [], 0, 0), (7, .iload_n 1, 1, [], 0, 0), (8, .iaload, 1, [], 0, 0), (9, .goto 4, 3, [], 0, 0), (12, .iconst 0, 1, [], 0, 0), (13, .ireturn, 1, [], 0, 0)])
def d_2 : MD := (⟨"LightsOutSolver", "<init>", "(II)V"⟩, prog_1_method_1_code, 3, none, 1, 2, 0, 1, 13, [(0, .aload_n 0, 1, [], 0, 0), (1, .invokespecial 1, 3, [], 0, -1), (4, .aload_n 0, 1, [], 0, 0), (5, .bipush 64, 2, [], 0, 0), (7, .newarray .int, 2, [], 0, 0), (9, .putfield 7, 3, [], 0, 0), (12, .aload_n 0, 1, [], 0, 0), (13, .bipush 8, 2, [], 0, 0), (15, .newarray .int, 2, [], 0, 0), (17, .putfield 13, 3, [], 1, 0), (20, .aload_n 0, 1, [], 0, 0), (21, .bipush 8, 2, [], 0, 0), (23, .newarray .int, 2, [], 0, 0), (25, .putfield 16, 3, [], 2, 0), (28, .aload_n 0, 1, [], 0, 0), (29, .iload_n 1, 1, [], 0, 0), (30, .invokestatic 19, 3, [], 3, 0), (33, .putfield 23, 3, [], 3, 0), (36, .aload_n 0, 1, [], 0, 0), (37, .iload_n 2, 1, [], 0, 0), (38, .invokestatic 19, 3, [], 3, 0), (41, .putfield 27, 3, [], 4, 0), (44, .aload_n 0, 1, [], 0, 0), (45, .lconst 0, 1, [], 0, 0), (46, .putfield 30, 3, [], 5, 0), (49, .aload_n 0, 1, [], 0, 0), (50, .iconst 0, 1, [], 0, 0), (51, .putfield 34, 3, [], 6, 0), (54, .aload_n 0, 1, [], 0, 0), (55, .invokevirtual 37, 3, [], 4, 0), (58, .return_, 1, [], 0, 0)])
def d_3 : MD := (⟨"LightsOutSolver", "clamp", "(I)I"⟩, prog_1_method_18_code, 1, some .int, 0, 1, 0, 0, 0, [(0, .iload_n 0, 1, [], 0, 0), (1, .iconst 1, 1, [], 0, 0), (2, .if_icmp .ge 5, 3, [], 0, 0), (5, .iconst 1, 1, [], 0, 0), (6, .ireturn, 1, [], 0, 0), (7, .iload_n 0, 1, [], 0, 0), (8, .bipush 8, 2, [], 0, 0), (10, .if_icmp .le 6, 3, [], 0, 0), (13, .bipush 8, 2, [], 0, 0), (15, .ireturn, 1, [], 0, 0), (16, .iload_n 0, 1, [], 0, 0), (17, .ireturn, 1, [], 0, 0)])
def d_4 : MD := (⟨"LightsOutSolver", "forgetResult", "()V"⟩, prog_1_method_19_code, 1, none, 2, 0, 0, 0, 0, [(0, .aload_n 0, 1, [], 0, 0), (1, .iconst 0, 1, [], 0, 0), (2, .putfield 70, 3, [], 7, 0), (5, .aload_n 0, 1, [], 0, 0), (6, .lconst 0, 1, [], 0, 0), (7, .putfield 73, 3, [], 8, 0), (10, .aload_n 0, 1, [], 0, 0), (11, .iconst 0, 1, [], 0, 0), (12, .putfield 76, 3, [], 9, 0), (15, .aload_n 0, 1, [], 0, 0), (16, .iconst 0, 1, [], 0, 0), (17, .putfield 79, 3, [], 10, 0), (20, .return_, 1, [], 0, 0)])
def d_5 : MD := (⟨"LightsOutSolver", "press", "(II)Z"⟩, prog_1_method_5_code, 3, some .boolean, 3, 2, 0, 2, 32, [(0, .aload_n 0, 1, [], 0, 0), (1, .iload_n 1, 1, [], 0, 0), (2, .iload_n 2, 1, [], 0, 0), (3, .invokevirtual 40, 3, [], 6, 0), (6, .ifCond .ne 5, 3, [], 0, 0), (9, .iconst 0, 1, [], 0, 0), (10, .ireturn, 1, [], 0, 0), (11, .aload_n 0, 1, [], 0, 0), (12, .getfield 34, 3, [], 6, 0), (15, .bipush 64, 2, [], 0, 0), (17, .if_icmp .lt 5, 3, [], 0, 0), (20, .iconst 0, 1, [], 0, 0), (21, .ireturn, 1, [], 0, 0), (22, .aload_n 0, 1, [], 0, 0), (23, .iload_n 1, 1, [], 0, 0), (24, .iload_n 2, 1, [], 0, 0), (25, .invokevirtual 50, 3, [], 7, 0), (28, .aload_n 0, 1, [], 0, 0), (29, .getfield 7, 3, [], 0, 0), (32, .aload_n 0, 1, [], 0, 0), (33, .getfield 34, 3, [], 6, 0), (36, .iload_n 1, 1, [], 0, 0), (37, .aload_n 0, 1, [], 0, 0), (38, .getfield 27, 3, [], 4, 0), (41, .imul, 1, [], 0, 0), (42, .iload_n 2, 1, [], 0, 0), (43, .iadd, 1, [], 0, 0), (44, .iastore, 1, [], 0, 0), (45, .aload_n 0, 1, [], 0, 0), (46, .dup, 1, [], 0, 0), (47, .getfield 34, 3, [], 6, 0), (50, .iconst 1, 1, [], 0, 0), (51, .iadd, 1, [], 0, 0), (52, .putfield 34, 3, [], 6, 0), (55, .iconst 1, 1, [], 0, 0), (56, .ireturn, 1, [], 0, 0)])
def d_6 : MD := (⟨"LightsOutSolver", "onBoard", "(II)Z"⟩, prog_1_method_20_code, 3, some .boolean, 2, 2, 0, 0, 0, [(0, .iload_n 1, 1, [], 0, 0), (1, .ifCond .lt 27, 3, [], 0, 0), (4, .iload_n 1, 1, [], 0, 0), (5, .aload_n 0, 1, [], 0, 0), (6, .getfield 23, 3, [], 3, 0), (9, .if_icmp .ge 19, 3, [], 0, 0), (12, .iload_n 2, 1, [], 0, 0), (13, .ifCond .lt 15, 3, [], 0, 0), (16, .iload_n 2, 1, [], 0, 0), (17, .aload_n 0, 1, [], 0, 0), (18, .getfield 27, 3, [], 4, 0), (21, .if_icmp .ge 7, 3, [], 0, 0), (24, .iconst 1, 1, [], 0, 0), (25, .goto 4, 3, [], 0, 0), (28, .iconst 0, 1, [], 0, 0), (29, .ireturn, 1, [], 0, 0)])
def d_7 : MD := (⟨"LightsOutSolver", "toggleCell", "(II)V"⟩, prog_1_method_22_code, 5, none, 2, 2, 0, 1, 16, [(0, .aload_n 0, 1, [], 0, 0), (1, .iload_n 1, 1, [], 0, 0), (2, .iload_n 2, 1, [], 0, 0), (3, .invokevirtual 44, 3, [], 8, 0), (6, .lstore_n 3, 1, [], 0, 0), (7, .iload_n 1, 1, [], 0, 0), (8, .ifCond .le 14, 3, [], 0, 0), (11, .lload_n 3, 1, [], 0, 0), (12, .aload_n 0, 1, [], 0, 0), (13, .iload_n 1, 1, [], 0, 0), (14, .iconst 1, 1, [], 0, 0), (15, .isub, 1, [], 0, 0), (16, .iload_n 2, 1, [], 0, 0), (17, .invokevirtual 44, 3, [], 8, 0), (20, .lor, 1, [], 0, 0), (21, .lstore_n 3, 1, [], 0, 0), (22, .iload_n 1, 1, [], 0, 0), (23, .iconst 1, 1, [], 0, 0), (24, .iadd, 1, [], 0, 0), (25, .aload_n 0, 1, [], 0, 0), (26, .getfield 23, 3, [], 3, 0), (29, .if_icmp .ge 14, 3, [], 0, 0), (32, .lload_n 3, 1, [], 0, 0), (33, .aload_n 0, 1, [], 0, 0), (34, .iload_n 1, 1, [], 0, 0), (35, .iconst 1, 1, [], 0, 0), (36, .iadd, 1, [], 0, 0), (37, .iload_n 2, 1, [], 0, 0), (38, .invokevirtual 44, 3, [], 8, 0), (41, .lor, 1, [], 0, 0), (42, .lstore_n 3, 1, [], 0, 0), (43, .iload_n 2, 1, [], 0, 0), (44, .ifCond .le 14, 3, [], 0, 0), (47, .lload_n 3, 1, [], 0, 0), (48, .aload_n 0, 1, [], 0, 0), (49, .iload_n 1, 1, [], 0, 0), (50, .iload_n 2, 1, [], 0, 0), (51, .iconst 1, 1, [], 0, 0), (52, .isub, 1, [], 0, 0), (53, .invokevirtual 44, 3, [], 8, 0), (56, .lor, 1, [], 0, 0), (57, .lstore_n 3, 1, [], 0, 0), (58, .iload_n 2, 1, [], 0, 0), (59, .iconst 1, 1, [], 0, 0), (60, .iadd, 1, [], 0, 0), (61, .aload_n 0, 1, [], 0, 0), (62, .getfield 27, 3, [], 4, 0), (65, .if_icmp .ge 14, 3, [], 0, 0), (68, .lload_n 3, 1, [], 0, 0), (69, .aload_n 0, 1, [], 0, 0), (70, .iload_n 1, 1, [], 0, 0), (71, .iload_n 2, 1, [], 0, 0), (72, .iconst 1, 1, [], 0, 0), (73, .iadd, 1, [], 0, 0), (74, .invokevirtual 44, 3, [], 8, 0), (77, .lor, 1, [], 0, 0), (78, .lstore_n 3, 1, [], 0, 0), (79, .aload_n 0, 1, [false, true, true], 0, 0), (80, .dup, 1, [], 0, 0), (81, .getfield 30, 3, [], 5, 0), (84, .lload_n 3, 1, [], 0, 0), (85, .lxor, 1, [], 0, 0), (86, .putfield 30, 3, [], 5, 0), (89, .return_, 1, [], 0, 0)])
def d_8 : MD := (⟨"LightsOutSolver", "bit", "(II)J"⟩, prog_1_method_21_code, 3, some .long, 2, 2, 0, 0, 0, [(0, .lconst 1, 1, [], 0, 0), (1, .iload_n 1, 1, [], 0, 0), (2, .aload_n 0, 1, [], 0, 0), (3, .getfield 27, 3, [], 4, 0), (6, .imul, 1, [], 0, 0), (7, .iload_n 2, 1, [], 0, 0), (8, .iadd, 1, [], 0, 0), (9, .lshl, 1, [], 0, 0), (10, .lreturn, 1, [], 0, 0)])
def d_9 : MD := (⟨"LightsOutSolverOwnLaw", "check", "(LLightsOutSolver;II)I"⟩, method_5_code, 19, some .int, 0, 3, 999, 4, 63, [(0, .iload_n 1, 1, [], 0, 0), (1, .iload_n 2, 1, [], 0, 0), (2, .imul, 1, [], 0, 0), (3, .istore_n 3, 1, [], 0, 0), (4, .lconst 0, 1, [], 0, 0), (5, .lstore 4, 2, [], 0, 0), (7, .iconst 0, 1, [], 0, 0), (8, .istore 6, 2, [], 0, 0), (10, .iload 6, 2, [false, false, false, false, false, false, false, true, true, true, true, true, true, true, true, true, true, true, true], 0, 0), (12, .iload_n 3, 1, [], 0, 0), (13, .if_icmp .ge 33, 3, [], 0, 0), (16, .aload_n 0, 1, [], 0, 0), (17, .iload 6, 2, [], 0, 0), (19, .iload_n 2, 1, [], 0, 0), (20, .idiv, 1, [], 0, 0), (21, .iload 6, 2, [], 0, 0), (23, .iload_n 2, 1, [], 0, 0), (24, .irem, 1, [], 0, 0), (25, .invokevirtual 7, 3, [], 10, 0), (28, .ifCond .eq 12, 3, [], 0, 0), (31, .lload 4, 2, [], 0, 0), (33, .lconst 1, 1, [], 0, 0), (34, .iload 6, 2, [], 0, 0), (36, .lshl, 1, [], 0, 0), (37, .lor, 1, [], 0, 0), (38, .lstore 4, 2, [], 0, 0), (40, .iinc 6 1, 3, [], 0, 0), (43, .goto (-33), 3, [], 0, 0), (46, .aload_n 0, 1, [false, false, false, false, false, false, true, true, true, true, true, true, true, true, true, true, true, true, true], 0, 0), (47, .invokevirtual 13, 3, [], 11, 0), (50, .istore 6, 2, [], 0, 0), (52, .iload 6, 2, [], 0, 0), (54, .iconst 1, 1, [], 0, 0), (55, .if_icmp .eq 12, 3, [], 0, 0), (58, .iload 6, 2, [], 0, 0), (60, .iconst 2, 1, [], 0, 0), (61, .if_icmp .eq 6, 3, [], 0, 0), (64, .iload 6, 2, [], 0, 0), (66, .ireturn, 1, [], 0, 0), (67, .lconst 0, 1, [false, false, false, false, false, false, false, true, true, true, true, true, true, true, true, true, true, true, true], 0, 0), (68, .lstore 7, 2, [], 0, 0), (70, .lconst 0, 1, [], 0, 0), (71, .lstore 9, 2, [], 0, 0), (73, .iconst 0, 1, [], 0, 0), (74, .istore 11, 2, [], 0, 0), (76, .iconst 0, 1, [], 0, 0), (77, .istore 12, 2, [], 0, 0), (79, .iload_n 3, 1, [], 0, 0), (80, .iconst 1, 1, [], 0, 0), (81, .iadd, 1, [], 0, 0), (82, .istore 13, 2, [], 0, 0), (84, .lload 4, 2, [], 0, 0), (86, .lconst 0, 1, [], 0, 0), (87, .lcmp, 1, [], 0, 0), (88, .ifCond .ne 9, 3, [], 0, 0), (91, .iconst 1, 1, [], 0, 0), (92, .istore 12, 2, [], 0, 0), (94, .iconst 0, 1, [], 0, 0), (95, .istore 13, 2, [], 0, 0), (97, .iconst 1, 1, [false, false, false, false, false, false, false, false, false, false, false, false, false, false, true, true, true, true, true], 0, 0), (98, .iload_n 3, 1, [], 0, 0), (99, .ishl, 1, [], 0, 0), (100, .istore 14, 2, [], 0, 0), (102, .iconst 1, 1, [], 0, 0), (103, .istore 15, 2, [], 0, 0), (105, .iload 15, 2, [false, false, false, false, false, false, false, false, false, false, false, false, false, false, false, false, true, true, true], 0, 0), (107, .iload 14, 2, [], 0, 0), (109, .if_icmp .ge 80, 3, [], 0, 0), (112, .iload 15, 2, [], 0, 0), (114, .invokestatic 17, 3, [], 18, 0), (117, .istore 16, 2, [], 0, 0), (119, .lload 7, 2, [], 0, 0), (121, .iload 16, 2, [], 0, 0), (123, .iload_n 1, 1, [], 0, 0), (124, .iload_n 2, 1, [], 0, 0), (125, .invokestatic 23, 3, [], 19, 0), (128, .lxor, 1, [], 0, 0), (129, .lstore 7, 2, [], 0, 0), (131, .lload 9, 2, [], 0, 0), (133, .lconst 1, 1, [], 0, 0), (134, .iload 16, 2, [], 0, 0), (136, .lshl, 1, [], 0, 0), (137, .lxor, 1, [], 0, 0), (138, .lstore 9, 2, [], 0, 0), (140, .lload 9, 2, [], 0, 0), (142, .lconst 1, 1, [], 0, 0), (143, .iload 16, 2, [], 0, 0), (145, .lshl, 1, [], 0, 0), (146, .land, 1, [], 0, 0), (147, .lconst 0, 1, [], 0, 0), (148, .lcmp, 1, [], 0, 0), (149, .ifCond .eq 9, 3, [], 0, 0), (152, .iinc 11 1, 3, [], 0, 0), (155, .goto 6, 3, [], 0, 0), (158, .iinc 11 (-1), 3, [], 0, 0), (161, .lload 7, 2, [false, false, false, false, false, false, false, false, false, false, false, false, false, false, false, false, true, true, true], 0, 0), (163, .lload 4, 2, [], 0, 0), (165, .lcmp, 1, [], 0, 0), (166, .ifCond .ne 17, 3, [], 0, 0), (169, .iinc 12 1, 3, [], 0, 0), (172, .iload 11, 2, [], 0, 0), (174, .iload 13, 2, [], 0, 0), (176, .if_icmp .ge 7, 3, [], 0, 0), (179, .iload 11, 2, [], 0, 0), (181, .istore 13, 2, [], 0, 0), (183, .iinc 15 1, 3, [], 0, 0), (186, .goto (-81), 3, [], 0, 0), (189, .iload 6, 2, [false, false, false, false, false, false, false, true, true, true, true, true, false, false, true, true, true, true, true], 0, 0), (191, .iconst 2, 1, [], 0, 0), (192, .if_icmp .ne 32, 3, [], 0, 0), (195, .iload 12, 2, [], 0, 0), (197, .ifCond .eq 5, 3, [], 0, 0), (200, .iconst (-1), 1, [], 0, 0), (201, .ireturn, 1, [], 0, 0), (202, .aload_n 0, 1, [], 0, 0), (203, .invokevirtual 27, 3, [], 21, 0), (206, .iconst (-1), 1, [], 0, 0), (207, .if_icmp .eq 5, 3, [], 0, 0), (210, .iconst (-1), 1, [], 0, 0), (211, .ireturn, 1, [], 0, 0), (212, .aload_n 0, 1, [], 0, 0), (213, .invokevirtual 30, 3, [], 22, 0), (216, .ifCond .eq 5, 3, [], 0, 0), (219, .iconst (-1), 1, [], 0, 0), (220, .ireturn, 1, [], 0, 0), (221, .iload 6, 2, [], 0, 0), (223, .ireturn, 1, [], 0, 0), (224, .lconst 0, 1, [], 0, 0), (225, .lstore 15, 2, [false, false, false, false, false, false, false, false, false, false, false, false, false, false, false, true, true], 0, 0), (227, .iconst 0, 1, [], 0, 0), (228, .istore 17, 2, [], 0, 0), (230, .iconst 0, 1, [], 0, 0), (231, .istore 18, 2, [], 0, 0), (233, .iload 18, 2, [false, false, false, false, false, false, false, true, true, true, true, true, false, false, true], 0, 0), (235, .iload_n 3, 1, [], 0, 0), (236, .if_icmp .ge 39, 3, [], 0, 0), (239, .aload_n 0, 1, [], 0, 0), (240, .iload 18, 2, [], 0, 0), (242, .iload_n 2, 1, [], 0, 0), (243, .idiv, 1, [], 0, 0), (244, .iload 18, 2, [], 0, 0), (246, .iload_n 2, 1, [], 0, 0), (247, .irem, 1, [], 0, 0), (248, .invokevirtual 33, 3, [], 20, 0), (251, .ifCond .eq 18, 3, [], 0, 0), (254, .lload 15, 2, [], 0, 0), (256, .iload 18, 2, [], 0, 0), (258, .iload_n 1, 1, [], 0, 0), (259, .iload_n 2, 1, [], 0, 0), (260, .invokestatic 23, 3, [], 19, 0), (263, .lxor, 1, [], 0, 0), (264, .lstore 15, 2, [false, false, false, false, false, false, false, false, false, false, false, false, false, false, false, true, true], 0, 0), (266, .iinc 17 1, 3, [], 0, 0), (269, .iinc 18 1, 3, [], 0, 0), (272, .goto (-39), 3, [], 0, 0), (275, .lload 15, 2, [false, true, true, true, false, false, false, true, true, true, true, true, false, false, true, false, false, false, true], 0, 0), (277, .lload 4, 2, [], 0, 0), (279, .lcmp, 1, [], 0, 0), (280, .ifCond .eq 5, 3, [], 0, 0), (283, .iconst (-1), 1, [], 0, 0), (284, .ireturn, 1, [], 0, 0), (285, .iload 17, 2, [], 0, 0), (287, .aload_n 0, 1, [], 0, 0), (288, .invokevirtual 27, 3, [], 21, 0), (291, .if_icmp .eq 5, 3, [], 0, 0), (294, .iconst (-1), 1, [], 0, 0), (295, .ireturn, 1, [], 0, 0), (296, .iload 13, 2, [], 0, 0), (298, .iload 17, 2, [], 0, 0), (300, .if_icmp .ge 5, 3, [], 0, 0), (303, .iconst (-1), 1, [], 0, 0), (304, .ireturn, 1, [], 0, 0), (305, .iload 12, 2, [], 0, 0), (307, .aload_n 0, 1, [], 0, 0), (308, .invokevirtual 30, 3, [], 22, 0), (311, .if_icmp .eq 5, 3, [], 0, 0), (314, .iconst (-1), 1, [], 0, 0), (315, .ireturn, 1, [], 0, 0), (316, .iload 6, 2, [], 0, 0), (318, .ireturn, 1, [], 0, 0)])
def d_10 : MD := (⟨"LightsOutSolver", "isLit", "(II)Z"⟩, prog_1_method_9_code, 3, some .boolean, 3, 2, 0, 1, 16, [(0, .aload_n 0, 1, [], 0, 0), (1, .iload_n 1, 1, [], 0, 0), (2, .iload_n 2, 1, [], 0, 0), (3, .invokevirtual 40, 3, [], 6, 0), (6, .ifCond .ne 5, 3, [], 0, 0), (9, .iconst 0, 1, [], 0, 0), (10, .ireturn, 1, [], 0, 0), (11, .aload_n 0, 1, [], 0, 0), (12, .getfield 30, 3, [], 5, 0), (15, .aload_n 0, 1, [], 0, 0), (16, .iload_n 1, 1, [], 0, 0), (17, .iload_n 2, 1, [], 0, 0), (18, .invokevirtual 44, 3, [], 8, 0), (21, .land, 1, [], 0, 0), (22, .lconst 0, 1, [], 0, 0), (23, .lcmp, 1, [], 0, 0), (24, .ifCond .eq 7, 3, [], 0, 0), (27, .iconst 1, 1, [], 0, 0), (28, .goto 4, 3, [], 0, 0), (31, .iconst 0, 1, [], 0, 0), (32, .ireturn, 1, [], 0, 0)])
def d_11 : MD := (⟨"LightsOutSolver", "solve", "()I"⟩, prog_1_method_11_code, 10, some .int, 3, 0, 0, 3, 42, [(0, .iconst 0, 1, [], 0, 0), (1, .istore_n 1, 1, [], 0, 0), (2, .bipush 65, 2, [], 0, 0), (4, .istore_n 2, 1, [], 0, 0), (5, .lconst 0, 1, [], 0, 0), (6, .lstore_n 3, 1, [], 0, 0), (7, .iconst 1, 1, [], 0, 0), (8, .aload_n 0, 1, [], 0, 0), (9, .getfield 27, 3, [], 4, 0), (12, .ishl, 1, [], 0, 0), (13, .istore 5, 2, [], 0, 0), (15, .iconst 0, 1, [], 0, 0), (16, .istore 6, 2, [], 0, 0), (18, .iload 6, 2, [false, false, false, false, false, false, false, true, true, true], 0, 0), (20, .iload 5, 2, [], 0, 0), (22, .if_icmp .ge 64, 3, [], 0, 0), (25, .aload_n 0, 1, [], 0, 0), (26, .iload 6, 2, [], 0, 0), (28, .invokevirtual 58, 3, [], 12, 0), (31, .ifCond .ne 6, 3, [], 0, 0), (34, .goto 46, 3, [], 0, 0), (37, .iinc 1 1, 3, [], 0, 0), (40, .aload_n 0, 1, [], 0, 0), (41, .invokevirtual 62, 3, [], 16, 0), (44, .lstore 7, 2, [], 0, 0), (46, .lload 7, 2, [], 0, 0), (48, .invokestatic 54, 3, [], 17, 0), (51, .istore 9, 2, [], 0, 0), (53, .iload 9, 2, [], 0, 0), (55, .iload_n 2, 1, [], 0, 0), (56, .if_icmp .lt 18, 3, [], 0, 0), (59, .iload 9, 2, [], 0, 0), (61, .iload_n 2, 1, [], 0, 0), (62, .if_icmp .ne 18, 3, [], 0, 0), (65, .lload 7, 2, [], 0, 0), (67, .lload_n 3, 1, [], 0, 0), (68, .invokestatic 66, 3, [], 28, 0), (71, .ifCond .eq 9, 3, [], 0, 0), (74, .iload 9, 2, [], 0, 0), (76, .istore_n 2, 1, [], 0, 0), (77, .lload 7, 2, [], 0, 0), (79, .lstore_n 3, 1, [], 0, 0), (80, .iinc 6 1, 3, [], 0, 0), (83, .goto (-65), 3, [], 0, 0), (86, .iload_n 1, 1, [false, false, false, false, false, true, true, true, true, true], 0, 0), (87, .ifCond .ne 26, 3, [], 0, 0), (90, .aload_n 0, 1, [], 0, 0), (91, .iconst 2, 1, [], 0, 0), (92, .putfield 70, 3, [], 7, 0), (95, .aload_n 0, 1, [], 0, 0), (96, .lconst 0, 1, [], 0, 0), (97, .putfield 73, 3, [], 8, 0), (100, .aload_n 0, 1, [], 0, 0), (101, .iconst 0, 1, [], 0, 0), (102, .putfield 76, 3, [], 9, 0), (105, .aload_n 0, 1, [], 0, 0), (106, .iconst 0, 1, [], 0, 0), (107, .putfield 79, 3, [], 10, 0), (110, .goto 23, 3, [], 0, 0), (113, .aload_n 0, 1, [], 0, 0), (114, .iconst 1, 1, [], 0, 0), (115, .putfield 70, 3, [], 7, 0), (118, .aload_n 0, 1, [], 0, 0), (119, .lload_n 3, 1, [], 0, 0), (120, .putfield 73, 3, [], 8, 0), (123, .aload_n 0, 1, [], 0, 0), (124, .iload_n 2, 1, [], 0, 0), (125, .putfield 76, 3, [], 9, 0), (128, .aload_n 0, 1, [], 0, 0), (129, .iload_n 1, 1, [], 0, 0), (130, .putfield 79, 3, [], 10, 0), (133, .aload_n 0, 1, [], 0, 0), (134, .getfield 70, 3, [], 7, 0), (137, .ireturn, 1, [], 0, 0)])
def d_12 : MD := (⟨"LightsOutSolver", "chase", "(I)Z"⟩, prog_1_method_26_code, 4, some .boolean, 2, 1, 0, 2, 27, [(0, .aload_n 0, 1, [], 0, 0), (1, .invokevirtual 86, 3, [], 13, 0), (4, .iload_n 1, 1, [], 0, 0), (5, .istore_n 2, 1, [], 0, 0), (6, .iconst 0, 1, [], 0, 0), (7, .istore_n 3, 1, [], 0, 0), (8, .iload_n 3, 1, [false, true], 0, 0), (9, .aload_n 0, 1, [], 0, 0), (10, .getfield 23, 3, [], 3, 0), (13, .if_icmp .ge 29, 3, [], 0, 0), (16, .aload_n 0, 1, [], 0, 0), (17, .getfield 16, 3, [], 2, 0), (20, .iload_n 3, 1, [], 0, 0), (21, .iload_n 2, 1, [], 0, 0), (22, .iastore, 1, [], 0, 0), (23, .aload_n 0, 1, [], 0, 0), (24, .iload_n 3, 1, [], 0, 0), (25, .iload_n 2, 1, [], 0, 0), (26, .invokevirtual 89, 3, [], 15, 0), (29, .aload_n 0, 1, [], 0, 0), (30, .getfield 13, 3, [], 1, 0), (33, .iload_n 3, 1, [], 0, 0), (34, .iaload, 1, [], 0, 0), (35, .istore_n 2, 1, [], 0, 0), (36, .iinc 3 1, 3, [], 0, 0), (39, .goto (-31), 3, [], 0, 0), (42, .aload_n 0, 1, [false, true, true, true], 0, 0), (43, .getfield 13, 3, [], 1, 0), (46, .aload_n 0, 1, [], 0, 0), (47, .getfield 23, 3, [], 3, 0), (50, .iconst 1, 1, [], 0, 0), (51, .isub, 1, [], 0, 0), (52, .iaload, 1, [], 0, 0), (53, .ifCond .ne 7, 3, [], 0, 0), (56, .iconst 1, 1, [], 0, 0), (57, .goto 4, 3, [], 0, 0), (60, .iconst 0, 1, [], 0, 0), (61, .ireturn, 1, [], 0, 0)])
def d_13 : MD := (⟨"LightsOutSolver", "loadRows", "()V"⟩, prog_1_method_24_code, 4, none, 2, 0, 0, 1, 12, [(0, .aload_n 0, 1, [], 0, 0), (1, .invokevirtual 82, 3, [], 14, 0), (4, .i2l, 1, [], 0, 0), (5, .lstore_n 1, 1, [], 0, 0), (6, .iconst 0, 1, [], 0, 0), (7, .istore_n 3, 1, [], 0, 0), (8, .iload_n 3, 1, [], 0, 0), (9, .aload_n 0, 1, [], 0, 0), (10, .getfield 23, 3, [], 3, 0), (13, .if_icmp .ge 29, 3, [], 0, 0), (16, .aload_n 0, 1, [], 0, 0), (17, .getfield 13, 3, [], 1, 0), (20, .iload_n 3, 1, [], 0, 0), (21, .aload_n 0, 1, [], 0, 0), (22, .getfield 30, 3, [], 5, 0), (25, .iload_n 3, 1, [], 0, 0), (26, .aload_n 0, 1, [], 0, 0), (27, .getfield 27, 3, [], 4, 0), (30, .imul, 1, [], 0, 0), (31, .lushr, 1, [], 0, 0), (32, .lload_n 1, 1, [], 0, 0), (33, .land, 1, [], 0, 0), (34, .l2i, 1, [], 0, 0), (35, .iastore, 1, [], 0, 0), (36, .iinc 3 1, 3, [], 0, 0), (39, .goto (-31), 3, [], 0, 0), (42, .return_, 1, [], 0, 0)])
def d_14 : MD := (⟨"LightsOutSolver", "rowMask", "()I"⟩, prog_1_method_23_code, 1, some .int, 2, 0, 0, 0, 0, [(0, .iconst 1, 1, [], 0, 0), (1, .aload_n 0, 1, [], 0, 0), (2, .getfield 27, 3, [], 4, 0), (5, .ishl, 1, [], 0, 0), (6, .iconst 1, 1, [], 0, 0), (7, .isub, 1, [], 0, 0), (8, .ireturn, 1, [], 0, 0)])
def d_15 : MD := (⟨"LightsOutSolver", "applyRowPress", "(II)V"⟩, prog_1_method_25_code, 4, none, 2, 2, 0, 1, 12, [(0, .aload_n 0, 1, [], 0, 0), (1, .invokevirtual 82, 3, [], 14, 0), (4, .istore_n 3, 1, [], 0, 0), (5, .aload_n 0, 1, [], 0, 0), (6, .getfield 13, 3, [], 1, 0), (9, .iload_n 1, 1, [], 0, 0), (10, .dup2, 1, [], 0, 0), (11, .iaload, 1, [], 0, 0), (12, .iload_n 2, 1, [], 0, 0), (13, .iload_n 2, 1, [], 0, 0), (14, .iconst 1, 1, [], 0, 0), (15, .ishl, 1, [], 0, 0), (16, .ixor, 1, [], 0, 0), (17, .iload_n 2, 1, [], 0, 0), (18, .iconst 1, 1, [], 0, 0), (19, .iushr, 1, [], 0, 0), (20, .ixor, 1, [], 0, 0), (21, .iload_n 3, 1, [], 0, 0), (22, .iand, 1, [], 0, 0), (23, .ixor, 1, [], 0, 0), (24, .iastore, 1, [], 0, 0), (25, .iload_n 1, 1, [], 0, 0), (26, .ifCond .le 15, 3, [], 0, 0), (29, .aload_n 0, 1, [], 0, 0), (30, .getfield 13, 3, [], 1, 0), (33, .iload_n 1, 1, [], 0, 0), (34, .iconst 1, 1, [], 0, 0), (35, .isub, 1, [], 0, 0), (36, .dup2, 1, [], 0, 0), (37, .iaload, 1, [], 0, 0), (38, .iload_n 2, 1, [], 0, 0), (39, .ixor, 1, [], 0, 0), (40, .iastore, 1, [], 0, 0), (41, .iload_n 1, 1, [false, false, false, true], 0, 0), (42, .iconst 1, 1, [], 0, 0), (43, .iadd, 1, [], 0, 0), (44, .aload_n 0, 1, [], 0, 0), (45, .getfield 23, 3, [], 3, 0), (48, .if_icmp .ge 15, 3, [], 0, 0), (51, .aload_n 0, 1, [], 0, 0), (52, .getfield 13, 3, [], 1, 0), (55, .iload_n 1, 1, [], 0, 0), (56, .iconst 1, 1, [], 0, 0), (57, .iadd, 1, [], 0, 0), (58, .dup2, 1, [], 0, 0), (59, .iaload, 1, [], 0, 0), (60, .iload_n 2, 1, [], 0, 0), (61, .ixor, 1, [], 0, 0), (62, .iastore, 1, [], 0, 0), (63, .return_, 1, [], 0, 0)])
def d_16 : MD := (⟨"LightsOutSolver", "packPresses", "()J"⟩, prog_1_method_27_code, 4, some .long, 2, 0, 0, 0, 0, [(0, .lconst 0, 1, [], 0, 0), (1, .lstore_n 1, 1, [], 0, 0), (2, .iconst 0, 1, [], 0, 0), (3, .istore_n 3, 1, [], 0, 0), (4, .iload_n 3, 1, [], 0, 0), (5, .aload_n 0, 1, [], 0, 0), (6, .getfield 23, 3, [], 3, 0), (9, .if_icmp .ge 26, 3, [], 0, 0), (12, .lload_n 1, 1, [], 0, 0), (13, .aload_n 0, 1, [], 0, 0), (14, .getfield 16, 3, [], 2, 0), (17, .iload_n 3, 1, [], 0, 0), (18, .iaload, 1, [], 0, 0), (19, .i2l, 1, [], 0, 0), (20, .iload_n 3, 1, [], 0, 0), (21, .aload_n 0, 1, [], 0, 0), (22, .getfield 27, 3, [], 4, 0), (25, .imul, 1, [], 0, 0), (26, .lshl, 1, [], 0, 0), (27, .lor, 1, [], 0, 0), (28, .lstore_n 1, 1, [], 0, 0), (29, .iinc 3 1, 3, [], 0, 0), (32, .goto (-28), 3, [], 0, 0), (35, .lload_n 1, 1, [], 0, 0), (36, .lreturn, 1, [], 0, 0)])
def d_17 : MD := (⟨"LightsOutSolver", "popCount", "(J)I"⟩, prog_1_method_28_code, 6, some .int, 0, 1, 0, 0, 0, [(0, .iconst 0, 1, [], 0, 0), (1, .istore_n 2, 1, [], 0, 0), (2, .lload_n 0, 1, [], 0, 0), (3, .lstore_n 3, 1, [], 0, 0), (4, .iconst 0, 1, [], 0, 0), (5, .istore 5, 2, [], 0, 0), (7, .iload 5, 2, [true, true], 0, 0), (9, .bipush 64, 2, [], 0, 0), (11, .if_icmp .ge 24, 3, [], 0, 0), (14, .lload_n 3, 1, [], 0, 0), (15, .lconst 0, 1, [], 0, 0), (16, .lcmp, 1, [], 0, 0), (17, .ifCond .eq 18, 3, [], 0, 0), (20, .lload_n 3, 1, [], 0, 0), (21, .lload_n 3, 1, [], 0, 0), (22, .lconst 1, 1, [], 0, 0), (23, .lsub, 1, [], 0, 0), (24, .land, 1, [], 0, 0), (25, .lstore_n 3, 1, [], 0, 0), (26, .iinc 2 1, 3, [], 0, 0), (29, .iinc 5 1, 3, [], 0, 0), (32, .goto (-25), 3, [], 0, 0), (35, .iload_n 2, 1, [], 0, 0), (36, .ireturn, 1, [], 0, 0)])
def d_18 : MD := (⟨"LightsOutSolverOwnLaw", "tz", "(I)I"⟩, method_4_code, 2, some .int, 0, 1, 999, 0, 0, [(0, .iconst 0, 1, [], 0, 0), (1, .istore_n 1, 1, [], 0, 0), (2, .iload_n 0, 1, [], 0, 0), (3, .iconst 1, 1, [], 0, 0), (4, .iand, 1, [], 0, 0), (5, .ifCond .ne 19, 3, [], 0, 0), (8, .iload_n 1, 1, [], 0, 0), (9, .bipush 32, 2, [], 0, 0), (11, .if_icmp .ge 13, 3, [], 0, 0), (14, .iload_n 0, 1, [], 0, 0), (15, .iconst 1, 1, [], 0, 0), (16, .iushr, 1, [], 0, 0), (17, .istore_n 0, 1, [], 0, 0), (18, .iinc 1 1, 3, [], 0, 0), (21, .goto (-19), 3, [], 0, 0), (24, .iload_n 1, 1, [], 0, 0), (25, .ireturn, 1, [], 0, 0)])
def d_19 : MD := (⟨"LightsOutSolverOwnLaw", "pressMask", "(III)J"⟩, method_3_code, 7, some .long, 0, 3, 999, 0, 0, [(0, .iload_n 0, 1, [], 0, 0), (1, .iload_n 2, 1, [], 0, 0), (2, .idiv, 1, [], 0, 0), (3, .istore_n 3, 1, [], 0, 0), (4, .iload_n 0, 1, [], 0, 0), (5, .iload_n 2, 1, [], 0, 0), (6, .irem, 1, [], 0, 0), (7, .istore 4, 2, [], 0, 0), (9, .lconst 1, 1, [], 0, 0), (10, .iload_n 0, 1, [], 0, 0), (11, .lshl, 1, [], 0, 0), (12, .lstore 5, 2, [], 0, 0), (14, .iload_n 3, 1, [], 0, 0), (15, .ifCond .le 13, 3, [], 0, 0), (18, .lload 5, 2, [], 0, 0), (20, .lconst 1, 1, [], 0, 0), (21, .iload_n 0, 1, [], 0, 0), (22, .iload_n 2, 1, [], 0, 0), (23, .isub, 1, [], 0, 0), (24, .lshl, 1, [], 0, 0), (25, .lor, 1, [], 0, 0), (26, .lstore 5, 2, [], 0, 0), (28, .iload_n 3, 1, [], 0, 0), (29, .iload_n 1, 1, [], 0, 0), (30, .iconst 1, 1, [], 0, 0), (31, .isub, 1, [], 0, 0), (32, .if_icmp .ge 13, 3, [], 0, 0), (35, .lload 5, 2, [], 0, 0), (37, .lconst 1, 1, [], 0, 0), (38, .iload_n 0, 1, [], 0, 0), (39, .iload_n 2, 1, [], 0, 0), (40, .iadd, 1, [], 0, 0), (41, .lshl, 1, [], 0, 0), (42, .lor, 1, [], 0, 0), (43, .lstore 5, 2, [], 0, 0), (45, .iload 4, 2, [false, true, false, true], 0, 0), (47, .ifCond .le 13, 3, [], 0, 0), (50, .lload 5, 2, [], 0, 0), (52, .lconst 1, 1, [], 0, 0), (53, .iload_n 0, 1, [], 0, 0), (54, .iconst 1, 1, [], 0, 0), (55, .isub, 1, [], 0, 0), (56, .lshl, 1, [], 0, 0), (57, .lor, 1, [], 0, 0), (58, .lstore 5, 2, [], 0, 0), (60, .iload 4, 2, [false, true, false, true], 0, 0), (62, .iload_n 2, 1, [], 0, 0), (63, .iconst 1, 1, [], 0, 0), (64, .isub, 1, [], 0, 0), (65, .if_icmp .ge 13, 3, [], 0, 0), (68, .lload 5, 2, [], 0, 0), (70, .lconst 1, 1, [], 0, 0), (71, .iload_n 0, 1, [], 0, 0), (72, .iconst 1, 1, [], 0, 0), (73, .iadd, 1, [], 0, 0), (74, .lshl, 1, [], 0, 0), (75, .lor, 1, [], 0, 0), (76, .lstore 5, 2, [], 0, 0), (78, .lload 5, 2, [], 0, 0), (80, .lreturn, 1, [], 0, 0)])
def d_20 : MD := (⟨"LightsOutSolver", "inSolution", "(II)Z"⟩, prog_1_method_15_code, 3, some .boolean, 3, 2, 0, 1, 16, [(0, .aload_n 0, 1, [], 0, 0), (1, .getfield 70, 3, [], 7, 0), (4, .iconst 1, 1, [], 0, 0), (5, .if_icmp .ne 12, 3, [], 0, 0), (8, .aload_n 0, 1, [], 0, 0), (9, .iload_n 1, 1, [], 0, 0), (10, .iload_n 2, 1, [], 0, 0), (11, .invokevirtual 40, 3, [], 6, 0), (14, .ifCond .ne 5, 3, [], 0, 0), (17, .iconst 0, 1, [], 0, 0), (18, .ireturn, 1, [], 0, 0), (19, .aload_n 0, 1, [], 0, 0), (20, .getfield 73, 3, [], 8, 0), (23, .aload_n 0, 1, [], 0, 0), (24, .iload_n 1, 1, [], 0, 0), (25, .iload_n 2, 1, [], 0, 0), (26, .invokevirtual 44, 3, [], 8, 0), (29, .land, 1, [], 0, 0), (30, .lconst 0, 1, [], 0, 0), (31, .lcmp, 1, [], 0, 0), (32, .ifCond .eq 7, 3, [], 0, 0), (35, .iconst 1, 1, [], 0, 0), (36, .goto 4, 3, [], 0, 0), (39, .iconst 0, 1, [], 0, 0), (40, .ireturn, 1, [], 0, 0)])
def d_21 : MD := (⟨"LightsOutSolver", "solutionSize", "()I"⟩, prog_1_method_13_code, 1, some .int, 3, 0, 0, 0, 0, [(0, .aload_n 0, 1, [], 0, 0), (1, .getfield 70, 3, [], 7, 0), (4, .iconst 1, 1, [], 0, 0), (5, .if_icmp .eq 5, 3, [], 0, 0), (8, .iconst (-1), 1, [], 0, 0), (9, .ireturn, 1, [], 0, 0), (10, .aload_n 0, 1, [], 0, 0), (11, .getfield 76, 3, [], 9, 0), (14, .ireturn, 1, [], 0, 0)])
def d_22 : MD := (⟨"LightsOutSolver", "solutionCount", "()I"⟩, prog_1_method_14_code, 1, some .int, 3, 0, 0, 0, 0, [(0, .aload_n 0, 1, [], 0, 0), (1, .getfield 70, 3, [], 7, 0), (4, .iconst 1, 1, [], 0, 0), (5, .if_icmp .eq 5, 3, [], 0, 0), (8, .iconst 0, 1, [], 0, 0), (9, .ireturn, 1, [], 0, 0), (10, .aload_n 0, 1, [], 0, 0), (11, .getfield 79, 3, [], 10, 0), (14, .ireturn, 1, [], 0, 0)])
def d_23 : MD := (⟨"LightsOutSolver", "undo", "()Z"⟩, prog_1_method_6_code, 2, some .boolean, 3, 0, 0, 2, 32, [(0, .aload_n 0, 1, [], 0, 0), (1, .getfield 34, 3, [], 6, 0), (4, .ifCond .gt 5, 3, [], 0, 0), (7, .iconst 0, 1, [], 0, 0), (8, .ireturn, 1, [], 0, 0), (9, .aload_n 0, 1, [], 0, 0), (10, .dup, 1, [], 0, 0), (11, .getfield 34, 3, [], 6, 0), (14, .iconst 1, 1, [], 0, 0), (15, .isub, 1, [], 0, 0), (16, .putfield 34, 3, [], 6, 0), (19, .aload_n 0, 1, [], 0, 0), (20, .getfield 7, 3, [], 0, 0), (23, .aload_n 0, 1, [], 0, 0), (24, .getfield 34, 3, [], 6, 0), (27, .iaload, 1, [], 0, 0), (28, .istore_n 1, 1, [], 0, 0), (29, .aload_n 0, 1, [], 0, 0), (30, .iload_n 1, 1, [], 0, 0), (31, .aload_n 0, 1, [], 0, 0), (32, .getfield 27, 3, [], 4, 0), (35, .idiv, 1, [], 0, 0), (36, .iload_n 1, 1, [], 0, 0), (37, .aload_n 0, 1, [], 0, 0), (38, .getfield 27, 3, [], 4, 0), (41, .irem, 1, [], 0, 0), (42, .invokevirtual 50, 3, [], 7, 0), (45, .iconst 1, 1, [], 0, 0), (46, .ireturn, 1, [], 0, 0)])
def d_24 : MD := (⟨"LightsOutSolver", "setLight", "(III)Z"⟩, prog_1_method_4_code, 6, some .boolean, 3, 3, 0, 1, 14, [(0, .aload_n 0, 1, [], 0, 0), (1, .iload_n 1, 1, [], 0, 0), (2, .iload_n 2, 1, [], 0, 0), (3, .invokevirtual 40, 3, [], 6, 0), (6, .ifCond .ne 5, 3, [], 0, 0), (9, .iconst 0, 1, [], 0, 0), (10, .ireturn, 1, [], 0, 0), (11, .aload_n 0, 1, [], 0, 0), (12, .iload_n 1, 1, [], 0, 0), (13, .iload_n 2, 1, [], 0, 0), (14, .invokevirtual 44, 3, [], 8, 0), (17, .lstore 4, 2, [], 0, 0), (19, .iload_n 3, 1, [], 0, 0), (20, .ifCond .ne 21, 3, [], 0, 0), (23, .aload_n 0, 1, [], 0, 0), (24, .dup, 1, [], 0, 0), (25, .getfield 30, 3, [], 5, 0), (28, .lload 4, 2, [], 0, 0), (30, .ldc2_w 48, 3, [], 0, -1), (33, .lxor, 1, [], 0, 0), (34, .land, 1, [], 0, 0), (35, .putfield 30, 3, [], 5, 0), (38, .goto 14, 3, [], 0, 0), (41, .aload_n 0, 1, [], 0, 0), (42, .dup, 1, [], 0, 0), (43, .getfield 30, 3, [], 5, 0), (46, .lload 4, 2, [], 0, 0), (48, .lor, 1, [], 0, 0), (49, .putfield 30, 3, [], 5, 0), (52, .iconst 1, 1, [], 0, 0), (53, .ireturn, 1, [], 0, 0)])
def d_25 : MD := (⟨"LightsOutSolver", "applySolution", "()Z"⟩, prog_1_method_16_code, 3, some .boolean, 3, 0, 0, 2, 32, [(0, .aload_n 0, 1, [], 0, 0), (1, .getfield 70, 3, [], 7, 0), (4, .iconst 1, 1, [], 0, 0), (5, .if_icmp .eq 5, 3, [], 0, 0), (8, .iconst 0, 1, [], 0, 0), (9, .ireturn, 1, [], 0, 0), (10, .aload_n 0, 1, [], 0, 0), (11, .getfield 34, 3, [], 6, 0), (14, .aload_n 0, 1, [], 0, 0), (15, .getfield 76, 3, [], 9, 0), (18, .iadd, 1, [], 0, 0), (19, .bipush 64, 2, [], 0, 0), (21, .if_icmp .le 5, 3, [], 0, 0), (24, .iconst 0, 1, [], 0, 0), (25, .ireturn, 1, [], 0, 0), (26, .aload_n 0, 1, [], 0, 0), (27, .getfield 23, 3, [], 3, 0), (30, .aload_n 0, 1, [], 0, 0), (31, .getfield 27, 3, [], 4, 0), (34, .imul, 1, [], 0, 0), (35, .istore_n 1, 1, [], 0, 0), (36, .iconst 0, 1, [], 0, 0), (37, .istore_n 2, 1, [], 0, 0), (38, .iload_n 2, 1, [], 0, 0), (39, .iload_n 1, 1, [], 0, 0), (40, .if_icmp .ge 73, 3, [], 0, 0), (43, .aload_n 0, 1, [], 0, 0), (44, .getfield 73, 3, [], 8, 0), (47, .iload_n 2, 1, [], 0, 0), (48, .lushr, 1, [], 0, 0), (49, .lconst 1, 1, [], 0, 0), (50, .land, 1, [], 0, 0), (51, .lconst 0, 1, [], 0, 0), (52, .lcmp, 1, [], 0, 0), (53, .ifCond .ne 6, 3, [], 0, 0), (56, .goto 51, 3, [], 0, 0), (59, .aload_n 0, 1, [], 0, 0), (60, .getfield 34, 3, [], 6, 0), (63, .bipush 64, 2, [], 0, 0), (65, .if_icmp .lt 6, 3, [], 0, 0), (68, .goto 45, 3, [], 0, 0), (71, .aload_n 0, 1, [], 0, 0), (72, .iload_n 2, 1, [], 0, 0), (73, .aload_n 0, 1, [], 0, 0), (74, .getfield 27, 3, [], 4, 0), (77, .idiv, 1, [], 0, 0), (78, .iload_n 2, 1, [], 0, 0), (79, .aload_n 0, 1, [], 0, 0), (80, .getfield 27, 3, [], 4, 0), (83, .irem, 1, [], 0, 0), (84, .invokevirtual 50, 3, [], 7, 0), (87, .aload_n 0, 1, [], 0, 0), (88, .getfield 7, 3, [], 0, 0), (91, .aload_n 0, 1, [], 0, 0), (92, .getfield 34, 3, [], 6, 0), (95, .iload_n 2, 1, [], 0, 0), (96, .iastore, 1, [], 0, 0), (97, .aload_n 0, 1, [], 0, 0), (98, .dup, 1, [], 0, 0), (99, .getfield 34, 3, [], 6, 0), (102, .iconst 1, 1, [], 0, 0), (103, .iadd, 1, [], 0, 0), (104, .putfield 34, 3, [], 6, 0), (107, .iinc 2 1, 3, [], 0, 0), (110, .goto (-72), 3, [], 0, 0), (113, .iconst 1, 1, [], 0, 0), (114, .ireturn, 1, [], 0, 0)])
def d_26 : MD := (⟨"LightsOutSolver", "litCount", "()I"⟩, prog_1_method_10_code, 1, some .int, 3, 0, 0, 1, 17, [(0, .aload_n 0, 1, [], 0, 0), (1, .getfield 30, 3, [], 5, 0), (4, .invokestatic 54, 3, [], 17, 0), (7, .ireturn, 1, [], 0, 0)])
def d_27 : MD := (⟨"LightsOutSolver", "clear", "()V"⟩, prog_1_method_17_code, 1, none, 3, 0, 0, 1, 12, [(0, .aload_n 0, 1, [], 0, 0), (1, .lconst 0, 1, [], 0, 0), (2, .putfield 30, 3, [], 5, 0), (5, .aload_n 0, 1, [], 0, 0), (6, .iconst 0, 1, [], 0, 0), (7, .putfield 34, 3, [], 6, 0), (10, .aload_n 0, 1, [], 0, 0), (11, .invokevirtual 37, 3, [], 4, 0), (14, .return_, 1, [], 0, 0)])
def d_28 : MD := (⟨"LightsOutSolver", "unsignedLess", "(JJ)Z"⟩, prog_1_method_29_code, 4, some .boolean, 0, 2, 0, 0, 0, [(0, .lload_n 0, 1, [], 0, 0), (1, .ldc2_w 92, 3, [], 0, -9223372036854775808), (4, .lxor, 1, [], 0, 0), (5, .lload_n 2, 1, [], 0, 0), (6, .ldc2_w 92, 3, [], 0, -9223372036854775808), (9, .lxor, 1, [], 0, 0), (10, .lcmp, 1, [], 0, 0), (11, .ifCond .ge 7, 3, [], 0, 0), (14, .iconst 1, 1, [], 0, 0), (15, .goto 4, 3, [], 0, 0), (18, .iconst 0, 1, [], 0, 0), (19, .ireturn, 1, [], 0, 0)])
def own_P : PD := ([("LightsOutSolver", 11, [("log", "[I", (.array .int), false), ("cur", "[I", (.array .int), false), ("prs", "[I", (.array .int), false), ("nRows", "I", .int, false), ("nCols", "I", .int, false), ("lights", "J", .long, false), ("logLen", "I", .int, false), ("status", "I", .int, false), ("solSet", "J", .long, false), ("solSize", "I", .int, false), ("solCount", "I", .int, false)])], [d_0, d_1, d_2, d_3, d_4, d_5, d_6, d_7, d_8, d_9, d_10, d_11, d_12, d_13, d_14, d_15, d_16, d_17, d_18, d_19, d_20, d_21, d_22, d_23, d_24, d_25, d_26, d_27, d_28], 1)
theorem hm_0 : own_P.mth[0]? = some d_0 := rfl
theorem hm_1 : own_P.mth[1]? = some d_1 := rfl
theorem hm_2 : own_P.mth[2]? = some d_2 := rfl
theorem hm_3 : own_P.mth[3]? = some d_3 := rfl
theorem hm_4 : own_P.mth[4]? = some d_4 := rfl
theorem hm_5 : own_P.mth[5]? = some d_5 := rfl
theorem hm_6 : own_P.mth[6]? = some d_6 := rfl
theorem hm_7 : own_P.mth[7]? = some d_7 := rfl
theorem hm_8 : own_P.mth[8]? = some d_8 := rfl
theorem hm_9 : own_P.mth[9]? = some d_9 := rfl
theorem hm_10 : own_P.mth[10]? = some d_10 := rfl
theorem hm_11 : own_P.mth[11]? = some d_11 := rfl
theorem hm_12 : own_P.mth[12]? = some d_12 := rfl
theorem hm_13 : own_P.mth[13]? = some d_13 := rfl
theorem hm_14 : own_P.mth[14]? = some d_14 := rfl
theorem hm_15 : own_P.mth[15]? = some d_15 := rfl
theorem hm_16 : own_P.mth[16]? = some d_16 := rfl
theorem hm_17 : own_P.mth[17]? = some d_17 := rfl
theorem hm_18 : own_P.mth[18]? = some d_18 := rfl
theorem hm_19 : own_P.mth[19]? = some d_19 := rfl
theorem hm_20 : own_P.mth[20]? = some d_20 := rfl
theorem hm_21 : own_P.mth[21]? = some d_21 := rfl
theorem hm_22 : own_P.mth[22]? = some d_22 := rfl
theorem hm_23 : own_P.mth[23]? = some d_23 := rfl
theorem hm_24 : own_P.mth[24]? = some d_24 := rfl
theorem hm_25 : own_P.mth[25]? = some d_25 := rfl
theorem hm_26 : own_P.mth[26]? = some d_26 := rfl
theorem hm_27 : own_P.mth[27]? = some d_27 := rfl
theorem hm_28 : own_P.mth[28]? = some d_28 := rfl
set_option maxRecDepth 100000 in
theorem own_chk : chk own_P = true := by decide +kernel
def own_ix : List Nat := [5, 6, 15, 17, 19, 24, 26, 28, 30, 36, 38, 40, 42, 3, 2, 1, 9, 6, 8, 22, 6, 21, 34, 6, 32, 33, 48, 6, 45, 47, 46, 52, 6, 50, 51, 56, 6, 54, 55, 60, 6, 58, 59, 63, 2, 62, 68, 6, 65, 67, 66, 73, 6, 70, 72, 71, 77, 6, 75, 76, 81, 6, 79, 80, 85, 6, 83, 84, 89, 6, 87, 88, 93, 6, 91, 92, 96, 6, 95, 99, 2, 98, 102, 2, 101, 107, 6, 104, 106, 105, 112, 6, 109, 111, 110, 117, 6, 114, 116, 115, 122, 6, 119, 121, 120, 127, 6, 124, 126, 125, 133, 6, 130, 132, 131, 138, 6, 135, 137, 136, 143, 6, 140, 142, 141, 146, 6, 145, 0, 0, 4, 7, 0, 43, 0, 123, 44, 118, 61, 129, 134, 139, 61, 10, 11, 12, 13, 14, 13, 16, 13, 18, 20, 23, 20, 25, 27, 29, 31, 35, 37, 39, 41, 49, 29, 53, 14, 29, 25, 29, 29, 23, 25, 57, 57, 23, 57, 57, 25, 57, 27, 27, 25, 64, 69, 97, 100, 108, 113, 103, 100, 108, 113, 49, 27, 57, 25, 74, 90, 94, 144, 35, 37, 39, 41, 35, 37, 39, 41, 35, 78, 23, 18, 86, 16, 16, 23, 82, 23, 16, 27, 25, 25, 82, 16, 16, 23, 16, 23, 18, 25, 35, 49, 37, 57, 35, 39, 35, 41, 29, 29, 29, 14, 29, 25, 25, 53, 49, 57, 27, 128, 27, 27, 27, 35, 29, 39, 23, 25, 37, 29, 25, 25, 53, 14, 29, 29, 29, 27, 94, 27, 29, 31, 147, 147]
set_option maxRecDepth 100000 in
theorem own_words : (wordsOf own_P).map some = own_ix.map fun k => tables_1[k]? := rfl
theorem own_in : ∀ d ∈ wordsOf own_P, d ∈ tables_1 := fun d hd => by
  have h1 : some d ∈ (wordsOf own_P).map some := List.mem_map.mpr ⟨d, hd, rfl⟩
  rw [own_words] at h1
  obtain ⟨k, -, hk⟩ := List.mem_map.mp h1
  exact List.mem_of_getElem? hk
abbrev bk0 (s_log : List Int32) (s_cur : List Int32) (s_prs : List Int32) (s_nRows : Int32) (s_nCols : Int32) (s_lights : Int64) (s_logLen : Int32) (s_status : Int32) (s_solSet : Int64) (s_solSize : Int32) (s_solCount : Int32) (po : List ACell) : List ACell := .inl (0, [.ref 2, .ref 3, .ref 4, .int s_nRows, .int s_nCols, .long s_lights, .int s_logLen, .int s_status, .long s_solSet, .int s_solSize, .int s_solCount]) :: .inr (.inl (false, s_log)) :: .inr (.inl (false, s_cur)) :: .inr (.inl (false, s_prs)) :: po
def f_L_cell (scr : List Int32) (v1 : Int32) : Option (Int32) :=
  if v1 < scr.length.toInt32 then
    (rdA scr v1).bind fun x1 =>
    some x1
  else
    some (0 : Int32)
def f_clamp (v0 : Int32) : Option (Int32) :=
  some (if v0 < (1 : Int32) then (1 : Int32) else (if (8 : Int32) < v0 then (8 : Int32) else v0))
def f_forgetResult (o_status : Int32) (o_solSet : Int64) (o_solSize : Int32) (o_solCount : Int32) : Option (Int32 × Int64 × Int32 × Int32) :=
  some ((0 : Int32), (0 : Int64), (0 : Int32), (0 : Int32))
def f_init (v1 : Int32) (v2 : Int32) : Option (List Int32 × List Int32 × List Int32 × Int32 × Int32 × Int64 × Int32 × Int32 × Int64 × Int32 × Int32) :=
  (f_clamp v1).bind fun r2 =>
  (f_clamp v2).bind fun r3 =>
  (f_forgetResult (0 : Int32) (0 : Int64) (0 : Int32) (0 : Int32)).bind fun (s4, s5, s6, s7) =>
  some ((List.replicate 64 0), (List.replicate 8 0), (List.replicate 8 0), r2, r3, (0 : Int64), (0 : Int32), s4, s5, s6, s7)
def f_onBoard (o_nRows : Int32) (o_nCols : Int32) (v1 : Int32) (v2 : Int32) : Option (Int32) :=
  some (if v1 < (0 : Int32) then (0 : Int32) else (if v1 < o_nRows then (if v2 < (0 : Int32) then (0 : Int32) else (if v2 < o_nCols then (1 : Int32) else (0 : Int32))) else (0 : Int32)))
def f_bit (o_nCols : Int32) (v1 : Int32) (v2 : Int32) : Option (Int64) :=
  some ((1 : Int64) <<< (((v1 * o_nCols) + v2).toInt64 &&& 63))
def f_setLight (o_nRows : Int32) (o_nCols : Int32) (o_lights : Int64) (v1 : Int32) (v2 : Int32) (v3 : Int32) : Option (Int32 × Int64) :=
  (f_onBoard o_nRows o_nCols v1 v2).bind fun r8 =>
  if r8 = (0 : Int32) then
    some ((0 : Int32), o_lights)
  else
    (f_bit o_nCols v1 v2).bind fun r9 =>
    some ((1 : Int32), (if v3 = (0 : Int32) then (o_lights &&& (r9 ^^^ (-1 : Int64))) else (o_lights ||| r9)))
def f_toggleCell_79 (o_nRows : Int32) (o_nCols : Int32) (o_lights : Int64) (v3 : Int64) : Option (Int64) :=
  some (o_lights ^^^ v3)
def f_toggleCell_58 (o_nRows : Int32) (o_nCols : Int32) (o_lights : Int64) (v1 : Int32) (v2 : Int32) (v3 : Int64) : Option (Int64) :=
  if (v2 + (1 : Int32)) < o_nCols then
    (f_bit o_nCols v1 (v2 + (1 : Int32))).bind fun r14 =>
    f_toggleCell_79 o_nRows o_nCols o_lights (v3 ||| r14)
  else
    f_toggleCell_79 o_nRows o_nCols o_lights v3
def f_toggleCell_43 (o_nRows : Int32) (o_nCols : Int32) (o_lights : Int64) (v1 : Int32) (v2 : Int32) (v3 : Int64) : Option (Int64) :=
  if (0 : Int32) < v2 then
    (f_bit o_nCols v1 (v2 - (1 : Int32))).bind fun r13 =>
    f_toggleCell_58 o_nRows o_nCols o_lights v1 v2 (v3 ||| r13)
  else
    f_toggleCell_58 o_nRows o_nCols o_lights v1 v2 v3
def f_toggleCell_22 (o_nRows : Int32) (o_nCols : Int32) (o_lights : Int64) (v1 : Int32) (v2 : Int32) (v3 : Int64) : Option (Int64) :=
  if (v1 + (1 : Int32)) < o_nRows then
    (f_bit o_nCols (v1 + (1 : Int32)) v2).bind fun r12 =>
    f_toggleCell_43 o_nRows o_nCols o_lights v1 v2 (v3 ||| r12)
  else
    f_toggleCell_43 o_nRows o_nCols o_lights v1 v2 v3
def f_toggleCell (o_nRows : Int32) (o_nCols : Int32) (o_lights : Int64) (v1 : Int32) (v2 : Int32) : Option (Int64) :=
  (f_bit o_nCols v1 v2).bind fun r10 =>
  if (0 : Int32) < v1 then
    (f_bit o_nCols (v1 - (1 : Int32)) v2).bind fun r11 =>
    f_toggleCell_22 o_nRows o_nCols o_lights v1 v2 (r10 ||| r11)
  else
    f_toggleCell_22 o_nRows o_nCols o_lights v1 v2 r10
def f_press (o_nRows : Int32) (o_nCols : Int32) (o_log : List Int32) (o_lights : Int64) (o_logLen : Int32) (v1 : Int32) (v2 : Int32) : Option (Int32 × List Int32 × Int64 × Int32) :=
  (f_onBoard o_nRows o_nCols v1 v2).bind fun r15 =>
  if r15 = (0 : Int32) then
    some ((0 : Int32), o_log, o_lights, o_logLen)
  else
    if o_logLen < (64 : Int32) then
      (f_toggleCell o_nRows o_nCols o_lights v1 v2).bind fun s16 =>
      (wrA o_log o_logLen ((v1 * o_nCols) + v2)).bind fun A17 =>
      some ((1 : Int32), A17, s16, (o_logLen + (1 : Int32)))
    else
      some ((0 : Int32), o_log, o_lights, o_logLen)
def f_undo (o_log : List Int32) (o_nRows : Int32) (o_nCols : Int32) (o_lights : Int64) (o_logLen : Int32) : Option (Int32 × Int64 × Int32) :=
  if (0 : Int32) < o_logLen then
    (rdA o_log (o_logLen - (1 : Int32))).bind fun x18 =>
    if o_nCols = 0 then none else
    if o_nCols = 0 then none else
    (f_toggleCell o_nRows o_nCols o_lights (x18 / o_nCols) (x18 % o_nCols)).bind fun s19 =>
    some ((1 : Int32), s19, (o_logLen - (1 : Int32)))
  else
    some ((0 : Int32), o_lights, o_logLen)
def f_isLit (o_nRows : Int32) (o_nCols : Int32) (o_lights : Int64) (v1 : Int32) (v2 : Int32) : Option (Int32) :=
  (f_onBoard o_nRows o_nCols v1 v2).bind fun r20 =>
  if r20 = (0 : Int32) then
    some (0 : Int32)
  else
    (f_bit o_nCols v1 v2).bind fun r21 =>
    some (if (o_lights &&& r21) = (0 : Int64) then (0 : Int32) else (1 : Int32))
def f_rowMask (o_nCols : Int32) : Option (Int32) :=
  some (((1 : Int32) <<< (o_nCols &&& 31)) - (1 : Int32))
def f_loadRows_8 (o_nRows : Int32) (o_nCols : Int32) (o_lights : Int64) : Nat → List Int32 → Int64 → Int32 → Option (List Int32)
  | 0, _, _, _ => none
  | n + 1, o_cur, v1, v3 =>
    if v3 < o_nRows then
      (wrA o_cur v3 ((XT.ushrL o_lights (v3 * o_nCols)) &&& v1).toInt32).bind fun A23 =>
      f_loadRows_8 o_nRows o_nCols o_lights n A23 v1 (v3 + (1 : Int32))
    else
      some o_cur
def f_loadRows (o_nRows : Int32) (o_nCols : Int32) (o_lights : Int64) (o_cur : List Int32) : Option (List Int32) :=
  (f_rowMask o_nCols).bind fun r22 =>
  f_loadRows_8 o_nRows o_nCols o_lights 100000 o_cur r22.toInt64 (0 : Int32)
def f_applyRowPress_41 (o_nRows : Int32) (o_nCols : Int32) (o_cur : List Int32) (v1 : Int32) (v2 : Int32) : Option (List Int32) :=
  if (v1 + (1 : Int32)) < o_nRows then
    (rdA o_cur (v1 + (1 : Int32))).bind fun x29 =>
    (wrA o_cur (v1 + (1 : Int32)) (x29 ^^^ v2)).bind fun A30 =>
    some A30
  else
    some o_cur
def f_applyRowPress (o_nRows : Int32) (o_nCols : Int32) (o_cur : List Int32) (v1 : Int32) (v2 : Int32) : Option (List Int32) :=
  (f_rowMask o_nCols).bind fun r24 =>
  (rdA o_cur v1).bind fun x25 =>
  (wrA o_cur v1 (x25 ^^^ (((v2 ^^^ (v2 <<< ((1 : Int32) &&& 31))) ^^^ (XT.ushr v2 (1 : Int32))) &&& r24))).bind fun A26 =>
  if (0 : Int32) < v1 then
    (rdA A26 (v1 - (1 : Int32))).bind fun x27 =>
    (wrA A26 (v1 - (1 : Int32)) (x27 ^^^ v2)).bind fun A28 =>
    f_applyRowPress_41 o_nRows o_nCols A28 v1 v2
  else
    f_applyRowPress_41 o_nRows o_nCols A26 v1 v2
def f_chase_42 (o_nRows : Int32) (o_nCols : Int32) (o_lights : Int64) (o_cur : List Int32) (o_prs : List Int32) : Option (Int32 × List Int32 × List Int32) :=
  (rdA o_cur (o_nRows - (1 : Int32))).bind fun x35 =>
  some ((if x35 = (0 : Int32) then (1 : Int32) else (0 : Int32)), o_cur, o_prs)
def f_chase_8 (k42 : List Int32 → List Int32 → Option (Int32 × List Int32 × List Int32)) (o_nRows : Int32) (o_nCols : Int32) (o_lights : Int64) : Nat → List Int32 → List Int32 → Int32 → Int32 → Option (Int32 × List Int32 × List Int32)
  | 0, _, _, _, _ => none
  | n + 1, o_cur, o_prs, v2, v3 =>
    if v3 < o_nRows then
      (wrA o_prs v3 v2).bind fun A32 =>
      (f_applyRowPress o_nRows o_nCols o_cur v3 v2).bind fun s33 =>
      (rdA s33 v3).bind fun x34 =>
      f_chase_8 k42 o_nRows o_nCols o_lights n s33 A32 x34 (v3 + (1 : Int32))
    else
      k42 o_cur o_prs
def f_chase (o_nRows : Int32) (o_nCols : Int32) (o_lights : Int64) (o_cur : List Int32) (o_prs : List Int32) (v1 : Int32) : Option (Int32 × List Int32 × List Int32) :=
  (f_loadRows o_nRows o_nCols o_lights o_cur).bind fun s31 =>
  f_chase_8 (f_chase_42 o_nRows o_nCols o_lights) o_nRows o_nCols o_lights 100000 s31 o_prs v1 (0 : Int32)
def f_packPresses_4 (o_prs : List Int32) (o_nRows : Int32) (o_nCols : Int32) : Nat → Int64 → Int32 → Option (Int64)
  | 0, _, _ => none
  | n + 1, v1, v3 =>
    if v3 < o_nRows then
      (rdA o_prs v3).bind fun x36 =>
      f_packPresses_4 o_prs o_nRows o_nCols n (v1 ||| (x36.toInt64 <<< ((v3 * o_nCols).toInt64 &&& 63))) (v3 + (1 : Int32))
    else
      some v1
def f_packPresses (o_prs : List Int32) (o_nRows : Int32) (o_nCols : Int32) : Option (Int64) :=
  f_packPresses_4 o_prs o_nRows o_nCols 100000 (0 : Int64) (0 : Int32)
def f_popCount_7 : Nat → Int32 → Int64 → Int32 → Option (Int32)
  | 0, _, _, _ => none
  | n + 1, v2, v3, v5 =>
    if v5 < (64 : Int32) then
      if v3 = (0 : Int64) then
        some v2
      else
        f_popCount_7 n (v2 + (1 : Int32)) (v3 &&& (v3 - (1 : Int64))) (v5 + (1 : Int32))
    else
      some v2
def f_popCount (v0 : Int64) : Option (Int32) :=
  f_popCount_7 100000 (0 : Int32) v0 (0 : Int32)
def f_unsignedLess (v0 : Int64) (v2 : Int64) : Option (Int32) :=
  some (if (v0 ^^^ (-9223372036854775808 : Int64)) < (v2 ^^^ (-9223372036854775808 : Int64)) then (1 : Int32) else (0 : Int32))
def f_solve_86 (o_nRows : Int32) (o_nCols : Int32) (o_lights : Int64) (o_cur : List Int32) (o_prs : List Int32) (o_status : Int32) (o_solSet : Int64) (o_solSize : Int32) (o_solCount : Int32) (v1 : Int32) (v2 : Int32) (v3 : Int64) : Option (Int32 × List Int32 × List Int32 × Int32 × Int64 × Int32 × Int32) :=
  some ((if v1 = (0 : Int32) then (2 : Int32) else (1 : Int32)), o_cur, o_prs, (if v1 = (0 : Int32) then (2 : Int32) else (1 : Int32)), (if v1 = (0 : Int32) then (0 : Int64) else v3), (if v1 = (0 : Int32) then (0 : Int32) else v2), (if v1 = (0 : Int32) then (0 : Int32) else v1))
def f_solve_18 (k86 : List Int32 → List Int32 → Int32 → Int64 → Int32 → Int32 → Int32 → Int32 → Int64 → Option (Int32 × List Int32 × List Int32 × Int32 × Int64 × Int32 × Int32)) (o_nRows : Int32) (o_nCols : Int32) (o_lights : Int64) : Nat → List Int32 → List Int32 → Int32 → Int64 → Int32 → Int32 → Int32 → Int32 → Int64 → Int32 → Int32 → Option (Int32 × List Int32 × List Int32 × Int32 × Int64 × Int32 × Int32)
  | 0, _, _, _, _, _, _, _, _, _, _, _ => none
  | n + 1, o_cur, o_prs, o_status, o_solSet, o_solSize, o_solCount, v1, v2, v3, v5, v6 =>
    if v6 < v5 then
      (f_chase o_nRows o_nCols o_lights o_cur o_prs v6).bind fun (r37, s38, s39) =>
      if r37 = (0 : Int32) then
        f_solve_18 k86 o_nRows o_nCols o_lights n s38 s39 o_status o_solSet o_solSize o_solCount v1 v2 v3 v5 (v6 + (1 : Int32))
      else
        (f_packPresses s39 o_nRows o_nCols).bind fun r40 =>
        (f_popCount r40).bind fun r41 =>
        if r41 < v2 then
          f_solve_18 k86 o_nRows o_nCols o_lights n s38 s39 o_status o_solSet o_solSize o_solCount (v1 + (1 : Int32)) r41 r40 v5 (v6 + (1 : Int32))
        else
          if r41 = v2 then
            (f_unsignedLess r40 v3).bind fun r42 =>
            f_solve_18 k86 o_nRows o_nCols o_lights n s38 s39 o_status o_solSet o_solSize o_solCount (v1 + (1 : Int32)) (if r42 = (0 : Int32) then v2 else r41) (if r42 = (0 : Int32) then v3 else r40) v5 (v6 + (1 : Int32))
          else
            f_solve_18 k86 o_nRows o_nCols o_lights n s38 s39 o_status o_solSet o_solSize o_solCount (v1 + (1 : Int32)) v2 v3 v5 (v6 + (1 : Int32))
    else
      k86 o_cur o_prs o_status o_solSet o_solSize o_solCount v1 v2 v3
def f_solve (o_nRows : Int32) (o_nCols : Int32) (o_lights : Int64) (o_cur : List Int32) (o_prs : List Int32) (o_status : Int32) (o_solSet : Int64) (o_solSize : Int32) (o_solCount : Int32) : Option (Int32 × List Int32 × List Int32 × Int32 × Int64 × Int32 × Int32) :=
  f_solve_18 (f_solve_86 o_nRows o_nCols o_lights) o_nRows o_nCols o_lights 100000 o_cur o_prs o_status o_solSet o_solSize o_solCount (0 : Int32) (65 : Int32) (0 : Int64) ((1 : Int32) <<< (o_nCols &&& 31)) (0 : Int32)
def f_L_tz_2 : Nat → Int32 → Int32 → Option (Int32)
  | 0, _, _ => none
  | n + 1, v0, v1 =>
    if (v0 &&& (1 : Int32)) = (0 : Int32) then
      if v1 < (32 : Int32) then
        f_L_tz_2 n (XT.ushr v0 (1 : Int32)) (v1 + (1 : Int32))
      else
        some v1
    else
      some v1
def f_L_tz (v0 : Int32) : Option (Int32) :=
  f_L_tz_2 100000 v0 (0 : Int32)
def f_L_pressMask_60 (v0 : Int32) (v2 : Int32) (v4 : Int32) (v5 : Int64) : Option (Int64) :=
  some (if v4 < (v2 - (1 : Int32)) then (v5 ||| ((1 : Int64) <<< ((v0 + (1 : Int32)).toInt64 &&& 63))) else v5)
def f_L_pressMask_45 (v0 : Int32) (v2 : Int32) (v4 : Int32) (v5 : Int64) : Option (Int64) :=
  f_L_pressMask_60 v0 v2 v4 (if (0 : Int32) < v4 then (v5 ||| ((1 : Int64) <<< ((v0 - (1 : Int32)).toInt64 &&& 63))) else v5)
def f_L_pressMask_28 (v0 : Int32) (v1 : Int32) (v2 : Int32) (v3 : Int32) (v4 : Int32) (v5 : Int64) : Option (Int64) :=
  f_L_pressMask_45 v0 v2 v4 (if v3 < (v1 - (1 : Int32)) then (v5 ||| ((1 : Int64) <<< ((v0 + v2).toInt64 &&& 63))) else v5)
def f_L_pressMask (v0 : Int32) (v1 : Int32) (v2 : Int32) : Option (Int64) :=
  if v2 = 0 then none else
  if v2 = 0 then none else
  f_L_pressMask_28 v0 v1 v2 (v0 / v2) (v0 % v2) (if (0 : Int32) < (v0 / v2) then (((1 : Int64) <<< (v0.toInt64 &&& 63)) ||| ((1 : Int64) <<< ((v0 - v2).toInt64 &&& 63))) else ((1 : Int64) <<< (v0.toInt64 &&& 63)))
def f_solutionSize (o_status : Int32) (o_solSize : Int32) : Option (Int32) :=
  some (if o_status = (1 : Int32) then o_solSize else (-1 : Int32))
def f_solutionCount (o_status : Int32) (o_solCount : Int32) : Option (Int32) :=
  some (if o_status = (1 : Int32) then o_solCount else (0 : Int32))
def f_inSolution (o_nRows : Int32) (o_nCols : Int32) (o_status : Int32) (o_solSet : Int64) (v1 : Int32) (v2 : Int32) : Option (Int32) :=
  if o_status = (1 : Int32) then
    (f_onBoard o_nRows o_nCols v1 v2).bind fun r43 =>
    if r43 = (0 : Int32) then
      some (0 : Int32)
    else
      (f_bit o_nCols v1 v2).bind fun r44 =>
      some (if (o_solSet &&& r44) = (0 : Int64) then (0 : Int32) else (1 : Int32))
  else
    some (0 : Int32)
def f_L_check_275 (p0_nRows : Int32) (p0_nCols : Int32) (p0_lights : Int64) (p0_cur : List Int32) (p0_prs : List Int32) (p0_status : Int32) (p0_solSet : Int64) (p0_solSize : Int32) (p0_solCount : Int32) (v4 : Int64) (v6 : Int32) (v12 : Int32) (v13 : Int32) (v15 : Int64) (v17 : Int32) : Option (Int32 × List Int32 × List Int32 × Int32 × Int64 × Int32 × Int32) :=
  if v15 = v4 then
    (f_solutionSize p0_status p0_solSize).bind fun r59 =>
    if v17 = r59 then
      if v13 < v17 then
        some ((-1 : Int32), p0_cur, p0_prs, p0_status, p0_solSet, p0_solSize, p0_solCount)
      else
        (f_solutionCount p0_status p0_solCount).bind fun r60 =>
        some ((if v12 = r60 then v6 else (-1 : Int32)), p0_cur, p0_prs, p0_status, p0_solSet, p0_solSize, p0_solCount)
    else
      some ((-1 : Int32), p0_cur, p0_prs, p0_status, p0_solSet, p0_solSize, p0_solCount)
  else
    some ((-1 : Int32), p0_cur, p0_prs, p0_status, p0_solSet, p0_solSize, p0_solCount)
def f_L_check_233 (k275 : List Int32 → List Int32 → Int32 → Int64 → Int32 → Int32 → Int64 → Int32 → Int32 → Int32 → Int64 → Int32 → Option (Int32 × List Int32 × List Int32 × Int32 × Int64 × Int32 × Int32)) (p0_nRows : Int32) (p0_nCols : Int32) (p0_lights : Int64) : Nat → List Int32 → List Int32 → Int32 → Int64 → Int32 → Int32 → Int32 → Int32 → Int32 → Int64 → Int32 → Int32 → Int32 → Int64 → Int32 → Int32 → Option (Int32 × List Int32 × List Int32 × Int32 × Int64 × Int32 × Int32)
  | 0, _, _, _, _, _, _, _, _, _, _, _, _, _, _, _, _ => none
  | n + 1, p0_cur, p0_prs, p0_status, p0_solSet, p0_solSize, p0_solCount, v1, v2, v3, v4, v6, v12, v13, v15, v17, v18 =>
    if v18 < v3 then
      if v2 = 0 then none else
      if v2 = 0 then none else
      (f_inSolution p0_nRows p0_nCols p0_status p0_solSet (v18 / v2) (v18 % v2)).bind fun r57 =>
      if r57 = (0 : Int32) then
        f_L_check_233 k275 p0_nRows p0_nCols p0_lights n p0_cur p0_prs p0_status p0_solSet p0_solSize p0_solCount v1 v2 v3 v4 v6 v12 v13 v15 v17 (v18 + (1 : Int32))
      else
        (f_L_pressMask v18 v1 v2).bind fun r58 =>
        f_L_check_233 k275 p0_nRows p0_nCols p0_lights n p0_cur p0_prs p0_status p0_solSet p0_solSize p0_solCount v1 v2 v3 v4 v6 v12 v13 (v15 ^^^ r58) (v17 + (1 : Int32)) (v18 + (1 : Int32))
    else
      k275 p0_cur p0_prs p0_status p0_solSet p0_solSize p0_solCount v4 v6 v12 v13 v15 v17
def f_L_check_189 (p0_nRows : Int32) (p0_nCols : Int32) (p0_lights : Int64) (p0_cur : List Int32) (p0_prs : List Int32) (p0_status : Int32) (p0_solSet : Int64) (p0_solSize : Int32) (p0_solCount : Int32) (v1 : Int32) (v2 : Int32) (v3 : Int32) (v4 : Int64) (v6 : Int32) (v12 : Int32) (v13 : Int32) : Option (Int32 × List Int32 × List Int32 × Int32 × Int64 × Int32 × Int32) :=
  if v6 = (2 : Int32) then
    if v12 = (0 : Int32) then
      (f_solutionSize p0_status p0_solSize).bind fun r55 =>
      if r55 = (-1 : Int32) then
        (f_solutionCount p0_status p0_solCount).bind fun r56 =>
        some ((if r56 = (0 : Int32) then v6 else (-1 : Int32)), p0_cur, p0_prs, p0_status, p0_solSet, p0_solSize, p0_solCount)
      else
        some ((-1 : Int32), p0_cur, p0_prs, p0_status, p0_solSet, p0_solSize, p0_solCount)
    else
      some ((-1 : Int32), p0_cur, p0_prs, p0_status, p0_solSet, p0_solSize, p0_solCount)
  else
    f_L_check_233 (f_L_check_275 p0_nRows p0_nCols p0_lights) p0_nRows p0_nCols p0_lights 100000 p0_cur p0_prs p0_status p0_solSet p0_solSize p0_solCount v1 v2 v3 v4 v6 v12 v13 (0 : Int64) (0 : Int32) (0 : Int32)
def f_L_check_161 (kb : List Int32 → List Int32 → Int32 → Int64 → Int32 → Int32 → Int32 → Int32 → Int32 → Int64 → Int32 → Int64 → Int64 → Int32 → Int32 → Int32 → Int32 → Int32 → Option (Int32 × List Int32 × List Int32 × Int32 × Int64 × Int32 × Int32)) (k189 : List Int32 → List Int32 → Int32 → Int64 → Int32 → Int32 → Int32 → Int32 → Int32 → Int64 → Int32 → Int32 → Int32 → Option (Int32 × List Int32 × List Int32 × Int32 × Int64 × Int32 × Int32)) (p0_nRows : Int32) (p0_nCols : Int32) (p0_lights : Int64) (p0_cur : List Int32) (p0_prs : List Int32) (p0_status : Int32) (p0_solSet : Int64) (p0_solSize : Int32) (p0_solCount : Int32) (v1 : Int32) (v2 : Int32) (v3 : Int32) (v4 : Int64) (v6 : Int32) (v7 : Int64) (v9 : Int64) (v11 : Int32) (v12 : Int32) (v13 : Int32) (v14 : Int32) (v15 : Int32) : Option (Int32 × List Int32 × List Int32 × Int32 × Int64 × Int32 × Int32) :=
  kb p0_cur p0_prs p0_status p0_solSet p0_solSize p0_solCount v1 v2 v3 v4 v6 v7 v9 v11 (if v7 = v4 then (v12 + (1 : Int32)) else v12) (if v7 = v4 then (if v11 < v13 then v11 else v13) else v13) v14 (v15 + (1 : Int32))
def f_L_check_105 (k189 : List Int32 → List Int32 → Int32 → Int64 → Int32 → Int32 → Int32 → Int32 → Int32 → Int64 → Int32 → Int32 → Int32 → Option (Int32 × List Int32 × List Int32 × Int32 × Int64 × Int32 × Int32)) (p0_nRows : Int32) (p0_nCols : Int32) (p0_lights : Int64) : Nat → List Int32 → List Int32 → Int32 → Int64 → Int32 → Int32 → Int32 → Int32 → Int32 → Int64 → Int32 → Int64 → Int64 → Int32 → Int32 → Int32 → Int32 → Int32 → Option (Int32 × List Int32 × List Int32 × Int32 × Int64 × Int32 × Int32)
  | 0, _, _, _, _, _, _, _, _, _, _, _, _, _, _, _, _, _, _ => none
  | n + 1, p0_cur, p0_prs, p0_status, p0_solSet, p0_solSize, p0_solCount, v1, v2, v3, v4, v6, v7, v9, v11, v12, v13, v14, v15 =>
    if v15 < v14 then
      (f_L_tz v15).bind fun r53 =>
      (f_L_pressMask r53 v1 v2).bind fun r54 =>
      f_L_check_161 (f_L_check_105 k189 p0_nRows p0_nCols p0_lights n) k189 p0_nRows p0_nCols p0_lights p0_cur p0_prs p0_status p0_solSet p0_solSize p0_solCount v1 v2 v3 v4 v6 (v7 ^^^ r54) (v9 ^^^ ((1 : Int64) <<< (r53.toInt64 &&& 63))) (if ((v9 ^^^ ((1 : Int64) <<< (r53.toInt64 &&& 63))) &&& ((1 : Int64) <<< (r53.toInt64 &&& 63))) = (0 : Int64) then (v11 + (-1 : Int32)) else (v11 + (1 : Int32))) v12 v13 v14 v15
    else
      k189 p0_cur p0_prs p0_status p0_solSet p0_solSize p0_solCount v1 v2 v3 v4 v6 v12 v13
def f_L_check_97 (p0_nRows : Int32) (p0_nCols : Int32) (p0_lights : Int64) (p0_cur : List Int32) (p0_prs : List Int32) (p0_status : Int32) (p0_solSet : Int64) (p0_solSize : Int32) (p0_solCount : Int32) (v1 : Int32) (v2 : Int32) (v3 : Int32) (v4 : Int64) (v6 : Int32) (v7 : Int64) (v9 : Int64) (v11 : Int32) (v12 : Int32) (v13 : Int32) : Option (Int32 × List Int32 × List Int32 × Int32 × Int64 × Int32 × Int32) :=
  f_L_check_105 (f_L_check_189 p0_nRows p0_nCols p0_lights) p0_nRows p0_nCols p0_lights 100000 p0_cur p0_prs p0_status p0_solSet p0_solSize p0_solCount v1 v2 v3 v4 v6 v7 v9 v11 v12 v13 ((1 : Int32) <<< (v3 &&& 31)) (1 : Int32)
def f_L_check_67 (p0_nRows : Int32) (p0_nCols : Int32) (p0_lights : Int64) (p0_cur : List Int32) (p0_prs : List Int32) (p0_status : Int32) (p0_solSet : Int64) (p0_solSize : Int32) (p0_solCount : Int32) (v1 : Int32) (v2 : Int32) (v3 : Int32) (v4 : Int64) (v6 : Int32) : Option (Int32 × List Int32 × List Int32 × Int32 × Int64 × Int32 × Int32) :=
  f_L_check_97 p0_nRows p0_nCols p0_lights p0_cur p0_prs p0_status p0_solSet p0_solSize p0_solCount v1 v2 v3 v4 v6 (0 : Int64) (0 : Int64) (0 : Int32) (if v4 = (0 : Int64) then (1 : Int32) else (0 : Int32)) (if v4 = (0 : Int64) then (0 : Int32) else (v3 + (1 : Int32)))
def f_L_check_46 (p0_nRows : Int32) (p0_nCols : Int32) (p0_lights : Int64) (p0_cur : List Int32) (p0_prs : List Int32) (p0_status : Int32) (p0_solSet : Int64) (p0_solSize : Int32) (p0_solCount : Int32) (v1 : Int32) (v2 : Int32) (v3 : Int32) (v4 : Int64) : Option (Int32 × List Int32 × List Int32 × Int32 × Int64 × Int32 × Int32) :=
  (f_solve p0_nRows p0_nCols p0_lights p0_cur p0_prs p0_status p0_solSet p0_solSize p0_solCount).bind fun (r46, s47, s48, s49, s50, s51, s52) =>
  if r46 = (1 : Int32) then
    f_L_check_67 p0_nRows p0_nCols p0_lights s47 s48 s49 s50 s51 s52 v1 v2 v3 v4 r46
  else
    if r46 = (2 : Int32) then
      f_L_check_67 p0_nRows p0_nCols p0_lights s47 s48 s49 s50 s51 s52 v1 v2 v3 v4 r46
    else
      some (r46, s47, s48, s49, s50, s51, s52)
def f_L_check_10 (k46 : List Int32 → List Int32 → Int32 → Int64 → Int32 → Int32 → Int32 → Int32 → Int32 → Int64 → Option (Int32 × List Int32 × List Int32 × Int32 × Int64 × Int32 × Int32)) (p0_nRows : Int32) (p0_nCols : Int32) (p0_lights : Int64) : Nat → List Int32 → List Int32 → Int32 → Int64 → Int32 → Int32 → Int32 → Int32 → Int32 → Int64 → Int32 → Option (Int32 × List Int32 × List Int32 × Int32 × Int64 × Int32 × Int32)
  | 0, _, _, _, _, _, _, _, _, _, _, _ => none
  | n + 1, p0_cur, p0_prs, p0_status, p0_solSet, p0_solSize, p0_solCount, v1, v2, v3, v4, v6 =>
    if v6 < v3 then
      if v2 = 0 then none else
      if v2 = 0 then none else
      (f_isLit p0_nRows p0_nCols p0_lights (v6 / v2) (v6 % v2)).bind fun r45 =>
      f_L_check_10 k46 p0_nRows p0_nCols p0_lights n p0_cur p0_prs p0_status p0_solSet p0_solSize p0_solCount v1 v2 v3 (if r45 = (0 : Int32) then v4 else (v4 ||| ((1 : Int64) <<< (v6.toInt64 &&& 63)))) (v6 + (1 : Int32))
    else
      k46 p0_cur p0_prs p0_status p0_solSet p0_solSize p0_solCount v1 v2 v3 v4
def f_L_check (p0_nRows : Int32) (p0_nCols : Int32) (p0_lights : Int64) (p0_cur : List Int32) (p0_prs : List Int32) (p0_status : Int32) (p0_solSet : Int64) (p0_solSize : Int32) (p0_solCount : Int32) (v1 : Int32) (v2 : Int32) : Option (Int32 × List Int32 × List Int32 × Int32 × Int64 × Int32 × Int32) :=
  f_L_check_10 (f_L_check_46 p0_nRows p0_nCols p0_lights) p0_nRows p0_nCols p0_lights 100000 p0_cur p0_prs p0_status p0_solSet p0_solSize p0_solCount v1 v2 (v1 * v2) (0 : Int64) (0 : Int32)
def f_applySolution_38 (o_nRows : Int32) (o_nCols : Int32) (o_status : Int32) (o_solSet : Int64) (o_solSize : Int32) : Nat → List Int32 → Int64 → Int32 → Int32 → Int32 → Option (Int32 × List Int32 × Int64 × Int32)
  | 0, _, _, _, _, _ => none
  | n + 1, o_log, o_lights, o_logLen, v1, v2 =>
    if v2 < v1 then
      if ((XT.ushrL o_solSet v2) &&& (1 : Int64)) = (0 : Int64) then
        f_applySolution_38 o_nRows o_nCols o_status o_solSet o_solSize n o_log o_lights o_logLen v1 (v2 + (1 : Int32))
      else
        if o_logLen < (64 : Int32) then
          if o_nCols = 0 then none else
          if o_nCols = 0 then none else
          (f_toggleCell o_nRows o_nCols o_lights (v2 / o_nCols) (v2 % o_nCols)).bind fun s61 =>
          (wrA o_log o_logLen v2).bind fun A62 =>
          f_applySolution_38 o_nRows o_nCols o_status o_solSet o_solSize n A62 s61 (o_logLen + (1 : Int32)) v1 (v2 + (1 : Int32))
        else
          some ((1 : Int32), o_log, o_lights, o_logLen)
    else
      some ((1 : Int32), o_log, o_lights, o_logLen)
def f_applySolution (o_nRows : Int32) (o_nCols : Int32) (o_status : Int32) (o_solSet : Int64) (o_solSize : Int32) (o_log : List Int32) (o_lights : Int64) (o_logLen : Int32) : Option (Int32 × List Int32 × Int64 × Int32) :=
  if o_status = (1 : Int32) then
    if (64 : Int32) < (o_logLen + o_solSize) then
      some ((0 : Int32), o_log, o_lights, o_logLen)
    else
      f_applySolution_38 o_nRows o_nCols o_status o_solSet o_solSize 100000 o_log o_lights o_logLen (o_nRows * o_nCols) (0 : Int32)
  else
    some ((0 : Int32), o_log, o_lights, o_logLen)
def f_litCount (o_lights : Int64) : Option (Int32) :=
  (f_popCount o_lights).bind fun r63 =>
  some r63
def f_clear (o_lights : Int64) (o_logLen : Int32) (o_status : Int32) (o_solSet : Int64) (o_solSize : Int32) (o_solCount : Int32) : Option (Int64 × Int32 × Int32 × Int64 × Int32 × Int32) :=
  (f_forgetResult o_status o_solSet o_solSize o_solCount).bind fun (s64, s65, s66, s67) =>
  some ((0 : Int64), (0 : Int32), s64, s65, s66, s67)
def f_L_law_246 (scr : List Int32) (n0_cur : List Int32) (n0_prs : List Int32) (n0_nRows : Int32) (n0_nCols : Int32) (n0_lights : Int64) (n0_status : Int32) (n0_solSet : Int64) (n0_solSize : Int32) (n0_solCount : Int32) (v1 : Int32) (v2 : Int32) : Option (Int32) :=
  (f_L_check n0_nRows n0_nCols n0_lights n0_cur n0_prs n0_status n0_solSet n0_solSize n0_solCount v1 v2).bind fun (r110, s111, s112, s113, s114, s115, s116) =>
  some (if r110 < (0 : Int32) then (0 : Int32) else (1 : Int32))
def f_L_law_36 (k246 : List Int32 → List Int32 → Int32 → Int32 → Int64 → Int32 → Int64 → Int32 → Int32 → Int32 → Int32 → Option (Int32)) (scr : List Int32) : Nat → List Int32 → List Int32 → List Int32 → Int32 → Int32 → Int64 → Int32 → Int32 → Int64 → Int32 → Int32 → Int32 → Int32 → Int32 → Int32 → Option (Int32)
  | 0, _, _, _, _, _, _, _, _, _, _, _, _, _, _, _ => none
  | n + 1, n0_log, n0_cur, n0_prs, n0_nRows, n0_nCols, n0_lights, n0_logLen, n0_status, n0_solSet, n0_solSize, n0_solCount, v1, v2, v4, v5 =>
    if v5 < scr.length.toInt32 then
      (f_L_cell scr v5).bind fun r81 =>
      (f_L_cell scr (v5 + (1 : Int32))).bind fun r82 =>
      if v1 = 0 then none else
      if v2 = 0 then none else
      if ((r81 &&& (2147483647 : Int32)) % (6 : Int32)) = (0 : Int32) then
        (f_setLight n0_nRows n0_nCols n0_lights ((r82 &&& (255 : Int32)) % v1) (((XT.ushr r82 (8 : Int32)) &&& (255 : Int32)) % v2) ((XT.ushr r82 (16 : Int32)) &&& (1 : Int32))).bind fun (r108, s109) =>
        f_L_law_36 k246 scr n n0_log n0_cur n0_prs n0_nRows n0_nCols s109 n0_logLen n0_status n0_solSet n0_solSize n0_solCount v1 v2 (0 : Int32) (v5 + (2 : Int32))
      else
        if ((r81 &&& (2147483647 : Int32)) % (6 : Int32)) = (1 : Int32) then
          (f_press n0_nRows n0_nCols n0_log n0_lights n0_logLen ((r82 &&& (255 : Int32)) % v1) (((XT.ushr r82 (8 : Int32)) &&& (255 : Int32)) % v2)).bind fun (r104, s105, s106, s107) =>
          f_L_law_36 k246 scr n s105 n0_cur n0_prs n0_nRows n0_nCols s106 s107 n0_status n0_solSet n0_solSize n0_solCount v1 v2 (0 : Int32) (v5 + (2 : Int32))
        else
          if ((r81 &&& (2147483647 : Int32)) % (6 : Int32)) = (2 : Int32) then
            (f_undo n0_log n0_nRows n0_nCols n0_lights n0_logLen).bind fun (r101, s102, s103) =>
            f_L_law_36 k246 scr n n0_log n0_cur n0_prs n0_nRows n0_nCols s102 s103 n0_status n0_solSet n0_solSize n0_solCount v1 v2 (0 : Int32) (v5 + (2 : Int32))
          else
            if ((r81 &&& (2147483647 : Int32)) % (6 : Int32)) = (3 : Int32) then
              (f_L_check n0_nRows n0_nCols n0_lights n0_cur n0_prs n0_status n0_solSet n0_solSize n0_solCount v1 v2).bind fun (r94, s95, s96, s97, s98, s99, s100) =>
              if r94 < (0 : Int32) then
                some (0 : Int32)
              else
                f_L_law_36 k246 scr n n0_log s95 s96 n0_nRows n0_nCols n0_lights n0_logLen s97 s98 s99 s100 v1 v2 (if r94 = (1 : Int32) then (1 : Int32) else (0 : Int32)) (v5 + (2 : Int32))
            else
              if ((r81 &&& (2147483647 : Int32)) % (6 : Int32)) = (4 : Int32) then
                (f_applySolution n0_nRows n0_nCols n0_status n0_solSet n0_solSize n0_log n0_lights n0_logLen).bind fun (r89, s90, s91, s92) =>
                if v4 = (0 : Int32) then
                  f_L_law_36 k246 scr n s90 n0_cur n0_prs n0_nRows n0_nCols s91 s92 n0_status n0_solSet n0_solSize n0_solCount v1 v2 (0 : Int32) (v5 + (2 : Int32))
                else
                  if r89 = (0 : Int32) then
                    f_L_law_36 k246 scr n s90 n0_cur n0_prs n0_nRows n0_nCols s91 s92 n0_status n0_solSet n0_solSize n0_solCount v1 v2 (0 : Int32) (v5 + (2 : Int32))
                  else
                    (f_litCount s91).bind fun r93 =>
                    if r93 = (0 : Int32) then
                      f_L_law_36 k246 scr n s90 n0_cur n0_prs n0_nRows n0_nCols s91 s92 n0_status n0_solSet n0_solSize n0_solCount v1 v2 (0 : Int32) (v5 + (2 : Int32))
                    else
                      some (0 : Int32)
              else
                (f_clear n0_lights n0_logLen n0_status n0_solSet n0_solSize n0_solCount).bind fun (s83, s84, s85, s86, s87, s88) =>
                f_L_law_36 k246 scr n n0_log n0_cur n0_prs n0_nRows n0_nCols s83 s84 s85 s86 s87 s88 v1 v2 (0 : Int32) (v5 + (2 : Int32))
    else
      k246 n0_cur n0_prs n0_nRows n0_nCols n0_lights n0_status n0_solSet n0_solSize n0_solCount v1 v2
def f_L_law (scr : List Int32) : Option (Int32) :=
  (f_L_cell scr (0 : Int32)).bind fun r68 =>
  (f_L_cell scr (1 : Int32)).bind fun r69 =>
  (f_init ((1 : Int32) + (r68 &&& (3 : Int32))) ((1 : Int32) + (r69 &&& (3 : Int32)))).bind fun (s70, s71, s72, s73, s74, s75, s76, s77, s78, s79, s80) =>
  f_L_law_36 (f_L_law_246 scr) scr 100000 s70 s71 s72 s73 s74 s75 s76 s77 s78 s79 s80 ((1 : Int32) + (r68 &&& (3 : Int32))) ((1 : Int32) + (r69 &&& (3 : Int32))) (0 : Int32) (2 : Int32)
set_option maxHeartbeats 4000000
set_option maxRecDepth 10000
theorem ok_L_cell {scr : List Int32} {po : List ACell} {v1 : Int32} {res : Int32} (h : f_L_cell scr v1 = some res) : OEnds own_P 1 0 [.val (.ref 0), .val (.int v1)] [] ((.inr (.inl (false, scr)) : ACell) :: po) (some (.int res), ((.inr (.inl (false, scr)) : ACell) :: po), 0, 0) := by
  unfold f_L_cell at h
  refine OEnds.adv hm_1 3 (pc' := 3) (L' := [.val (.ref 0), .val (.int v1)]) (S' := [.int scr.length.toInt32, .int v1]) (H' := ((.inr (.inl (false, scr)) : ACell) :: po)) rfl ?_
  by_cases hc1 : v1 < scr.length.toInt32
  · simp only [if_pos hc1] at h
    refine OEnds.icmpF hm_1 rfl ((tlt hc1).2.1) ?_
    refine OEnds.adv hm_1 2 (pc' := 8) (L' := [.val (.ref 0), .val (.int v1)]) (S' := [.int v1, .ref 0]) (H' := ((.inr (.inl (false, scr)) : ACell) :: po)) rfl ?_
    obtain ⟨x1, hx1, h⟩ := bnd h
    refine OEnds.plain hm_1 rfl rfl (x_iaload rfl hx1) ?_
    refine OEnds.adv hm_1 1 (pc' := 13) (L' := [.val (.ref 0), .val (.int v1)]) (S' := [.int x1]) (H' := ((.inr (.inl (false, scr)) : ACell) :: po)) rfl ?_
    cases h
    exact OEnds.iret hm_1 rfl rfl
  · simp only [if_neg hc1] at h
    refine OEnds.icmpT hm_1 rfl (q := 12) rfl ((flt hc1).2.1) ?_
    refine OEnds.adv hm_1 1 (pc' := 13) (L' := [.val (.ref 0), .val (.int v1)]) (S' := [.int 0]) (H' := ((.inr (.inl (false, scr)) : ACell) :: po)) rfl ?_
    cases h
    exact OEnds.iret hm_1 rfl rfl
theorem ok_clamp {c0 : ACell} {po : List ACell} {v0 : Int32} {res : Int32} (h : f_clamp v0 = some res) : OEnds own_P 3 0 [.val (.int v0)] [] (c0 :: po) (some (.int res), (c0 :: po), 0, 0) := by
  unfold f_clamp at h
  refine OEnds.adv hm_3 2 (pc' := 2) (L' := [.val (.int v0)]) (S' := [.int 1, .int v0]) (H' := (c0 :: po)) rfl ?_
  by_cases hc2 : v0 < (1 : Int32)
  · simp only [if_pos hc2] at h
    refine OEnds.icmpF hm_3 rfl ((tlt hc2).2.1) ?_
    refine OEnds.adv hm_3 1 (pc' := 6) (L' := [.val (.int v0)]) (S' := [.int 1]) (H' := (c0 :: po)) rfl ?_
    cases h
    exact OEnds.iret hm_3 rfl rfl
  · simp only [if_neg hc2] at h
    refine OEnds.icmpT hm_3 rfl (q := 7) rfl ((flt hc2).2.1) ?_
    refine OEnds.adv hm_3 2 (pc' := 10) (L' := [.val (.int v0)]) (S' := [.int 8, .int v0]) (H' := (c0 :: po)) rfl ?_
    by_cases hc3 : (8 : Int32) < v0
    · simp only [if_pos hc3] at h
      refine OEnds.icmpF hm_3 rfl ((tlt hc3).2.2.2) ?_
      refine OEnds.adv hm_3 1 (pc' := 15) (L' := [.val (.int v0)]) (S' := [.int 8]) (H' := (c0 :: po)) rfl ?_
      cases h
      exact OEnds.iret hm_3 rfl rfl
    · simp only [if_neg hc3] at h
      refine OEnds.icmpT hm_3 rfl (q := 16) rfl ((flt hc3).2.2.2) ?_
      refine OEnds.adv hm_3 1 (pc' := 17) (L' := [.val (.int v0)]) (S' := [.int v0]) (H' := (c0 :: po)) rfl ?_
      cases h
      exact OEnds.iret hm_3 rfl rfl
theorem ok_forgetResult {o_log : List Int32} {o_cur : List Int32} {o_prs : List Int32} {o_nRows : Int32} {o_nCols : Int32} {o_lights : Int64} {o_logLen : Int32} {c0 : ACell} {po : List ACell} {o_status : Int32} {o_solSet : Int64} {o_solSize : Int32} {o_solCount : Int32} {w_o_status : Int32} {w_o_solSet : Int64} {w_o_solSize : Int32} {w_o_solCount : Int32} (h : f_forgetResult o_status o_solSet o_solSize o_solCount = some (w_o_status, w_o_solSet, w_o_solSize, w_o_solCount)) : OEnds own_P 4 0 [.val (.ref 1)] [] (c0 :: bk0 o_log o_cur o_prs o_nRows o_nCols o_lights o_logLen o_status o_solSet o_solSize o_solCount po) (none, (c0 :: bk0 o_log o_cur o_prs o_nRows o_nCols o_lights o_logLen w_o_status w_o_solSet w_o_solSize w_o_solCount po), 0, 0) := by
  unfold f_forgetResult at h
  refine OEnds.adv hm_4 12 (pc' := 20) (L' := [.val (.ref 1)]) (S' := []) (H' := (c0 :: bk0 o_log o_cur o_prs o_nRows o_nCols o_lights o_logLen 0 0 0 0 po)) rfl ?_
  cases h
  exact OEnds.vret hm_4 rfl rfl
theorem ok_init {c0 : ACell} {v1 : Int32} {v2 : Int32} {w_o_log : List Int32} {w_o_cur : List Int32} {w_o_prs : List Int32} {w_o_nRows : Int32} {w_o_nCols : Int32} {w_o_lights : Int64} {w_o_logLen : Int32} {w_o_status : Int32} {w_o_solSet : Int64} {w_o_solSize : Int32} {w_o_solCount : Int32} (h : f_init v1 v2 = some (w_o_log, w_o_cur, w_o_prs, w_o_nRows, w_o_nCols, w_o_lights, w_o_logLen, w_o_status, w_o_solSet, w_o_solSize, w_o_solCount)) : OEnds own_P 2 0 [.val (.ref 1), .val (.int v1), .val (.int v2)] [] (c0 :: (.inl (0, [.null, .null, .null, .int 0, .int 0, .long 0, .int 0, .int 0, .long 0, .int 0, .int 0]) : ACell) :: []) (none, (c0 :: bk0 w_o_log w_o_cur w_o_prs w_o_nRows w_o_nCols w_o_lights w_o_logLen w_o_status w_o_solSet w_o_solSize w_o_solCount []), 3, 80) := by
  unfold f_init at h
  refine OEnds.adv hm_2 1 (pc' := 1) (L' := [.val (.ref 1), .val (.int v1), .val (.int v2)]) (S' := [.ref 1]) (H' := (c0 :: (.inl (0, [.null, .null, .null, .int 0, .int 0, .long 0, .int 0, .int 0, .long 0, .int 0, .int 0]) : ACell) :: [])) rfl ?_
  refine OEnds.oinit hm_2 rfl ⟨Nat.le_of_ble_eq_true rfl, Nat.le_of_ble_eq_true rfl⟩ ?_
  refine OEnds.adv hm_2 2 (pc' := 7) (L' := [.val (.ref 1), .val (.int v1), .val (.int v2)]) (S' := [.int 64, .ref 1]) (H' := (c0 :: (.inl (0, [.null, .null, .null, .int 0, .int 0, .long 0, .int 0, .int 0, .long 0, .int 0, .int 0]) : ACell) :: [])) rfl ?_
  refine OEnds.made1 hm_2 rfl rfl (ks := 64) rfl rfl ?_
  refine OEnds.adv hm_2 3 (pc' := 15) (L' := [.val (.ref 1), .val (.int v1), .val (.int v2)]) (S' := [.int 8, .ref 1]) (H' := (c0 :: (.inl (0, [.ref 2, .null, .null, .int 0, .int 0, .long 0, .int 0, .int 0, .long 0, .int 0, .int 0]) : ACell) :: .inr (.inl (false, (List.replicate 64 0))) :: [])) rfl ?_
  refine OEnds.made1 hm_2 rfl rfl (ks := 8) rfl rfl ?_
  refine OEnds.adv hm_2 3 (pc' := 23) (L' := [.val (.ref 1), .val (.int v1), .val (.int v2)]) (S' := [.int 8, .ref 1]) (H' := (c0 :: (.inl (0, [.ref 2, .ref 3, .null, .int 0, .int 0, .long 0, .int 0, .int 0, .long 0, .int 0, .int 0]) : ACell) :: .inr (.inl (false, (List.replicate 64 0))) :: .inr (.inl (false, (List.replicate 8 0))) :: [])) rfl ?_
  refine OEnds.made1 hm_2 rfl rfl (ks := 8) rfl rfl ?_
  refine OEnds.adv hm_2 3 (pc' := 30) (L' := [.val (.ref 1), .val (.int v1), .val (.int v2)]) (S' := [.int v1, .ref 1]) (H' := (c0 :: bk0 (List.replicate 64 0) (List.replicate 8 0) (List.replicate 8 0) 0 0 0 0 0 0 0 0 [])) rfl ?_
  obtain ⟨r2, hq4, h⟩ := bnd h
  refine OEnds.call0 hm_2 rfl rfl (by decide) rfl (as := [.int v1]) (rest := [.ref 1]) rfl rfl (ok_clamp hq4) ?_
  refine OEnds.adv hm_2 3 (pc' := 38) (L' := [.val (.ref 1), .val (.int v1), .val (.int v2)]) (S' := [.int v2, .ref 1]) (H' := (c0 :: bk0 (List.replicate 64 0) (List.replicate 8 0) (List.replicate 8 0) r2 0 0 0 0 0 0 0 [])) rfl ?_
  obtain ⟨r3, hq5, h⟩ := bnd h
  refine OEnds.call0 hm_2 rfl rfl (by decide) rfl (as := [.int v2]) (rest := [.ref 1]) rfl rfl (ok_clamp hq5) ?_
  refine OEnds.adv hm_2 8 (pc' := 55) (L' := [.val (.ref 1), .val (.int v1), .val (.int v2)]) (S' := [.ref 1]) (H' := (c0 :: bk0 (List.replicate 64 0) (List.replicate 8 0) (List.replicate 8 0) r2 r3 0 0 0 0 0 0 [])) rfl ?_
  obtain ⟨⟨s4, s5, s6, s7⟩, hq6, h⟩ := bnd h
  refine OEnds.call0 hm_2 rfl rfl (by decide) rfl (as := [.ref 1]) (rest := []) rfl rfl (ok_forgetResult hq6) ?_
  show OEnds own_P 2 58 [.val (.ref 1), .val (.int v1), .val (.int v2)] [] (c0 :: bk0 (List.replicate 64 0) (List.replicate 8 0) (List.replicate 8 0) r2 r3 0 0 s4 s5 s6 s7 []) _
  cases h
  exact OEnds.vret hm_2 rfl rfl
theorem ok_onBoard {o_log : List Int32} {o_cur : List Int32} {o_prs : List Int32} {o_nRows : Int32} {o_nCols : Int32} {o_lights : Int64} {o_logLen : Int32} {o_status : Int32} {o_solSet : Int64} {o_solSize : Int32} {o_solCount : Int32} {c0 : ACell} {po : List ACell} {v1 : Int32} {v2 : Int32} {res : Int32} (h : f_onBoard o_nRows o_nCols v1 v2 = some res) : OEnds own_P 6 0 [.val (.ref 1), .val (.int v1), .val (.int v2)] [] (c0 :: bk0 o_log o_cur o_prs o_nRows o_nCols o_lights o_logLen o_status o_solSet o_solSize o_solCount po) (some (.int res), (c0 :: bk0 o_log o_cur o_prs o_nRows o_nCols o_lights o_logLen o_status o_solSet o_solSize o_solCount po), 0, 0) := by
  unfold f_onBoard at h
  refine OEnds.adv hm_6 1 (pc' := 1) (L' := [.val (.ref 1), .val (.int v1), .val (.int v2)]) (S' := [.int v1]) (H' := (c0 :: bk0 o_log o_cur o_prs o_nRows o_nCols o_lights o_logLen o_status o_solSet o_solSize o_solCount po)) rfl ?_
  by_cases hc7 : v1 < (0 : Int32)
  · simp only [if_pos hc7] at h
    refine OEnds.ifT hm_6 rfl (q := 28) rfl ((tlt hc7).1) ?_
    refine OEnds.adv hm_6 1 (pc' := 29) (L' := [.val (.ref 1), .val (.int v1), .val (.int v2)]) (S' := [.int 0]) (H' := (c0 :: bk0 o_log o_cur o_prs o_nRows o_nCols o_lights o_logLen o_status o_solSet o_solSize o_solCount po)) rfl ?_
    cases h
    exact OEnds.iret hm_6 rfl rfl
  · simp only [if_neg hc7] at h
    refine OEnds.ifF hm_6 rfl ((flt hc7).1) ?_
    refine OEnds.adv hm_6 3 (pc' := 9) (L' := [.val (.ref 1), .val (.int v1), .val (.int v2)]) (S' := [.int o_nRows, .int v1]) (H' := (c0 :: bk0 o_log o_cur o_prs o_nRows o_nCols o_lights o_logLen o_status o_solSet o_solSize o_solCount po)) rfl ?_
    by_cases hc8 : v1 < o_nRows
    · simp only [if_pos hc8] at h
      refine OEnds.icmpF hm_6 rfl ((tlt hc8).2.1) ?_
      refine OEnds.adv hm_6 1 (pc' := 13) (L' := [.val (.ref 1), .val (.int v1), .val (.int v2)]) (S' := [.int v2]) (H' := (c0 :: bk0 o_log o_cur o_prs o_nRows o_nCols o_lights o_logLen o_status o_solSet o_solSize o_solCount po)) rfl ?_
      by_cases hc9 : v2 < (0 : Int32)
      · simp only [if_pos hc9] at h
        refine OEnds.ifT hm_6 rfl (q := 28) rfl ((tlt hc9).1) ?_
        refine OEnds.adv hm_6 1 (pc' := 29) (L' := [.val (.ref 1), .val (.int v1), .val (.int v2)]) (S' := [.int 0]) (H' := (c0 :: bk0 o_log o_cur o_prs o_nRows o_nCols o_lights o_logLen o_status o_solSet o_solSize o_solCount po)) rfl ?_
        cases h
        exact OEnds.iret hm_6 rfl rfl
      · simp only [if_neg hc9] at h
        refine OEnds.ifF hm_6 rfl ((flt hc9).1) ?_
        refine OEnds.adv hm_6 3 (pc' := 21) (L' := [.val (.ref 1), .val (.int v1), .val (.int v2)]) (S' := [.int o_nCols, .int v2]) (H' := (c0 :: bk0 o_log o_cur o_prs o_nRows o_nCols o_lights o_logLen o_status o_solSet o_solSize o_solCount po)) rfl ?_
        by_cases hc10 : v2 < o_nCols
        · simp only [if_pos hc10] at h
          refine OEnds.icmpF hm_6 rfl ((tlt hc10).2.1) ?_
          refine OEnds.adv hm_6 2 (pc' := 29) (L' := [.val (.ref 1), .val (.int v1), .val (.int v2)]) (S' := [.int 1]) (H' := (c0 :: bk0 o_log o_cur o_prs o_nRows o_nCols o_lights o_logLen o_status o_solSet o_solSize o_solCount po)) rfl ?_
          cases h
          exact OEnds.iret hm_6 rfl rfl
        · simp only [if_neg hc10] at h
          refine OEnds.icmpT hm_6 rfl (q := 28) rfl ((flt hc10).2.1) ?_
          refine OEnds.adv hm_6 1 (pc' := 29) (L' := [.val (.ref 1), .val (.int v1), .val (.int v2)]) (S' := [.int 0]) (H' := (c0 :: bk0 o_log o_cur o_prs o_nRows o_nCols o_lights o_logLen o_status o_solSet o_solSize o_solCount po)) rfl ?_
          cases h
          exact OEnds.iret hm_6 rfl rfl
    · simp only [if_neg hc8] at h
      refine OEnds.icmpT hm_6 rfl (q := 28) rfl ((flt hc8).2.1) ?_
      refine OEnds.adv hm_6 1 (pc' := 29) (L' := [.val (.ref 1), .val (.int v1), .val (.int v2)]) (S' := [.int 0]) (H' := (c0 :: bk0 o_log o_cur o_prs o_nRows o_nCols o_lights o_logLen o_status o_solSet o_solSize o_solCount po)) rfl ?_
      cases h
      exact OEnds.iret hm_6 rfl rfl
theorem ok_bit {o_log : List Int32} {o_cur : List Int32} {o_prs : List Int32} {o_nRows : Int32} {o_nCols : Int32} {o_lights : Int64} {o_logLen : Int32} {o_status : Int32} {o_solSet : Int64} {o_solSize : Int32} {o_solCount : Int32} {c0 : ACell} {po : List ACell} {v1 : Int32} {v2 : Int32} {res : Int64} (h : f_bit o_nCols v1 v2 = some res) : OEnds own_P 8 0 [.val (.ref 1), .val (.int v1), .val (.int v2)] [] (c0 :: bk0 o_log o_cur o_prs o_nRows o_nCols o_lights o_logLen o_status o_solSet o_solSize o_solCount po) (some (.long res), (c0 :: bk0 o_log o_cur o_prs o_nRows o_nCols o_lights o_logLen o_status o_solSet o_solSize o_solCount po), 0, 0) := by
  unfold f_bit at h
  refine OEnds.adv hm_8 8 (pc' := 10) (L' := [.val (.ref 1), .val (.int v1), .val (.int v2)]) (S' := [.long ((1 : Int64) <<< (((v1 * o_nCols) + v2).toInt64 &&& 63))]) (H' := (c0 :: bk0 o_log o_cur o_prs o_nRows o_nCols o_lights o_logLen o_status o_solSet o_solSize o_solCount po)) rfl ?_
  cases h
  exact OEnds.lret hm_8 rfl rfl
theorem ok_setLight {o_log : List Int32} {o_cur : List Int32} {o_prs : List Int32} {o_nRows : Int32} {o_nCols : Int32} {o_logLen : Int32} {o_status : Int32} {o_solSet : Int64} {o_solSize : Int32} {o_solCount : Int32} {c0 : ACell} {po : List ACell} {o_lights : Int64} {v1 : Int32} {v2 : Int32} {v3 : Int32} {res : Int32} {w_o_lights : Int64} (h : f_setLight o_nRows o_nCols o_lights v1 v2 v3 = some (res, w_o_lights)) : OEnds own_P 24 0 [.val (.ref 1), .val (.int v1), .val (.int v2), .val (.int v3), .unset, .unset] [] (c0 :: bk0 o_log o_cur o_prs o_nRows o_nCols o_lights o_logLen o_status o_solSet o_solSize o_solCount po) (some (.int res), (c0 :: bk0 o_log o_cur o_prs o_nRows o_nCols w_o_lights o_logLen o_status o_solSet o_solSize o_solCount po), 0, 0) := by
  unfold f_setLight at h
  refine OEnds.adv hm_24 3 (pc' := 3) (L' := [.val (.ref 1), .val (.int v1), .val (.int v2), .val (.int v3), .unset, .unset]) (S' := [.int v2, .int v1, .ref 1]) (H' := (c0 :: bk0 o_log o_cur o_prs o_nRows o_nCols o_lights o_logLen o_status o_solSet o_solSize o_solCount po)) rfl ?_
  obtain ⟨r8, hq11, h⟩ := bnd h
  refine OEnds.call0 hm_24 rfl rfl (by decide) rfl (as := [.ref 1, .int v1, .int v2]) (rest := []) rfl rfl (ok_onBoard hq11) ?_
  show OEnds own_P 24 6 [.val (.ref 1), .val (.int v1), .val (.int v2), .val (.int v3), .unset, .unset] [.int r8] (c0 :: bk0 o_log o_cur o_prs o_nRows o_nCols o_lights o_logLen o_status o_solSet o_solSize o_solCount po) _
  by_cases hc12 : r8 = (0 : Int32)
  · simp only [if_pos hc12] at h
    refine OEnds.ifF hm_24 rfl ((teq hc12).2) ?_
    refine OEnds.adv hm_24 1 (pc' := 10) (L' := [.val (.ref 1), .val (.int v1), .val (.int v2), .val (.int v3), .unset, .unset]) (S' := [.int 0]) (H' := (c0 :: bk0 o_log o_cur o_prs o_nRows o_nCols o_lights o_logLen o_status o_solSet o_solSize o_solCount po)) rfl ?_
    cases h
    exact OEnds.iret hm_24 rfl rfl
  · simp only [if_neg hc12] at h
    refine OEnds.ifT hm_24 rfl (q := 11) rfl ((feq hc12).2) ?_
    refine OEnds.adv hm_24 3 (pc' := 14) (L' := [.val (.ref 1), .val (.int v1), .val (.int v2), .val (.int v3), .unset, .unset]) (S' := [.int v2, .int v1, .ref 1]) (H' := (c0 :: bk0 o_log o_cur o_prs o_nRows o_nCols o_lights o_logLen o_status o_solSet o_solSize o_solCount po)) rfl ?_
    obtain ⟨r9, hq13, h⟩ := bnd h
    refine OEnds.call0 hm_24 rfl rfl (by decide) rfl (as := [.ref 1, .int v1, .int v2]) (rest := []) rfl rfl (ok_bit hq13) ?_
    refine OEnds.adv hm_24 2 (pc' := 20) (L' := [.val (.ref 1), .val (.int v1), .val (.int v2), .val (.int v3), .val (.long r9), .second]) (S' := [.int v3]) (H' := (c0 :: bk0 o_log o_cur o_prs o_nRows o_nCols o_lights o_logLen o_status o_solSet o_solSize o_solCount po)) rfl ?_
    by_cases hc14 : v3 = (0 : Int32)
    · simp only [if_pos hc14] at h
      refine OEnds.ifF hm_24 rfl ((teq hc14).2) ?_
      refine OEnds.adv hm_24 10 (pc' := 53) (L' := [.val (.ref 1), .val (.int v1), .val (.int v2), .val (.int v3), .val (.long r9), .second]) (S' := [.int 1]) (H' := (c0 :: bk0 o_log o_cur o_prs o_nRows o_nCols (o_lights &&& (r9 ^^^ (-1 : Int64))) o_logLen o_status o_solSet o_solSize o_solCount po)) rfl ?_
      cases h
      exact OEnds.iret hm_24 rfl rfl
    · simp only [if_neg hc14] at h
      refine OEnds.ifT hm_24 rfl (q := 41) rfl ((feq hc14).2) ?_
      refine OEnds.adv hm_24 7 (pc' := 53) (L' := [.val (.ref 1), .val (.int v1), .val (.int v2), .val (.int v3), .val (.long r9), .second]) (S' := [.int 1]) (H' := (c0 :: bk0 o_log o_cur o_prs o_nRows o_nCols (o_lights ||| r9) o_logLen o_status o_solSet o_solSize o_solCount po)) rfl ?_
      cases h
      exact OEnds.iret hm_24 rfl rfl
theorem ok_toggleCell_79 {o_log : List Int32} {o_cur : List Int32} {o_prs : List Int32} {o_nRows : Int32} {o_nCols : Int32} {o_logLen : Int32} {o_status : Int32} {o_solSet : Int64} {o_solSize : Int32} {o_solCount : Int32} {c0 : ACell} {po : List ACell} : ∀ {o_lights : Int64} {v3 : Int64} {d1 d2 : Slot} {w_o_lights : Int64}, f_toggleCell_79 o_nRows o_nCols o_lights v3 = some w_o_lights → OEnds own_P 7 79 [.val (.ref 1), d1, d2, .val (.long v3), .second] [] (c0 :: bk0 o_log o_cur o_prs o_nRows o_nCols o_lights o_logLen o_status o_solSet o_solSize o_solCount po) (none, (c0 :: bk0 o_log o_cur o_prs o_nRows o_nCols w_o_lights o_logLen o_status o_solSet o_solSize o_solCount po), 0, 0) := by
  intro o_lights v3 d1 d2 w_o_lights h
  unfold f_toggleCell_79 at h
  refine OEnds.adv hm_7 6 (pc' := 89) (L' := [.val (.ref 1), .unset, .unset, .val (.long v3), .second]) (S' := []) (H' := (c0 :: bk0 o_log o_cur o_prs o_nRows o_nCols (o_lights ^^^ v3) o_logLen o_status o_solSet o_solSize o_solCount po)) rfl ?_
  cases h
  exact OEnds.vret hm_7 rfl rfl
theorem ok_toggleCell_58 {o_log : List Int32} {o_cur : List Int32} {o_prs : List Int32} {o_nRows : Int32} {o_nCols : Int32} {o_logLen : Int32} {o_status : Int32} {o_solSet : Int64} {o_solSize : Int32} {o_solCount : Int32} {c0 : ACell} {po : List ACell} : ∀ {o_lights : Int64} {v1 : Int32} {v2 : Int32} {v3 : Int64} {w_o_lights : Int64}, f_toggleCell_58 o_nRows o_nCols o_lights v1 v2 v3 = some w_o_lights → OEnds own_P 7 58 [.val (.ref 1), .val (.int v1), .val (.int v2), .val (.long v3), .second] [] (c0 :: bk0 o_log o_cur o_prs o_nRows o_nCols o_lights o_logLen o_status o_solSet o_solSize o_solCount po) (none, (c0 :: bk0 o_log o_cur o_prs o_nRows o_nCols w_o_lights o_logLen o_status o_solSet o_solSize o_solCount po), 0, 0) := by
  intro o_lights v1 v2 v3 w_o_lights h
  unfold f_toggleCell_58 at h
  refine OEnds.adv hm_7 5 (pc' := 65) (L' := [.val (.ref 1), .val (.int v1), .val (.int v2), .val (.long v3), .second]) (S' := [.int o_nCols, .int (v2 + (1 : Int32))]) (H' := (c0 :: bk0 o_log o_cur o_prs o_nRows o_nCols o_lights o_logLen o_status o_solSet o_solSize o_solCount po)) rfl ?_
  by_cases hc15 : (v2 + (1 : Int32)) < o_nCols
  · simp only [if_pos hc15] at h
    refine OEnds.icmpF hm_7 rfl ((tlt hc15).2.1) ?_
    refine OEnds.adv hm_7 6 (pc' := 74) (L' := [.val (.ref 1), .val (.int v1), .val (.int v2), .val (.long v3), .second]) (S' := [.int (v2 + (1 : Int32)), .int v1, .ref 1, .long v3]) (H' := (c0 :: bk0 o_log o_cur o_prs o_nRows o_nCols o_lights o_logLen o_status o_solSet o_solSize o_solCount po)) rfl ?_
    obtain ⟨r14, hq16, h⟩ := bnd h
    refine OEnds.call0 hm_7 rfl rfl (by decide) rfl (as := [.ref 1, .int v1, .int (v2 + (1 : Int32))]) (rest := [.long v3]) rfl rfl (ok_bit hq16) ?_
    refine OEnds.adv hm_7 2 (pc' := 79) (L' := [.val (.ref 1), .val (.int v1), .val (.int v2), .val (.long (v3 ||| r14)), .second]) (S' := []) (H' := (c0 :: bk0 o_log o_cur o_prs o_nRows o_nCols o_lights o_logLen o_status o_solSet o_solSize o_solCount po)) rfl ?_
    exact ok_toggleCell_79 h
  · simp only [if_neg hc15] at h
    refine OEnds.icmpT hm_7 rfl (q := 79) rfl ((flt hc15).2.1) ?_
    show OEnds own_P 7 79 [.val (.ref 1), .val (.int v1), .val (.int v2), .val (.long v3), .second] [] (c0 :: bk0 o_log o_cur o_prs o_nRows o_nCols o_lights o_logLen o_status o_solSet o_solSize o_solCount po) _
    exact ok_toggleCell_79 h
theorem ok_toggleCell_43 {o_log : List Int32} {o_cur : List Int32} {o_prs : List Int32} {o_nRows : Int32} {o_nCols : Int32} {o_logLen : Int32} {o_status : Int32} {o_solSet : Int64} {o_solSize : Int32} {o_solCount : Int32} {c0 : ACell} {po : List ACell} : ∀ {o_lights : Int64} {v1 : Int32} {v2 : Int32} {v3 : Int64} {w_o_lights : Int64}, f_toggleCell_43 o_nRows o_nCols o_lights v1 v2 v3 = some w_o_lights → OEnds own_P 7 43 [.val (.ref 1), .val (.int v1), .val (.int v2), .val (.long v3), .second] [] (c0 :: bk0 o_log o_cur o_prs o_nRows o_nCols o_lights o_logLen o_status o_solSet o_solSize o_solCount po) (none, (c0 :: bk0 o_log o_cur o_prs o_nRows o_nCols w_o_lights o_logLen o_status o_solSet o_solSize o_solCount po), 0, 0) := by
  intro o_lights v1 v2 v3 w_o_lights h
  unfold f_toggleCell_43 at h
  refine OEnds.adv hm_7 1 (pc' := 44) (L' := [.val (.ref 1), .val (.int v1), .val (.int v2), .val (.long v3), .second]) (S' := [.int v2]) (H' := (c0 :: bk0 o_log o_cur o_prs o_nRows o_nCols o_lights o_logLen o_status o_solSet o_solSize o_solCount po)) rfl ?_
  by_cases hc17 : (0 : Int32) < v2
  · simp only [if_pos hc17] at h
    refine OEnds.ifF hm_7 rfl ((tlt hc17).2.2.2) ?_
    refine OEnds.adv hm_7 6 (pc' := 53) (L' := [.val (.ref 1), .val (.int v1), .val (.int v2), .val (.long v3), .second]) (S' := [.int (v2 - (1 : Int32)), .int v1, .ref 1, .long v3]) (H' := (c0 :: bk0 o_log o_cur o_prs o_nRows o_nCols o_lights o_logLen o_status o_solSet o_solSize o_solCount po)) rfl ?_
    obtain ⟨r13, hq18, h⟩ := bnd h
    refine OEnds.call0 hm_7 rfl rfl (by decide) rfl (as := [.ref 1, .int v1, .int (v2 - (1 : Int32))]) (rest := [.long v3]) rfl rfl (ok_bit hq18) ?_
    refine OEnds.adv hm_7 2 (pc' := 58) (L' := [.val (.ref 1), .val (.int v1), .val (.int v2), .val (.long (v3 ||| r13)), .second]) (S' := []) (H' := (c0 :: bk0 o_log o_cur o_prs o_nRows o_nCols o_lights o_logLen o_status o_solSet o_solSize o_solCount po)) rfl ?_
    exact ok_toggleCell_58 h
  · simp only [if_neg hc17] at h
    refine OEnds.ifT hm_7 rfl (q := 58) rfl ((flt hc17).2.2.2) ?_
    show OEnds own_P 7 58 [.val (.ref 1), .val (.int v1), .val (.int v2), .val (.long v3), .second] [] (c0 :: bk0 o_log o_cur o_prs o_nRows o_nCols o_lights o_logLen o_status o_solSet o_solSize o_solCount po) _
    exact ok_toggleCell_58 h
theorem ok_toggleCell_22 {o_log : List Int32} {o_cur : List Int32} {o_prs : List Int32} {o_nRows : Int32} {o_nCols : Int32} {o_logLen : Int32} {o_status : Int32} {o_solSet : Int64} {o_solSize : Int32} {o_solCount : Int32} {c0 : ACell} {po : List ACell} : ∀ {o_lights : Int64} {v1 : Int32} {v2 : Int32} {v3 : Int64} {w_o_lights : Int64}, f_toggleCell_22 o_nRows o_nCols o_lights v1 v2 v3 = some w_o_lights → OEnds own_P 7 22 [.val (.ref 1), .val (.int v1), .val (.int v2), .val (.long v3), .second] [] (c0 :: bk0 o_log o_cur o_prs o_nRows o_nCols o_lights o_logLen o_status o_solSet o_solSize o_solCount po) (none, (c0 :: bk0 o_log o_cur o_prs o_nRows o_nCols w_o_lights o_logLen o_status o_solSet o_solSize o_solCount po), 0, 0) := by
  intro o_lights v1 v2 v3 w_o_lights h
  unfold f_toggleCell_22 at h
  refine OEnds.adv hm_7 5 (pc' := 29) (L' := [.val (.ref 1), .val (.int v1), .val (.int v2), .val (.long v3), .second]) (S' := [.int o_nRows, .int (v1 + (1 : Int32))]) (H' := (c0 :: bk0 o_log o_cur o_prs o_nRows o_nCols o_lights o_logLen o_status o_solSet o_solSize o_solCount po)) rfl ?_
  by_cases hc19 : (v1 + (1 : Int32)) < o_nRows
  · simp only [if_pos hc19] at h
    refine OEnds.icmpF hm_7 rfl ((tlt hc19).2.1) ?_
    refine OEnds.adv hm_7 6 (pc' := 38) (L' := [.val (.ref 1), .val (.int v1), .val (.int v2), .val (.long v3), .second]) (S' := [.int v2, .int (v1 + (1 : Int32)), .ref 1, .long v3]) (H' := (c0 :: bk0 o_log o_cur o_prs o_nRows o_nCols o_lights o_logLen o_status o_solSet o_solSize o_solCount po)) rfl ?_
    obtain ⟨r12, hq20, h⟩ := bnd h
    refine OEnds.call0 hm_7 rfl rfl (by decide) rfl (as := [.ref 1, .int (v1 + (1 : Int32)), .int v2]) (rest := [.long v3]) rfl rfl (ok_bit hq20) ?_
    refine OEnds.adv hm_7 2 (pc' := 43) (L' := [.val (.ref 1), .val (.int v1), .val (.int v2), .val (.long (v3 ||| r12)), .second]) (S' := []) (H' := (c0 :: bk0 o_log o_cur o_prs o_nRows o_nCols o_lights o_logLen o_status o_solSet o_solSize o_solCount po)) rfl ?_
    exact ok_toggleCell_43 h
  · simp only [if_neg hc19] at h
    refine OEnds.icmpT hm_7 rfl (q := 43) rfl ((flt hc19).2.1) ?_
    show OEnds own_P 7 43 [.val (.ref 1), .val (.int v1), .val (.int v2), .val (.long v3), .second] [] (c0 :: bk0 o_log o_cur o_prs o_nRows o_nCols o_lights o_logLen o_status o_solSet o_solSize o_solCount po) _
    exact ok_toggleCell_43 h
theorem ok_toggleCell {o_log : List Int32} {o_cur : List Int32} {o_prs : List Int32} {o_nRows : Int32} {o_nCols : Int32} {o_logLen : Int32} {o_status : Int32} {o_solSet : Int64} {o_solSize : Int32} {o_solCount : Int32} {c0 : ACell} {po : List ACell} {o_lights : Int64} {v1 : Int32} {v2 : Int32} {w_o_lights : Int64} (h : f_toggleCell o_nRows o_nCols o_lights v1 v2 = some w_o_lights) : OEnds own_P 7 0 [.val (.ref 1), .val (.int v1), .val (.int v2), .unset, .unset] [] (c0 :: bk0 o_log o_cur o_prs o_nRows o_nCols o_lights o_logLen o_status o_solSet o_solSize o_solCount po) (none, (c0 :: bk0 o_log o_cur o_prs o_nRows o_nCols w_o_lights o_logLen o_status o_solSet o_solSize o_solCount po), 0, 0) := by
  unfold f_toggleCell at h
  refine OEnds.adv hm_7 3 (pc' := 3) (L' := [.val (.ref 1), .val (.int v1), .val (.int v2), .unset, .unset]) (S' := [.int v2, .int v1, .ref 1]) (H' := (c0 :: bk0 o_log o_cur o_prs o_nRows o_nCols o_lights o_logLen o_status o_solSet o_solSize o_solCount po)) rfl ?_
  obtain ⟨r10, hq21, h⟩ := bnd h
  refine OEnds.call0 hm_7 rfl rfl (by decide) rfl (as := [.ref 1, .int v1, .int v2]) (rest := []) rfl rfl (ok_bit hq21) ?_
  refine OEnds.adv hm_7 2 (pc' := 8) (L' := [.val (.ref 1), .val (.int v1), .val (.int v2), .val (.long r10), .second]) (S' := [.int v1]) (H' := (c0 :: bk0 o_log o_cur o_prs o_nRows o_nCols o_lights o_logLen o_status o_solSet o_solSize o_solCount po)) rfl ?_
  by_cases hc22 : (0 : Int32) < v1
  · simp only [if_pos hc22] at h
    refine OEnds.ifF hm_7 rfl ((tlt hc22).2.2.2) ?_
    refine OEnds.adv hm_7 6 (pc' := 17) (L' := [.val (.ref 1), .val (.int v1), .val (.int v2), .val (.long r10), .second]) (S' := [.int v2, .int (v1 - (1 : Int32)), .ref 1, .long r10]) (H' := (c0 :: bk0 o_log o_cur o_prs o_nRows o_nCols o_lights o_logLen o_status o_solSet o_solSize o_solCount po)) rfl ?_
    obtain ⟨r11, hq23, h⟩ := bnd h
    refine OEnds.call0 hm_7 rfl rfl (by decide) rfl (as := [.ref 1, .int (v1 - (1 : Int32)), .int v2]) (rest := [.long r10]) rfl rfl (ok_bit hq23) ?_
    refine OEnds.adv hm_7 2 (pc' := 22) (L' := [.val (.ref 1), .val (.int v1), .val (.int v2), .val (.long (r10 ||| r11)), .second]) (S' := []) (H' := (c0 :: bk0 o_log o_cur o_prs o_nRows o_nCols o_lights o_logLen o_status o_solSet o_solSize o_solCount po)) rfl ?_
    exact ok_toggleCell_22 h
  · simp only [if_neg hc22] at h
    refine OEnds.ifT hm_7 rfl (q := 22) rfl ((flt hc22).2.2.2) ?_
    show OEnds own_P 7 22 [.val (.ref 1), .val (.int v1), .val (.int v2), .val (.long r10), .second] [] (c0 :: bk0 o_log o_cur o_prs o_nRows o_nCols o_lights o_logLen o_status o_solSet o_solSize o_solCount po) _
    exact ok_toggleCell_22 h
theorem ok_press {o_cur : List Int32} {o_prs : List Int32} {o_nRows : Int32} {o_nCols : Int32} {o_status : Int32} {o_solSet : Int64} {o_solSize : Int32} {o_solCount : Int32} {c0 : ACell} {po : List ACell} {o_log : List Int32} {o_lights : Int64} {o_logLen : Int32} {v1 : Int32} {v2 : Int32} {res : Int32} {w_o_log : List Int32} {w_o_lights : Int64} {w_o_logLen : Int32} (h : f_press o_nRows o_nCols o_log o_lights o_logLen v1 v2 = some (res, w_o_log, w_o_lights, w_o_logLen)) : OEnds own_P 5 0 [.val (.ref 1), .val (.int v1), .val (.int v2)] [] (c0 :: bk0 o_log o_cur o_prs o_nRows o_nCols o_lights o_logLen o_status o_solSet o_solSize o_solCount po) (some (.int res), (c0 :: bk0 w_o_log o_cur o_prs o_nRows o_nCols w_o_lights w_o_logLen o_status o_solSet o_solSize o_solCount po), 0, 0) := by
  unfold f_press at h
  refine OEnds.adv hm_5 3 (pc' := 3) (L' := [.val (.ref 1), .val (.int v1), .val (.int v2)]) (S' := [.int v2, .int v1, .ref 1]) (H' := (c0 :: bk0 o_log o_cur o_prs o_nRows o_nCols o_lights o_logLen o_status o_solSet o_solSize o_solCount po)) rfl ?_
  obtain ⟨r15, hq24, h⟩ := bnd h
  refine OEnds.call0 hm_5 rfl rfl (by decide) rfl (as := [.ref 1, .int v1, .int v2]) (rest := []) rfl rfl (ok_onBoard hq24) ?_
  show OEnds own_P 5 6 [.val (.ref 1), .val (.int v1), .val (.int v2)] [.int r15] (c0 :: bk0 o_log o_cur o_prs o_nRows o_nCols o_lights o_logLen o_status o_solSet o_solSize o_solCount po) _
  by_cases hc25 : r15 = (0 : Int32)
  · simp only [if_pos hc25] at h
    refine OEnds.ifF hm_5 rfl ((teq hc25).2) ?_
    refine OEnds.adv hm_5 1 (pc' := 10) (L' := [.val (.ref 1), .val (.int v1), .val (.int v2)]) (S' := [.int 0]) (H' := (c0 :: bk0 o_log o_cur o_prs o_nRows o_nCols o_lights o_logLen o_status o_solSet o_solSize o_solCount po)) rfl ?_
    cases h
    exact OEnds.iret hm_5 rfl rfl
  · simp only [if_neg hc25] at h
    refine OEnds.ifT hm_5 rfl (q := 11) rfl ((feq hc25).2) ?_
    refine OEnds.adv hm_5 3 (pc' := 17) (L' := [.val (.ref 1), .val (.int v1), .val (.int v2)]) (S' := [.int 64, .int o_logLen]) (H' := (c0 :: bk0 o_log o_cur o_prs o_nRows o_nCols o_lights o_logLen o_status o_solSet o_solSize o_solCount po)) rfl ?_
    by_cases hc26 : o_logLen < (64 : Int32)
    · simp only [if_pos hc26] at h
      refine OEnds.icmpT hm_5 rfl (q := 22) rfl ((tlt hc26).1) ?_
      refine OEnds.adv hm_5 3 (pc' := 25) (L' := [.val (.ref 1), .val (.int v1), .val (.int v2)]) (S' := [.int v2, .int v1, .ref 1]) (H' := (c0 :: bk0 o_log o_cur o_prs o_nRows o_nCols o_lights o_logLen o_status o_solSet o_solSize o_solCount po)) rfl ?_
      obtain ⟨s16, hq27, h⟩ := bnd h
      refine OEnds.call0 hm_5 rfl rfl (by decide) rfl (as := [.ref 1, .int v1, .int v2]) (rest := []) rfl rfl (ok_toggleCell hq27) ?_
      refine OEnds.adv hm_5 10 (pc' := 44) (L' := [.val (.ref 1), .val (.int v1), .val (.int v2)]) (S' := [.int ((v1 * o_nCols) + v2), .int o_logLen, .ref 2]) (H' := (c0 :: bk0 o_log o_cur o_prs o_nRows o_nCols s16 o_logLen o_status o_solSet o_solSize o_solCount po)) rfl ?_
      obtain ⟨A17, hA17, h⟩ := bnd h
      refine OEnds.plain hm_5 rfl rfl (x_iastore rfl (Nat.le_of_ble_eq_true rfl) hA17) ?_
      refine OEnds.adv hm_5 7 (pc' := 56) (L' := [.val (.ref 1), .val (.int v1), .val (.int v2)]) (S' := [.int 1]) (H' := (c0 :: bk0 A17 o_cur o_prs o_nRows o_nCols s16 (o_logLen + (1 : Int32)) o_status o_solSet o_solSize o_solCount po)) rfl ?_
      cases h
      exact OEnds.iret hm_5 rfl rfl
    · simp only [if_neg hc26] at h
      refine OEnds.icmpF hm_5 rfl ((flt hc26).1) ?_
      refine OEnds.adv hm_5 1 (pc' := 21) (L' := [.val (.ref 1), .val (.int v1), .val (.int v2)]) (S' := [.int 0]) (H' := (c0 :: bk0 o_log o_cur o_prs o_nRows o_nCols o_lights o_logLen o_status o_solSet o_solSize o_solCount po)) rfl ?_
      cases h
      exact OEnds.iret hm_5 rfl rfl
theorem ok_undo {o_log : List Int32} {o_cur : List Int32} {o_prs : List Int32} {o_nRows : Int32} {o_nCols : Int32} {o_status : Int32} {o_solSet : Int64} {o_solSize : Int32} {o_solCount : Int32} {c0 : ACell} {po : List ACell} {o_lights : Int64} {o_logLen : Int32} {res : Int32} {w_o_lights : Int64} {w_o_logLen : Int32} (h : f_undo o_log o_nRows o_nCols o_lights o_logLen = some (res, w_o_lights, w_o_logLen)) : OEnds own_P 23 0 [.val (.ref 1), .unset] [] (c0 :: bk0 o_log o_cur o_prs o_nRows o_nCols o_lights o_logLen o_status o_solSet o_solSize o_solCount po) (some (.int res), (c0 :: bk0 o_log o_cur o_prs o_nRows o_nCols w_o_lights w_o_logLen o_status o_solSet o_solSize o_solCount po), 0, 0) := by
  unfold f_undo at h
  refine OEnds.adv hm_23 2 (pc' := 4) (L' := [.val (.ref 1), .unset]) (S' := [.int o_logLen]) (H' := (c0 :: bk0 o_log o_cur o_prs o_nRows o_nCols o_lights o_logLen o_status o_solSet o_solSize o_solCount po)) rfl ?_
  by_cases hc28 : (0 : Int32) < o_logLen
  · simp only [if_pos hc28] at h
    refine OEnds.ifT hm_23 rfl (q := 9) rfl ((tlt hc28).2.2.1) ?_
    refine OEnds.adv hm_23 10 (pc' := 27) (L' := [.val (.ref 1), .unset]) (S' := [.int (o_logLen - (1 : Int32)), .ref 2]) (H' := (c0 :: bk0 o_log o_cur o_prs o_nRows o_nCols o_lights (o_logLen - (1 : Int32)) o_status o_solSet o_solSize o_solCount po)) rfl ?_
    obtain ⟨x18, hx18, h⟩ := bnd h
    refine OEnds.plain hm_23 rfl rfl (x_iaload rfl hx18) ?_
    refine OEnds.adv hm_23 5 (pc' := 35) (L' := [.val (.ref 1), .val (.int x18)]) (S' := [.int o_nCols, .int x18, .ref 1]) (H' := (c0 :: bk0 o_log o_cur o_prs o_nRows o_nCols o_lights (o_logLen - (1 : Int32)) o_status o_solSet o_solSize o_solCount po)) rfl ?_
    by_cases hz29 : o_nCols = 0
    · simp only [if_pos hz29] at h
      cases h
    simp only [if_neg hz29] at h
    refine OEnds.plain hm_23 rfl rfl (x_idiv hz29) ?_
    refine OEnds.adv hm_23 3 (pc' := 41) (L' := [.val (.ref 1), .val (.int x18)]) (S' := [.int o_nCols, .int x18, .int (x18 / o_nCols), .ref 1]) (H' := (c0 :: bk0 o_log o_cur o_prs o_nRows o_nCols o_lights (o_logLen - (1 : Int32)) o_status o_solSet o_solSize o_solCount po)) rfl ?_
    refine OEnds.plain hm_23 rfl rfl (x_irem hz29) ?_
    show OEnds own_P 23 42 [.val (.ref 1), .val (.int x18)] [.int (x18 % o_nCols), .int (x18 / o_nCols), .ref 1] (c0 :: bk0 o_log o_cur o_prs o_nRows o_nCols o_lights (o_logLen - (1 : Int32)) o_status o_solSet o_solSize o_solCount po) _
    obtain ⟨s19, hq30, h⟩ := bnd h
    refine OEnds.call0 hm_23 rfl rfl (by decide) rfl (as := [.ref 1, .int (x18 / o_nCols), .int (x18 % o_nCols)]) (rest := []) rfl rfl (ok_toggleCell hq30) ?_
    refine OEnds.adv hm_23 1 (pc' := 46) (L' := [.val (.ref 1), .val (.int x18)]) (S' := [.int 1]) (H' := (c0 :: bk0 o_log o_cur o_prs o_nRows o_nCols s19 (o_logLen - (1 : Int32)) o_status o_solSet o_solSize o_solCount po)) rfl ?_
    cases h
    exact OEnds.iret hm_23 rfl rfl
  · simp only [if_neg hc28] at h
    refine OEnds.ifF hm_23 rfl ((flt hc28).2.2.1) ?_
    refine OEnds.adv hm_23 1 (pc' := 8) (L' := [.val (.ref 1), .unset]) (S' := [.int 0]) (H' := (c0 :: bk0 o_log o_cur o_prs o_nRows o_nCols o_lights o_logLen o_status o_solSet o_solSize o_solCount po)) rfl ?_
    cases h
    exact OEnds.iret hm_23 rfl rfl
theorem ok_isLit {o_log : List Int32} {o_cur : List Int32} {o_prs : List Int32} {o_nRows : Int32} {o_nCols : Int32} {o_lights : Int64} {o_logLen : Int32} {o_status : Int32} {o_solSet : Int64} {o_solSize : Int32} {o_solCount : Int32} {c0 : ACell} {po : List ACell} {v1 : Int32} {v2 : Int32} {res : Int32} (h : f_isLit o_nRows o_nCols o_lights v1 v2 = some res) : OEnds own_P 10 0 [.val (.ref 1), .val (.int v1), .val (.int v2)] [] (c0 :: bk0 o_log o_cur o_prs o_nRows o_nCols o_lights o_logLen o_status o_solSet o_solSize o_solCount po) (some (.int res), (c0 :: bk0 o_log o_cur o_prs o_nRows o_nCols o_lights o_logLen o_status o_solSet o_solSize o_solCount po), 0, 0) := by
  unfold f_isLit at h
  refine OEnds.adv hm_10 3 (pc' := 3) (L' := [.val (.ref 1), .val (.int v1), .val (.int v2)]) (S' := [.int v2, .int v1, .ref 1]) (H' := (c0 :: bk0 o_log o_cur o_prs o_nRows o_nCols o_lights o_logLen o_status o_solSet o_solSize o_solCount po)) rfl ?_
  obtain ⟨r20, hq31, h⟩ := bnd h
  refine OEnds.call0 hm_10 rfl rfl (by decide) rfl (as := [.ref 1, .int v1, .int v2]) (rest := []) rfl rfl (ok_onBoard hq31) ?_
  show OEnds own_P 10 6 [.val (.ref 1), .val (.int v1), .val (.int v2)] [.int r20] (c0 :: bk0 o_log o_cur o_prs o_nRows o_nCols o_lights o_logLen o_status o_solSet o_solSize o_solCount po) _
  by_cases hc32 : r20 = (0 : Int32)
  · simp only [if_pos hc32] at h
    refine OEnds.ifF hm_10 rfl ((teq hc32).2) ?_
    refine OEnds.adv hm_10 1 (pc' := 10) (L' := [.val (.ref 1), .val (.int v1), .val (.int v2)]) (S' := [.int 0]) (H' := (c0 :: bk0 o_log o_cur o_prs o_nRows o_nCols o_lights o_logLen o_status o_solSet o_solSize o_solCount po)) rfl ?_
    cases h
    exact OEnds.iret hm_10 rfl rfl
  · simp only [if_neg hc32] at h
    refine OEnds.ifT hm_10 rfl (q := 11) rfl ((feq hc32).2) ?_
    refine OEnds.adv hm_10 5 (pc' := 18) (L' := [.val (.ref 1), .val (.int v1), .val (.int v2)]) (S' := [.int v2, .int v1, .ref 1, .long o_lights]) (H' := (c0 :: bk0 o_log o_cur o_prs o_nRows o_nCols o_lights o_logLen o_status o_solSet o_solSize o_solCount po)) rfl ?_
    obtain ⟨r21, hq33, h⟩ := bnd h
    refine OEnds.call0 hm_10 rfl rfl (by decide) rfl (as := [.ref 1, .int v1, .int v2]) (rest := [.long o_lights]) rfl rfl (ok_bit hq33) ?_
    refine OEnds.adv hm_10 3 (pc' := 24) (L' := [.val (.ref 1), .val (.int v1), .val (.int v2)]) (S' := [.int (XT.cmpL (o_lights &&& r21) (0 : Int64))]) (H' := (c0 :: bk0 o_log o_cur o_prs o_nRows o_nCols o_lights o_logLen o_status o_solSet o_solSize o_solCount po)) rfl ?_
    by_cases hc34 : (o_lights &&& r21) = (0 : Int64)
    · simp only [if_pos hc34] at h
      refine OEnds.ifT hm_10 rfl (q := 31) rfl ((teq (c_eq.mpr hc34)).1) ?_
      refine OEnds.adv hm_10 1 (pc' := 32) (L' := [.val (.ref 1), .val (.int v1), .val (.int v2)]) (S' := [.int 0]) (H' := (c0 :: bk0 o_log o_cur o_prs o_nRows o_nCols o_lights o_logLen o_status o_solSet o_solSize o_solCount po)) rfl ?_
      cases h
      exact OEnds.iret hm_10 rfl rfl
    · simp only [if_neg hc34] at h
      refine OEnds.ifF hm_10 rfl ((feq (mt c_eq.mp hc34)).1) ?_
      refine OEnds.adv hm_10 2 (pc' := 32) (L' := [.val (.ref 1), .val (.int v1), .val (.int v2)]) (S' := [.int 1]) (H' := (c0 :: bk0 o_log o_cur o_prs o_nRows o_nCols o_lights o_logLen o_status o_solSet o_solSize o_solCount po)) rfl ?_
      cases h
      exact OEnds.iret hm_10 rfl rfl
theorem ok_rowMask {o_log : List Int32} {o_cur : List Int32} {o_prs : List Int32} {o_nRows : Int32} {o_nCols : Int32} {o_lights : Int64} {o_logLen : Int32} {o_status : Int32} {o_solSet : Int64} {o_solSize : Int32} {o_solCount : Int32} {c0 : ACell} {po : List ACell} {res : Int32} (h : f_rowMask o_nCols = some res) : OEnds own_P 14 0 [.val (.ref 1)] [] (c0 :: bk0 o_log o_cur o_prs o_nRows o_nCols o_lights o_logLen o_status o_solSet o_solSize o_solCount po) (some (.int res), (c0 :: bk0 o_log o_cur o_prs o_nRows o_nCols o_lights o_logLen o_status o_solSet o_solSize o_solCount po), 0, 0) := by
  unfold f_rowMask at h
  refine OEnds.adv hm_14 6 (pc' := 8) (L' := [.val (.ref 1)]) (S' := [.int (((1 : Int32) <<< (o_nCols &&& 31)) - (1 : Int32))]) (H' := (c0 :: bk0 o_log o_cur o_prs o_nRows o_nCols o_lights o_logLen o_status o_solSet o_solSize o_solCount po)) rfl ?_
  cases h
  exact OEnds.iret hm_14 rfl rfl
theorem ok_loadRows_8 {o_log : List Int32} {o_prs : List Int32} {o_nRows : Int32} {o_nCols : Int32} {o_lights : Int64} {o_logLen : Int32} {o_status : Int32} {o_solSet : Int64} {o_solSize : Int32} {o_solCount : Int32} {c0 : ACell} {po : List ACell} : ∀ (n : Nat), ∀ {o_cur : List Int32} {v1 : Int64} {v3 : Int32} {w_o_cur : List Int32}, f_loadRows_8 o_nRows o_nCols o_lights n o_cur v1 v3 = some w_o_cur → OEnds own_P 13 8 [.val (.ref 1), .val (.long v1), .second, .val (.int v3)] [] (c0 :: bk0 o_log o_cur o_prs o_nRows o_nCols o_lights o_logLen o_status o_solSet o_solSize o_solCount po) (none, (c0 :: bk0 o_log w_o_cur o_prs o_nRows o_nCols o_lights o_logLen o_status o_solSet o_solSize o_solCount po), 0, 0) := by
  intro n
  induction n with
  | zero => intro o_cur v1 v3 w_o_cur h; cases h
  | succ n ih =>
    intro o_cur v1 v3 w_o_cur h
    unfold f_loadRows_8 at h
    refine OEnds.adv hm_13 3 (pc' := 13) (L' := [.val (.ref 1), .val (.long v1), .second, .val (.int v3)]) (S' := [.int o_nRows, .int v3]) (H' := (c0 :: bk0 o_log o_cur o_prs o_nRows o_nCols o_lights o_logLen o_status o_solSet o_solSize o_solCount po)) rfl ?_
    by_cases hc35 : v3 < o_nRows
    · simp only [if_pos hc35] at h
      refine OEnds.icmpF hm_13 rfl ((tlt hc35).2.1) ?_
      refine OEnds.adv hm_13 13 (pc' := 35) (L' := [.val (.ref 1), .val (.long v1), .second, .val (.int v3)]) (S' := [.int ((XT.ushrL o_lights (v3 * o_nCols)) &&& v1).toInt32, .int v3, .ref 3]) (H' := (c0 :: bk0 o_log o_cur o_prs o_nRows o_nCols o_lights o_logLen o_status o_solSet o_solSize o_solCount po)) rfl ?_
      obtain ⟨A23, hA23, h⟩ := bnd h
      refine OEnds.plain hm_13 rfl rfl (x_iastore rfl (Nat.le_of_ble_eq_true rfl) hA23) ?_
      refine OEnds.adv hm_13 2 (pc' := 8) (L' := [.val (.ref 1), .val (.long v1), .second, .val (.int (v3 + (1 : Int32)))]) (S' := []) (H' := (c0 :: bk0 o_log A23 o_prs o_nRows o_nCols o_lights o_logLen o_status o_solSet o_solSize o_solCount po)) rfl ?_
      exact ih h
    · simp only [if_neg hc35] at h
      refine OEnds.icmpT hm_13 rfl (q := 42) rfl ((flt hc35).2.1) ?_
      show OEnds own_P 13 42 [.val (.ref 1), .val (.long v1), .second, .val (.int v3)] [] (c0 :: bk0 o_log o_cur o_prs o_nRows o_nCols o_lights o_logLen o_status o_solSet o_solSize o_solCount po) _
      cases h
      exact OEnds.vret hm_13 rfl rfl
theorem ok_loadRows {o_log : List Int32} {o_prs : List Int32} {o_nRows : Int32} {o_nCols : Int32} {o_lights : Int64} {o_logLen : Int32} {o_status : Int32} {o_solSet : Int64} {o_solSize : Int32} {o_solCount : Int32} {c0 : ACell} {po : List ACell} {o_cur : List Int32} {w_o_cur : List Int32} (h : f_loadRows o_nRows o_nCols o_lights o_cur = some w_o_cur) : OEnds own_P 13 0 [.val (.ref 1), .unset, .unset, .unset] [] (c0 :: bk0 o_log o_cur o_prs o_nRows o_nCols o_lights o_logLen o_status o_solSet o_solSize o_solCount po) (none, (c0 :: bk0 o_log w_o_cur o_prs o_nRows o_nCols o_lights o_logLen o_status o_solSet o_solSize o_solCount po), 0, 0) := by
  unfold f_loadRows at h
  refine OEnds.adv hm_13 1 (pc' := 1) (L' := [.val (.ref 1), .unset, .unset, .unset]) (S' := [.ref 1]) (H' := (c0 :: bk0 o_log o_cur o_prs o_nRows o_nCols o_lights o_logLen o_status o_solSet o_solSize o_solCount po)) rfl ?_
  obtain ⟨r22, hq36, h⟩ := bnd h
  refine OEnds.call0 hm_13 rfl rfl (by decide) rfl (as := [.ref 1]) (rest := []) rfl rfl (ok_rowMask hq36) ?_
  refine OEnds.adv hm_13 4 (pc' := 8) (L' := [.val (.ref 1), .val (.long r22.toInt64), .second, .val (.int 0)]) (S' := []) (H' := (c0 :: bk0 o_log o_cur o_prs o_nRows o_nCols o_lights o_logLen o_status o_solSet o_solSize o_solCount po)) rfl ?_
  exact ok_loadRows_8 100000 h
theorem ok_applyRowPress_41 {o_log : List Int32} {o_prs : List Int32} {o_nRows : Int32} {o_nCols : Int32} {o_lights : Int64} {o_logLen : Int32} {o_status : Int32} {o_solSet : Int64} {o_solSize : Int32} {o_solCount : Int32} {c0 : ACell} {po : List ACell} : ∀ {o_cur : List Int32} {v1 : Int32} {v2 : Int32} {d3 : Slot} {w_o_cur : List Int32}, f_applyRowPress_41 o_nRows o_nCols o_cur v1 v2 = some w_o_cur → OEnds own_P 15 41 [.val (.ref 1), .val (.int v1), .val (.int v2), d3] [] (c0 :: bk0 o_log o_cur o_prs o_nRows o_nCols o_lights o_logLen o_status o_solSet o_solSize o_solCount po) (none, (c0 :: bk0 o_log w_o_cur o_prs o_nRows o_nCols o_lights o_logLen o_status o_solSet o_solSize o_solCount po), 0, 0) := by
  intro o_cur v1 v2 d3 w_o_cur h
  unfold f_applyRowPress_41 at h
  refine OEnds.adv hm_15 5 (pc' := 48) (L' := [.val (.ref 1), .val (.int v1), .val (.int v2), .unset]) (S' := [.int o_nRows, .int (v1 + (1 : Int32))]) (H' := (c0 :: bk0 o_log o_cur o_prs o_nRows o_nCols o_lights o_logLen o_status o_solSet o_solSize o_solCount po)) rfl ?_
  by_cases hc37 : (v1 + (1 : Int32)) < o_nRows
  · simp only [if_pos hc37] at h
    refine OEnds.icmpF hm_15 rfl ((tlt hc37).2.1) ?_
    refine OEnds.adv hm_15 6 (pc' := 59) (L' := [.val (.ref 1), .val (.int v1), .val (.int v2), .unset]) (S' := [.int (v1 + (1 : Int32)), .ref 3, .int (v1 + (1 : Int32)), .ref 3]) (H' := (c0 :: bk0 o_log o_cur o_prs o_nRows o_nCols o_lights o_logLen o_status o_solSet o_solSize o_solCount po)) rfl ?_
    obtain ⟨x29, hx29, h⟩ := bnd h
    refine OEnds.plain hm_15 rfl rfl (x_iaload rfl hx29) ?_
    refine OEnds.adv hm_15 2 (pc' := 62) (L' := [.val (.ref 1), .val (.int v1), .val (.int v2), .unset]) (S' := [.int (x29 ^^^ v2), .int (v1 + (1 : Int32)), .ref 3]) (H' := (c0 :: bk0 o_log o_cur o_prs o_nRows o_nCols o_lights o_logLen o_status o_solSet o_solSize o_solCount po)) rfl ?_
    obtain ⟨A30, hA30, h⟩ := bnd h
    refine OEnds.plain hm_15 rfl rfl (x_iastore rfl (Nat.le_of_ble_eq_true rfl) hA30) ?_
    show OEnds own_P 15 63 [.val (.ref 1), .val (.int v1), .val (.int v2), .unset] [] (c0 :: bk0 o_log A30 o_prs o_nRows o_nCols o_lights o_logLen o_status o_solSet o_solSize o_solCount po) _
    cases h
    exact OEnds.vret hm_15 rfl rfl
  · simp only [if_neg hc37] at h
    refine OEnds.icmpT hm_15 rfl (q := 63) rfl ((flt hc37).2.1) ?_
    show OEnds own_P 15 63 [.val (.ref 1), .val (.int v1), .val (.int v2), .unset] [] (c0 :: bk0 o_log o_cur o_prs o_nRows o_nCols o_lights o_logLen o_status o_solSet o_solSize o_solCount po) _
    cases h
    exact OEnds.vret hm_15 rfl rfl
theorem ok_applyRowPress {o_log : List Int32} {o_prs : List Int32} {o_nRows : Int32} {o_nCols : Int32} {o_lights : Int64} {o_logLen : Int32} {o_status : Int32} {o_solSet : Int64} {o_solSize : Int32} {o_solCount : Int32} {c0 : ACell} {po : List ACell} {o_cur : List Int32} {v1 : Int32} {v2 : Int32} {w_o_cur : List Int32} (h : f_applyRowPress o_nRows o_nCols o_cur v1 v2 = some w_o_cur) : OEnds own_P 15 0 [.val (.ref 1), .val (.int v1), .val (.int v2), .unset] [] (c0 :: bk0 o_log o_cur o_prs o_nRows o_nCols o_lights o_logLen o_status o_solSet o_solSize o_solCount po) (none, (c0 :: bk0 o_log w_o_cur o_prs o_nRows o_nCols o_lights o_logLen o_status o_solSet o_solSize o_solCount po), 0, 0) := by
  unfold f_applyRowPress at h
  refine OEnds.adv hm_15 1 (pc' := 1) (L' := [.val (.ref 1), .val (.int v1), .val (.int v2), .unset]) (S' := [.ref 1]) (H' := (c0 :: bk0 o_log o_cur o_prs o_nRows o_nCols o_lights o_logLen o_status o_solSet o_solSize o_solCount po)) rfl ?_
  obtain ⟨r24, hq38, h⟩ := bnd h
  refine OEnds.call0 hm_15 rfl rfl (by decide) rfl (as := [.ref 1]) (rest := []) rfl rfl (ok_rowMask hq38) ?_
  refine OEnds.adv hm_15 5 (pc' := 11) (L' := [.val (.ref 1), .val (.int v1), .val (.int v2), .val (.int r24)]) (S' := [.int v1, .ref 3, .int v1, .ref 3]) (H' := (c0 :: bk0 o_log o_cur o_prs o_nRows o_nCols o_lights o_logLen o_status o_solSet o_solSize o_solCount po)) rfl ?_
  obtain ⟨x25, hx25, h⟩ := bnd h
  refine OEnds.plain hm_15 rfl rfl (x_iaload rfl hx25) ?_
  refine OEnds.adv hm_15 12 (pc' := 24) (L' := [.val (.ref 1), .val (.int v1), .val (.int v2), .val (.int r24)]) (S' := [.int (x25 ^^^ (((v2 ^^^ (v2 <<< ((1 : Int32) &&& 31))) ^^^ (XT.ushr v2 (1 : Int32))) &&& r24)), .int v1, .ref 3]) (H' := (c0 :: bk0 o_log o_cur o_prs o_nRows o_nCols o_lights o_logLen o_status o_solSet o_solSize o_solCount po)) rfl ?_
  obtain ⟨A26, hA26, h⟩ := bnd h
  refine OEnds.plain hm_15 rfl rfl (x_iastore rfl (Nat.le_of_ble_eq_true rfl) hA26) ?_
  refine OEnds.adv hm_15 1 (pc' := 26) (L' := [.val (.ref 1), .val (.int v1), .val (.int v2), .val (.int r24)]) (S' := [.int v1]) (H' := (c0 :: bk0 o_log A26 o_prs o_nRows o_nCols o_lights o_logLen o_status o_solSet o_solSize o_solCount po)) rfl ?_
  by_cases hc39 : (0 : Int32) < v1
  · simp only [if_pos hc39] at h
    refine OEnds.ifF hm_15 rfl ((tlt hc39).2.2.2) ?_
    refine OEnds.adv hm_15 6 (pc' := 37) (L' := [.val (.ref 1), .val (.int v1), .val (.int v2), .val (.int r24)]) (S' := [.int (v1 - (1 : Int32)), .ref 3, .int (v1 - (1 : Int32)), .ref 3]) (H' := (c0 :: bk0 o_log A26 o_prs o_nRows o_nCols o_lights o_logLen o_status o_solSet o_solSize o_solCount po)) rfl ?_
    obtain ⟨x27, hx27, h⟩ := bnd h
    refine OEnds.plain hm_15 rfl rfl (x_iaload rfl hx27) ?_
    refine OEnds.adv hm_15 2 (pc' := 40) (L' := [.val (.ref 1), .val (.int v1), .val (.int v2), .val (.int r24)]) (S' := [.int (x27 ^^^ v2), .int (v1 - (1 : Int32)), .ref 3]) (H' := (c0 :: bk0 o_log A26 o_prs o_nRows o_nCols o_lights o_logLen o_status o_solSet o_solSize o_solCount po)) rfl ?_
    obtain ⟨A28, hA28, h⟩ := bnd h
    refine OEnds.plain hm_15 rfl rfl (x_iastore rfl (Nat.le_of_ble_eq_true rfl) hA28) ?_
    show OEnds own_P 15 41 [.val (.ref 1), .val (.int v1), .val (.int v2), .val (.int r24)] [] (c0 :: bk0 o_log A28 o_prs o_nRows o_nCols o_lights o_logLen o_status o_solSet o_solSize o_solCount po) _
    exact ok_applyRowPress_41 h
  · simp only [if_neg hc39] at h
    refine OEnds.ifT hm_15 rfl (q := 41) rfl ((flt hc39).2.2.2) ?_
    show OEnds own_P 15 41 [.val (.ref 1), .val (.int v1), .val (.int v2), .val (.int r24)] [] (c0 :: bk0 o_log A26 o_prs o_nRows o_nCols o_lights o_logLen o_status o_solSet o_solSize o_solCount po) _
    exact ok_applyRowPress_41 h
theorem ok_chase_42 {o_log : List Int32} {o_nRows : Int32} {o_nCols : Int32} {o_lights : Int64} {o_logLen : Int32} {o_status : Int32} {o_solSet : Int64} {o_solSize : Int32} {o_solCount : Int32} {c0 : ACell} {po : List ACell} : ∀ {o_cur : List Int32} {o_prs : List Int32} {d1 d2 d3 : Slot} {res : Int32} {w_o_cur : List Int32} {w_o_prs : List Int32}, f_chase_42 o_nRows o_nCols o_lights o_cur o_prs = some (res, w_o_cur, w_o_prs) → OEnds own_P 12 42 [.val (.ref 1), d1, d2, d3] [] (c0 :: bk0 o_log o_cur o_prs o_nRows o_nCols o_lights o_logLen o_status o_solSet o_solSize o_solCount po) (some (.int res), (c0 :: bk0 o_log w_o_cur w_o_prs o_nRows o_nCols o_lights o_logLen o_status o_solSet o_solSize o_solCount po), 0, 0) := by
  intro o_cur o_prs d1 d2 d3 res w_o_cur w_o_prs h
  unfold f_chase_42 at h
  refine OEnds.adv hm_12 6 (pc' := 52) (L' := [.val (.ref 1), .unset, .unset, .unset]) (S' := [.int (o_nRows - (1 : Int32)), .ref 3]) (H' := (c0 :: bk0 o_log o_cur o_prs o_nRows o_nCols o_lights o_logLen o_status o_solSet o_solSize o_solCount po)) rfl ?_
  obtain ⟨x35, hx35, h⟩ := bnd h
  refine OEnds.plain hm_12 rfl rfl (x_iaload rfl hx35) ?_
  show OEnds own_P 12 53 [.val (.ref 1), .unset, .unset, .unset] [.int x35] (c0 :: bk0 o_log o_cur o_prs o_nRows o_nCols o_lights o_logLen o_status o_solSet o_solSize o_solCount po) _
  by_cases hc40 : x35 = (0 : Int32)
  · simp only [if_pos hc40] at h
    refine OEnds.ifF hm_12 rfl ((teq hc40).2) ?_
    refine OEnds.adv hm_12 2 (pc' := 61) (L' := [.val (.ref 1), .unset, .unset, .unset]) (S' := [.int 1]) (H' := (c0 :: bk0 o_log o_cur o_prs o_nRows o_nCols o_lights o_logLen o_status o_solSet o_solSize o_solCount po)) rfl ?_
    cases h
    exact OEnds.iret hm_12 rfl rfl
  · simp only [if_neg hc40] at h
    refine OEnds.ifT hm_12 rfl (q := 60) rfl ((feq hc40).2) ?_
    refine OEnds.adv hm_12 1 (pc' := 61) (L' := [.val (.ref 1), .unset, .unset, .unset]) (S' := [.int 0]) (H' := (c0 :: bk0 o_log o_cur o_prs o_nRows o_nCols o_lights o_logLen o_status o_solSet o_solSize o_solCount po)) rfl ?_
    cases h
    exact OEnds.iret hm_12 rfl rfl
theorem ok_chase_8 {o_log : List Int32} {o_nRows : Int32} {o_nCols : Int32} {o_lights : Int64} {o_logLen : Int32} {o_status : Int32} {o_solSet : Int64} {o_solSize : Int32} {o_solCount : Int32} {c0 : ACell} {po : List ACell} {k42 : List Int32 → List Int32 → Option (Int32 × List Int32 × List Int32)} (hk42 : ∀ {o_cur : List Int32} {o_prs : List Int32} {d1 d2 d3 : Slot} {res : Int32} {w_o_cur : List Int32} {w_o_prs : List Int32}, k42 o_cur o_prs = some (res, w_o_cur, w_o_prs) → OEnds own_P 12 42 [.val (.ref 1), d1, d2, d3] [] (c0 :: bk0 o_log o_cur o_prs o_nRows o_nCols o_lights o_logLen o_status o_solSet o_solSize o_solCount po) (some (.int res), (c0 :: bk0 o_log w_o_cur w_o_prs o_nRows o_nCols o_lights o_logLen o_status o_solSet o_solSize o_solCount po), 0, 0)) : ∀ (n : Nat), ∀ {o_cur : List Int32} {o_prs : List Int32} {v2 : Int32} {v3 : Int32} {d1 : Slot} {res : Int32} {w_o_cur : List Int32} {w_o_prs : List Int32}, f_chase_8 k42 o_nRows o_nCols o_lights n o_cur o_prs v2 v3 = some (res, w_o_cur, w_o_prs) → OEnds own_P 12 8 [.val (.ref 1), d1, .val (.int v2), .val (.int v3)] [] (c0 :: bk0 o_log o_cur o_prs o_nRows o_nCols o_lights o_logLen o_status o_solSet o_solSize o_solCount po) (some (.int res), (c0 :: bk0 o_log w_o_cur w_o_prs o_nRows o_nCols o_lights o_logLen o_status o_solSet o_solSize o_solCount po), 0, 0) := by
  intro n
  induction n with
  | zero => intro o_cur o_prs v2 v3 d1 res w_o_cur w_o_prs h; cases h
  | succ n ih =>
    intro o_cur o_prs v2 v3 d1 res w_o_cur w_o_prs h
    unfold f_chase_8 at h
    refine OEnds.adv hm_12 3 (pc' := 13) (L' := [.val (.ref 1), .unset, .val (.int v2), .val (.int v3)]) (S' := [.int o_nRows, .int v3]) (H' := (c0 :: bk0 o_log o_cur o_prs o_nRows o_nCols o_lights o_logLen o_status o_solSet o_solSize o_solCount po)) rfl ?_
    by_cases hc41 : v3 < o_nRows
    · simp only [if_pos hc41] at h
      refine OEnds.icmpF hm_12 rfl ((tlt hc41).2.1) ?_
      refine OEnds.adv hm_12 4 (pc' := 22) (L' := [.val (.ref 1), .unset, .val (.int v2), .val (.int v3)]) (S' := [.int v2, .int v3, .ref 4]) (H' := (c0 :: bk0 o_log o_cur o_prs o_nRows o_nCols o_lights o_logLen o_status o_solSet o_solSize o_solCount po)) rfl ?_
      obtain ⟨A32, hA32, h⟩ := bnd h
      refine OEnds.plain hm_12 rfl rfl (x_iastore rfl (Nat.le_of_ble_eq_true rfl) hA32) ?_
      refine OEnds.adv hm_12 3 (pc' := 26) (L' := [.val (.ref 1), .unset, .val (.int v2), .val (.int v3)]) (S' := [.int v2, .int v3, .ref 1]) (H' := (c0 :: bk0 o_log o_cur A32 o_nRows o_nCols o_lights o_logLen o_status o_solSet o_solSize o_solCount po)) rfl ?_
      obtain ⟨s33, hq42, h⟩ := bnd h
      refine OEnds.call0 hm_12 rfl rfl (by decide) rfl (as := [.ref 1, .int v3, .int v2]) (rest := []) rfl rfl (ok_applyRowPress hq42) ?_
      refine OEnds.adv hm_12 3 (pc' := 34) (L' := [.val (.ref 1), .unset, .val (.int v2), .val (.int v3)]) (S' := [.int v3, .ref 3]) (H' := (c0 :: bk0 o_log s33 A32 o_nRows o_nCols o_lights o_logLen o_status o_solSet o_solSize o_solCount po)) rfl ?_
      obtain ⟨x34, hx34, h⟩ := bnd h
      refine OEnds.plain hm_12 rfl rfl (x_iaload rfl hx34) ?_
      refine OEnds.adv hm_12 3 (pc' := 8) (L' := [.val (.ref 1), .unset, .val (.int x34), .val (.int (v3 + (1 : Int32)))]) (S' := []) (H' := (c0 :: bk0 o_log s33 A32 o_nRows o_nCols o_lights o_logLen o_status o_solSet o_solSize o_solCount po)) rfl ?_
      exact ih h
    · simp only [if_neg hc41] at h
      refine OEnds.icmpT hm_12 rfl (q := 42) rfl ((flt hc41).2.1) ?_
      show OEnds own_P 12 42 [.val (.ref 1), .unset, .val (.int v2), .val (.int v3)] [] (c0 :: bk0 o_log o_cur o_prs o_nRows o_nCols o_lights o_logLen o_status o_solSet o_solSize o_solCount po) _
      exact hk42 h
theorem ok_chase {o_log : List Int32} {o_nRows : Int32} {o_nCols : Int32} {o_lights : Int64} {o_logLen : Int32} {o_status : Int32} {o_solSet : Int64} {o_solSize : Int32} {o_solCount : Int32} {c0 : ACell} {po : List ACell} {o_cur : List Int32} {o_prs : List Int32} {v1 : Int32} {res : Int32} {w_o_cur : List Int32} {w_o_prs : List Int32} (h : f_chase o_nRows o_nCols o_lights o_cur o_prs v1 = some (res, w_o_cur, w_o_prs)) : OEnds own_P 12 0 [.val (.ref 1), .val (.int v1), .unset, .unset] [] (c0 :: bk0 o_log o_cur o_prs o_nRows o_nCols o_lights o_logLen o_status o_solSet o_solSize o_solCount po) (some (.int res), (c0 :: bk0 o_log w_o_cur w_o_prs o_nRows o_nCols o_lights o_logLen o_status o_solSet o_solSize o_solCount po), 0, 0) := by
  unfold f_chase at h
  refine OEnds.adv hm_12 1 (pc' := 1) (L' := [.val (.ref 1), .val (.int v1), .unset, .unset]) (S' := [.ref 1]) (H' := (c0 :: bk0 o_log o_cur o_prs o_nRows o_nCols o_lights o_logLen o_status o_solSet o_solSize o_solCount po)) rfl ?_
  obtain ⟨s31, hq43, h⟩ := bnd h
  refine OEnds.call0 hm_12 rfl rfl (by decide) rfl (as := [.ref 1]) (rest := []) rfl rfl (ok_loadRows hq43) ?_
  refine OEnds.adv hm_12 4 (pc' := 8) (L' := [.val (.ref 1), .val (.int v1), .val (.int v1), .val (.int 0)]) (S' := []) (H' := (c0 :: bk0 o_log s31 o_prs o_nRows o_nCols o_lights o_logLen o_status o_solSet o_solSize o_solCount po)) rfl ?_
  exact ok_chase_8 (k42 := f_chase_42 o_nRows o_nCols o_lights) ok_chase_42 100000 h
theorem ok_packPresses_4 {o_log : List Int32} {o_cur : List Int32} {o_prs : List Int32} {o_nRows : Int32} {o_nCols : Int32} {o_lights : Int64} {o_logLen : Int32} {o_status : Int32} {o_solSet : Int64} {o_solSize : Int32} {o_solCount : Int32} {c0 : ACell} {po : List ACell} : ∀ (n : Nat), ∀ {v1 : Int64} {v3 : Int32} {res : Int64}, f_packPresses_4 o_prs o_nRows o_nCols n v1 v3 = some res → OEnds own_P 16 4 [.val (.ref 1), .val (.long v1), .second, .val (.int v3)] [] (c0 :: bk0 o_log o_cur o_prs o_nRows o_nCols o_lights o_logLen o_status o_solSet o_solSize o_solCount po) (some (.long res), (c0 :: bk0 o_log o_cur o_prs o_nRows o_nCols o_lights o_logLen o_status o_solSet o_solSize o_solCount po), 0, 0) := by
  intro n
  induction n with
  | zero => intro v1 v3 res h; cases h
  | succ n ih =>
    intro v1 v3 res h
    unfold f_packPresses_4 at h
    refine OEnds.adv hm_16 3 (pc' := 9) (L' := [.val (.ref 1), .val (.long v1), .second, .val (.int v3)]) (S' := [.int o_nRows, .int v3]) (H' := (c0 :: bk0 o_log o_cur o_prs o_nRows o_nCols o_lights o_logLen o_status o_solSet o_solSize o_solCount po)) rfl ?_
    by_cases hc44 : v3 < o_nRows
    · simp only [if_pos hc44] at h
      refine OEnds.icmpF hm_16 rfl ((tlt hc44).2.1) ?_
      refine OEnds.adv hm_16 4 (pc' := 18) (L' := [.val (.ref 1), .val (.long v1), .second, .val (.int v3)]) (S' := [.int v3, .ref 4, .long v1]) (H' := (c0 :: bk0 o_log o_cur o_prs o_nRows o_nCols o_lights o_logLen o_status o_solSet o_solSize o_solCount po)) rfl ?_
      obtain ⟨x36, hx36, h⟩ := bnd h
      refine OEnds.plain hm_16 rfl rfl (x_iaload rfl hx36) ?_
      refine OEnds.adv hm_16 10 (pc' := 4) (L' := [.val (.ref 1), .val (.long (v1 ||| (x36.toInt64 <<< ((v3 * o_nCols).toInt64 &&& 63)))), .second, .val (.int (v3 + (1 : Int32)))]) (S' := []) (H' := (c0 :: bk0 o_log o_cur o_prs o_nRows o_nCols o_lights o_logLen o_status o_solSet o_solSize o_solCount po)) rfl ?_
      exact ih h
    · simp only [if_neg hc44] at h
      refine OEnds.icmpT hm_16 rfl (q := 35) rfl ((flt hc44).2.1) ?_
      refine OEnds.adv hm_16 1 (pc' := 36) (L' := [.val (.ref 1), .val (.long v1), .second, .val (.int v3)]) (S' := [.long v1]) (H' := (c0 :: bk0 o_log o_cur o_prs o_nRows o_nCols o_lights o_logLen o_status o_solSet o_solSize o_solCount po)) rfl ?_
      cases h
      exact OEnds.lret hm_16 rfl rfl
theorem ok_packPresses {o_log : List Int32} {o_cur : List Int32} {o_prs : List Int32} {o_nRows : Int32} {o_nCols : Int32} {o_lights : Int64} {o_logLen : Int32} {o_status : Int32} {o_solSet : Int64} {o_solSize : Int32} {o_solCount : Int32} {c0 : ACell} {po : List ACell} {res : Int64} (h : f_packPresses o_prs o_nRows o_nCols = some res) : OEnds own_P 16 0 [.val (.ref 1), .unset, .unset, .unset] [] (c0 :: bk0 o_log o_cur o_prs o_nRows o_nCols o_lights o_logLen o_status o_solSet o_solSize o_solCount po) (some (.long res), (c0 :: bk0 o_log o_cur o_prs o_nRows o_nCols o_lights o_logLen o_status o_solSet o_solSize o_solCount po), 0, 0) := by
  unfold f_packPresses at h
  refine OEnds.adv hm_16 4 (pc' := 4) (L' := [.val (.ref 1), .val (.long 0), .second, .val (.int 0)]) (S' := []) (H' := (c0 :: bk0 o_log o_cur o_prs o_nRows o_nCols o_lights o_logLen o_status o_solSet o_solSize o_solCount po)) rfl ?_
  exact ok_packPresses_4 100000 h
theorem ok_popCount_7 {c0 : ACell} {po : List ACell} : ∀ (n : Nat), ∀ {v2 : Int32} {v3 : Int64} {v5 : Int32} {d0 d1 : Slot} {res : Int32}, f_popCount_7 n v2 v3 v5 = some res → OEnds own_P 17 7 [d0, d1, .val (.int v2), .val (.long v3), .second, .val (.int v5)] [] (c0 :: po) (some (.int res), (c0 :: po), 0, 0) := by
  intro n
  induction n with
  | zero => intro v2 v3 v5 d0 d1 res h; cases h
  | succ n ih =>
    intro v2 v3 v5 d0 d1 res h
    unfold f_popCount_7 at h
    refine OEnds.adv hm_17 2 (pc' := 11) (L' := [.unset, .unset, .val (.int v2), .val (.long v3), .second, .val (.int v5)]) (S' := [.int 64, .int v5]) (H' := (c0 :: po)) rfl ?_
    by_cases hc45 : v5 < (64 : Int32)
    · simp only [if_pos hc45] at h
      refine OEnds.icmpF hm_17 rfl ((tlt hc45).2.1) ?_
      refine OEnds.adv hm_17 3 (pc' := 17) (L' := [.unset, .unset, .val (.int v2), .val (.long v3), .second, .val (.int v5)]) (S' := [.int (XT.cmpL v3 (0 : Int64))]) (H' := (c0 :: po)) rfl ?_
      by_cases hc46 : v3 = (0 : Int64)
      · simp only [if_pos hc46] at h
        refine OEnds.ifT hm_17 rfl (q := 35) rfl ((teq (c_eq.mpr hc46)).1) ?_
        refine OEnds.adv hm_17 1 (pc' := 36) (L' := [.unset, .unset, .val (.int v2), .val (.long v3), .second, .val (.int v5)]) (S' := [.int v2]) (H' := (c0 :: po)) rfl ?_
        cases h
        exact OEnds.iret hm_17 rfl rfl
      · simp only [if_neg hc46] at h
        refine OEnds.ifF hm_17 rfl ((feq (mt c_eq.mp hc46)).1) ?_
        refine OEnds.adv hm_17 9 (pc' := 7) (L' := [.unset, .unset, .val (.int (v2 + (1 : Int32))), .val (.long (v3 &&& (v3 - (1 : Int64)))), .second, .val (.int (v5 + (1 : Int32)))]) (S' := []) (H' := (c0 :: po)) rfl ?_
        exact ih h
    · simp only [if_neg hc45] at h
      refine OEnds.icmpT hm_17 rfl (q := 35) rfl ((flt hc45).2.1) ?_
      refine OEnds.adv hm_17 1 (pc' := 36) (L' := [.unset, .unset, .val (.int v2), .val (.long v3), .second, .val (.int v5)]) (S' := [.int v2]) (H' := (c0 :: po)) rfl ?_
      cases h
      exact OEnds.iret hm_17 rfl rfl
theorem ok_popCount {c0 : ACell} {po : List ACell} {v0 : Int64} {res : Int32} (h : f_popCount v0 = some res) : OEnds own_P 17 0 [.val (.long v0), .second, .unset, .unset, .unset, .unset] [] (c0 :: po) (some (.int res), (c0 :: po), 0, 0) := by
  unfold f_popCount at h
  refine OEnds.adv hm_17 6 (pc' := 7) (L' := [.val (.long v0), .second, .val (.int 0), .val (.long v0), .second, .val (.int 0)]) (S' := []) (H' := (c0 :: po)) rfl ?_
  exact ok_popCount_7 100000 h
theorem ok_unsignedLess {c0 : ACell} {po : List ACell} {v0 : Int64} {v2 : Int64} {res : Int32} (h : f_unsignedLess v0 v2 = some res) : OEnds own_P 28 0 [.val (.long v0), .second, .val (.long v2), .second] [] (c0 :: po) (some (.int res), (c0 :: po), 0, 0) := by
  unfold f_unsignedLess at h
  refine OEnds.adv hm_28 7 (pc' := 11) (L' := [.val (.long v0), .second, .val (.long v2), .second]) (S' := [.int (XT.cmpL (v0 ^^^ (-9223372036854775808 : Int64)) (v2 ^^^ (-9223372036854775808 : Int64)))]) (H' := (c0 :: po)) rfl ?_
  by_cases hc47 : (v0 ^^^ (-9223372036854775808 : Int64)) < (v2 ^^^ (-9223372036854775808 : Int64))
  · simp only [if_pos hc47] at h
    refine OEnds.ifF hm_28 rfl ((tlt (c_lt.mpr hc47)).2.1) ?_
    refine OEnds.adv hm_28 2 (pc' := 19) (L' := [.val (.long v0), .second, .val (.long v2), .second]) (S' := [.int 1]) (H' := (c0 :: po)) rfl ?_
    cases h
    exact OEnds.iret hm_28 rfl rfl
  · simp only [if_neg hc47] at h
    refine OEnds.ifT hm_28 rfl (q := 18) rfl ((flt (mt c_lt.mp hc47)).2.1) ?_
    refine OEnds.adv hm_28 1 (pc' := 19) (L' := [.val (.long v0), .second, .val (.long v2), .second]) (S' := [.int 0]) (H' := (c0 :: po)) rfl ?_
    cases h
    exact OEnds.iret hm_28 rfl rfl
theorem ok_solve_86 {o_log : List Int32} {o_nRows : Int32} {o_nCols : Int32} {o_lights : Int64} {o_logLen : Int32} {c0 : ACell} {po : List ACell} : ∀ {o_cur : List Int32} {o_prs : List Int32} {o_status : Int32} {o_solSet : Int64} {o_solSize : Int32} {o_solCount : Int32} {v1 : Int32} {v2 : Int32} {v3 : Int64} {d5 d6 d7 d8 d9 : Slot} {res : Int32} {w_o_cur : List Int32} {w_o_prs : List Int32} {w_o_status : Int32} {w_o_solSet : Int64} {w_o_solSize : Int32} {w_o_solCount : Int32}, f_solve_86 o_nRows o_nCols o_lights o_cur o_prs o_status o_solSet o_solSize o_solCount v1 v2 v3 = some (res, w_o_cur, w_o_prs, w_o_status, w_o_solSet, w_o_solSize, w_o_solCount) → OEnds own_P 11 86 [.val (.ref 1), .val (.int v1), .val (.int v2), .val (.long v3), .second, d5, d6, d7, d8, d9] [] (c0 :: bk0 o_log o_cur o_prs o_nRows o_nCols o_lights o_logLen o_status o_solSet o_solSize o_solCount po) (some (.int res), (c0 :: bk0 o_log w_o_cur w_o_prs o_nRows o_nCols o_lights o_logLen w_o_status w_o_solSet w_o_solSize w_o_solCount po), 0, 0) := by
  intro o_cur o_prs o_status o_solSet o_solSize o_solCount v1 v2 v3 d5 d6 d7 d8 d9 res w_o_cur w_o_prs w_o_status w_o_solSet w_o_solSize w_o_solCount h
  unfold f_solve_86 at h
  refine OEnds.adv hm_11 1 (pc' := 87) (L' := [.val (.ref 1), .val (.int v1), .val (.int v2), .val (.long v3), .second, .unset, .unset, .unset, .unset, .unset]) (S' := [.int v1]) (H' := (c0 :: bk0 o_log o_cur o_prs o_nRows o_nCols o_lights o_logLen o_status o_solSet o_solSize o_solCount po)) rfl ?_
  by_cases hc48 : v1 = (0 : Int32)
  · simp only [if_pos hc48] at h
    refine OEnds.ifF hm_11 rfl ((teq hc48).2) ?_
    refine OEnds.adv hm_11 15 (pc' := 137) (L' := [.val (.ref 1), .val (.int v1), .val (.int v2), .val (.long v3), .second, .unset, .unset, .unset, .unset, .unset]) (S' := [.int 2]) (H' := (c0 :: bk0 o_log o_cur o_prs o_nRows o_nCols o_lights o_logLen 2 0 0 0 po)) rfl ?_
    cases h
    exact OEnds.iret hm_11 rfl rfl
  · simp only [if_neg hc48] at h
    refine OEnds.ifT hm_11 rfl (q := 113) rfl ((feq hc48).2) ?_
    refine OEnds.adv hm_11 14 (pc' := 137) (L' := [.val (.ref 1), .val (.int v1), .val (.int v2), .val (.long v3), .second, .unset, .unset, .unset, .unset, .unset]) (S' := [.int 1]) (H' := (c0 :: bk0 o_log o_cur o_prs o_nRows o_nCols o_lights o_logLen 1 v3 v2 v1 po)) rfl ?_
    cases h
    exact OEnds.iret hm_11 rfl rfl
theorem ok_solve_18 {o_log : List Int32} {o_nRows : Int32} {o_nCols : Int32} {o_lights : Int64} {o_logLen : Int32} {c0 : ACell} {po : List ACell} {k86 : List Int32 → List Int32 → Int32 → Int64 → Int32 → Int32 → Int32 → Int32 → Int64 → Option (Int32 × List Int32 × List Int32 × Int32 × Int64 × Int32 × Int32)} (hk86 : ∀ {o_cur : List Int32} {o_prs : List Int32} {o_status : Int32} {o_solSet : Int64} {o_solSize : Int32} {o_solCount : Int32} {v1 : Int32} {v2 : Int32} {v3 : Int64} {d5 d6 d7 d8 d9 : Slot} {res : Int32} {w_o_cur : List Int32} {w_o_prs : List Int32} {w_o_status : Int32} {w_o_solSet : Int64} {w_o_solSize : Int32} {w_o_solCount : Int32}, k86 o_cur o_prs o_status o_solSet o_solSize o_solCount v1 v2 v3 = some (res, w_o_cur, w_o_prs, w_o_status, w_o_solSet, w_o_solSize, w_o_solCount) → OEnds own_P 11 86 [.val (.ref 1), .val (.int v1), .val (.int v2), .val (.long v3), .second, d5, d6, d7, d8, d9] [] (c0 :: bk0 o_log o_cur o_prs o_nRows o_nCols o_lights o_logLen o_status o_solSet o_solSize o_solCount po) (some (.int res), (c0 :: bk0 o_log w_o_cur w_o_prs o_nRows o_nCols o_lights o_logLen w_o_status w_o_solSet w_o_solSize w_o_solCount po), 0, 0)) : ∀ (n : Nat), ∀ {o_cur : List Int32} {o_prs : List Int32} {o_status : Int32} {o_solSet : Int64} {o_solSize : Int32} {o_solCount : Int32} {v1 : Int32} {v2 : Int32} {v3 : Int64} {v5 : Int32} {v6 : Int32} {d7 d8 d9 : Slot} {res : Int32} {w_o_cur : List Int32} {w_o_prs : List Int32} {w_o_status : Int32} {w_o_solSet : Int64} {w_o_solSize : Int32} {w_o_solCount : Int32}, f_solve_18 k86 o_nRows o_nCols o_lights n o_cur o_prs o_status o_solSet o_solSize o_solCount v1 v2 v3 v5 v6 = some (res, w_o_cur, w_o_prs, w_o_status, w_o_solSet, w_o_solSize, w_o_solCount) → OEnds own_P 11 18 [.val (.ref 1), .val (.int v1), .val (.int v2), .val (.long v3), .second, .val (.int v5), .val (.int v6), d7, d8, d9] [] (c0 :: bk0 o_log o_cur o_prs o_nRows o_nCols o_lights o_logLen o_status o_solSet o_solSize o_solCount po) (some (.int res), (c0 :: bk0 o_log w_o_cur w_o_prs o_nRows o_nCols o_lights o_logLen w_o_status w_o_solSet w_o_solSize w_o_solCount po), 0, 0) := by
  intro n
  induction n with
  | zero => intro o_cur o_prs o_status o_solSet o_solSize o_solCount v1 v2 v3 v5 v6 d7 d8 d9 res w_o_cur w_o_prs w_o_status w_o_solSet w_o_solSize w_o_solCount h; cases h
  | succ n ih =>
    intro o_cur o_prs o_status o_solSet o_solSize o_solCount v1 v2 v3 v5 v6 d7 d8 d9 res w_o_cur w_o_prs w_o_status w_o_solSet w_o_solSize w_o_solCount h
    unfold f_solve_18 at h
    refine OEnds.adv hm_11 2 (pc' := 22) (L' := [.val (.ref 1), .val (.int v1), .val (.int v2), .val (.long v3), .second, .val (.int v5), .val (.int v6), .unset, .unset, .unset]) (S' := [.int v5, .int v6]) (H' := (c0 :: bk0 o_log o_cur o_prs o_nRows o_nCols o_lights o_logLen o_status o_solSet o_solSize o_solCount po)) rfl ?_
    by_cases hc49 : v6 < v5
    · simp only [if_pos hc49] at h
      refine OEnds.icmpF hm_11 rfl ((tlt hc49).2.1) ?_
      refine OEnds.adv hm_11 2 (pc' := 28) (L' := [.val (.ref 1), .val (.int v1), .val (.int v2), .val (.long v3), .second, .val (.int v5), .val (.int v6), .unset, .unset, .unset]) (S' := [.int v6, .ref 1]) (H' := (c0 :: bk0 o_log o_cur o_prs o_nRows o_nCols o_lights o_logLen o_status o_solSet o_solSize o_solCount po)) rfl ?_
      obtain ⟨⟨r37, s38, s39⟩, hq50, h⟩ := bnd h
      refine OEnds.call0 hm_11 rfl rfl (by decide) rfl (as := [.ref 1, .int v6]) (rest := []) rfl rfl (ok_chase hq50) ?_
      show OEnds own_P 11 31 [.val (.ref 1), .val (.int v1), .val (.int v2), .val (.long v3), .second, .val (.int v5), .val (.int v6), .unset, .unset, .unset] [.int r37] (c0 :: bk0 o_log s38 s39 o_nRows o_nCols o_lights o_logLen o_status o_solSet o_solSize o_solCount po) _
      by_cases hc51 : r37 = (0 : Int32)
      · simp only [if_pos hc51] at h
        refine OEnds.ifF hm_11 rfl ((teq hc51).2) ?_
        refine OEnds.adv hm_11 3 (pc' := 18) (L' := [.val (.ref 1), .val (.int v1), .val (.int v2), .val (.long v3), .second, .val (.int v5), .val (.int (v6 + (1 : Int32))), .unset, .unset, .unset]) (S' := []) (H' := (c0 :: bk0 o_log s38 s39 o_nRows o_nCols o_lights o_logLen o_status o_solSet o_solSize o_solCount po)) rfl ?_
        exact ih h
      · simp only [if_neg hc51] at h
        refine OEnds.ifT hm_11 rfl (q := 37) rfl ((feq hc51).2) ?_
        refine OEnds.adv hm_11 2 (pc' := 41) (L' := [.val (.ref 1), .val (.int (v1 + (1 : Int32))), .val (.int v2), .val (.long v3), .second, .val (.int v5), .val (.int v6), .unset, .unset, .unset]) (S' := [.ref 1]) (H' := (c0 :: bk0 o_log s38 s39 o_nRows o_nCols o_lights o_logLen o_status o_solSet o_solSize o_solCount po)) rfl ?_
        obtain ⟨r40, hq52, h⟩ := bnd h
        refine OEnds.call0 hm_11 rfl rfl (by decide) rfl (as := [.ref 1]) (rest := []) rfl rfl (ok_packPresses hq52) ?_
        refine OEnds.adv hm_11 2 (pc' := 48) (L' := [.val (.ref 1), .val (.int (v1 + (1 : Int32))), .val (.int v2), .val (.long v3), .second, .val (.int v5), .val (.int v6), .val (.long r40), .second, .unset]) (S' := [.long r40]) (H' := (c0 :: bk0 o_log s38 s39 o_nRows o_nCols o_lights o_logLen o_status o_solSet o_solSize o_solCount po)) rfl ?_
        obtain ⟨r41, hq53, h⟩ := bnd h
        refine OEnds.call0 hm_11 rfl rfl (by decide) rfl (as := [.long r40]) (rest := []) rfl rfl (ok_popCount hq53) ?_
        refine OEnds.adv hm_11 3 (pc' := 56) (L' := [.val (.ref 1), .val (.int (v1 + (1 : Int32))), .val (.int v2), .val (.long v3), .second, .val (.int v5), .val (.int v6), .val (.long r40), .second, .val (.int r41)]) (S' := [.int v2, .int r41]) (H' := (c0 :: bk0 o_log s38 s39 o_nRows o_nCols o_lights o_logLen o_status o_solSet o_solSize o_solCount po)) rfl ?_
        by_cases hc54 : r41 < v2
        · simp only [if_pos hc54] at h
          refine OEnds.icmpT hm_11 rfl (q := 74) rfl ((tlt hc54).1) ?_
          refine OEnds.adv hm_11 6 (pc' := 18) (L' := [.val (.ref 1), .val (.int (v1 + (1 : Int32))), .val (.int r41), .val (.long r40), .second, .val (.int v5), .val (.int (v6 + (1 : Int32))), .val (.long r40), .second, .val (.int r41)]) (S' := []) (H' := (c0 :: bk0 o_log s38 s39 o_nRows o_nCols o_lights o_logLen o_status o_solSet o_solSize o_solCount po)) rfl ?_
          exact ih h
        · simp only [if_neg hc54] at h
          refine OEnds.icmpF hm_11 rfl ((flt hc54).1) ?_
          refine OEnds.adv hm_11 2 (pc' := 62) (L' := [.val (.ref 1), .val (.int (v1 + (1 : Int32))), .val (.int v2), .val (.long v3), .second, .val (.int v5), .val (.int v6), .val (.long r40), .second, .val (.int r41)]) (S' := [.int v2, .int r41]) (H' := (c0 :: bk0 o_log s38 s39 o_nRows o_nCols o_lights o_logLen o_status o_solSet o_solSize o_solCount po)) rfl ?_
          by_cases hc55 : r41 = v2
          · simp only [if_pos hc55] at h
            refine OEnds.icmpF hm_11 rfl ((teq hc55).2) ?_
            refine OEnds.adv hm_11 2 (pc' := 68) (L' := [.val (.ref 1), .val (.int (v1 + (1 : Int32))), .val (.int v2), .val (.long v3), .second, .val (.int v5), .val (.int v6), .val (.long r40), .second, .val (.int r41)]) (S' := [.long v3, .long r40]) (H' := (c0 :: bk0 o_log s38 s39 o_nRows o_nCols o_lights o_logLen o_status o_solSet o_solSize o_solCount po)) rfl ?_
            obtain ⟨r42, hq56, h⟩ := bnd h
            refine OEnds.call0 hm_11 rfl rfl (by decide) rfl (as := [.long r40, .long v3]) (rest := []) rfl rfl (ok_unsignedLess hq56) ?_
            show OEnds own_P 11 71 [.val (.ref 1), .val (.int (v1 + (1 : Int32))), .val (.int v2), .val (.long v3), .second, .val (.int v5), .val (.int v6), .val (.long r40), .second, .val (.int r41)] [.int r42] (c0 :: bk0 o_log s38 s39 o_nRows o_nCols o_lights o_logLen o_status o_solSet o_solSize o_solCount po) _
            by_cases hc57 : r42 = (0 : Int32)
            · simp only [if_pos hc57] at h
              refine OEnds.ifT hm_11 rfl (q := 80) rfl ((teq hc57).1) ?_
              refine OEnds.adv hm_11 2 (pc' := 18) (L' := [.val (.ref 1), .val (.int (v1 + (1 : Int32))), .val (.int v2), .val (.long v3), .second, .val (.int v5), .val (.int (v6 + (1 : Int32))), .val (.long r40), .second, .val (.int r41)]) (S' := []) (H' := (c0 :: bk0 o_log s38 s39 o_nRows o_nCols o_lights o_logLen o_status o_solSet o_solSize o_solCount po)) rfl ?_
              exact ih h
            · simp only [if_neg hc57] at h
              refine OEnds.ifF hm_11 rfl ((feq hc57).1) ?_
              refine OEnds.adv hm_11 6 (pc' := 18) (L' := [.val (.ref 1), .val (.int (v1 + (1 : Int32))), .val (.int r41), .val (.long r40), .second, .val (.int v5), .val (.int (v6 + (1 : Int32))), .val (.long r40), .second, .val (.int r41)]) (S' := []) (H' := (c0 :: bk0 o_log s38 s39 o_nRows o_nCols o_lights o_logLen o_status o_solSet o_solSize o_solCount po)) rfl ?_
              exact ih h
          · simp only [if_neg hc55] at h
            refine OEnds.icmpT hm_11 rfl (q := 80) rfl ((feq hc55).2) ?_
            refine OEnds.adv hm_11 2 (pc' := 18) (L' := [.val (.ref 1), .val (.int (v1 + (1 : Int32))), .val (.int v2), .val (.long v3), .second, .val (.int v5), .val (.int (v6 + (1 : Int32))), .val (.long r40), .second, .val (.int r41)]) (S' := []) (H' := (c0 :: bk0 o_log s38 s39 o_nRows o_nCols o_lights o_logLen o_status o_solSet o_solSize o_solCount po)) rfl ?_
            exact ih h
    · simp only [if_neg hc49] at h
      refine OEnds.icmpT hm_11 rfl (q := 86) rfl ((flt hc49).2.1) ?_
      show OEnds own_P 11 86 [.val (.ref 1), .val (.int v1), .val (.int v2), .val (.long v3), .second, .val (.int v5), .val (.int v6), .unset, .unset, .unset] [] (c0 :: bk0 o_log o_cur o_prs o_nRows o_nCols o_lights o_logLen o_status o_solSet o_solSize o_solCount po) _
      exact hk86 h
theorem ok_solve {o_log : List Int32} {o_nRows : Int32} {o_nCols : Int32} {o_lights : Int64} {o_logLen : Int32} {c0 : ACell} {po : List ACell} {o_cur : List Int32} {o_prs : List Int32} {o_status : Int32} {o_solSet : Int64} {o_solSize : Int32} {o_solCount : Int32} {res : Int32} {w_o_cur : List Int32} {w_o_prs : List Int32} {w_o_status : Int32} {w_o_solSet : Int64} {w_o_solSize : Int32} {w_o_solCount : Int32} (h : f_solve o_nRows o_nCols o_lights o_cur o_prs o_status o_solSet o_solSize o_solCount = some (res, w_o_cur, w_o_prs, w_o_status, w_o_solSet, w_o_solSize, w_o_solCount)) : OEnds own_P 11 0 [.val (.ref 1), .unset, .unset, .unset, .unset, .unset, .unset, .unset, .unset, .unset] [] (c0 :: bk0 o_log o_cur o_prs o_nRows o_nCols o_lights o_logLen o_status o_solSet o_solSize o_solCount po) (some (.int res), (c0 :: bk0 o_log w_o_cur w_o_prs o_nRows o_nCols o_lights o_logLen w_o_status w_o_solSet w_o_solSize w_o_solCount po), 0, 0) := by
  unfold f_solve at h
  refine OEnds.adv hm_11 13 (pc' := 18) (L' := [.val (.ref 1), .val (.int 0), .val (.int 65), .val (.long 0), .second, .val (.int ((1 : Int32) <<< (o_nCols &&& 31))), .val (.int 0), .unset, .unset, .unset]) (S' := []) (H' := (c0 :: bk0 o_log o_cur o_prs o_nRows o_nCols o_lights o_logLen o_status o_solSet o_solSize o_solCount po)) rfl ?_
  exact ok_solve_18 (k86 := f_solve_86 o_nRows o_nCols o_lights) ok_solve_86 100000 h
theorem ok_L_tz_2 {c0 : ACell} {po : List ACell} : ∀ (n : Nat), ∀ {v0 : Int32} {v1 : Int32} {res : Int32}, f_L_tz_2 n v0 v1 = some res → OEnds own_P 18 2 [.val (.int v0), .val (.int v1)] [] (c0 :: po) (some (.int res), (c0 :: po), 0, 0) := by
  intro n
  induction n with
  | zero => intro v0 v1 res h; cases h
  | succ n ih =>
    intro v0 v1 res h
    unfold f_L_tz_2 at h
    refine OEnds.adv hm_18 3 (pc' := 5) (L' := [.val (.int v0), .val (.int v1)]) (S' := [.int (v0 &&& (1 : Int32))]) (H' := (c0 :: po)) rfl ?_
    by_cases hc58 : (v0 &&& (1 : Int32)) = (0 : Int32)
    · simp only [if_pos hc58] at h
      refine OEnds.ifF hm_18 rfl ((teq hc58).2) ?_
      refine OEnds.adv hm_18 2 (pc' := 11) (L' := [.val (.int v0), .val (.int v1)]) (S' := [.int 32, .int v1]) (H' := (c0 :: po)) rfl ?_
      by_cases hc59 : v1 < (32 : Int32)
      · simp only [if_pos hc59] at h
        refine OEnds.icmpF hm_18 rfl ((tlt hc59).2.1) ?_
        refine OEnds.adv hm_18 6 (pc' := 2) (L' := [.val (.int (XT.ushr v0 (1 : Int32))), .val (.int (v1 + (1 : Int32)))]) (S' := []) (H' := (c0 :: po)) rfl ?_
        exact ih h
      · simp only [if_neg hc59] at h
        refine OEnds.icmpT hm_18 rfl (q := 24) rfl ((flt hc59).2.1) ?_
        refine OEnds.adv hm_18 1 (pc' := 25) (L' := [.val (.int v0), .val (.int v1)]) (S' := [.int v1]) (H' := (c0 :: po)) rfl ?_
        cases h
        exact OEnds.iret hm_18 rfl rfl
    · simp only [if_neg hc58] at h
      refine OEnds.ifT hm_18 rfl (q := 24) rfl ((feq hc58).2) ?_
      refine OEnds.adv hm_18 1 (pc' := 25) (L' := [.val (.int v0), .val (.int v1)]) (S' := [.int v1]) (H' := (c0 :: po)) rfl ?_
      cases h
      exact OEnds.iret hm_18 rfl rfl
theorem ok_L_tz {c0 : ACell} {po : List ACell} {v0 : Int32} {res : Int32} (h : f_L_tz v0 = some res) : OEnds own_P 18 0 [.val (.int v0), .unset] [] (c0 :: po) (some (.int res), (c0 :: po), 0, 0) := by
  unfold f_L_tz at h
  refine OEnds.adv hm_18 2 (pc' := 2) (L' := [.val (.int v0), .val (.int 0)]) (S' := []) (H' := (c0 :: po)) rfl ?_
  exact ok_L_tz_2 100000 h
theorem ok_L_pressMask_60 {c0 : ACell} {po : List ACell} : ∀ {v0 : Int32} {v2 : Int32} {v4 : Int32} {v5 : Int64} {d1 d3 : Slot} {res : Int64}, f_L_pressMask_60 v0 v2 v4 v5 = some res → OEnds own_P 19 60 [.val (.int v0), d1, .val (.int v2), d3, .val (.int v4), .val (.long v5), .second] [] (c0 :: po) (some (.long res), (c0 :: po), 0, 0) := by
  intro v0 v2 v4 v5 d1 d3 res h
  unfold f_L_pressMask_60 at h
  refine OEnds.adv hm_19 4 (pc' := 65) (L' := [.val (.int v0), .unset, .val (.int v2), .unset, .val (.int v4), .val (.long v5), .second]) (S' := [.int (v2 - (1 : Int32)), .int v4]) (H' := (c0 :: po)) rfl ?_
  by_cases hc60 : v4 < (v2 - (1 : Int32))
  · simp only [if_pos hc60] at h
    refine OEnds.icmpF hm_19 rfl ((tlt hc60).2.1) ?_
    refine OEnds.adv hm_19 9 (pc' := 80) (L' := [.val (.int v0), .unset, .val (.int v2), .unset, .val (.int v4), .val (.long (v5 ||| ((1 : Int64) <<< ((v0 + (1 : Int32)).toInt64 &&& 63)))), .second]) (S' := [.long (v5 ||| ((1 : Int64) <<< ((v0 + (1 : Int32)).toInt64 &&& 63)))]) (H' := (c0 :: po)) rfl ?_
    cases h
    exact OEnds.lret hm_19 rfl rfl
  · simp only [if_neg hc60] at h
    refine OEnds.icmpT hm_19 rfl (q := 78) rfl ((flt hc60).2.1) ?_
    refine OEnds.adv hm_19 1 (pc' := 80) (L' := [.val (.int v0), .unset, .val (.int v2), .unset, .val (.int v4), .val (.long v5), .second]) (S' := [.long v5]) (H' := (c0 :: po)) rfl ?_
    cases h
    exact OEnds.lret hm_19 rfl rfl
theorem ok_L_pressMask_45 {c0 : ACell} {po : List ACell} : ∀ {v0 : Int32} {v2 : Int32} {v4 : Int32} {v5 : Int64} {d1 d3 : Slot} {res : Int64}, f_L_pressMask_45 v0 v2 v4 v5 = some res → OEnds own_P 19 45 [.val (.int v0), d1, .val (.int v2), d3, .val (.int v4), .val (.long v5), .second] [] (c0 :: po) (some (.long res), (c0 :: po), 0, 0) := by
  intro v0 v2 v4 v5 d1 d3 res h
  unfold f_L_pressMask_45 at h
  refine OEnds.adv hm_19 1 (pc' := 47) (L' := [.val (.int v0), .unset, .val (.int v2), .unset, .val (.int v4), .val (.long v5), .second]) (S' := [.int v4]) (H' := (c0 :: po)) rfl ?_
  by_cases hc61 : (0 : Int32) < v4
  · simp only [if_pos hc61] at h
    refine OEnds.ifF hm_19 rfl ((tlt hc61).2.2.2) ?_
    refine OEnds.adv hm_19 8 (pc' := 60) (L' := [.val (.int v0), .unset, .val (.int v2), .unset, .val (.int v4), .val (.long (v5 ||| ((1 : Int64) <<< ((v0 - (1 : Int32)).toInt64 &&& 63)))), .second]) (S' := []) (H' := (c0 :: po)) rfl ?_
    exact ok_L_pressMask_60 h
  · simp only [if_neg hc61] at h
    refine OEnds.ifT hm_19 rfl (q := 60) rfl ((flt hc61).2.2.2) ?_
    show OEnds own_P 19 60 [.val (.int v0), .unset, .val (.int v2), .unset, .val (.int v4), .val (.long v5), .second] [] (c0 :: po) _
    exact ok_L_pressMask_60 h
theorem ok_L_pressMask_28 {c0 : ACell} {po : List ACell} : ∀ {v0 : Int32} {v1 : Int32} {v2 : Int32} {v3 : Int32} {v4 : Int32} {v5 : Int64} {res : Int64}, f_L_pressMask_28 v0 v1 v2 v3 v4 v5 = some res → OEnds own_P 19 28 [.val (.int v0), .val (.int v1), .val (.int v2), .val (.int v3), .val (.int v4), .val (.long v5), .second] [] (c0 :: po) (some (.long res), (c0 :: po), 0, 0) := by
  intro v0 v1 v2 v3 v4 v5 res h
  unfold f_L_pressMask_28 at h
  refine OEnds.adv hm_19 4 (pc' := 32) (L' := [.val (.int v0), .val (.int v1), .val (.int v2), .val (.int v3), .val (.int v4), .val (.long v5), .second]) (S' := [.int (v1 - (1 : Int32)), .int v3]) (H' := (c0 :: po)) rfl ?_
  by_cases hc62 : v3 < (v1 - (1 : Int32))
  · simp only [if_pos hc62] at h
    refine OEnds.icmpF hm_19 rfl ((tlt hc62).2.1) ?_
    refine OEnds.adv hm_19 8 (pc' := 45) (L' := [.val (.int v0), .val (.int v1), .val (.int v2), .val (.int v3), .val (.int v4), .val (.long (v5 ||| ((1 : Int64) <<< ((v0 + v2).toInt64 &&& 63)))), .second]) (S' := []) (H' := (c0 :: po)) rfl ?_
    exact ok_L_pressMask_45 h
  · simp only [if_neg hc62] at h
    refine OEnds.icmpT hm_19 rfl (q := 45) rfl ((flt hc62).2.1) ?_
    show OEnds own_P 19 45 [.val (.int v0), .val (.int v1), .val (.int v2), .val (.int v3), .val (.int v4), .val (.long v5), .second] [] (c0 :: po) _
    exact ok_L_pressMask_45 h
theorem ok_L_pressMask {c0 : ACell} {po : List ACell} {v0 : Int32} {v1 : Int32} {v2 : Int32} {res : Int64} (h : f_L_pressMask v0 v1 v2 = some res) : OEnds own_P 19 0 [.val (.int v0), .val (.int v1), .val (.int v2), .unset, .unset, .unset, .unset] [] (c0 :: po) (some (.long res), (c0 :: po), 0, 0) := by
  unfold f_L_pressMask at h
  refine OEnds.adv hm_19 2 (pc' := 2) (L' := [.val (.int v0), .val (.int v1), .val (.int v2), .unset, .unset, .unset, .unset]) (S' := [.int v2, .int v0]) (H' := (c0 :: po)) rfl ?_
  by_cases hz63 : v2 = 0
  · simp only [if_pos hz63] at h
    cases h
  simp only [if_neg hz63] at h
  refine OEnds.plain hm_19 rfl rfl (x_idiv hz63) ?_
  refine OEnds.adv hm_19 3 (pc' := 6) (L' := [.val (.int v0), .val (.int v1), .val (.int v2), .val (.int (v0 / v2)), .unset, .unset, .unset]) (S' := [.int v2, .int v0]) (H' := (c0 :: po)) rfl ?_
  refine OEnds.plain hm_19 rfl rfl (x_irem hz63) ?_
  refine OEnds.adv hm_19 6 (pc' := 15) (L' := [.val (.int v0), .val (.int v1), .val (.int v2), .val (.int (v0 / v2)), .val (.int (v0 % v2)), .val (.long ((1 : Int64) <<< (v0.toInt64 &&& 63))), .second]) (S' := [.int (v0 / v2)]) (H' := (c0 :: po)) rfl ?_
  by_cases hc64 : (0 : Int32) < (v0 / v2)
  · simp only [if_pos hc64] at h
    refine OEnds.ifF hm_19 rfl ((tlt hc64).2.2.2) ?_
    refine OEnds.adv hm_19 8 (pc' := 28) (L' := [.val (.int v0), .val (.int v1), .val (.int v2), .val (.int (v0 / v2)), .val (.int (v0 % v2)), .val (.long (((1 : Int64) <<< (v0.toInt64 &&& 63)) ||| ((1 : Int64) <<< ((v0 - v2).toInt64 &&& 63)))), .second]) (S' := []) (H' := (c0 :: po)) rfl ?_
    exact ok_L_pressMask_28 h
  · simp only [if_neg hc64] at h
    refine OEnds.ifT hm_19 rfl (q := 28) rfl ((flt hc64).2.2.2) ?_
    show OEnds own_P 19 28 [.val (.int v0), .val (.int v1), .val (.int v2), .val (.int (v0 / v2)), .val (.int (v0 % v2)), .val (.long ((1 : Int64) <<< (v0.toInt64 &&& 63))), .second] [] (c0 :: po) _
    exact ok_L_pressMask_28 h
theorem ok_solutionSize {o_log : List Int32} {o_cur : List Int32} {o_prs : List Int32} {o_nRows : Int32} {o_nCols : Int32} {o_lights : Int64} {o_logLen : Int32} {o_status : Int32} {o_solSet : Int64} {o_solSize : Int32} {o_solCount : Int32} {c0 : ACell} {po : List ACell} {res : Int32} (h : f_solutionSize o_status o_solSize = some res) : OEnds own_P 21 0 [.val (.ref 1)] [] (c0 :: bk0 o_log o_cur o_prs o_nRows o_nCols o_lights o_logLen o_status o_solSet o_solSize o_solCount po) (some (.int res), (c0 :: bk0 o_log o_cur o_prs o_nRows o_nCols o_lights o_logLen o_status o_solSet o_solSize o_solCount po), 0, 0) := by
  unfold f_solutionSize at h
  refine OEnds.adv hm_21 3 (pc' := 5) (L' := [.val (.ref 1)]) (S' := [.int 1, .int o_status]) (H' := (c0 :: bk0 o_log o_cur o_prs o_nRows o_nCols o_lights o_logLen o_status o_solSet o_solSize o_solCount po)) rfl ?_
  by_cases hc65 : o_status = (1 : Int32)
  · simp only [if_pos hc65] at h
    refine OEnds.icmpT hm_21 rfl (q := 10) rfl ((teq hc65).1) ?_
    refine OEnds.adv hm_21 2 (pc' := 14) (L' := [.val (.ref 1)]) (S' := [.int o_solSize]) (H' := (c0 :: bk0 o_log o_cur o_prs o_nRows o_nCols o_lights o_logLen o_status o_solSet o_solSize o_solCount po)) rfl ?_
    cases h
    exact OEnds.iret hm_21 rfl rfl
  · simp only [if_neg hc65] at h
    refine OEnds.icmpF hm_21 rfl ((feq hc65).1) ?_
    refine OEnds.adv hm_21 1 (pc' := 9) (L' := [.val (.ref 1)]) (S' := [.int (-1)]) (H' := (c0 :: bk0 o_log o_cur o_prs o_nRows o_nCols o_lights o_logLen o_status o_solSet o_solSize o_solCount po)) rfl ?_
    cases h
    exact OEnds.iret hm_21 rfl rfl
theorem ok_solutionCount {o_log : List Int32} {o_cur : List Int32} {o_prs : List Int32} {o_nRows : Int32} {o_nCols : Int32} {o_lights : Int64} {o_logLen : Int32} {o_status : Int32} {o_solSet : Int64} {o_solSize : Int32} {o_solCount : Int32} {c0 : ACell} {po : List ACell} {res : Int32} (h : f_solutionCount o_status o_solCount = some res) : OEnds own_P 22 0 [.val (.ref 1)] [] (c0 :: bk0 o_log o_cur o_prs o_nRows o_nCols o_lights o_logLen o_status o_solSet o_solSize o_solCount po) (some (.int res), (c0 :: bk0 o_log o_cur o_prs o_nRows o_nCols o_lights o_logLen o_status o_solSet o_solSize o_solCount po), 0, 0) := by
  unfold f_solutionCount at h
  refine OEnds.adv hm_22 3 (pc' := 5) (L' := [.val (.ref 1)]) (S' := [.int 1, .int o_status]) (H' := (c0 :: bk0 o_log o_cur o_prs o_nRows o_nCols o_lights o_logLen o_status o_solSet o_solSize o_solCount po)) rfl ?_
  by_cases hc66 : o_status = (1 : Int32)
  · simp only [if_pos hc66] at h
    refine OEnds.icmpT hm_22 rfl (q := 10) rfl ((teq hc66).1) ?_
    refine OEnds.adv hm_22 2 (pc' := 14) (L' := [.val (.ref 1)]) (S' := [.int o_solCount]) (H' := (c0 :: bk0 o_log o_cur o_prs o_nRows o_nCols o_lights o_logLen o_status o_solSet o_solSize o_solCount po)) rfl ?_
    cases h
    exact OEnds.iret hm_22 rfl rfl
  · simp only [if_neg hc66] at h
    refine OEnds.icmpF hm_22 rfl ((feq hc66).1) ?_
    refine OEnds.adv hm_22 1 (pc' := 9) (L' := [.val (.ref 1)]) (S' := [.int 0]) (H' := (c0 :: bk0 o_log o_cur o_prs o_nRows o_nCols o_lights o_logLen o_status o_solSet o_solSize o_solCount po)) rfl ?_
    cases h
    exact OEnds.iret hm_22 rfl rfl
theorem ok_inSolution {o_log : List Int32} {o_cur : List Int32} {o_prs : List Int32} {o_nRows : Int32} {o_nCols : Int32} {o_lights : Int64} {o_logLen : Int32} {o_status : Int32} {o_solSet : Int64} {o_solSize : Int32} {o_solCount : Int32} {c0 : ACell} {po : List ACell} {v1 : Int32} {v2 : Int32} {res : Int32} (h : f_inSolution o_nRows o_nCols o_status o_solSet v1 v2 = some res) : OEnds own_P 20 0 [.val (.ref 1), .val (.int v1), .val (.int v2)] [] (c0 :: bk0 o_log o_cur o_prs o_nRows o_nCols o_lights o_logLen o_status o_solSet o_solSize o_solCount po) (some (.int res), (c0 :: bk0 o_log o_cur o_prs o_nRows o_nCols o_lights o_logLen o_status o_solSet o_solSize o_solCount po), 0, 0) := by
  unfold f_inSolution at h
  refine OEnds.adv hm_20 3 (pc' := 5) (L' := [.val (.ref 1), .val (.int v1), .val (.int v2)]) (S' := [.int 1, .int o_status]) (H' := (c0 :: bk0 o_log o_cur o_prs o_nRows o_nCols o_lights o_logLen o_status o_solSet o_solSize o_solCount po)) rfl ?_
  by_cases hc67 : o_status = (1 : Int32)
  · simp only [if_pos hc67] at h
    refine OEnds.icmpF hm_20 rfl ((teq hc67).2) ?_
    refine OEnds.adv hm_20 3 (pc' := 11) (L' := [.val (.ref 1), .val (.int v1), .val (.int v2)]) (S' := [.int v2, .int v1, .ref 1]) (H' := (c0 :: bk0 o_log o_cur o_prs o_nRows o_nCols o_lights o_logLen o_status o_solSet o_solSize o_solCount po)) rfl ?_
    obtain ⟨r43, hq68, h⟩ := bnd h
    refine OEnds.call0 hm_20 rfl rfl (by decide) rfl (as := [.ref 1, .int v1, .int v2]) (rest := []) rfl rfl (ok_onBoard hq68) ?_
    show OEnds own_P 20 14 [.val (.ref 1), .val (.int v1), .val (.int v2)] [.int r43] (c0 :: bk0 o_log o_cur o_prs o_nRows o_nCols o_lights o_logLen o_status o_solSet o_solSize o_solCount po) _
    by_cases hc69 : r43 = (0 : Int32)
    · simp only [if_pos hc69] at h
      refine OEnds.ifF hm_20 rfl ((teq hc69).2) ?_
      refine OEnds.adv hm_20 1 (pc' := 18) (L' := [.val (.ref 1), .val (.int v1), .val (.int v2)]) (S' := [.int 0]) (H' := (c0 :: bk0 o_log o_cur o_prs o_nRows o_nCols o_lights o_logLen o_status o_solSet o_solSize o_solCount po)) rfl ?_
      cases h
      exact OEnds.iret hm_20 rfl rfl
    · simp only [if_neg hc69] at h
      refine OEnds.ifT hm_20 rfl (q := 19) rfl ((feq hc69).2) ?_
      refine OEnds.adv hm_20 5 (pc' := 26) (L' := [.val (.ref 1), .val (.int v1), .val (.int v2)]) (S' := [.int v2, .int v1, .ref 1, .long o_solSet]) (H' := (c0 :: bk0 o_log o_cur o_prs o_nRows o_nCols o_lights o_logLen o_status o_solSet o_solSize o_solCount po)) rfl ?_
      obtain ⟨r44, hq70, h⟩ := bnd h
      refine OEnds.call0 hm_20 rfl rfl (by decide) rfl (as := [.ref 1, .int v1, .int v2]) (rest := [.long o_solSet]) rfl rfl (ok_bit hq70) ?_
      refine OEnds.adv hm_20 3 (pc' := 32) (L' := [.val (.ref 1), .val (.int v1), .val (.int v2)]) (S' := [.int (XT.cmpL (o_solSet &&& r44) (0 : Int64))]) (H' := (c0 :: bk0 o_log o_cur o_prs o_nRows o_nCols o_lights o_logLen o_status o_solSet o_solSize o_solCount po)) rfl ?_
      by_cases hc71 : (o_solSet &&& r44) = (0 : Int64)
      · simp only [if_pos hc71] at h
        refine OEnds.ifT hm_20 rfl (q := 39) rfl ((teq (c_eq.mpr hc71)).1) ?_
        refine OEnds.adv hm_20 1 (pc' := 40) (L' := [.val (.ref 1), .val (.int v1), .val (.int v2)]) (S' := [.int 0]) (H' := (c0 :: bk0 o_log o_cur o_prs o_nRows o_nCols o_lights o_logLen o_status o_solSet o_solSize o_solCount po)) rfl ?_
        cases h
        exact OEnds.iret hm_20 rfl rfl
      · simp only [if_neg hc71] at h
        refine OEnds.ifF hm_20 rfl ((feq (mt c_eq.mp hc71)).1) ?_
        refine OEnds.adv hm_20 2 (pc' := 40) (L' := [.val (.ref 1), .val (.int v1), .val (.int v2)]) (S' := [.int 1]) (H' := (c0 :: bk0 o_log o_cur o_prs o_nRows o_nCols o_lights o_logLen o_status o_solSet o_solSize o_solCount po)) rfl ?_
        cases h
        exact OEnds.iret hm_20 rfl rfl
  · simp only [if_neg hc67] at h
    refine OEnds.icmpT hm_20 rfl (q := 17) rfl ((feq hc67).2) ?_
    refine OEnds.adv hm_20 1 (pc' := 18) (L' := [.val (.ref 1), .val (.int v1), .val (.int v2)]) (S' := [.int 0]) (H' := (c0 :: bk0 o_log o_cur o_prs o_nRows o_nCols o_lights o_logLen o_status o_solSet o_solSize o_solCount po)) rfl ?_
    cases h
    exact OEnds.iret hm_20 rfl rfl
theorem ok_L_check_275 {p0_log : List Int32} {p0_nRows : Int32} {p0_nCols : Int32} {p0_lights : Int64} {p0_logLen : Int32} {c0 : ACell} {po : List ACell} : ∀ {p0_cur : List Int32} {p0_prs : List Int32} {p0_status : Int32} {p0_solSet : Int64} {p0_solSize : Int32} {p0_solCount : Int32} {v4 : Int64} {v6 : Int32} {v12 : Int32} {v13 : Int32} {v15 : Int64} {v17 : Int32} {d1 d2 d3 d7 d8 d9 d10 d11 d14 d18 : Slot} {res : Int32} {w_p0_cur : List Int32} {w_p0_prs : List Int32} {w_p0_status : Int32} {w_p0_solSet : Int64} {w_p0_solSize : Int32} {w_p0_solCount : Int32}, f_L_check_275 p0_nRows p0_nCols p0_lights p0_cur p0_prs p0_status p0_solSet p0_solSize p0_solCount v4 v6 v12 v13 v15 v17 = some (res, w_p0_cur, w_p0_prs, w_p0_status, w_p0_solSet, w_p0_solSize, w_p0_solCount) → OEnds own_P 9 275 [.val (.ref 1), d1, d2, d3, .val (.long v4), .second, .val (.int v6), d7, d8, d9, d10, d11, .val (.int v12), .val (.int v13), d14, .val (.long v15), .second, .val (.int v17), d18] [] (c0 :: bk0 p0_log p0_cur p0_prs p0_nRows p0_nCols p0_lights p0_logLen p0_status p0_solSet p0_solSize p0_solCount po) (some (.int res), (c0 :: bk0 p0_log w_p0_cur w_p0_prs p0_nRows p0_nCols p0_lights p0_logLen w_p0_status w_p0_solSet w_p0_solSize w_p0_solCount po), 0, 0) := by
  intro p0_cur p0_prs p0_status p0_solSet p0_solSize p0_solCount v4 v6 v12 v13 v15 v17 d1 d2 d3 d7 d8 d9 d10 d11 d14 d18 res w_p0_cur w_p0_prs w_p0_status w_p0_solSet w_p0_solSize w_p0_solCount h
  unfold f_L_check_275 at h
  refine OEnds.adv hm_9 3 (pc' := 280) (L' := [.val (.ref 1), .unset, .unset, .unset, .val (.long v4), .second, .val (.int v6), .unset, .unset, .unset, .unset, .unset, .val (.int v12), .val (.int v13), .unset, .val (.long v15), .second, .val (.int v17), .unset]) (S' := [.int (XT.cmpL v15 v4)]) (H' := (c0 :: bk0 p0_log p0_cur p0_prs p0_nRows p0_nCols p0_lights p0_logLen p0_status p0_solSet p0_solSize p0_solCount po)) rfl ?_
  by_cases hc72 : v15 = v4
  · simp only [if_pos hc72] at h
    refine OEnds.ifT hm_9 rfl (q := 285) rfl ((teq (c_eq.mpr hc72)).1) ?_
    refine OEnds.adv hm_9 2 (pc' := 288) (L' := [.val (.ref 1), .unset, .unset, .unset, .val (.long v4), .second, .val (.int v6), .unset, .unset, .unset, .unset, .unset, .val (.int v12), .val (.int v13), .unset, .val (.long v15), .second, .val (.int v17), .unset]) (S' := [.ref 1, .int v17]) (H' := (c0 :: bk0 p0_log p0_cur p0_prs p0_nRows p0_nCols p0_lights p0_logLen p0_status p0_solSet p0_solSize p0_solCount po)) rfl ?_
    obtain ⟨r59, hq73, h⟩ := bnd h
    refine OEnds.call0 hm_9 rfl rfl (by decide) rfl (as := [.ref 1]) (rest := [.int v17]) rfl rfl (ok_solutionSize hq73) ?_
    show OEnds own_P 9 291 [.val (.ref 1), .unset, .unset, .unset, .val (.long v4), .second, .val (.int v6), .unset, .unset, .unset, .unset, .unset, .val (.int v12), .val (.int v13), .unset, .val (.long v15), .second, .val (.int v17), .unset] [.int r59, .int v17] (c0 :: bk0 p0_log p0_cur p0_prs p0_nRows p0_nCols p0_lights p0_logLen p0_status p0_solSet p0_solSize p0_solCount po) _
    by_cases hc74 : v17 = r59
    · simp only [if_pos hc74] at h
      refine OEnds.icmpT hm_9 rfl (q := 296) rfl ((teq hc74).1) ?_
      refine OEnds.adv hm_9 2 (pc' := 300) (L' := [.val (.ref 1), .unset, .unset, .unset, .val (.long v4), .second, .val (.int v6), .unset, .unset, .unset, .unset, .unset, .val (.int v12), .val (.int v13), .unset, .val (.long v15), .second, .val (.int v17), .unset]) (S' := [.int v17, .int v13]) (H' := (c0 :: bk0 p0_log p0_cur p0_prs p0_nRows p0_nCols p0_lights p0_logLen p0_status p0_solSet p0_solSize p0_solCount po)) rfl ?_
      by_cases hc75 : v13 < v17
      · simp only [if_pos hc75] at h
        refine OEnds.icmpF hm_9 rfl ((tlt hc75).2.1) ?_
        refine OEnds.adv hm_9 1 (pc' := 304) (L' := [.val (.ref 1), .unset, .unset, .unset, .val (.long v4), .second, .val (.int v6), .unset, .unset, .unset, .unset, .unset, .val (.int v12), .val (.int v13), .unset, .val (.long v15), .second, .val (.int v17), .unset]) (S' := [.int (-1)]) (H' := (c0 :: bk0 p0_log p0_cur p0_prs p0_nRows p0_nCols p0_lights p0_logLen p0_status p0_solSet p0_solSize p0_solCount po)) rfl ?_
        cases h
        exact OEnds.iret hm_9 rfl rfl
      · simp only [if_neg hc75] at h
        refine OEnds.icmpT hm_9 rfl (q := 305) rfl ((flt hc75).2.1) ?_
        refine OEnds.adv hm_9 2 (pc' := 308) (L' := [.val (.ref 1), .unset, .unset, .unset, .val (.long v4), .second, .val (.int v6), .unset, .unset, .unset, .unset, .unset, .val (.int v12), .val (.int v13), .unset, .val (.long v15), .second, .val (.int v17), .unset]) (S' := [.ref 1, .int v12]) (H' := (c0 :: bk0 p0_log p0_cur p0_prs p0_nRows p0_nCols p0_lights p0_logLen p0_status p0_solSet p0_solSize p0_solCount po)) rfl ?_
        obtain ⟨r60, hq76, h⟩ := bnd h
        refine OEnds.call0 hm_9 rfl rfl (by decide) rfl (as := [.ref 1]) (rest := [.int v12]) rfl rfl (ok_solutionCount hq76) ?_
        show OEnds own_P 9 311 [.val (.ref 1), .unset, .unset, .unset, .val (.long v4), .second, .val (.int v6), .unset, .unset, .unset, .unset, .unset, .val (.int v12), .val (.int v13), .unset, .val (.long v15), .second, .val (.int v17), .unset] [.int r60, .int v12] (c0 :: bk0 p0_log p0_cur p0_prs p0_nRows p0_nCols p0_lights p0_logLen p0_status p0_solSet p0_solSize p0_solCount po) _
        by_cases hc77 : v12 = r60
        · simp only [if_pos hc77] at h
          refine OEnds.icmpT hm_9 rfl (q := 316) rfl ((teq hc77).1) ?_
          refine OEnds.adv hm_9 1 (pc' := 318) (L' := [.val (.ref 1), .unset, .unset, .unset, .val (.long v4), .second, .val (.int v6), .unset, .unset, .unset, .unset, .unset, .val (.int v12), .val (.int v13), .unset, .val (.long v15), .second, .val (.int v17), .unset]) (S' := [.int v6]) (H' := (c0 :: bk0 p0_log p0_cur p0_prs p0_nRows p0_nCols p0_lights p0_logLen p0_status p0_solSet p0_solSize p0_solCount po)) rfl ?_
          cases h
          exact OEnds.iret hm_9 rfl rfl
        · simp only [if_neg hc77] at h
          refine OEnds.icmpF hm_9 rfl ((feq hc77).1) ?_
          refine OEnds.adv hm_9 1 (pc' := 315) (L' := [.val (.ref 1), .unset, .unset, .unset, .val (.long v4), .second, .val (.int v6), .unset, .unset, .unset, .unset, .unset, .val (.int v12), .val (.int v13), .unset, .val (.long v15), .second, .val (.int v17), .unset]) (S' := [.int (-1)]) (H' := (c0 :: bk0 p0_log p0_cur p0_prs p0_nRows p0_nCols p0_lights p0_logLen p0_status p0_solSet p0_solSize p0_solCount po)) rfl ?_
          cases h
          exact OEnds.iret hm_9 rfl rfl
    · simp only [if_neg hc74] at h
      refine OEnds.icmpF hm_9 rfl ((feq hc74).1) ?_
      refine OEnds.adv hm_9 1 (pc' := 295) (L' := [.val (.ref 1), .unset, .unset, .unset, .val (.long v4), .second, .val (.int v6), .unset, .unset, .unset, .unset, .unset, .val (.int v12), .val (.int v13), .unset, .val (.long v15), .second, .val (.int v17), .unset]) (S' := [.int (-1)]) (H' := (c0 :: bk0 p0_log p0_cur p0_prs p0_nRows p0_nCols p0_lights p0_logLen p0_status p0_solSet p0_solSize p0_solCount po)) rfl ?_
      cases h
      exact OEnds.iret hm_9 rfl rfl
  · simp only [if_neg hc72] at h
    refine OEnds.ifF hm_9 rfl ((feq (mt c_eq.mp hc72)).1) ?_
    refine OEnds.adv hm_9 1 (pc' := 284) (L' := [.val (.ref 1), .unset, .unset, .unset, .val (.long v4), .second, .val (.int v6), .unset, .unset, .unset, .unset, .unset, .val (.int v12), .val (.int v13), .unset, .val (.long v15), .second, .val (.int v17), .unset]) (S' := [.int (-1)]) (H' := (c0 :: bk0 p0_log p0_cur p0_prs p0_nRows p0_nCols p0_lights p0_logLen p0_status p0_solSet p0_solSize p0_solCount po)) rfl ?_
    cases h
    exact OEnds.iret hm_9 rfl rfl
theorem ok_L_check_233 {p0_log : List Int32} {p0_nRows : Int32} {p0_nCols : Int32} {p0_lights : Int64} {p0_logLen : Int32} {c0 : ACell} {po : List ACell} {k275 : List Int32 → List Int32 → Int32 → Int64 → Int32 → Int32 → Int64 → Int32 → Int32 → Int32 → Int64 → Int32 → Option (Int32 × List Int32 × List Int32 × Int32 × Int64 × Int32 × Int32)} (hk275 : ∀ {p0_cur : List Int32} {p0_prs : List Int32} {p0_status : Int32} {p0_solSet : Int64} {p0_solSize : Int32} {p0_solCount : Int32} {v4 : Int64} {v6 : Int32} {v12 : Int32} {v13 : Int32} {v15 : Int64} {v17 : Int32} {d1 d2 d3 d7 d8 d9 d10 d11 d14 d18 : Slot} {res : Int32} {w_p0_cur : List Int32} {w_p0_prs : List Int32} {w_p0_status : Int32} {w_p0_solSet : Int64} {w_p0_solSize : Int32} {w_p0_solCount : Int32}, k275 p0_cur p0_prs p0_status p0_solSet p0_solSize p0_solCount v4 v6 v12 v13 v15 v17 = some (res, w_p0_cur, w_p0_prs, w_p0_status, w_p0_solSet, w_p0_solSize, w_p0_solCount) → OEnds own_P 9 275 [.val (.ref 1), d1, d2, d3, .val (.long v4), .second, .val (.int v6), d7, d8, d9, d10, d11, .val (.int v12), .val (.int v13), d14, .val (.long v15), .second, .val (.int v17), d18] [] (c0 :: bk0 p0_log p0_cur p0_prs p0_nRows p0_nCols p0_lights p0_logLen p0_status p0_solSet p0_solSize p0_solCount po) (some (.int res), (c0 :: bk0 p0_log w_p0_cur w_p0_prs p0_nRows p0_nCols p0_lights p0_logLen w_p0_status w_p0_solSet w_p0_solSize w_p0_solCount po), 0, 0)) : ∀ (n : Nat), ∀ {p0_cur : List Int32} {p0_prs : List Int32} {p0_status : Int32} {p0_solSet : Int64} {p0_solSize : Int32} {p0_solCount : Int32} {v1 : Int32} {v2 : Int32} {v3 : Int32} {v4 : Int64} {v6 : Int32} {v12 : Int32} {v13 : Int32} {v15 : Int64} {v17 : Int32} {v18 : Int32} {d7 d8 d9 d10 d11 d14 : Slot} {res : Int32} {w_p0_cur : List Int32} {w_p0_prs : List Int32} {w_p0_status : Int32} {w_p0_solSet : Int64} {w_p0_solSize : Int32} {w_p0_solCount : Int32}, f_L_check_233 k275 p0_nRows p0_nCols p0_lights n p0_cur p0_prs p0_status p0_solSet p0_solSize p0_solCount v1 v2 v3 v4 v6 v12 v13 v15 v17 v18 = some (res, w_p0_cur, w_p0_prs, w_p0_status, w_p0_solSet, w_p0_solSize, w_p0_solCount) → OEnds own_P 9 233 [.val (.ref 1), .val (.int v1), .val (.int v2), .val (.int v3), .val (.long v4), .second, .val (.int v6), d7, d8, d9, d10, d11, .val (.int v12), .val (.int v13), d14, .val (.long v15), .second, .val (.int v17), .val (.int v18)] [] (c0 :: bk0 p0_log p0_cur p0_prs p0_nRows p0_nCols p0_lights p0_logLen p0_status p0_solSet p0_solSize p0_solCount po) (some (.int res), (c0 :: bk0 p0_log w_p0_cur w_p0_prs p0_nRows p0_nCols p0_lights p0_logLen w_p0_status w_p0_solSet w_p0_solSize w_p0_solCount po), 0, 0) := by
  intro n
  induction n with
  | zero => intro p0_cur p0_prs p0_status p0_solSet p0_solSize p0_solCount v1 v2 v3 v4 v6 v12 v13 v15 v17 v18 d7 d8 d9 d10 d11 d14 res w_p0_cur w_p0_prs w_p0_status w_p0_solSet w_p0_solSize w_p0_solCount h; cases h
  | succ n ih =>
    intro p0_cur p0_prs p0_status p0_solSet p0_solSize p0_solCount v1 v2 v3 v4 v6 v12 v13 v15 v17 v18 d7 d8 d9 d10 d11 d14 res w_p0_cur w_p0_prs w_p0_status w_p0_solSet w_p0_solSize w_p0_solCount h
    unfold f_L_check_233 at h
    refine OEnds.adv hm_9 2 (pc' := 236) (L' := [.val (.ref 1), .val (.int v1), .val (.int v2), .val (.int v3), .val (.long v4), .second, .val (.int v6), .unset, .unset, .unset, .unset, .unset, .val (.int v12), .val (.int v13), .unset, .val (.long v15), .second, .val (.int v17), .val (.int v18)]) (S' := [.int v3, .int v18]) (H' := (c0 :: bk0 p0_log p0_cur p0_prs p0_nRows p0_nCols p0_lights p0_logLen p0_status p0_solSet p0_solSize p0_solCount po)) rfl ?_
    by_cases hc78 : v18 < v3
    · simp only [if_pos hc78] at h
      refine OEnds.icmpF hm_9 rfl ((tlt hc78).2.1) ?_
      refine OEnds.adv hm_9 3 (pc' := 243) (L' := [.val (.ref 1), .val (.int v1), .val (.int v2), .val (.int v3), .val (.long v4), .second, .val (.int v6), .unset, .unset, .unset, .unset, .unset, .val (.int v12), .val (.int v13), .unset, .val (.long v15), .second, .val (.int v17), .val (.int v18)]) (S' := [.int v2, .int v18, .ref 1]) (H' := (c0 :: bk0 p0_log p0_cur p0_prs p0_nRows p0_nCols p0_lights p0_logLen p0_status p0_solSet p0_solSize p0_solCount po)) rfl ?_
      by_cases hz79 : v2 = 0
      · simp only [if_pos hz79] at h
        cases h
      simp only [if_neg hz79] at h
      refine OEnds.plain hm_9 rfl rfl (x_idiv hz79) ?_
      refine OEnds.adv hm_9 2 (pc' := 247) (L' := [.val (.ref 1), .val (.int v1), .val (.int v2), .val (.int v3), .val (.long v4), .second, .val (.int v6), .unset, .unset, .unset, .unset, .unset, .val (.int v12), .val (.int v13), .unset, .val (.long v15), .second, .val (.int v17), .val (.int v18)]) (S' := [.int v2, .int v18, .int (v18 / v2), .ref 1]) (H' := (c0 :: bk0 p0_log p0_cur p0_prs p0_nRows p0_nCols p0_lights p0_logLen p0_status p0_solSet p0_solSize p0_solCount po)) rfl ?_
      refine OEnds.plain hm_9 rfl rfl (x_irem hz79) ?_
      show OEnds own_P 9 248 [.val (.ref 1), .val (.int v1), .val (.int v2), .val (.int v3), .val (.long v4), .second, .val (.int v6), .unset, .unset, .unset, .unset, .unset, .val (.int v12), .val (.int v13), .unset, .val (.long v15), .second, .val (.int v17), .val (.int v18)] [.int (v18 % v2), .int (v18 / v2), .ref 1] (c0 :: bk0 p0_log p0_cur p0_prs p0_nRows p0_nCols p0_lights p0_logLen p0_status p0_solSet p0_solSize p0_solCount po) _
      obtain ⟨r57, hq80, h⟩ := bnd h
      refine OEnds.call0 hm_9 rfl rfl (by decide) rfl (as := [.ref 1, .int (v18 / v2), .int (v18 % v2)]) (rest := []) rfl rfl (ok_inSolution hq80) ?_
      show OEnds own_P 9 251 [.val (.ref 1), .val (.int v1), .val (.int v2), .val (.int v3), .val (.long v4), .second, .val (.int v6), .unset, .unset, .unset, .unset, .unset, .val (.int v12), .val (.int v13), .unset, .val (.long v15), .second, .val (.int v17), .val (.int v18)] [.int r57] (c0 :: bk0 p0_log p0_cur p0_prs p0_nRows p0_nCols p0_lights p0_logLen p0_status p0_solSet p0_solSize p0_solCount po) _
      by_cases hc81 : r57 = (0 : Int32)
      · simp only [if_pos hc81] at h
        refine OEnds.ifT hm_9 rfl (q := 269) rfl ((teq hc81).1) ?_
        refine OEnds.adv hm_9 2 (pc' := 233) (L' := [.val (.ref 1), .val (.int v1), .val (.int v2), .val (.int v3), .val (.long v4), .second, .val (.int v6), .unset, .unset, .unset, .unset, .unset, .val (.int v12), .val (.int v13), .unset, .val (.long v15), .second, .val (.int v17), .val (.int (v18 + (1 : Int32)))]) (S' := []) (H' := (c0 :: bk0 p0_log p0_cur p0_prs p0_nRows p0_nCols p0_lights p0_logLen p0_status p0_solSet p0_solSize p0_solCount po)) rfl ?_
        exact ih h
      · simp only [if_neg hc81] at h
        refine OEnds.ifF hm_9 rfl ((feq hc81).1) ?_
        refine OEnds.adv hm_9 4 (pc' := 260) (L' := [.val (.ref 1), .val (.int v1), .val (.int v2), .val (.int v3), .val (.long v4), .second, .val (.int v6), .unset, .unset, .unset, .unset, .unset, .val (.int v12), .val (.int v13), .unset, .val (.long v15), .second, .val (.int v17), .val (.int v18)]) (S' := [.int v2, .int v1, .int v18, .long v15]) (H' := (c0 :: bk0 p0_log p0_cur p0_prs p0_nRows p0_nCols p0_lights p0_logLen p0_status p0_solSet p0_solSize p0_solCount po)) rfl ?_
        obtain ⟨r58, hq82, h⟩ := bnd h
        refine OEnds.call0 hm_9 rfl rfl (by decide) rfl (as := [.int v18, .int v1, .int v2]) (rest := [.long v15]) rfl rfl (ok_L_pressMask hq82) ?_
        refine OEnds.adv hm_9 5 (pc' := 233) (L' := [.val (.ref 1), .val (.int v1), .val (.int v2), .val (.int v3), .val (.long v4), .second, .val (.int v6), .unset, .unset, .unset, .unset, .unset, .val (.int v12), .val (.int v13), .unset, .val (.long (v15 ^^^ r58)), .second, .val (.int (v17 + (1 : Int32))), .val (.int (v18 + (1 : Int32)))]) (S' := []) (H' := (c0 :: bk0 p0_log p0_cur p0_prs p0_nRows p0_nCols p0_lights p0_logLen p0_status p0_solSet p0_solSize p0_solCount po)) rfl ?_
        exact ih h
    · simp only [if_neg hc78] at h
      refine OEnds.icmpT hm_9 rfl (q := 275) rfl ((flt hc78).2.1) ?_
      show OEnds own_P 9 275 [.val (.ref 1), .val (.int v1), .val (.int v2), .val (.int v3), .val (.long v4), .second, .val (.int v6), .unset, .unset, .unset, .unset, .unset, .val (.int v12), .val (.int v13), .unset, .val (.long v15), .second, .val (.int v17), .val (.int v18)] [] (c0 :: bk0 p0_log p0_cur p0_prs p0_nRows p0_nCols p0_lights p0_logLen p0_status p0_solSet p0_solSize p0_solCount po) _
      exact hk275 h
theorem ok_L_check_189 {p0_log : List Int32} {p0_nRows : Int32} {p0_nCols : Int32} {p0_lights : Int64} {p0_logLen : Int32} {c0 : ACell} {po : List ACell} : ∀ {p0_cur : List Int32} {p0_prs : List Int32} {p0_status : Int32} {p0_solSet : Int64} {p0_solSize : Int32} {p0_solCount : Int32} {v1 : Int32} {v2 : Int32} {v3 : Int32} {v4 : Int64} {v6 : Int32} {v12 : Int32} {v13 : Int32} {d7 d8 d9 d10 d11 d14 d15 d16 d17 d18 : Slot} {res : Int32} {w_p0_cur : List Int32} {w_p0_prs : List Int32} {w_p0_status : Int32} {w_p0_solSet : Int64} {w_p0_solSize : Int32} {w_p0_solCount : Int32}, f_L_check_189 p0_nRows p0_nCols p0_lights p0_cur p0_prs p0_status p0_solSet p0_solSize p0_solCount v1 v2 v3 v4 v6 v12 v13 = some (res, w_p0_cur, w_p0_prs, w_p0_status, w_p0_solSet, w_p0_solSize, w_p0_solCount) → OEnds own_P 9 189 [.val (.ref 1), .val (.int v1), .val (.int v2), .val (.int v3), .val (.long v4), .second, .val (.int v6), d7, d8, d9, d10, d11, .val (.int v12), .val (.int v13), d14, d15, d16, d17, d18] [] (c0 :: bk0 p0_log p0_cur p0_prs p0_nRows p0_nCols p0_lights p0_logLen p0_status p0_solSet p0_solSize p0_solCount po) (some (.int res), (c0 :: bk0 p0_log w_p0_cur w_p0_prs p0_nRows p0_nCols p0_lights p0_logLen w_p0_status w_p0_solSet w_p0_solSize w_p0_solCount po), 0, 0) := by
  intro p0_cur p0_prs p0_status p0_solSet p0_solSize p0_solCount v1 v2 v3 v4 v6 v12 v13 d7 d8 d9 d10 d11 d14 d15 d16 d17 d18 res w_p0_cur w_p0_prs w_p0_status w_p0_solSet w_p0_solSize w_p0_solCount h
  unfold f_L_check_189 at h
  refine OEnds.adv hm_9 2 (pc' := 192) (L' := [.val (.ref 1), .val (.int v1), .val (.int v2), .val (.int v3), .val (.long v4), .second, .val (.int v6), .unset, .unset, .unset, .unset, .unset, .val (.int v12), .val (.int v13), .unset, .unset, .unset, .unset, .unset]) (S' := [.int 2, .int v6]) (H' := (c0 :: bk0 p0_log p0_cur p0_prs p0_nRows p0_nCols p0_lights p0_logLen p0_status p0_solSet p0_solSize p0_solCount po)) rfl ?_
  by_cases hc83 : v6 = (2 : Int32)
  · simp only [if_pos hc83] at h
    refine OEnds.icmpF hm_9 rfl ((teq hc83).2) ?_
    refine OEnds.adv hm_9 1 (pc' := 197) (L' := [.val (.ref 1), .val (.int v1), .val (.int v2), .val (.int v3), .val (.long v4), .second, .val (.int v6), .unset, .unset, .unset, .unset, .unset, .val (.int v12), .val (.int v13), .unset, .unset, .unset, .unset, .unset]) (S' := [.int v12]) (H' := (c0 :: bk0 p0_log p0_cur p0_prs p0_nRows p0_nCols p0_lights p0_logLen p0_status p0_solSet p0_solSize p0_solCount po)) rfl ?_
    by_cases hc84 : v12 = (0 : Int32)
    · simp only [if_pos hc84] at h
      refine OEnds.ifT hm_9 rfl (q := 202) rfl ((teq hc84).1) ?_
      refine OEnds.adv hm_9 1 (pc' := 203) (L' := [.val (.ref 1), .val (.int v1), .val (.int v2), .val (.int v3), .val (.long v4), .second, .val (.int v6), .unset, .unset, .unset, .unset, .unset, .val (.int v12), .val (.int v13), .unset, .unset, .unset, .unset, .unset]) (S' := [.ref 1]) (H' := (c0 :: bk0 p0_log p0_cur p0_prs p0_nRows p0_nCols p0_lights p0_logLen p0_status p0_solSet p0_solSize p0_solCount po)) rfl ?_
      obtain ⟨r55, hq85, h⟩ := bnd h
      refine OEnds.call0 hm_9 rfl rfl (by decide) rfl (as := [.ref 1]) (rest := []) rfl rfl (ok_solutionSize hq85) ?_
      refine OEnds.adv hm_9 1 (pc' := 207) (L' := [.val (.ref 1), .val (.int v1), .val (.int v2), .val (.int v3), .val (.long v4), .second, .val (.int v6), .unset, .unset, .unset, .unset, .unset, .val (.int v12), .val (.int v13), .unset, .unset, .unset, .unset, .unset]) (S' := [.int (-1), .int r55]) (H' := (c0 :: bk0 p0_log p0_cur p0_prs p0_nRows p0_nCols p0_lights p0_logLen p0_status p0_solSet p0_solSize p0_solCount po)) rfl ?_
      by_cases hc86 : r55 = (-1 : Int32)
      · simp only [if_pos hc86] at h
        refine OEnds.icmpT hm_9 rfl (q := 212) rfl ((teq hc86).1) ?_
        refine OEnds.adv hm_9 1 (pc' := 213) (L' := [.val (.ref 1), .val (.int v1), .val (.int v2), .val (.int v3), .val (.long v4), .second, .val (.int v6), .unset, .unset, .unset, .unset, .unset, .val (.int v12), .val (.int v13), .unset, .unset, .unset, .unset, .unset]) (S' := [.ref 1]) (H' := (c0 :: bk0 p0_log p0_cur p0_prs p0_nRows p0_nCols p0_lights p0_logLen p0_status p0_solSet p0_solSize p0_solCount po)) rfl ?_
        obtain ⟨r56, hq87, h⟩ := bnd h
        refine OEnds.call0 hm_9 rfl rfl (by decide) rfl (as := [.ref 1]) (rest := []) rfl rfl (ok_solutionCount hq87) ?_
        show OEnds own_P 9 216 [.val (.ref 1), .val (.int v1), .val (.int v2), .val (.int v3), .val (.long v4), .second, .val (.int v6), .unset, .unset, .unset, .unset, .unset, .val (.int v12), .val (.int v13), .unset, .unset, .unset, .unset, .unset] [.int r56] (c0 :: bk0 p0_log p0_cur p0_prs p0_nRows p0_nCols p0_lights p0_logLen p0_status p0_solSet p0_solSize p0_solCount po) _
        by_cases hc88 : r56 = (0 : Int32)
        · simp only [if_pos hc88] at h
          refine OEnds.ifT hm_9 rfl (q := 221) rfl ((teq hc88).1) ?_
          refine OEnds.adv hm_9 1 (pc' := 223) (L' := [.val (.ref 1), .val (.int v1), .val (.int v2), .val (.int v3), .val (.long v4), .second, .val (.int v6), .unset, .unset, .unset, .unset, .unset, .val (.int v12), .val (.int v13), .unset, .unset, .unset, .unset, .unset]) (S' := [.int v6]) (H' := (c0 :: bk0 p0_log p0_cur p0_prs p0_nRows p0_nCols p0_lights p0_logLen p0_status p0_solSet p0_solSize p0_solCount po)) rfl ?_
          cases h
          exact OEnds.iret hm_9 rfl rfl
        · simp only [if_neg hc88] at h
          refine OEnds.ifF hm_9 rfl ((feq hc88).1) ?_
          refine OEnds.adv hm_9 1 (pc' := 220) (L' := [.val (.ref 1), .val (.int v1), .val (.int v2), .val (.int v3), .val (.long v4), .second, .val (.int v6), .unset, .unset, .unset, .unset, .unset, .val (.int v12), .val (.int v13), .unset, .unset, .unset, .unset, .unset]) (S' := [.int (-1)]) (H' := (c0 :: bk0 p0_log p0_cur p0_prs p0_nRows p0_nCols p0_lights p0_logLen p0_status p0_solSet p0_solSize p0_solCount po)) rfl ?_
          cases h
          exact OEnds.iret hm_9 rfl rfl
      · simp only [if_neg hc86] at h
        refine OEnds.icmpF hm_9 rfl ((feq hc86).1) ?_
        refine OEnds.adv hm_9 1 (pc' := 211) (L' := [.val (.ref 1), .val (.int v1), .val (.int v2), .val (.int v3), .val (.long v4), .second, .val (.int v6), .unset, .unset, .unset, .unset, .unset, .val (.int v12), .val (.int v13), .unset, .unset, .unset, .unset, .unset]) (S' := [.int (-1)]) (H' := (c0 :: bk0 p0_log p0_cur p0_prs p0_nRows p0_nCols p0_lights p0_logLen p0_status p0_solSet p0_solSize p0_solCount po)) rfl ?_
        cases h
        exact OEnds.iret hm_9 rfl rfl
    · simp only [if_neg hc84] at h
      refine OEnds.ifF hm_9 rfl ((feq hc84).1) ?_
      refine OEnds.adv hm_9 1 (pc' := 201) (L' := [.val (.ref 1), .val (.int v1), .val (.int v2), .val (.int v3), .val (.long v4), .second, .val (.int v6), .unset, .unset, .unset, .unset, .unset, .val (.int v12), .val (.int v13), .unset, .unset, .unset, .unset, .unset]) (S' := [.int (-1)]) (H' := (c0 :: bk0 p0_log p0_cur p0_prs p0_nRows p0_nCols p0_lights p0_logLen p0_status p0_solSet p0_solSize p0_solCount po)) rfl ?_
      cases h
      exact OEnds.iret hm_9 rfl rfl
  · simp only [if_neg hc83] at h
    refine OEnds.icmpT hm_9 rfl (q := 224) rfl ((feq hc83).2) ?_
    refine OEnds.adv hm_9 6 (pc' := 233) (L' := [.val (.ref 1), .val (.int v1), .val (.int v2), .val (.int v3), .val (.long v4), .second, .val (.int v6), .unset, .unset, .unset, .unset, .unset, .val (.int v12), .val (.int v13), .unset, .val (.long 0), .second, .val (.int 0), .val (.int 0)]) (S' := []) (H' := (c0 :: bk0 p0_log p0_cur p0_prs p0_nRows p0_nCols p0_lights p0_logLen p0_status p0_solSet p0_solSize p0_solCount po)) rfl ?_
    exact ok_L_check_233 (k275 := f_L_check_275 p0_nRows p0_nCols p0_lights) ok_L_check_275 100000 h
theorem ok_L_check_161 {p0_log : List Int32} {p0_nRows : Int32} {p0_nCols : Int32} {p0_lights : Int64} {p0_logLen : Int32} {c0 : ACell} {po : List ACell} {kb : List Int32 → List Int32 → Int32 → Int64 → Int32 → Int32 → Int32 → Int32 → Int32 → Int64 → Int32 → Int64 → Int64 → Int32 → Int32 → Int32 → Int32 → Int32 → Option (Int32 × List Int32 × List Int32 × Int32 × Int64 × Int32 × Int32)} {k189 : List Int32 → List Int32 → Int32 → Int64 → Int32 → Int32 → Int32 → Int32 → Int32 → Int64 → Int32 → Int32 → Int32 → Option (Int32 × List Int32 × List Int32 × Int32 × Int64 × Int32 × Int32)} (hkb : ∀ {p0_cur : List Int32} {p0_prs : List Int32} {p0_status : Int32} {p0_solSet : Int64} {p0_solSize : Int32} {p0_solCount : Int32} {v1 : Int32} {v2 : Int32} {v3 : Int32} {v4 : Int64} {v6 : Int32} {v7 : Int64} {v9 : Int64} {v11 : Int32} {v12 : Int32} {v13 : Int32} {v14 : Int32} {v15 : Int32} {d16 d17 d18 : Slot} {res : Int32} {w_p0_cur : List Int32} {w_p0_prs : List Int32} {w_p0_status : Int32} {w_p0_solSet : Int64} {w_p0_solSize : Int32} {w_p0_solCount : Int32}, kb p0_cur p0_prs p0_status p0_solSet p0_solSize p0_solCount v1 v2 v3 v4 v6 v7 v9 v11 v12 v13 v14 v15 = some (res, w_p0_cur, w_p0_prs, w_p0_status, w_p0_solSet, w_p0_solSize, w_p0_solCount) → OEnds own_P 9 105 [.val (.ref 1), .val (.int v1), .val (.int v2), .val (.int v3), .val (.long v4), .second, .val (.int v6), .val (.long v7), .second, .val (.long v9), .second, .val (.int v11), .val (.int v12), .val (.int v13), .val (.int v14), .val (.int v15), d16, d17, d18] [] (c0 :: bk0 p0_log p0_cur p0_prs p0_nRows p0_nCols p0_lights p0_logLen p0_status p0_solSet p0_solSize p0_solCount po) (some (.int res), (c0 :: bk0 p0_log w_p0_cur w_p0_prs p0_nRows p0_nCols p0_lights p0_logLen w_p0_status w_p0_solSet w_p0_solSize w_p0_solCount po), 0, 0)) (hk189 : ∀ {p0_cur : List Int32} {p0_prs : List Int32} {p0_status : Int32} {p0_solSet : Int64} {p0_solSize : Int32} {p0_solCount : Int32} {v1 : Int32} {v2 : Int32} {v3 : Int32} {v4 : Int64} {v6 : Int32} {v12 : Int32} {v13 : Int32} {d7 d8 d9 d10 d11 d14 d15 d16 d17 d18 : Slot} {res : Int32} {w_p0_cur : List Int32} {w_p0_prs : List Int32} {w_p0_status : Int32} {w_p0_solSet : Int64} {w_p0_solSize : Int32} {w_p0_solCount : Int32}, k189 p0_cur p0_prs p0_status p0_solSet p0_solSize p0_solCount v1 v2 v3 v4 v6 v12 v13 = some (res, w_p0_cur, w_p0_prs, w_p0_status, w_p0_solSet, w_p0_solSize, w_p0_solCount) → OEnds own_P 9 189 [.val (.ref 1), .val (.int v1), .val (.int v2), .val (.int v3), .val (.long v4), .second, .val (.int v6), d7, d8, d9, d10, d11, .val (.int v12), .val (.int v13), d14, d15, d16, d17, d18] [] (c0 :: bk0 p0_log p0_cur p0_prs p0_nRows p0_nCols p0_lights p0_logLen p0_status p0_solSet p0_solSize p0_solCount po) (some (.int res), (c0 :: bk0 p0_log w_p0_cur w_p0_prs p0_nRows p0_nCols p0_lights p0_logLen w_p0_status w_p0_solSet w_p0_solSize w_p0_solCount po), 0, 0)) : ∀ {p0_cur : List Int32} {p0_prs : List Int32} {p0_status : Int32} {p0_solSet : Int64} {p0_solSize : Int32} {p0_solCount : Int32} {v1 : Int32} {v2 : Int32} {v3 : Int32} {v4 : Int64} {v6 : Int32} {v7 : Int64} {v9 : Int64} {v11 : Int32} {v12 : Int32} {v13 : Int32} {v14 : Int32} {v15 : Int32} {d16 d17 d18 : Slot} {res : Int32} {w_p0_cur : List Int32} {w_p0_prs : List Int32} {w_p0_status : Int32} {w_p0_solSet : Int64} {w_p0_solSize : Int32} {w_p0_solCount : Int32}, f_L_check_161 kb k189 p0_nRows p0_nCols p0_lights p0_cur p0_prs p0_status p0_solSet p0_solSize p0_solCount v1 v2 v3 v4 v6 v7 v9 v11 v12 v13 v14 v15 = some (res, w_p0_cur, w_p0_prs, w_p0_status, w_p0_solSet, w_p0_solSize, w_p0_solCount) → OEnds own_P 9 161 [.val (.ref 1), .val (.int v1), .val (.int v2), .val (.int v3), .val (.long v4), .second, .val (.int v6), .val (.long v7), .second, .val (.long v9), .second, .val (.int v11), .val (.int v12), .val (.int v13), .val (.int v14), .val (.int v15), d16, d17, d18] [] (c0 :: bk0 p0_log p0_cur p0_prs p0_nRows p0_nCols p0_lights p0_logLen p0_status p0_solSet p0_solSize p0_solCount po) (some (.int res), (c0 :: bk0 p0_log w_p0_cur w_p0_prs p0_nRows p0_nCols p0_lights p0_logLen w_p0_status w_p0_solSet w_p0_solSize w_p0_solCount po), 0, 0) := by
  intro p0_cur p0_prs p0_status p0_solSet p0_solSize p0_solCount v1 v2 v3 v4 v6 v7 v9 v11 v12 v13 v14 v15 d16 d17 d18 res w_p0_cur w_p0_prs w_p0_status w_p0_solSet w_p0_solSize w_p0_solCount h
  unfold f_L_check_161 at h
  refine OEnds.adv hm_9 3 (pc' := 166) (L' := [.val (.ref 1), .val (.int v1), .val (.int v2), .val (.int v3), .val (.long v4), .second, .val (.int v6), .val (.long v7), .second, .val (.long v9), .second, .val (.int v11), .val (.int v12), .val (.int v13), .val (.int v14), .val (.int v15), .unset, .unset, .unset]) (S' := [.int (XT.cmpL v7 v4)]) (H' := (c0 :: bk0 p0_log p0_cur p0_prs p0_nRows p0_nCols p0_lights p0_logLen p0_status p0_solSet p0_solSize p0_solCount po)) rfl ?_
  by_cases hc89 : v7 = v4
  · simp only [if_pos hc89] at h
    refine OEnds.ifF hm_9 rfl ((teq (c_eq.mpr hc89)).2) ?_
    refine OEnds.adv hm_9 3 (pc' := 176) (L' := [.val (.ref 1), .val (.int v1), .val (.int v2), .val (.int v3), .val (.long v4), .second, .val (.int v6), .val (.long v7), .second, .val (.long v9), .second, .val (.int v11), .val (.int (v12 + (1 : Int32))), .val (.int v13), .val (.int v14), .val (.int v15), .unset, .unset, .unset]) (S' := [.int v13, .int v11]) (H' := (c0 :: bk0 p0_log p0_cur p0_prs p0_nRows p0_nCols p0_lights p0_logLen p0_status p0_solSet p0_solSize p0_solCount po)) rfl ?_
    by_cases hc90 : v11 < v13
    · simp only [if_pos hc90] at h
      refine OEnds.icmpF hm_9 rfl ((tlt hc90).2.1) ?_
      refine OEnds.adv hm_9 4 (pc' := 105) (L' := [.val (.ref 1), .val (.int v1), .val (.int v2), .val (.int v3), .val (.long v4), .second, .val (.int v6), .val (.long v7), .second, .val (.long v9), .second, .val (.int v11), .val (.int (v12 + (1 : Int32))), .val (.int v11), .val (.int v14), .val (.int (v15 + (1 : Int32))), .unset, .unset, .unset]) (S' := []) (H' := (c0 :: bk0 p0_log p0_cur p0_prs p0_nRows p0_nCols p0_lights p0_logLen p0_status p0_solSet p0_solSize p0_solCount po)) rfl ?_
      exact hkb h
    · simp only [if_neg hc90] at h
      refine OEnds.icmpT hm_9 rfl (q := 183) rfl ((flt hc90).2.1) ?_
      refine OEnds.adv hm_9 2 (pc' := 105) (L' := [.val (.ref 1), .val (.int v1), .val (.int v2), .val (.int v3), .val (.long v4), .second, .val (.int v6), .val (.long v7), .second, .val (.long v9), .second, .val (.int v11), .val (.int (v12 + (1 : Int32))), .val (.int v13), .val (.int v14), .val (.int (v15 + (1 : Int32))), .unset, .unset, .unset]) (S' := []) (H' := (c0 :: bk0 p0_log p0_cur p0_prs p0_nRows p0_nCols p0_lights p0_logLen p0_status p0_solSet p0_solSize p0_solCount po)) rfl ?_
      exact hkb h
  · simp only [if_neg hc89] at h
    refine OEnds.ifT hm_9 rfl (q := 183) rfl ((feq (mt c_eq.mp hc89)).2) ?_
    refine OEnds.adv hm_9 2 (pc' := 105) (L' := [.val (.ref 1), .val (.int v1), .val (.int v2), .val (.int v3), .val (.long v4), .second, .val (.int v6), .val (.long v7), .second, .val (.long v9), .second, .val (.int v11), .val (.int v12), .val (.int v13), .val (.int v14), .val (.int (v15 + (1 : Int32))), .unset, .unset, .unset]) (S' := []) (H' := (c0 :: bk0 p0_log p0_cur p0_prs p0_nRows p0_nCols p0_lights p0_logLen p0_status p0_solSet p0_solSize p0_solCount po)) rfl ?_
    exact hkb h
theorem ok_L_check_105 {p0_log : List Int32} {p0_nRows : Int32} {p0_nCols : Int32} {p0_lights : Int64} {p0_logLen : Int32} {c0 : ACell} {po : List ACell} {k189 : List Int32 → List Int32 → Int32 → Int64 → Int32 → Int32 → Int32 → Int32 → Int32 → Int64 → Int32 → Int32 → Int32 → Option (Int32 × List Int32 × List Int32 × Int32 × Int64 × Int32 × Int32)} (hk189 : ∀ {p0_cur : List Int32} {p0_prs : List Int32} {p0_status : Int32} {p0_solSet : Int64} {p0_solSize : Int32} {p0_solCount : Int32} {v1 : Int32} {v2 : Int32} {v3 : Int32} {v4 : Int64} {v6 : Int32} {v12 : Int32} {v13 : Int32} {d7 d8 d9 d10 d11 d14 d15 d16 d17 d18 : Slot} {res : Int32} {w_p0_cur : List Int32} {w_p0_prs : List Int32} {w_p0_status : Int32} {w_p0_solSet : Int64} {w_p0_solSize : Int32} {w_p0_solCount : Int32}, k189 p0_cur p0_prs p0_status p0_solSet p0_solSize p0_solCount v1 v2 v3 v4 v6 v12 v13 = some (res, w_p0_cur, w_p0_prs, w_p0_status, w_p0_solSet, w_p0_solSize, w_p0_solCount) → OEnds own_P 9 189 [.val (.ref 1), .val (.int v1), .val (.int v2), .val (.int v3), .val (.long v4), .second, .val (.int v6), d7, d8, d9, d10, d11, .val (.int v12), .val (.int v13), d14, d15, d16, d17, d18] [] (c0 :: bk0 p0_log p0_cur p0_prs p0_nRows p0_nCols p0_lights p0_logLen p0_status p0_solSet p0_solSize p0_solCount po) (some (.int res), (c0 :: bk0 p0_log w_p0_cur w_p0_prs p0_nRows p0_nCols p0_lights p0_logLen w_p0_status w_p0_solSet w_p0_solSize w_p0_solCount po), 0, 0)) : ∀ (n : Nat), ∀ {p0_cur : List Int32} {p0_prs : List Int32} {p0_status : Int32} {p0_solSet : Int64} {p0_solSize : Int32} {p0_solCount : Int32} {v1 : Int32} {v2 : Int32} {v3 : Int32} {v4 : Int64} {v6 : Int32} {v7 : Int64} {v9 : Int64} {v11 : Int32} {v12 : Int32} {v13 : Int32} {v14 : Int32} {v15 : Int32} {d16 d17 d18 : Slot} {res : Int32} {w_p0_cur : List Int32} {w_p0_prs : List Int32} {w_p0_status : Int32} {w_p0_solSet : Int64} {w_p0_solSize : Int32} {w_p0_solCount : Int32}, f_L_check_105 k189 p0_nRows p0_nCols p0_lights n p0_cur p0_prs p0_status p0_solSet p0_solSize p0_solCount v1 v2 v3 v4 v6 v7 v9 v11 v12 v13 v14 v15 = some (res, w_p0_cur, w_p0_prs, w_p0_status, w_p0_solSet, w_p0_solSize, w_p0_solCount) → OEnds own_P 9 105 [.val (.ref 1), .val (.int v1), .val (.int v2), .val (.int v3), .val (.long v4), .second, .val (.int v6), .val (.long v7), .second, .val (.long v9), .second, .val (.int v11), .val (.int v12), .val (.int v13), .val (.int v14), .val (.int v15), d16, d17, d18] [] (c0 :: bk0 p0_log p0_cur p0_prs p0_nRows p0_nCols p0_lights p0_logLen p0_status p0_solSet p0_solSize p0_solCount po) (some (.int res), (c0 :: bk0 p0_log w_p0_cur w_p0_prs p0_nRows p0_nCols p0_lights p0_logLen w_p0_status w_p0_solSet w_p0_solSize w_p0_solCount po), 0, 0) := by
  intro n
  induction n with
  | zero => intro p0_cur p0_prs p0_status p0_solSet p0_solSize p0_solCount v1 v2 v3 v4 v6 v7 v9 v11 v12 v13 v14 v15 d16 d17 d18 res w_p0_cur w_p0_prs w_p0_status w_p0_solSet w_p0_solSize w_p0_solCount h; cases h
  | succ n ih =>
    intro p0_cur p0_prs p0_status p0_solSet p0_solSize p0_solCount v1 v2 v3 v4 v6 v7 v9 v11 v12 v13 v14 v15 d16 d17 d18 res w_p0_cur w_p0_prs w_p0_status w_p0_solSet w_p0_solSize w_p0_solCount h
    unfold f_L_check_105 at h
    refine OEnds.adv hm_9 2 (pc' := 109) (L' := [.val (.ref 1), .val (.int v1), .val (.int v2), .val (.int v3), .val (.long v4), .second, .val (.int v6), .val (.long v7), .second, .val (.long v9), .second, .val (.int v11), .val (.int v12), .val (.int v13), .val (.int v14), .val (.int v15), .unset, .unset, .unset]) (S' := [.int v14, .int v15]) (H' := (c0 :: bk0 p0_log p0_cur p0_prs p0_nRows p0_nCols p0_lights p0_logLen p0_status p0_solSet p0_solSize p0_solCount po)) rfl ?_
    by_cases hc91 : v15 < v14
    · simp only [if_pos hc91] at h
      refine OEnds.icmpF hm_9 rfl ((tlt hc91).2.1) ?_
      refine OEnds.adv hm_9 1 (pc' := 114) (L' := [.val (.ref 1), .val (.int v1), .val (.int v2), .val (.int v3), .val (.long v4), .second, .val (.int v6), .val (.long v7), .second, .val (.long v9), .second, .val (.int v11), .val (.int v12), .val (.int v13), .val (.int v14), .val (.int v15), .unset, .unset, .unset]) (S' := [.int v15]) (H' := (c0 :: bk0 p0_log p0_cur p0_prs p0_nRows p0_nCols p0_lights p0_logLen p0_status p0_solSet p0_solSize p0_solCount po)) rfl ?_
      obtain ⟨r53, hq92, h⟩ := bnd h
      refine OEnds.call0 hm_9 rfl rfl (by decide) rfl (as := [.int v15]) (rest := []) rfl rfl (ok_L_tz hq92) ?_
      refine OEnds.adv hm_9 5 (pc' := 125) (L' := [.val (.ref 1), .val (.int v1), .val (.int v2), .val (.int v3), .val (.long v4), .second, .val (.int v6), .val (.long v7), .second, .val (.long v9), .second, .val (.int v11), .val (.int v12), .val (.int v13), .val (.int v14), .val (.int v15), .val (.int r53), .unset, .unset]) (S' := [.int v2, .int v1, .int r53, .long v7]) (H' := (c0 :: bk0 p0_log p0_cur p0_prs p0_nRows p0_nCols p0_lights p0_logLen p0_status p0_solSet p0_solSize p0_solCount po)) rfl ?_
      obtain ⟨r54, hq93, h⟩ := bnd h
      refine OEnds.call0 hm_9 rfl rfl (by decide) rfl (as := [.int r53, .int v1, .int v2]) (rest := [.long v7]) rfl rfl (ok_L_pressMask hq93) ?_
      refine OEnds.adv hm_9 15 (pc' := 149) (L' := [.val (.ref 1), .val (.int v1), .val (.int v2), .val (.int v3), .val (.long v4), .second, .val (.int v6), .val (.long (v7 ^^^ r54)), .second, .val (.long (v9 ^^^ ((1 : Int64) <<< (r53.toInt64 &&& 63)))), .second, .val (.int v11), .val (.int v12), .val (.int v13), .val (.int v14), .val (.int v15), .val (.int r53), .unset, .unset]) (S' := [.int (XT.cmpL ((v9 ^^^ ((1 : Int64) <<< (r53.toInt64 &&& 63))) &&& ((1 : Int64) <<< (r53.toInt64 &&& 63))) (0 : Int64))]) (H' := (c0 :: bk0 p0_log p0_cur p0_prs p0_nRows p0_nCols p0_lights p0_logLen p0_status p0_solSet p0_solSize p0_solCount po)) rfl ?_
      by_cases hc94 : ((v9 ^^^ ((1 : Int64) <<< (r53.toInt64 &&& 63))) &&& ((1 : Int64) <<< (r53.toInt64 &&& 63))) = (0 : Int64)
      · simp only [if_pos hc94] at h
        refine OEnds.ifT hm_9 rfl (q := 158) rfl ((teq (c_eq.mpr hc94)).1) ?_
        refine OEnds.adv hm_9 1 (pc' := 161) (L' := [.val (.ref 1), .val (.int v1), .val (.int v2), .val (.int v3), .val (.long v4), .second, .val (.int v6), .val (.long (v7 ^^^ r54)), .second, .val (.long (v9 ^^^ ((1 : Int64) <<< (r53.toInt64 &&& 63)))), .second, .val (.int (v11 + (-1 : Int32))), .val (.int v12), .val (.int v13), .val (.int v14), .val (.int v15), .val (.int r53), .unset, .unset]) (S' := []) (H' := (c0 :: bk0 p0_log p0_cur p0_prs p0_nRows p0_nCols p0_lights p0_logLen p0_status p0_solSet p0_solSize p0_solCount po)) rfl ?_
        exact ok_L_check_161 ih hk189 h
      · simp only [if_neg hc94] at h
        refine OEnds.ifF hm_9 rfl ((feq (mt c_eq.mp hc94)).1) ?_
        refine OEnds.adv hm_9 2 (pc' := 161) (L' := [.val (.ref 1), .val (.int v1), .val (.int v2), .val (.int v3), .val (.long v4), .second, .val (.int v6), .val (.long (v7 ^^^ r54)), .second, .val (.long (v9 ^^^ ((1 : Int64) <<< (r53.toInt64 &&& 63)))), .second, .val (.int (v11 + (1 : Int32))), .val (.int v12), .val (.int v13), .val (.int v14), .val (.int v15), .val (.int r53), .unset, .unset]) (S' := []) (H' := (c0 :: bk0 p0_log p0_cur p0_prs p0_nRows p0_nCols p0_lights p0_logLen p0_status p0_solSet p0_solSize p0_solCount po)) rfl ?_
        exact ok_L_check_161 ih hk189 h
    · simp only [if_neg hc91] at h
      refine OEnds.icmpT hm_9 rfl (q := 189) rfl ((flt hc91).2.1) ?_
      show OEnds own_P 9 189 [.val (.ref 1), .val (.int v1), .val (.int v2), .val (.int v3), .val (.long v4), .second, .val (.int v6), .val (.long v7), .second, .val (.long v9), .second, .val (.int v11), .val (.int v12), .val (.int v13), .val (.int v14), .val (.int v15), .unset, .unset, .unset] [] (c0 :: bk0 p0_log p0_cur p0_prs p0_nRows p0_nCols p0_lights p0_logLen p0_status p0_solSet p0_solSize p0_solCount po) _
      exact hk189 h
theorem ok_L_check_97 {p0_log : List Int32} {p0_nRows : Int32} {p0_nCols : Int32} {p0_lights : Int64} {p0_logLen : Int32} {c0 : ACell} {po : List ACell} : ∀ {p0_cur : List Int32} {p0_prs : List Int32} {p0_status : Int32} {p0_solSet : Int64} {p0_solSize : Int32} {p0_solCount : Int32} {v1 : Int32} {v2 : Int32} {v3 : Int32} {v4 : Int64} {v6 : Int32} {v7 : Int64} {v9 : Int64} {v11 : Int32} {v12 : Int32} {v13 : Int32} {d14 d15 d16 d17 d18 : Slot} {res : Int32} {w_p0_cur : List Int32} {w_p0_prs : List Int32} {w_p0_status : Int32} {w_p0_solSet : Int64} {w_p0_solSize : Int32} {w_p0_solCount : Int32}, f_L_check_97 p0_nRows p0_nCols p0_lights p0_cur p0_prs p0_status p0_solSet p0_solSize p0_solCount v1 v2 v3 v4 v6 v7 v9 v11 v12 v13 = some (res, w_p0_cur, w_p0_prs, w_p0_status, w_p0_solSet, w_p0_solSize, w_p0_solCount) → OEnds own_P 9 97 [.val (.ref 1), .val (.int v1), .val (.int v2), .val (.int v3), .val (.long v4), .second, .val (.int v6), .val (.long v7), .second, .val (.long v9), .second, .val (.int v11), .val (.int v12), .val (.int v13), d14, d15, d16, d17, d18] [] (c0 :: bk0 p0_log p0_cur p0_prs p0_nRows p0_nCols p0_lights p0_logLen p0_status p0_solSet p0_solSize p0_solCount po) (some (.int res), (c0 :: bk0 p0_log w_p0_cur w_p0_prs p0_nRows p0_nCols p0_lights p0_logLen w_p0_status w_p0_solSet w_p0_solSize w_p0_solCount po), 0, 0) := by
  intro p0_cur p0_prs p0_status p0_solSet p0_solSize p0_solCount v1 v2 v3 v4 v6 v7 v9 v11 v12 v13 d14 d15 d16 d17 d18 res w_p0_cur w_p0_prs w_p0_status w_p0_solSet w_p0_solSize w_p0_solCount h
  unfold f_L_check_97 at h
  refine OEnds.adv hm_9 6 (pc' := 105) (L' := [.val (.ref 1), .val (.int v1), .val (.int v2), .val (.int v3), .val (.long v4), .second, .val (.int v6), .val (.long v7), .second, .val (.long v9), .second, .val (.int v11), .val (.int v12), .val (.int v13), .val (.int ((1 : Int32) <<< (v3 &&& 31))), .val (.int 1), .unset, .unset, .unset]) (S' := []) (H' := (c0 :: bk0 p0_log p0_cur p0_prs p0_nRows p0_nCols p0_lights p0_logLen p0_status p0_solSet p0_solSize p0_solCount po)) rfl ?_
  exact ok_L_check_105 (k189 := f_L_check_189 p0_nRows p0_nCols p0_lights) ok_L_check_189 100000 h
theorem ok_L_check_67 {p0_log : List Int32} {p0_nRows : Int32} {p0_nCols : Int32} {p0_lights : Int64} {p0_logLen : Int32} {c0 : ACell} {po : List ACell} : ∀ {p0_cur : List Int32} {p0_prs : List Int32} {p0_status : Int32} {p0_solSet : Int64} {p0_solSize : Int32} {p0_solCount : Int32} {v1 : Int32} {v2 : Int32} {v3 : Int32} {v4 : Int64} {v6 : Int32} {d7 d8 d9 d10 d11 d12 d13 d14 d15 d16 d17 d18 : Slot} {res : Int32} {w_p0_cur : List Int32} {w_p0_prs : List Int32} {w_p0_status : Int32} {w_p0_solSet : Int64} {w_p0_solSize : Int32} {w_p0_solCount : Int32}, f_L_check_67 p0_nRows p0_nCols p0_lights p0_cur p0_prs p0_status p0_solSet p0_solSize p0_solCount v1 v2 v3 v4 v6 = some (res, w_p0_cur, w_p0_prs, w_p0_status, w_p0_solSet, w_p0_solSize, w_p0_solCount) → OEnds own_P 9 67 [.val (.ref 1), .val (.int v1), .val (.int v2), .val (.int v3), .val (.long v4), .second, .val (.int v6), d7, d8, d9, d10, d11, d12, d13, d14, d15, d16, d17, d18] [] (c0 :: bk0 p0_log p0_cur p0_prs p0_nRows p0_nCols p0_lights p0_logLen p0_status p0_solSet p0_solSize p0_solCount po) (some (.int res), (c0 :: bk0 p0_log w_p0_cur w_p0_prs p0_nRows p0_nCols p0_lights p0_logLen w_p0_status w_p0_solSet w_p0_solSize w_p0_solCount po), 0, 0) := by
  intro p0_cur p0_prs p0_status p0_solSet p0_solSize p0_solCount v1 v2 v3 v4 v6 d7 d8 d9 d10 d11 d12 d13 d14 d15 d16 d17 d18 res w_p0_cur w_p0_prs w_p0_status w_p0_solSet w_p0_solSize w_p0_solCount h
  unfold f_L_check_67 at h
  refine OEnds.adv hm_9 15 (pc' := 88) (L' := [.val (.ref 1), .val (.int v1), .val (.int v2), .val (.int v3), .val (.long v4), .second, .val (.int v6), .val (.long 0), .second, .val (.long 0), .second, .val (.int 0), .val (.int 0), .val (.int (v3 + (1 : Int32))), .unset, .unset, .unset, .unset, .unset]) (S' := [.int (XT.cmpL v4 (0 : Int64))]) (H' := (c0 :: bk0 p0_log p0_cur p0_prs p0_nRows p0_nCols p0_lights p0_logLen p0_status p0_solSet p0_solSize p0_solCount po)) rfl ?_
  by_cases hc95 : v4 = (0 : Int64)
  · simp only [if_pos hc95] at h
    refine OEnds.ifF hm_9 rfl ((teq (c_eq.mpr hc95)).2) ?_
    refine OEnds.adv hm_9 4 (pc' := 97) (L' := [.val (.ref 1), .val (.int v1), .val (.int v2), .val (.int v3), .val (.long v4), .second, .val (.int v6), .val (.long 0), .second, .val (.long 0), .second, .val (.int 0), .val (.int 1), .val (.int 0), .unset, .unset, .unset, .unset, .unset]) (S' := []) (H' := (c0 :: bk0 p0_log p0_cur p0_prs p0_nRows p0_nCols p0_lights p0_logLen p0_status p0_solSet p0_solSize p0_solCount po)) rfl ?_
    exact ok_L_check_97 h
  · simp only [if_neg hc95] at h
    refine OEnds.ifT hm_9 rfl (q := 97) rfl ((feq (mt c_eq.mp hc95)).2) ?_
    show OEnds own_P 9 97 [.val (.ref 1), .val (.int v1), .val (.int v2), .val (.int v3), .val (.long v4), .second, .val (.int v6), .val (.long 0), .second, .val (.long 0), .second, .val (.int 0), .val (.int 0), .val (.int (v3 + (1 : Int32))), .unset, .unset, .unset, .unset, .unset] [] (c0 :: bk0 p0_log p0_cur p0_prs p0_nRows p0_nCols p0_lights p0_logLen p0_status p0_solSet p0_solSize p0_solCount po) _
    exact ok_L_check_97 h
theorem ok_L_check_46 {p0_log : List Int32} {p0_nRows : Int32} {p0_nCols : Int32} {p0_lights : Int64} {p0_logLen : Int32} {c0 : ACell} {po : List ACell} : ∀ {p0_cur : List Int32} {p0_prs : List Int32} {p0_status : Int32} {p0_solSet : Int64} {p0_solSize : Int32} {p0_solCount : Int32} {v1 : Int32} {v2 : Int32} {v3 : Int32} {v4 : Int64} {d6 d7 d8 d9 d10 d11 d12 d13 d14 d15 d16 d17 d18 : Slot} {res : Int32} {w_p0_cur : List Int32} {w_p0_prs : List Int32} {w_p0_status : Int32} {w_p0_solSet : Int64} {w_p0_solSize : Int32} {w_p0_solCount : Int32}, f_L_check_46 p0_nRows p0_nCols p0_lights p0_cur p0_prs p0_status p0_solSet p0_solSize p0_solCount v1 v2 v3 v4 = some (res, w_p0_cur, w_p0_prs, w_p0_status, w_p0_solSet, w_p0_solSize, w_p0_solCount) → OEnds own_P 9 46 [.val (.ref 1), .val (.int v1), .val (.int v2), .val (.int v3), .val (.long v4), .second, d6, d7, d8, d9, d10, d11, d12, d13, d14, d15, d16, d17, d18] [] (c0 :: bk0 p0_log p0_cur p0_prs p0_nRows p0_nCols p0_lights p0_logLen p0_status p0_solSet p0_solSize p0_solCount po) (some (.int res), (c0 :: bk0 p0_log w_p0_cur w_p0_prs p0_nRows p0_nCols p0_lights p0_logLen w_p0_status w_p0_solSet w_p0_solSize w_p0_solCount po), 0, 0) := by
  intro p0_cur p0_prs p0_status p0_solSet p0_solSize p0_solCount v1 v2 v3 v4 d6 d7 d8 d9 d10 d11 d12 d13 d14 d15 d16 d17 d18 res w_p0_cur w_p0_prs w_p0_status w_p0_solSet w_p0_solSize w_p0_solCount h
  unfold f_L_check_46 at h
  refine OEnds.adv hm_9 1 (pc' := 47) (L' := [.val (.ref 1), .val (.int v1), .val (.int v2), .val (.int v3), .val (.long v4), .second, .unset, .unset, .unset, .unset, .unset, .unset, .unset, .unset, .unset, .unset, .unset, .unset, .unset]) (S' := [.ref 1]) (H' := (c0 :: bk0 p0_log p0_cur p0_prs p0_nRows p0_nCols p0_lights p0_logLen p0_status p0_solSet p0_solSize p0_solCount po)) rfl ?_
  obtain ⟨⟨r46, s47, s48, s49, s50, s51, s52⟩, hq96, h⟩ := bnd h
  refine OEnds.call0 hm_9 rfl rfl (by decide) rfl (as := [.ref 1]) (rest := []) rfl rfl (ok_solve hq96) ?_
  refine OEnds.adv hm_9 3 (pc' := 55) (L' := [.val (.ref 1), .val (.int v1), .val (.int v2), .val (.int v3), .val (.long v4), .second, .val (.int r46), .unset, .unset, .unset, .unset, .unset, .unset, .unset, .unset, .unset, .unset, .unset, .unset]) (S' := [.int 1, .int r46]) (H' := (c0 :: bk0 p0_log s47 s48 p0_nRows p0_nCols p0_lights p0_logLen s49 s50 s51 s52 po)) rfl ?_
  by_cases hc97 : r46 = (1 : Int32)
  · simp only [if_pos hc97] at h
    refine OEnds.icmpT hm_9 rfl (q := 67) rfl ((teq hc97).1) ?_
    show OEnds own_P 9 67 [.val (.ref 1), .val (.int v1), .val (.int v2), .val (.int v3), .val (.long v4), .second, .val (.int r46), .unset, .unset, .unset, .unset, .unset, .unset, .unset, .unset, .unset, .unset, .unset, .unset] [] (c0 :: bk0 p0_log s47 s48 p0_nRows p0_nCols p0_lights p0_logLen s49 s50 s51 s52 po) _
    exact ok_L_check_67 h
  · simp only [if_neg hc97] at h
    refine OEnds.icmpF hm_9 rfl ((feq hc97).1) ?_
    refine OEnds.adv hm_9 2 (pc' := 61) (L' := [.val (.ref 1), .val (.int v1), .val (.int v2), .val (.int v3), .val (.long v4), .second, .val (.int r46), .unset, .unset, .unset, .unset, .unset, .unset, .unset, .unset, .unset, .unset, .unset, .unset]) (S' := [.int 2, .int r46]) (H' := (c0 :: bk0 p0_log s47 s48 p0_nRows p0_nCols p0_lights p0_logLen s49 s50 s51 s52 po)) rfl ?_
    by_cases hc98 : r46 = (2 : Int32)
    · simp only [if_pos hc98] at h
      refine OEnds.icmpT hm_9 rfl (q := 67) rfl ((teq hc98).1) ?_
      show OEnds own_P 9 67 [.val (.ref 1), .val (.int v1), .val (.int v2), .val (.int v3), .val (.long v4), .second, .val (.int r46), .unset, .unset, .unset, .unset, .unset, .unset, .unset, .unset, .unset, .unset, .unset, .unset] [] (c0 :: bk0 p0_log s47 s48 p0_nRows p0_nCols p0_lights p0_logLen s49 s50 s51 s52 po) _
      exact ok_L_check_67 h
    · simp only [if_neg hc98] at h
      refine OEnds.icmpF hm_9 rfl ((feq hc98).1) ?_
      refine OEnds.adv hm_9 1 (pc' := 66) (L' := [.val (.ref 1), .val (.int v1), .val (.int v2), .val (.int v3), .val (.long v4), .second, .val (.int r46), .unset, .unset, .unset, .unset, .unset, .unset, .unset, .unset, .unset, .unset, .unset, .unset]) (S' := [.int r46]) (H' := (c0 :: bk0 p0_log s47 s48 p0_nRows p0_nCols p0_lights p0_logLen s49 s50 s51 s52 po)) rfl ?_
      cases h
      exact OEnds.iret hm_9 rfl rfl
theorem ok_L_check_10 {p0_log : List Int32} {p0_nRows : Int32} {p0_nCols : Int32} {p0_lights : Int64} {p0_logLen : Int32} {c0 : ACell} {po : List ACell} {k46 : List Int32 → List Int32 → Int32 → Int64 → Int32 → Int32 → Int32 → Int32 → Int32 → Int64 → Option (Int32 × List Int32 × List Int32 × Int32 × Int64 × Int32 × Int32)} (hk46 : ∀ {p0_cur : List Int32} {p0_prs : List Int32} {p0_status : Int32} {p0_solSet : Int64} {p0_solSize : Int32} {p0_solCount : Int32} {v1 : Int32} {v2 : Int32} {v3 : Int32} {v4 : Int64} {d6 d7 d8 d9 d10 d11 d12 d13 d14 d15 d16 d17 d18 : Slot} {res : Int32} {w_p0_cur : List Int32} {w_p0_prs : List Int32} {w_p0_status : Int32} {w_p0_solSet : Int64} {w_p0_solSize : Int32} {w_p0_solCount : Int32}, k46 p0_cur p0_prs p0_status p0_solSet p0_solSize p0_solCount v1 v2 v3 v4 = some (res, w_p0_cur, w_p0_prs, w_p0_status, w_p0_solSet, w_p0_solSize, w_p0_solCount) → OEnds own_P 9 46 [.val (.ref 1), .val (.int v1), .val (.int v2), .val (.int v3), .val (.long v4), .second, d6, d7, d8, d9, d10, d11, d12, d13, d14, d15, d16, d17, d18] [] (c0 :: bk0 p0_log p0_cur p0_prs p0_nRows p0_nCols p0_lights p0_logLen p0_status p0_solSet p0_solSize p0_solCount po) (some (.int res), (c0 :: bk0 p0_log w_p0_cur w_p0_prs p0_nRows p0_nCols p0_lights p0_logLen w_p0_status w_p0_solSet w_p0_solSize w_p0_solCount po), 0, 0)) : ∀ (n : Nat), ∀ {p0_cur : List Int32} {p0_prs : List Int32} {p0_status : Int32} {p0_solSet : Int64} {p0_solSize : Int32} {p0_solCount : Int32} {v1 : Int32} {v2 : Int32} {v3 : Int32} {v4 : Int64} {v6 : Int32} {d7 d8 d9 d10 d11 d12 d13 d14 d15 d16 d17 d18 : Slot} {res : Int32} {w_p0_cur : List Int32} {w_p0_prs : List Int32} {w_p0_status : Int32} {w_p0_solSet : Int64} {w_p0_solSize : Int32} {w_p0_solCount : Int32}, f_L_check_10 k46 p0_nRows p0_nCols p0_lights n p0_cur p0_prs p0_status p0_solSet p0_solSize p0_solCount v1 v2 v3 v4 v6 = some (res, w_p0_cur, w_p0_prs, w_p0_status, w_p0_solSet, w_p0_solSize, w_p0_solCount) → OEnds own_P 9 10 [.val (.ref 1), .val (.int v1), .val (.int v2), .val (.int v3), .val (.long v4), .second, .val (.int v6), d7, d8, d9, d10, d11, d12, d13, d14, d15, d16, d17, d18] [] (c0 :: bk0 p0_log p0_cur p0_prs p0_nRows p0_nCols p0_lights p0_logLen p0_status p0_solSet p0_solSize p0_solCount po) (some (.int res), (c0 :: bk0 p0_log w_p0_cur w_p0_prs p0_nRows p0_nCols p0_lights p0_logLen w_p0_status w_p0_solSet w_p0_solSize w_p0_solCount po), 0, 0) := by
  intro n
  induction n with
  | zero => intro p0_cur p0_prs p0_status p0_solSet p0_solSize p0_solCount v1 v2 v3 v4 v6 d7 d8 d9 d10 d11 d12 d13 d14 d15 d16 d17 d18 res w_p0_cur w_p0_prs w_p0_status w_p0_solSet w_p0_solSize w_p0_solCount h; cases h
  | succ n ih =>
    intro p0_cur p0_prs p0_status p0_solSet p0_solSize p0_solCount v1 v2 v3 v4 v6 d7 d8 d9 d10 d11 d12 d13 d14 d15 d16 d17 d18 res w_p0_cur w_p0_prs w_p0_status w_p0_solSet w_p0_solSize w_p0_solCount h
    unfold f_L_check_10 at h
    refine OEnds.adv hm_9 2 (pc' := 13) (L' := [.val (.ref 1), .val (.int v1), .val (.int v2), .val (.int v3), .val (.long v4), .second, .val (.int v6), .unset, .unset, .unset, .unset, .unset, .unset, .unset, .unset, .unset, .unset, .unset, .unset]) (S' := [.int v3, .int v6]) (H' := (c0 :: bk0 p0_log p0_cur p0_prs p0_nRows p0_nCols p0_lights p0_logLen p0_status p0_solSet p0_solSize p0_solCount po)) rfl ?_
    by_cases hc99 : v6 < v3
    · simp only [if_pos hc99] at h
      refine OEnds.icmpF hm_9 rfl ((tlt hc99).2.1) ?_
      refine OEnds.adv hm_9 3 (pc' := 20) (L' := [.val (.ref 1), .val (.int v1), .val (.int v2), .val (.int v3), .val (.long v4), .second, .val (.int v6), .unset, .unset, .unset, .unset, .unset, .unset, .unset, .unset, .unset, .unset, .unset, .unset]) (S' := [.int v2, .int v6, .ref 1]) (H' := (c0 :: bk0 p0_log p0_cur p0_prs p0_nRows p0_nCols p0_lights p0_logLen p0_status p0_solSet p0_solSize p0_solCount po)) rfl ?_
      by_cases hz100 : v2 = 0
      · simp only [if_pos hz100] at h
        cases h
      simp only [if_neg hz100] at h
      refine OEnds.plain hm_9 rfl rfl (x_idiv hz100) ?_
      refine OEnds.adv hm_9 2 (pc' := 24) (L' := [.val (.ref 1), .val (.int v1), .val (.int v2), .val (.int v3), .val (.long v4), .second, .val (.int v6), .unset, .unset, .unset, .unset, .unset, .unset, .unset, .unset, .unset, .unset, .unset, .unset]) (S' := [.int v2, .int v6, .int (v6 / v2), .ref 1]) (H' := (c0 :: bk0 p0_log p0_cur p0_prs p0_nRows p0_nCols p0_lights p0_logLen p0_status p0_solSet p0_solSize p0_solCount po)) rfl ?_
      refine OEnds.plain hm_9 rfl rfl (x_irem hz100) ?_
      show OEnds own_P 9 25 [.val (.ref 1), .val (.int v1), .val (.int v2), .val (.int v3), .val (.long v4), .second, .val (.int v6), .unset, .unset, .unset, .unset, .unset, .unset, .unset, .unset, .unset, .unset, .unset, .unset] [.int (v6 % v2), .int (v6 / v2), .ref 1] (c0 :: bk0 p0_log p0_cur p0_prs p0_nRows p0_nCols p0_lights p0_logLen p0_status p0_solSet p0_solSize p0_solCount po) _
      obtain ⟨r45, hq101, h⟩ := bnd h
      refine OEnds.call0 hm_9 rfl rfl (by decide) rfl (as := [.ref 1, .int (v6 / v2), .int (v6 % v2)]) (rest := []) rfl rfl (ok_isLit hq101) ?_
      show OEnds own_P 9 28 [.val (.ref 1), .val (.int v1), .val (.int v2), .val (.int v3), .val (.long v4), .second, .val (.int v6), .unset, .unset, .unset, .unset, .unset, .unset, .unset, .unset, .unset, .unset, .unset, .unset] [.int r45] (c0 :: bk0 p0_log p0_cur p0_prs p0_nRows p0_nCols p0_lights p0_logLen p0_status p0_solSet p0_solSize p0_solCount po) _
      by_cases hc102 : r45 = (0 : Int32)
      · simp only [if_pos hc102] at h
        refine OEnds.ifT hm_9 rfl (q := 40) rfl ((teq hc102).1) ?_
        refine OEnds.adv hm_9 2 (pc' := 10) (L' := [.val (.ref 1), .val (.int v1), .val (.int v2), .val (.int v3), .val (.long v4), .second, .val (.int (v6 + (1 : Int32))), .unset, .unset, .unset, .unset, .unset, .unset, .unset, .unset, .unset, .unset, .unset, .unset]) (S' := []) (H' := (c0 :: bk0 p0_log p0_cur p0_prs p0_nRows p0_nCols p0_lights p0_logLen p0_status p0_solSet p0_solSize p0_solCount po)) rfl ?_
        exact ih h
      · simp only [if_neg hc102] at h
        refine OEnds.ifF hm_9 rfl ((feq hc102).1) ?_
        refine OEnds.adv hm_9 8 (pc' := 10) (L' := [.val (.ref 1), .val (.int v1), .val (.int v2), .val (.int v3), .val (.long (v4 ||| ((1 : Int64) <<< (v6.toInt64 &&& 63)))), .second, .val (.int (v6 + (1 : Int32))), .unset, .unset, .unset, .unset, .unset, .unset, .unset, .unset, .unset, .unset, .unset, .unset]) (S' := []) (H' := (c0 :: bk0 p0_log p0_cur p0_prs p0_nRows p0_nCols p0_lights p0_logLen p0_status p0_solSet p0_solSize p0_solCount po)) rfl ?_
        exact ih h
    · simp only [if_neg hc99] at h
      refine OEnds.icmpT hm_9 rfl (q := 46) rfl ((flt hc99).2.1) ?_
      show OEnds own_P 9 46 [.val (.ref 1), .val (.int v1), .val (.int v2), .val (.int v3), .val (.long v4), .second, .val (.int v6), .unset, .unset, .unset, .unset, .unset, .unset, .unset, .unset, .unset, .unset, .unset, .unset] [] (c0 :: bk0 p0_log p0_cur p0_prs p0_nRows p0_nCols p0_lights p0_logLen p0_status p0_solSet p0_solSize p0_solCount po) _
      exact hk46 h
theorem ok_L_check {p0_log : List Int32} {p0_nRows : Int32} {p0_nCols : Int32} {p0_lights : Int64} {p0_logLen : Int32} {c0 : ACell} {po : List ACell} {p0_cur : List Int32} {p0_prs : List Int32} {p0_status : Int32} {p0_solSet : Int64} {p0_solSize : Int32} {p0_solCount : Int32} {v1 : Int32} {v2 : Int32} {res : Int32} {w_p0_cur : List Int32} {w_p0_prs : List Int32} {w_p0_status : Int32} {w_p0_solSet : Int64} {w_p0_solSize : Int32} {w_p0_solCount : Int32} (h : f_L_check p0_nRows p0_nCols p0_lights p0_cur p0_prs p0_status p0_solSet p0_solSize p0_solCount v1 v2 = some (res, w_p0_cur, w_p0_prs, w_p0_status, w_p0_solSet, w_p0_solSize, w_p0_solCount)) : OEnds own_P 9 0 [.val (.ref 1), .val (.int v1), .val (.int v2), .unset, .unset, .unset, .unset, .unset, .unset, .unset, .unset, .unset, .unset, .unset, .unset, .unset, .unset, .unset, .unset] [] (c0 :: bk0 p0_log p0_cur p0_prs p0_nRows p0_nCols p0_lights p0_logLen p0_status p0_solSet p0_solSize p0_solCount po) (some (.int res), (c0 :: bk0 p0_log w_p0_cur w_p0_prs p0_nRows p0_nCols p0_lights p0_logLen w_p0_status w_p0_solSet w_p0_solSize w_p0_solCount po), 0, 0) := by
  unfold f_L_check at h
  refine OEnds.adv hm_9 8 (pc' := 10) (L' := [.val (.ref 1), .val (.int v1), .val (.int v2), .val (.int (v1 * v2)), .val (.long 0), .second, .val (.int 0), .unset, .unset, .unset, .unset, .unset, .unset, .unset, .unset, .unset, .unset, .unset, .unset]) (S' := []) (H' := (c0 :: bk0 p0_log p0_cur p0_prs p0_nRows p0_nCols p0_lights p0_logLen p0_status p0_solSet p0_solSize p0_solCount po)) rfl ?_
  exact ok_L_check_10 (k46 := f_L_check_46 p0_nRows p0_nCols p0_lights) ok_L_check_46 100000 h
theorem ok_applySolution_38 {o_cur : List Int32} {o_prs : List Int32} {o_nRows : Int32} {o_nCols : Int32} {o_status : Int32} {o_solSet : Int64} {o_solSize : Int32} {o_solCount : Int32} {c0 : ACell} {po : List ACell} : ∀ (n : Nat), ∀ {o_log : List Int32} {o_lights : Int64} {o_logLen : Int32} {v1 : Int32} {v2 : Int32} {res : Int32} {w_o_log : List Int32} {w_o_lights : Int64} {w_o_logLen : Int32}, f_applySolution_38 o_nRows o_nCols o_status o_solSet o_solSize n o_log o_lights o_logLen v1 v2 = some (res, w_o_log, w_o_lights, w_o_logLen) → OEnds own_P 25 38 [.val (.ref 1), .val (.int v1), .val (.int v2)] [] (c0 :: bk0 o_log o_cur o_prs o_nRows o_nCols o_lights o_logLen o_status o_solSet o_solSize o_solCount po) (some (.int res), (c0 :: bk0 w_o_log o_cur o_prs o_nRows o_nCols w_o_lights w_o_logLen o_status o_solSet o_solSize o_solCount po), 0, 0) := by
  intro n
  induction n with
  | zero => intro o_log o_lights o_logLen v1 v2 res w_o_log w_o_lights w_o_logLen h; cases h
  | succ n ih =>
    intro o_log o_lights o_logLen v1 v2 res w_o_log w_o_lights w_o_logLen h
    unfold f_applySolution_38 at h
    refine OEnds.adv hm_25 2 (pc' := 40) (L' := [.val (.ref 1), .val (.int v1), .val (.int v2)]) (S' := [.int v1, .int v2]) (H' := (c0 :: bk0 o_log o_cur o_prs o_nRows o_nCols o_lights o_logLen o_status o_solSet o_solSize o_solCount po)) rfl ?_
    by_cases hc103 : v2 < v1
    · simp only [if_pos hc103] at h
      refine OEnds.icmpF hm_25 rfl ((tlt hc103).2.1) ?_
      refine OEnds.adv hm_25 8 (pc' := 53) (L' := [.val (.ref 1), .val (.int v1), .val (.int v2)]) (S' := [.int (XT.cmpL ((XT.ushrL o_solSet v2) &&& (1 : Int64)) (0 : Int64))]) (H' := (c0 :: bk0 o_log o_cur o_prs o_nRows o_nCols o_lights o_logLen o_status o_solSet o_solSize o_solCount po)) rfl ?_
      by_cases hc104 : ((XT.ushrL o_solSet v2) &&& (1 : Int64)) = (0 : Int64)
      · simp only [if_pos hc104] at h
        refine OEnds.ifF hm_25 rfl ((teq (c_eq.mpr hc104)).2) ?_
        refine OEnds.adv hm_25 3 (pc' := 38) (L' := [.val (.ref 1), .val (.int v1), .val (.int (v2 + (1 : Int32)))]) (S' := []) (H' := (c0 :: bk0 o_log o_cur o_prs o_nRows o_nCols o_lights o_logLen o_status o_solSet o_solSize o_solCount po)) rfl ?_
        exact ih h
      · simp only [if_neg hc104] at h
        refine OEnds.ifT hm_25 rfl (q := 59) rfl ((feq (mt c_eq.mp hc104)).2) ?_
        refine OEnds.adv hm_25 3 (pc' := 65) (L' := [.val (.ref 1), .val (.int v1), .val (.int v2)]) (S' := [.int 64, .int o_logLen]) (H' := (c0 :: bk0 o_log o_cur o_prs o_nRows o_nCols o_lights o_logLen o_status o_solSet o_solSize o_solCount po)) rfl ?_
        by_cases hc105 : o_logLen < (64 : Int32)
        · simp only [if_pos hc105] at h
          refine OEnds.icmpT hm_25 rfl (q := 71) rfl ((tlt hc105).1) ?_
          refine OEnds.adv hm_25 4 (pc' := 77) (L' := [.val (.ref 1), .val (.int v1), .val (.int v2)]) (S' := [.int o_nCols, .int v2, .ref 1]) (H' := (c0 :: bk0 o_log o_cur o_prs o_nRows o_nCols o_lights o_logLen o_status o_solSet o_solSize o_solCount po)) rfl ?_
          by_cases hz106 : o_nCols = 0
          · simp only [if_pos hz106] at h
            cases h
          simp only [if_neg hz106] at h
          refine OEnds.plain hm_25 rfl rfl (x_idiv hz106) ?_
          refine OEnds.adv hm_25 3 (pc' := 83) (L' := [.val (.ref 1), .val (.int v1), .val (.int v2)]) (S' := [.int o_nCols, .int v2, .int (v2 / o_nCols), .ref 1]) (H' := (c0 :: bk0 o_log o_cur o_prs o_nRows o_nCols o_lights o_logLen o_status o_solSet o_solSize o_solCount po)) rfl ?_
          refine OEnds.plain hm_25 rfl rfl (x_irem hz106) ?_
          show OEnds own_P 25 84 [.val (.ref 1), .val (.int v1), .val (.int v2)] [.int (v2 % o_nCols), .int (v2 / o_nCols), .ref 1] (c0 :: bk0 o_log o_cur o_prs o_nRows o_nCols o_lights o_logLen o_status o_solSet o_solSize o_solCount po) _
          obtain ⟨s61, hq107, h⟩ := bnd h
          refine OEnds.call0 hm_25 rfl rfl (by decide) rfl (as := [.ref 1, .int (v2 / o_nCols), .int (v2 % o_nCols)]) (rest := []) rfl rfl (ok_toggleCell hq107) ?_
          refine OEnds.adv hm_25 5 (pc' := 96) (L' := [.val (.ref 1), .val (.int v1), .val (.int v2)]) (S' := [.int v2, .int o_logLen, .ref 2]) (H' := (c0 :: bk0 o_log o_cur o_prs o_nRows o_nCols s61 o_logLen o_status o_solSet o_solSize o_solCount po)) rfl ?_
          obtain ⟨A62, hA62, h⟩ := bnd h
          refine OEnds.plain hm_25 rfl rfl (x_iastore rfl (Nat.le_of_ble_eq_true rfl) hA62) ?_
          refine OEnds.adv hm_25 8 (pc' := 38) (L' := [.val (.ref 1), .val (.int v1), .val (.int (v2 + (1 : Int32)))]) (S' := []) (H' := (c0 :: bk0 A62 o_cur o_prs o_nRows o_nCols s61 (o_logLen + (1 : Int32)) o_status o_solSet o_solSize o_solCount po)) rfl ?_
          exact ih h
        · simp only [if_neg hc105] at h
          refine OEnds.icmpF hm_25 rfl ((flt hc105).1) ?_
          refine OEnds.adv hm_25 2 (pc' := 114) (L' := [.val (.ref 1), .val (.int v1), .val (.int v2)]) (S' := [.int 1]) (H' := (c0 :: bk0 o_log o_cur o_prs o_nRows o_nCols o_lights o_logLen o_status o_solSet o_solSize o_solCount po)) rfl ?_
          cases h
          exact OEnds.iret hm_25 rfl rfl
    · simp only [if_neg hc103] at h
      refine OEnds.icmpT hm_25 rfl (q := 113) rfl ((flt hc103).2.1) ?_
      refine OEnds.adv hm_25 1 (pc' := 114) (L' := [.val (.ref 1), .val (.int v1), .val (.int v2)]) (S' := [.int 1]) (H' := (c0 :: bk0 o_log o_cur o_prs o_nRows o_nCols o_lights o_logLen o_status o_solSet o_solSize o_solCount po)) rfl ?_
      cases h
      exact OEnds.iret hm_25 rfl rfl
theorem ok_applySolution {o_cur : List Int32} {o_prs : List Int32} {o_nRows : Int32} {o_nCols : Int32} {o_status : Int32} {o_solSet : Int64} {o_solSize : Int32} {o_solCount : Int32} {c0 : ACell} {po : List ACell} {o_log : List Int32} {o_lights : Int64} {o_logLen : Int32} {res : Int32} {w_o_log : List Int32} {w_o_lights : Int64} {w_o_logLen : Int32} (h : f_applySolution o_nRows o_nCols o_status o_solSet o_solSize o_log o_lights o_logLen = some (res, w_o_log, w_o_lights, w_o_logLen)) : OEnds own_P 25 0 [.val (.ref 1), .unset, .unset] [] (c0 :: bk0 o_log o_cur o_prs o_nRows o_nCols o_lights o_logLen o_status o_solSet o_solSize o_solCount po) (some (.int res), (c0 :: bk0 w_o_log o_cur o_prs o_nRows o_nCols w_o_lights w_o_logLen o_status o_solSet o_solSize o_solCount po), 0, 0) := by
  unfold f_applySolution at h
  refine OEnds.adv hm_25 3 (pc' := 5) (L' := [.val (.ref 1), .unset, .unset]) (S' := [.int 1, .int o_status]) (H' := (c0 :: bk0 o_log o_cur o_prs o_nRows o_nCols o_lights o_logLen o_status o_solSet o_solSize o_solCount po)) rfl ?_
  by_cases hc108 : o_status = (1 : Int32)
  · simp only [if_pos hc108] at h
    refine OEnds.icmpT hm_25 rfl (q := 10) rfl ((teq hc108).1) ?_
    refine OEnds.adv hm_25 6 (pc' := 21) (L' := [.val (.ref 1), .unset, .unset]) (S' := [.int 64, .int (o_logLen + o_solSize)]) (H' := (c0 :: bk0 o_log o_cur o_prs o_nRows o_nCols o_lights o_logLen o_status o_solSet o_solSize o_solCount po)) rfl ?_
    by_cases hc109 : (64 : Int32) < (o_logLen + o_solSize)
    · simp only [if_pos hc109] at h
      refine OEnds.icmpF hm_25 rfl ((tlt hc109).2.2.2) ?_
      refine OEnds.adv hm_25 1 (pc' := 25) (L' := [.val (.ref 1), .unset, .unset]) (S' := [.int 0]) (H' := (c0 :: bk0 o_log o_cur o_prs o_nRows o_nCols o_lights o_logLen o_status o_solSet o_solSize o_solCount po)) rfl ?_
      cases h
      exact OEnds.iret hm_25 rfl rfl
    · simp only [if_neg hc109] at h
      refine OEnds.icmpT hm_25 rfl (q := 26) rfl ((flt hc109).2.2.2) ?_
      refine OEnds.adv hm_25 8 (pc' := 38) (L' := [.val (.ref 1), .val (.int (o_nRows * o_nCols)), .val (.int 0)]) (S' := []) (H' := (c0 :: bk0 o_log o_cur o_prs o_nRows o_nCols o_lights o_logLen o_status o_solSet o_solSize o_solCount po)) rfl ?_
      exact ok_applySolution_38 100000 h
  · simp only [if_neg hc108] at h
    refine OEnds.icmpF hm_25 rfl ((feq hc108).1) ?_
    refine OEnds.adv hm_25 1 (pc' := 9) (L' := [.val (.ref 1), .unset, .unset]) (S' := [.int 0]) (H' := (c0 :: bk0 o_log o_cur o_prs o_nRows o_nCols o_lights o_logLen o_status o_solSet o_solSize o_solCount po)) rfl ?_
    cases h
    exact OEnds.iret hm_25 rfl rfl
theorem ok_litCount {o_log : List Int32} {o_cur : List Int32} {o_prs : List Int32} {o_nRows : Int32} {o_nCols : Int32} {o_lights : Int64} {o_logLen : Int32} {o_status : Int32} {o_solSet : Int64} {o_solSize : Int32} {o_solCount : Int32} {c0 : ACell} {po : List ACell} {res : Int32} (h : f_litCount o_lights = some res) : OEnds own_P 26 0 [.val (.ref 1)] [] (c0 :: bk0 o_log o_cur o_prs o_nRows o_nCols o_lights o_logLen o_status o_solSet o_solSize o_solCount po) (some (.int res), (c0 :: bk0 o_log o_cur o_prs o_nRows o_nCols o_lights o_logLen o_status o_solSet o_solSize o_solCount po), 0, 0) := by
  unfold f_litCount at h
  refine OEnds.adv hm_26 2 (pc' := 4) (L' := [.val (.ref 1)]) (S' := [.long o_lights]) (H' := (c0 :: bk0 o_log o_cur o_prs o_nRows o_nCols o_lights o_logLen o_status o_solSet o_solSize o_solCount po)) rfl ?_
  obtain ⟨r63, hq110, h⟩ := bnd h
  refine OEnds.call0 hm_26 rfl rfl (by decide) rfl (as := [.long o_lights]) (rest := []) rfl rfl (ok_popCount hq110) ?_
  show OEnds own_P 26 7 [.val (.ref 1)] [.int r63] (c0 :: bk0 o_log o_cur o_prs o_nRows o_nCols o_lights o_logLen o_status o_solSet o_solSize o_solCount po) _
  cases h
  exact OEnds.iret hm_26 rfl rfl
theorem ok_clear {o_log : List Int32} {o_cur : List Int32} {o_prs : List Int32} {o_nRows : Int32} {o_nCols : Int32} {c0 : ACell} {po : List ACell} {o_lights : Int64} {o_logLen : Int32} {o_status : Int32} {o_solSet : Int64} {o_solSize : Int32} {o_solCount : Int32} {w_o_lights : Int64} {w_o_logLen : Int32} {w_o_status : Int32} {w_o_solSet : Int64} {w_o_solSize : Int32} {w_o_solCount : Int32} (h : f_clear o_lights o_logLen o_status o_solSet o_solSize o_solCount = some (w_o_lights, w_o_logLen, w_o_status, w_o_solSet, w_o_solSize, w_o_solCount)) : OEnds own_P 27 0 [.val (.ref 1)] [] (c0 :: bk0 o_log o_cur o_prs o_nRows o_nCols o_lights o_logLen o_status o_solSet o_solSize o_solCount po) (none, (c0 :: bk0 o_log o_cur o_prs o_nRows o_nCols w_o_lights w_o_logLen w_o_status w_o_solSet w_o_solSize w_o_solCount po), 0, 0) := by
  unfold f_clear at h
  refine OEnds.adv hm_27 7 (pc' := 11) (L' := [.val (.ref 1)]) (S' := [.ref 1]) (H' := (c0 :: bk0 o_log o_cur o_prs o_nRows o_nCols 0 0 o_status o_solSet o_solSize o_solCount po)) rfl ?_
  obtain ⟨⟨s64, s65, s66, s67⟩, hq111, h⟩ := bnd h
  refine OEnds.call0 hm_27 rfl rfl (by decide) rfl (as := [.ref 1]) (rest := []) rfl rfl (ok_forgetResult hq111) ?_
  show OEnds own_P 27 14 [.val (.ref 1)] [] (c0 :: bk0 o_log o_cur o_prs o_nRows o_nCols 0 0 s64 s65 s66 s67 po) _
  cases h
  exact OEnds.vret hm_27 rfl rfl
theorem ok_L_law_246 {scr : List Int32} : ∀ {n0_cur : List Int32} {n0_prs : List Int32} {n0_nRows : Int32} {n0_nCols : Int32} {n0_lights : Int64} {n0_status : Int32} {n0_solSet : Int64} {n0_solSize : Int32} {n0_solCount : Int32} {v1 : Int32} {v2 : Int32} {n0_logLen : Int32} {n0_log : List Int32} {d0 d4 d5 d6 d7 d8 d9 d10 d11 : Slot} {res : Int32}, f_L_law_246 scr n0_cur n0_prs n0_nRows n0_nCols n0_lights n0_status n0_solSet n0_solSize n0_solCount v1 v2 = some res → OEndsQ own_P 0 246 [d0, .val (.int v1), .val (.int v2), .val (.ref 1), d4, d5, d6, d7, d8, d9, d10, d11] [] ((.inr (.inl (false, scr)) : ACell) :: bk0 n0_log n0_cur n0_prs n0_nRows n0_nCols n0_lights n0_logLen n0_status n0_solSet n0_solSize n0_solCount []) (LawQ res 0 0) := by
  intro n0_cur n0_prs n0_nRows n0_nCols n0_lights n0_status n0_solSet n0_solSize n0_solCount v1 v2 n0_logLen n0_log d0 d4 d5 d6 d7 d8 d9 d10 d11 res h
  unfold f_L_law_246 at h
  refine OEndsQ.adv hm_0 3 (pc' := 249) (L' := [.unset, .val (.int v1), .val (.int v2), .val (.ref 1), .unset, .unset, .unset, .unset, .unset, .unset, .unset, .unset]) (S' := [.int v2, .int v1, .ref 1]) (H' := ((.inr (.inl (false, scr)) : ACell) :: bk0 n0_log n0_cur n0_prs n0_nRows n0_nCols n0_lights n0_logLen n0_status n0_solSet n0_solSize n0_solCount [])) rfl ?_
  obtain ⟨⟨r110, s111, s112, s113, s114, s115, s116⟩, hq112, h⟩ := bnd h
  refine OEndsQ.call0 hm_0 rfl rfl (by decide) rfl (as := [.ref 1, .int v1, .int v2]) (rest := []) rfl rfl (ok_L_check hq112) ?_
  show OEndsQ own_P 0 252 [.unset, .val (.int v1), .val (.int v2), .val (.ref 1), .unset, .unset, .unset, .unset, .unset, .unset, .unset, .unset] [.int r110] ((.inr (.inl (false, scr)) : ACell) :: bk0 n0_log s111 s112 n0_nRows n0_nCols n0_lights n0_logLen s113 s114 s115 s116 []) _
  by_cases hc113 : r110 < (0 : Int32)
  · simp only [if_pos hc113] at h
    refine OEndsQ.ifT hm_0 rfl (q := 259) rfl ((tlt hc113).1) ?_
    refine OEndsQ.adv hm_0 1 (pc' := 260) (L' := [.unset, .val (.int v1), .val (.int v2), .val (.ref 1), .unset, .unset, .unset, .unset, .unset, .unset, .unset, .unset]) (S' := [.int 0]) (H' := ((.inr (.inl (false, scr)) : ACell) :: bk0 n0_log s111 s112 n0_nRows n0_nCols n0_lights n0_logLen s113 s114 s115 s116 [])) rfl ?_
    cases h
    exact OEndsQ.iret hm_0 rfl rfl
  · simp only [if_neg hc113] at h
    refine OEndsQ.ifF hm_0 rfl ((flt hc113).1) ?_
    refine OEndsQ.adv hm_0 2 (pc' := 260) (L' := [.unset, .val (.int v1), .val (.int v2), .val (.ref 1), .unset, .unset, .unset, .unset, .unset, .unset, .unset, .unset]) (S' := [.int 1]) (H' := ((.inr (.inl (false, scr)) : ACell) :: bk0 n0_log s111 s112 n0_nRows n0_nCols n0_lights n0_logLen s113 s114 s115 s116 [])) rfl ?_
    cases h
    exact OEndsQ.iret hm_0 rfl rfl
theorem ok_L_law_36 {scr : List Int32} {k246 : List Int32 → List Int32 → Int32 → Int32 → Int64 → Int32 → Int64 → Int32 → Int32 → Int32 → Int32 → Option (Int32)} (hk246 : ∀ {n0_cur : List Int32} {n0_prs : List Int32} {n0_nRows : Int32} {n0_nCols : Int32} {n0_lights : Int64} {n0_status : Int32} {n0_solSet : Int64} {n0_solSize : Int32} {n0_solCount : Int32} {v1 : Int32} {v2 : Int32} {n0_logLen : Int32} {n0_log : List Int32} {d0 d4 d5 d6 d7 d8 d9 d10 d11 : Slot} {res : Int32}, k246 n0_cur n0_prs n0_nRows n0_nCols n0_lights n0_status n0_solSet n0_solSize n0_solCount v1 v2 = some res → OEndsQ own_P 0 246 [d0, .val (.int v1), .val (.int v2), .val (.ref 1), d4, d5, d6, d7, d8, d9, d10, d11] [] ((.inr (.inl (false, scr)) : ACell) :: bk0 n0_log n0_cur n0_prs n0_nRows n0_nCols n0_lights n0_logLen n0_status n0_solSet n0_solSize n0_solCount []) (LawQ res 0 0)) : ∀ (n : Nat), ∀ {n0_log : List Int32} {n0_cur : List Int32} {n0_prs : List Int32} {n0_nRows : Int32} {n0_nCols : Int32} {n0_lights : Int64} {n0_logLen : Int32} {n0_status : Int32} {n0_solSet : Int64} {n0_solSize : Int32} {n0_solCount : Int32} {v1 : Int32} {v2 : Int32} {v4 : Int32} {v5 : Int32} {d6 d7 d8 d9 d10 d11 : Slot} {res : Int32}, f_L_law_36 k246 scr n n0_log n0_cur n0_prs n0_nRows n0_nCols n0_lights n0_logLen n0_status n0_solSet n0_solSize n0_solCount v1 v2 v4 v5 = some res → OEndsQ own_P 0 36 [.val (.ref 0), .val (.int v1), .val (.int v2), .val (.ref 1), .val (.int v4), .val (.int v5), d6, d7, d8, d9, d10, d11] [] ((.inr (.inl (false, scr)) : ACell) :: bk0 n0_log n0_cur n0_prs n0_nRows n0_nCols n0_lights n0_logLen n0_status n0_solSet n0_solSize n0_solCount []) (LawQ res 0 0) := by
  intro n
  induction n with
  | zero => intro n0_log n0_cur n0_prs n0_nRows n0_nCols n0_lights n0_logLen n0_status n0_solSet n0_solSize n0_solCount v1 v2 v4 v5 d6 d7 d8 d9 d10 d11 res h; cases h
  | succ n ih =>
    intro n0_log n0_cur n0_prs n0_nRows n0_nCols n0_lights n0_logLen n0_status n0_solSet n0_solSize n0_solCount v1 v2 v4 v5 d6 d7 d8 d9 d10 d11 res h
    unfold f_L_law_36 at h
    refine OEndsQ.adv hm_0 3 (pc' := 40) (L' := [.val (.ref 0), .val (.int v1), .val (.int v2), .val (.ref 1), .val (.int v4), .val (.int v5), .unset, .unset, .unset, .unset, .unset, .unset]) (S' := [.int scr.length.toInt32, .int v5]) (H' := ((.inr (.inl (false, scr)) : ACell) :: bk0 n0_log n0_cur n0_prs n0_nRows n0_nCols n0_lights n0_logLen n0_status n0_solSet n0_solSize n0_solCount [])) rfl ?_
    by_cases hc114 : v5 < scr.length.toInt32
    · simp only [if_pos hc114] at h
      refine OEndsQ.icmpF hm_0 rfl ((tlt hc114).2.1) ?_
      refine OEndsQ.adv hm_0 2 (pc' := 46) (L' := [.val (.ref 0), .val (.int v1), .val (.int v2), .val (.ref 1), .val (.int v4), .val (.int v5), .unset, .unset, .unset, .unset, .unset, .unset]) (S' := [.int v5, .ref 0]) (H' := ((.inr (.inl (false, scr)) : ACell) :: bk0 n0_log n0_cur n0_prs n0_nRows n0_nCols n0_lights n0_logLen n0_status n0_solSet n0_solSize n0_solCount [])) rfl ?_
      obtain ⟨r81, hq115, h⟩ := bnd h
      refine OEndsQ.call0 hm_0 rfl rfl (by decide) rfl (as := [.ref 0, .int v5]) (rest := []) rfl rfl (ok_L_cell hq115) ?_
      refine OEndsQ.adv hm_0 9 (pc' := 62) (L' := [.val (.ref 0), .val (.int v1), .val (.int v2), .val (.ref 1), .val (.int v4), .val (.int v5), .val (.int ((r81 &&& (2147483647 : Int32)) % (6 : Int32))), .unset, .unset, .unset, .unset, .unset]) (S' := [.int (v5 + (1 : Int32)), .ref 0]) (H' := ((.inr (.inl (false, scr)) : ACell) :: bk0 n0_log n0_cur n0_prs n0_nRows n0_nCols n0_lights n0_logLen n0_status n0_solSet n0_solSize n0_solCount [])) rfl ?_
      obtain ⟨r82, hq116, h⟩ := bnd h
      refine OEndsQ.call0 hm_0 rfl rfl (by decide) rfl (as := [.ref 0, .int (v5 + (1 : Int32))]) (rest := []) rfl rfl (ok_L_cell hq116) ?_
      refine OEndsQ.adv hm_0 5 (pc' := 74) (L' := [.val (.ref 0), .val (.int v1), .val (.int v2), .val (.ref 1), .val (.int v4), .val (.int v5), .val (.int ((r81 &&& (2147483647 : Int32)) % (6 : Int32))), .val (.int r82), .unset, .unset, .unset, .unset]) (S' := [.int v1, .int (r82 &&& (255 : Int32))]) (H' := ((.inr (.inl (false, scr)) : ACell) :: bk0 n0_log n0_cur n0_prs n0_nRows n0_nCols n0_lights n0_logLen n0_status n0_solSet n0_solSize n0_solCount [])) rfl ?_
      by_cases hz117 : v1 = 0
      · simp only [if_pos hz117] at h
        cases h
      simp only [if_neg hz117] at h
      refine OEndsQ.plain hm_0 rfl rfl (x_irem hz117) ?_
      refine OEndsQ.adv hm_0 7 (pc' := 87) (L' := [.val (.ref 0), .val (.int v1), .val (.int v2), .val (.ref 1), .val (.int v4), .val (.int v5), .val (.int ((r81 &&& (2147483647 : Int32)) % (6 : Int32))), .val (.int r82), .val (.int ((r82 &&& (255 : Int32)) % v1)), .unset, .unset, .unset]) (S' := [.int v2, .int ((XT.ushr r82 (8 : Int32)) &&& (255 : Int32))]) (H' := ((.inr (.inl (false, scr)) : ACell) :: bk0 n0_log n0_cur n0_prs n0_nRows n0_nCols n0_lights n0_logLen n0_status n0_solSet n0_solSize n0_solCount [])) rfl ?_
      by_cases hz118 : v2 = 0
      · simp only [if_pos hz118] at h
        cases h
      simp only [if_neg hz118] at h
      refine OEndsQ.plain hm_0 rfl rfl (x_irem hz118) ?_
      refine OEndsQ.adv hm_0 8 (pc' := 101) (L' := [.val (.ref 0), .val (.int v1), .val (.int v2), .val (.ref 1), .val (.int v4), .val (.int v5), .val (.int ((r81 &&& (2147483647 : Int32)) % (6 : Int32))), .val (.int r82), .val (.int ((r82 &&& (255 : Int32)) % v1)), .val (.int (((XT.ushr r82 (8 : Int32)) &&& (255 : Int32)) % v2)), .val (.int ((XT.ushr r82 (16 : Int32)) &&& (1 : Int32))), .unset]) (S' := [.int ((r81 &&& (2147483647 : Int32)) % (6 : Int32))]) (H' := ((.inr (.inl (false, scr)) : ACell) :: bk0 n0_log n0_cur n0_prs n0_nRows n0_nCols n0_lights n0_logLen n0_status n0_solSet n0_solSize n0_solCount [])) rfl ?_
      by_cases hc119 : ((r81 &&& (2147483647 : Int32)) % (6 : Int32)) = (0 : Int32)
      · simp only [if_pos hc119] at h
        refine OEndsQ.ifF hm_0 rfl ((teq hc119).2) ?_
        refine OEndsQ.adv hm_0 4 (pc' := 111) (L' := [.val (.ref 0), .val (.int v1), .val (.int v2), .val (.ref 1), .val (.int v4), .val (.int v5), .val (.int ((r81 &&& (2147483647 : Int32)) % (6 : Int32))), .val (.int r82), .val (.int ((r82 &&& (255 : Int32)) % v1)), .val (.int (((XT.ushr r82 (8 : Int32)) &&& (255 : Int32)) % v2)), .val (.int ((XT.ushr r82 (16 : Int32)) &&& (1 : Int32))), .unset]) (S' := [.int ((XT.ushr r82 (16 : Int32)) &&& (1 : Int32)), .int (((XT.ushr r82 (8 : Int32)) &&& (255 : Int32)) % v2), .int ((r82 &&& (255 : Int32)) % v1), .ref 1]) (H' := ((.inr (.inl (false, scr)) : ACell) :: bk0 n0_log n0_cur n0_prs n0_nRows n0_nCols n0_lights n0_logLen n0_status n0_solSet n0_solSize n0_solCount [])) rfl ?_
        obtain ⟨⟨r108, s109⟩, hq120, h⟩ := bnd h
        refine OEndsQ.call0 hm_0 rfl rfl (by decide) rfl (as := [.ref 1, .int ((r82 &&& (255 : Int32)) % v1), .int (((XT.ushr r82 (8 : Int32)) &&& (255 : Int32)) % v2), .int ((XT.ushr r82 (16 : Int32)) &&& (1 : Int32))]) (rest := []) rfl rfl (ok_setLight hq120) ?_
        refine OEndsQ.adv hm_0 6 (pc' := 36) (L' := [.val (.ref 0), .val (.int v1), .val (.int v2), .val (.ref 1), .val (.int 0), .val (.int (v5 + (2 : Int32))), .val (.int ((r81 &&& (2147483647 : Int32)) % (6 : Int32))), .val (.int r82), .val (.int ((r82 &&& (255 : Int32)) % v1)), .val (.int (((XT.ushr r82 (8 : Int32)) &&& (255 : Int32)) % v2)), .val (.int ((XT.ushr r82 (16 : Int32)) &&& (1 : Int32))), .unset]) (S' := []) (H' := ((.inr (.inl (false, scr)) : ACell) :: bk0 n0_log n0_cur n0_prs n0_nRows n0_nCols s109 n0_logLen n0_status n0_solSet n0_solSize n0_solCount [])) rfl ?_
        exact ih h
      · simp only [if_neg hc119] at h
        refine OEndsQ.ifT hm_0 rfl (q := 121) rfl ((feq hc119).2) ?_
        refine OEndsQ.adv hm_0 2 (pc' := 124) (L' := [.val (.ref 0), .val (.int v1), .val (.int v2), .val (.ref 1), .val (.int v4), .val (.int v5), .val (.int ((r81 &&& (2147483647 : Int32)) % (6 : Int32))), .val (.int r82), .val (.int ((r82 &&& (255 : Int32)) % v1)), .val (.int (((XT.ushr r82 (8 : Int32)) &&& (255 : Int32)) % v2)), .val (.int ((XT.ushr r82 (16 : Int32)) &&& (1 : Int32))), .unset]) (S' := [.int 1, .int ((r81 &&& (2147483647 : Int32)) % (6 : Int32))]) (H' := ((.inr (.inl (false, scr)) : ACell) :: bk0 n0_log n0_cur n0_prs n0_nRows n0_nCols n0_lights n0_logLen n0_status n0_solSet n0_solSize n0_solCount [])) rfl ?_
        by_cases hc121 : ((r81 &&& (2147483647 : Int32)) % (6 : Int32)) = (1 : Int32)
        · simp only [if_pos hc121] at h
          refine OEndsQ.icmpF hm_0 rfl ((teq hc121).2) ?_
          refine OEndsQ.adv hm_0 3 (pc' := 132) (L' := [.val (.ref 0), .val (.int v1), .val (.int v2), .val (.ref 1), .val (.int v4), .val (.int v5), .val (.int ((r81 &&& (2147483647 : Int32)) % (6 : Int32))), .val (.int r82), .val (.int ((r82 &&& (255 : Int32)) % v1)), .val (.int (((XT.ushr r82 (8 : Int32)) &&& (255 : Int32)) % v2)), .val (.int ((XT.ushr r82 (16 : Int32)) &&& (1 : Int32))), .unset]) (S' := [.int (((XT.ushr r82 (8 : Int32)) &&& (255 : Int32)) % v2), .int ((r82 &&& (255 : Int32)) % v1), .ref 1]) (H' := ((.inr (.inl (false, scr)) : ACell) :: bk0 n0_log n0_cur n0_prs n0_nRows n0_nCols n0_lights n0_logLen n0_status n0_solSet n0_solSize n0_solCount [])) rfl ?_
          obtain ⟨⟨r104, s105, s106, s107⟩, hq122, h⟩ := bnd h
          refine OEndsQ.call0 hm_0 rfl rfl (by decide) rfl (as := [.ref 1, .int ((r82 &&& (255 : Int32)) % v1), .int (((XT.ushr r82 (8 : Int32)) &&& (255 : Int32)) % v2)]) (rest := []) rfl rfl (ok_press hq122) ?_
          refine OEndsQ.adv hm_0 6 (pc' := 36) (L' := [.val (.ref 0), .val (.int v1), .val (.int v2), .val (.ref 1), .val (.int 0), .val (.int (v5 + (2 : Int32))), .val (.int ((r81 &&& (2147483647 : Int32)) % (6 : Int32))), .val (.int r82), .val (.int ((r82 &&& (255 : Int32)) % v1)), .val (.int (((XT.ushr r82 (8 : Int32)) &&& (255 : Int32)) % v2)), .val (.int ((XT.ushr r82 (16 : Int32)) &&& (1 : Int32))), .unset]) (S' := []) (H' := ((.inr (.inl (false, scr)) : ACell) :: bk0 s105 n0_cur n0_prs n0_nRows n0_nCols s106 s107 n0_status n0_solSet n0_solSize n0_solCount [])) rfl ?_
          exact ih h
        · simp only [if_neg hc121] at h
          refine OEndsQ.icmpT hm_0 rfl (q := 142) rfl ((feq hc121).2) ?_
          refine OEndsQ.adv hm_0 2 (pc' := 145) (L' := [.val (.ref 0), .val (.int v1), .val (.int v2), .val (.ref 1), .val (.int v4), .val (.int v5), .val (.int ((r81 &&& (2147483647 : Int32)) % (6 : Int32))), .val (.int r82), .val (.int ((r82 &&& (255 : Int32)) % v1)), .val (.int (((XT.ushr r82 (8 : Int32)) &&& (255 : Int32)) % v2)), .val (.int ((XT.ushr r82 (16 : Int32)) &&& (1 : Int32))), .unset]) (S' := [.int 2, .int ((r81 &&& (2147483647 : Int32)) % (6 : Int32))]) (H' := ((.inr (.inl (false, scr)) : ACell) :: bk0 n0_log n0_cur n0_prs n0_nRows n0_nCols n0_lights n0_logLen n0_status n0_solSet n0_solSize n0_solCount [])) rfl ?_
          by_cases hc123 : ((r81 &&& (2147483647 : Int32)) % (6 : Int32)) = (2 : Int32)
          · simp only [if_pos hc123] at h
            refine OEndsQ.icmpF hm_0 rfl ((teq hc123).2) ?_
            refine OEndsQ.adv hm_0 1 (pc' := 149) (L' := [.val (.ref 0), .val (.int v1), .val (.int v2), .val (.ref 1), .val (.int v4), .val (.int v5), .val (.int ((r81 &&& (2147483647 : Int32)) % (6 : Int32))), .val (.int r82), .val (.int ((r82 &&& (255 : Int32)) % v1)), .val (.int (((XT.ushr r82 (8 : Int32)) &&& (255 : Int32)) % v2)), .val (.int ((XT.ushr r82 (16 : Int32)) &&& (1 : Int32))), .unset]) (S' := [.ref 1]) (H' := ((.inr (.inl (false, scr)) : ACell) :: bk0 n0_log n0_cur n0_prs n0_nRows n0_nCols n0_lights n0_logLen n0_status n0_solSet n0_solSize n0_solCount [])) rfl ?_
            obtain ⟨⟨r101, s102, s103⟩, hq124, h⟩ := bnd h
            refine OEndsQ.call0 hm_0 rfl rfl (by decide) rfl (as := [.ref 1]) (rest := []) rfl rfl (ok_undo hq124) ?_
            refine OEndsQ.adv hm_0 6 (pc' := 36) (L' := [.val (.ref 0), .val (.int v1), .val (.int v2), .val (.ref 1), .val (.int 0), .val (.int (v5 + (2 : Int32))), .val (.int ((r81 &&& (2147483647 : Int32)) % (6 : Int32))), .val (.int r82), .val (.int ((r82 &&& (255 : Int32)) % v1)), .val (.int (((XT.ushr r82 (8 : Int32)) &&& (255 : Int32)) % v2)), .val (.int ((XT.ushr r82 (16 : Int32)) &&& (1 : Int32))), .unset]) (S' := []) (H' := ((.inr (.inl (false, scr)) : ACell) :: bk0 n0_log n0_cur n0_prs n0_nRows n0_nCols s102 s103 n0_status n0_solSet n0_solSize n0_solCount [])) rfl ?_
            exact ih h
          · simp only [if_neg hc123] at h
            refine OEndsQ.icmpT hm_0 rfl (q := 159) rfl ((feq hc123).2) ?_
            refine OEndsQ.adv hm_0 2 (pc' := 162) (L' := [.val (.ref 0), .val (.int v1), .val (.int v2), .val (.ref 1), .val (.int v4), .val (.int v5), .val (.int ((r81 &&& (2147483647 : Int32)) % (6 : Int32))), .val (.int r82), .val (.int ((r82 &&& (255 : Int32)) % v1)), .val (.int (((XT.ushr r82 (8 : Int32)) &&& (255 : Int32)) % v2)), .val (.int ((XT.ushr r82 (16 : Int32)) &&& (1 : Int32))), .unset]) (S' := [.int 3, .int ((r81 &&& (2147483647 : Int32)) % (6 : Int32))]) (H' := ((.inr (.inl (false, scr)) : ACell) :: bk0 n0_log n0_cur n0_prs n0_nRows n0_nCols n0_lights n0_logLen n0_status n0_solSet n0_solSize n0_solCount [])) rfl ?_
            by_cases hc125 : ((r81 &&& (2147483647 : Int32)) % (6 : Int32)) = (3 : Int32)
            · simp only [if_pos hc125] at h
              refine OEndsQ.icmpF hm_0 rfl ((teq hc125).2) ?_
              refine OEndsQ.adv hm_0 3 (pc' := 168) (L' := [.val (.ref 0), .val (.int v1), .val (.int v2), .val (.ref 1), .val (.int v4), .val (.int v5), .val (.int ((r81 &&& (2147483647 : Int32)) % (6 : Int32))), .val (.int r82), .val (.int ((r82 &&& (255 : Int32)) % v1)), .val (.int (((XT.ushr r82 (8 : Int32)) &&& (255 : Int32)) % v2)), .val (.int ((XT.ushr r82 (16 : Int32)) &&& (1 : Int32))), .unset]) (S' := [.int v2, .int v1, .ref 1]) (H' := ((.inr (.inl (false, scr)) : ACell) :: bk0 n0_log n0_cur n0_prs n0_nRows n0_nCols n0_lights n0_logLen n0_status n0_solSet n0_solSize n0_solCount [])) rfl ?_
              obtain ⟨⟨r94, s95, s96, s97, s98, s99, s100⟩, hq126, h⟩ := bnd h
              refine OEndsQ.call0 hm_0 rfl rfl (by decide) rfl (as := [.ref 1, .int v1, .int v2]) (rest := []) rfl rfl (ok_L_check hq126) ?_
              refine OEndsQ.adv hm_0 2 (pc' := 175) (L' := [.val (.ref 0), .val (.int v1), .val (.int v2), .val (.ref 1), .val (.int v4), .val (.int v5), .val (.int ((r81 &&& (2147483647 : Int32)) % (6 : Int32))), .val (.int r82), .val (.int ((r82 &&& (255 : Int32)) % v1)), .val (.int (((XT.ushr r82 (8 : Int32)) &&& (255 : Int32)) % v2)), .val (.int ((XT.ushr r82 (16 : Int32)) &&& (1 : Int32))), .val (.int r94)]) (S' := [.int r94]) (H' := ((.inr (.inl (false, scr)) : ACell) :: bk0 n0_log s95 s96 n0_nRows n0_nCols n0_lights n0_logLen s97 s98 s99 s100 [])) rfl ?_
              by_cases hc127 : r94 < (0 : Int32)
              · simp only [if_pos hc127] at h
                refine OEndsQ.ifF hm_0 rfl ((tlt hc127).2.1) ?_
                refine OEndsQ.adv hm_0 1 (pc' := 179) (L' := [.val (.ref 0), .val (.int v1), .val (.int v2), .val (.ref 1), .val (.int v4), .val (.int v5), .val (.int ((r81 &&& (2147483647 : Int32)) % (6 : Int32))), .val (.int r82), .val (.int ((r82 &&& (255 : Int32)) % v1)), .val (.int (((XT.ushr r82 (8 : Int32)) &&& (255 : Int32)) % v2)), .val (.int ((XT.ushr r82 (16 : Int32)) &&& (1 : Int32))), .val (.int r94)]) (S' := [.int 0]) (H' := ((.inr (.inl (false, scr)) : ACell) :: bk0 n0_log s95 s96 n0_nRows n0_nCols n0_lights n0_logLen s97 s98 s99 s100 [])) rfl ?_
                cases h
                exact OEndsQ.iret hm_0 rfl rfl
              · simp only [if_neg hc127] at h
                refine OEndsQ.ifT hm_0 rfl (q := 180) rfl ((flt hc127).2.1) ?_
                refine OEndsQ.adv hm_0 2 (pc' := 183) (L' := [.val (.ref 0), .val (.int v1), .val (.int v2), .val (.ref 1), .val (.int v4), .val (.int v5), .val (.int ((r81 &&& (2147483647 : Int32)) % (6 : Int32))), .val (.int r82), .val (.int ((r82 &&& (255 : Int32)) % v1)), .val (.int (((XT.ushr r82 (8 : Int32)) &&& (255 : Int32)) % v2)), .val (.int ((XT.ushr r82 (16 : Int32)) &&& (1 : Int32))), .val (.int r94)]) (S' := [.int 1, .int r94]) (H' := ((.inr (.inl (false, scr)) : ACell) :: bk0 n0_log s95 s96 n0_nRows n0_nCols n0_lights n0_logLen s97 s98 s99 s100 [])) rfl ?_
                by_cases hc128 : r94 = (1 : Int32)
                · simp only [if_pos hc128] at h
                  refine OEndsQ.icmpF hm_0 rfl ((teq hc128).2) ?_
                  refine OEndsQ.adv hm_0 6 (pc' := 36) (L' := [.val (.ref 0), .val (.int v1), .val (.int v2), .val (.ref 1), .val (.int 1), .val (.int (v5 + (2 : Int32))), .val (.int ((r81 &&& (2147483647 : Int32)) % (6 : Int32))), .val (.int r82), .val (.int ((r82 &&& (255 : Int32)) % v1)), .val (.int (((XT.ushr r82 (8 : Int32)) &&& (255 : Int32)) % v2)), .val (.int ((XT.ushr r82 (16 : Int32)) &&& (1 : Int32))), .val (.int r94)]) (S' := []) (H' := ((.inr (.inl (false, scr)) : ACell) :: bk0 n0_log s95 s96 n0_nRows n0_nCols n0_lights n0_logLen s97 s98 s99 s100 [])) rfl ?_
                  exact ih h
                · simp only [if_neg hc128] at h
                  refine OEndsQ.icmpT hm_0 rfl (q := 190) rfl ((feq hc128).2) ?_
                  refine OEndsQ.adv hm_0 5 (pc' := 36) (L' := [.val (.ref 0), .val (.int v1), .val (.int v2), .val (.ref 1), .val (.int 0), .val (.int (v5 + (2 : Int32))), .val (.int ((r81 &&& (2147483647 : Int32)) % (6 : Int32))), .val (.int r82), .val (.int ((r82 &&& (255 : Int32)) % v1)), .val (.int (((XT.ushr r82 (8 : Int32)) &&& (255 : Int32)) % v2)), .val (.int ((XT.ushr r82 (16 : Int32)) &&& (1 : Int32))), .val (.int r94)]) (S' := []) (H' := ((.inr (.inl (false, scr)) : ACell) :: bk0 n0_log s95 s96 n0_nRows n0_nCols n0_lights n0_logLen s97 s98 s99 s100 [])) rfl ?_
                  exact ih h
            · simp only [if_neg hc125] at h
              refine OEndsQ.icmpT hm_0 rfl (q := 196) rfl ((feq hc125).2) ?_
              refine OEndsQ.adv hm_0 2 (pc' := 199) (L' := [.val (.ref 0), .val (.int v1), .val (.int v2), .val (.ref 1), .val (.int v4), .val (.int v5), .val (.int ((r81 &&& (2147483647 : Int32)) % (6 : Int32))), .val (.int r82), .val (.int ((r82 &&& (255 : Int32)) % v1)), .val (.int (((XT.ushr r82 (8 : Int32)) &&& (255 : Int32)) % v2)), .val (.int ((XT.ushr r82 (16 : Int32)) &&& (1 : Int32))), .unset]) (S' := [.int 4, .int ((r81 &&& (2147483647 : Int32)) % (6 : Int32))]) (H' := ((.inr (.inl (false, scr)) : ACell) :: bk0 n0_log n0_cur n0_prs n0_nRows n0_nCols n0_lights n0_logLen n0_status n0_solSet n0_solSize n0_solCount [])) rfl ?_
              by_cases hc129 : ((r81 &&& (2147483647 : Int32)) % (6 : Int32)) = (4 : Int32)
              · simp only [if_pos hc129] at h
                refine OEndsQ.icmpF hm_0 rfl ((teq hc129).2) ?_
                refine OEndsQ.adv hm_0 1 (pc' := 203) (L' := [.val (.ref 0), .val (.int v1), .val (.int v2), .val (.ref 1), .val (.int v4), .val (.int v5), .val (.int ((r81 &&& (2147483647 : Int32)) % (6 : Int32))), .val (.int r82), .val (.int ((r82 &&& (255 : Int32)) % v1)), .val (.int (((XT.ushr r82 (8 : Int32)) &&& (255 : Int32)) % v2)), .val (.int ((XT.ushr r82 (16 : Int32)) &&& (1 : Int32))), .unset]) (S' := [.ref 1]) (H' := ((.inr (.inl (false, scr)) : ACell) :: bk0 n0_log n0_cur n0_prs n0_nRows n0_nCols n0_lights n0_logLen n0_status n0_solSet n0_solSize n0_solCount [])) rfl ?_
                obtain ⟨⟨r89, s90, s91, s92⟩, hq130, h⟩ := bnd h
                refine OEndsQ.call0 hm_0 rfl rfl (by decide) rfl (as := [.ref 1]) (rest := []) rfl rfl (ok_applySolution hq130) ?_
                refine OEndsQ.adv hm_0 2 (pc' := 210) (L' := [.val (.ref 0), .val (.int v1), .val (.int v2), .val (.ref 1), .val (.int v4), .val (.int v5), .val (.int ((r81 &&& (2147483647 : Int32)) % (6 : Int32))), .val (.int r82), .val (.int ((r82 &&& (255 : Int32)) % v1)), .val (.int (((XT.ushr r82 (8 : Int32)) &&& (255 : Int32)) % v2)), .val (.int ((XT.ushr r82 (16 : Int32)) &&& (1 : Int32))), .val (.int r89)]) (S' := [.int v4]) (H' := ((.inr (.inl (false, scr)) : ACell) :: bk0 s90 n0_cur n0_prs n0_nRows n0_nCols s91 s92 n0_status n0_solSet n0_solSize n0_solCount [])) rfl ?_
                by_cases hc131 : v4 = (0 : Int32)
                · simp only [if_pos hc131] at h
                  refine OEndsQ.ifT hm_0 rfl (q := 227) rfl ((teq hc131).1) ?_
                  refine OEndsQ.adv hm_0 5 (pc' := 36) (L' := [.val (.ref 0), .val (.int v1), .val (.int v2), .val (.ref 1), .val (.int 0), .val (.int (v5 + (2 : Int32))), .val (.int ((r81 &&& (2147483647 : Int32)) % (6 : Int32))), .val (.int r82), .val (.int ((r82 &&& (255 : Int32)) % v1)), .val (.int (((XT.ushr r82 (8 : Int32)) &&& (255 : Int32)) % v2)), .val (.int ((XT.ushr r82 (16 : Int32)) &&& (1 : Int32))), .val (.int r89)]) (S' := []) (H' := ((.inr (.inl (false, scr)) : ACell) :: bk0 s90 n0_cur n0_prs n0_nRows n0_nCols s91 s92 n0_status n0_solSet n0_solSize n0_solCount [])) rfl ?_
                  exact ih h
                · simp only [if_neg hc131] at h
                  refine OEndsQ.ifF hm_0 rfl ((feq hc131).1) ?_
                  refine OEndsQ.adv hm_0 1 (pc' := 215) (L' := [.val (.ref 0), .val (.int v1), .val (.int v2), .val (.ref 1), .val (.int v4), .val (.int v5), .val (.int ((r81 &&& (2147483647 : Int32)) % (6 : Int32))), .val (.int r82), .val (.int ((r82 &&& (255 : Int32)) % v1)), .val (.int (((XT.ushr r82 (8 : Int32)) &&& (255 : Int32)) % v2)), .val (.int ((XT.ushr r82 (16 : Int32)) &&& (1 : Int32))), .val (.int r89)]) (S' := [.int r89]) (H' := ((.inr (.inl (false, scr)) : ACell) :: bk0 s90 n0_cur n0_prs n0_nRows n0_nCols s91 s92 n0_status n0_solSet n0_solSize n0_solCount [])) rfl ?_
                  by_cases hc132 : r89 = (0 : Int32)
                  · simp only [if_pos hc132] at h
                    refine OEndsQ.ifT hm_0 rfl (q := 227) rfl ((teq hc132).1) ?_
                    refine OEndsQ.adv hm_0 5 (pc' := 36) (L' := [.val (.ref 0), .val (.int v1), .val (.int v2), .val (.ref 1), .val (.int 0), .val (.int (v5 + (2 : Int32))), .val (.int ((r81 &&& (2147483647 : Int32)) % (6 : Int32))), .val (.int r82), .val (.int ((r82 &&& (255 : Int32)) % v1)), .val (.int (((XT.ushr r82 (8 : Int32)) &&& (255 : Int32)) % v2)), .val (.int ((XT.ushr r82 (16 : Int32)) &&& (1 : Int32))), .val (.int r89)]) (S' := []) (H' := ((.inr (.inl (false, scr)) : ACell) :: bk0 s90 n0_cur n0_prs n0_nRows n0_nCols s91 s92 n0_status n0_solSet n0_solSize n0_solCount [])) rfl ?_
                    exact ih h
                  · simp only [if_neg hc132] at h
                    refine OEndsQ.ifF hm_0 rfl ((feq hc132).1) ?_
                    refine OEndsQ.adv hm_0 1 (pc' := 219) (L' := [.val (.ref 0), .val (.int v1), .val (.int v2), .val (.ref 1), .val (.int v4), .val (.int v5), .val (.int ((r81 &&& (2147483647 : Int32)) % (6 : Int32))), .val (.int r82), .val (.int ((r82 &&& (255 : Int32)) % v1)), .val (.int (((XT.ushr r82 (8 : Int32)) &&& (255 : Int32)) % v2)), .val (.int ((XT.ushr r82 (16 : Int32)) &&& (1 : Int32))), .val (.int r89)]) (S' := [.ref 1]) (H' := ((.inr (.inl (false, scr)) : ACell) :: bk0 s90 n0_cur n0_prs n0_nRows n0_nCols s91 s92 n0_status n0_solSet n0_solSize n0_solCount [])) rfl ?_
                    obtain ⟨r93, hq133, h⟩ := bnd h
                    refine OEndsQ.call0 hm_0 rfl rfl (by decide) rfl (as := [.ref 1]) (rest := []) rfl rfl (ok_litCount hq133) ?_
                    show OEndsQ own_P 0 222 [.val (.ref 0), .val (.int v1), .val (.int v2), .val (.ref 1), .val (.int v4), .val (.int v5), .val (.int ((r81 &&& (2147483647 : Int32)) % (6 : Int32))), .val (.int r82), .val (.int ((r82 &&& (255 : Int32)) % v1)), .val (.int (((XT.ushr r82 (8 : Int32)) &&& (255 : Int32)) % v2)), .val (.int ((XT.ushr r82 (16 : Int32)) &&& (1 : Int32))), .val (.int r89)] [.int r93] ((.inr (.inl (false, scr)) : ACell) :: bk0 s90 n0_cur n0_prs n0_nRows n0_nCols s91 s92 n0_status n0_solSet n0_solSize n0_solCount []) _
                    by_cases hc134 : r93 = (0 : Int32)
                    · simp only [if_pos hc134] at h
                      refine OEndsQ.ifT hm_0 rfl (q := 227) rfl ((teq hc134).1) ?_
                      refine OEndsQ.adv hm_0 5 (pc' := 36) (L' := [.val (.ref 0), .val (.int v1), .val (.int v2), .val (.ref 1), .val (.int 0), .val (.int (v5 + (2 : Int32))), .val (.int ((r81 &&& (2147483647 : Int32)) % (6 : Int32))), .val (.int r82), .val (.int ((r82 &&& (255 : Int32)) % v1)), .val (.int (((XT.ushr r82 (8 : Int32)) &&& (255 : Int32)) % v2)), .val (.int ((XT.ushr r82 (16 : Int32)) &&& (1 : Int32))), .val (.int r89)]) (S' := []) (H' := ((.inr (.inl (false, scr)) : ACell) :: bk0 s90 n0_cur n0_prs n0_nRows n0_nCols s91 s92 n0_status n0_solSet n0_solSize n0_solCount [])) rfl ?_
                      exact ih h
                    · simp only [if_neg hc134] at h
                      refine OEndsQ.ifF hm_0 rfl ((feq hc134).1) ?_
                      refine OEndsQ.adv hm_0 1 (pc' := 226) (L' := [.val (.ref 0), .val (.int v1), .val (.int v2), .val (.ref 1), .val (.int v4), .val (.int v5), .val (.int ((r81 &&& (2147483647 : Int32)) % (6 : Int32))), .val (.int r82), .val (.int ((r82 &&& (255 : Int32)) % v1)), .val (.int (((XT.ushr r82 (8 : Int32)) &&& (255 : Int32)) % v2)), .val (.int ((XT.ushr r82 (16 : Int32)) &&& (1 : Int32))), .val (.int r89)]) (S' := [.int 0]) (H' := ((.inr (.inl (false, scr)) : ACell) :: bk0 s90 n0_cur n0_prs n0_nRows n0_nCols s91 s92 n0_status n0_solSet n0_solSize n0_solCount [])) rfl ?_
                      cases h
                      exact OEndsQ.iret hm_0 rfl rfl
              · simp only [if_neg hc129] at h
                refine OEndsQ.icmpT hm_0 rfl (q := 233) rfl ((feq hc129).2) ?_
                refine OEndsQ.adv hm_0 1 (pc' := 234) (L' := [.val (.ref 0), .val (.int v1), .val (.int v2), .val (.ref 1), .val (.int v4), .val (.int v5), .val (.int ((r81 &&& (2147483647 : Int32)) % (6 : Int32))), .val (.int r82), .val (.int ((r82 &&& (255 : Int32)) % v1)), .val (.int (((XT.ushr r82 (8 : Int32)) &&& (255 : Int32)) % v2)), .val (.int ((XT.ushr r82 (16 : Int32)) &&& (1 : Int32))), .unset]) (S' := [.ref 1]) (H' := ((.inr (.inl (false, scr)) : ACell) :: bk0 n0_log n0_cur n0_prs n0_nRows n0_nCols n0_lights n0_logLen n0_status n0_solSet n0_solSize n0_solCount [])) rfl ?_
                obtain ⟨⟨s83, s84, s85, s86, s87, s88⟩, hq135, h⟩ := bnd h
                refine OEndsQ.call0 hm_0 rfl rfl (by decide) rfl (as := [.ref 1]) (rest := []) rfl rfl (ok_clear hq135) ?_
                refine OEndsQ.adv hm_0 4 (pc' := 36) (L' := [.val (.ref 0), .val (.int v1), .val (.int v2), .val (.ref 1), .val (.int 0), .val (.int (v5 + (2 : Int32))), .val (.int ((r81 &&& (2147483647 : Int32)) % (6 : Int32))), .val (.int r82), .val (.int ((r82 &&& (255 : Int32)) % v1)), .val (.int (((XT.ushr r82 (8 : Int32)) &&& (255 : Int32)) % v2)), .val (.int ((XT.ushr r82 (16 : Int32)) &&& (1 : Int32))), .unset]) (S' := []) (H' := ((.inr (.inl (false, scr)) : ACell) :: bk0 n0_log n0_cur n0_prs n0_nRows n0_nCols s83 s84 s85 s86 s87 s88 [])) rfl ?_
                exact ih h
    · simp only [if_neg hc114] at h
      refine OEndsQ.icmpT hm_0 rfl (q := 246) rfl ((flt hc114).2.1) ?_
      show OEndsQ own_P 0 246 [.val (.ref 0), .val (.int v1), .val (.int v2), .val (.ref 1), .val (.int v4), .val (.int v5), .unset, .unset, .unset, .unset, .unset, .unset] [] ((.inr (.inl (false, scr)) : ACell) :: bk0 n0_log n0_cur n0_prs n0_nRows n0_nCols n0_lights n0_logLen n0_status n0_solSet n0_solSize n0_solCount []) _
      exact hk246 h
theorem ok_L_law {scr : List Int32} {res : Int32} (h : f_L_law scr = some res) : OEndsQ own_P 0 0 [.val (.ref 0), .unset, .unset, .unset, .unset, .unset, .unset, .unset, .unset, .unset, .unset, .unset] [] ((.inr (.inl (false, scr)) : ACell) :: []) (LawQ res 4 91) := by
  unfold f_L_law at h
  refine OEndsQ.adv hm_0 3 (pc' := 3) (L' := [.val (.ref 0), .unset, .unset, .unset, .unset, .unset, .unset, .unset, .unset, .unset, .unset, .unset]) (S' := [.int 0, .ref 0, .int 1]) (H' := ((.inr (.inl (false, scr)) : ACell) :: [])) rfl ?_
  obtain ⟨r68, hq136, h⟩ := bnd h
  refine OEndsQ.call0 hm_0 rfl rfl (by decide) rfl (as := [.ref 0, .int 0]) (rest := [.int 1]) rfl rfl (ok_L_cell hq136) ?_
  refine OEndsQ.adv hm_0 7 (pc' := 13) (L' := [.val (.ref 0), .val (.int ((1 : Int32) + (r68 &&& (3 : Int32)))), .unset, .unset, .unset, .unset, .unset, .unset, .unset, .unset, .unset, .unset]) (S' := [.int 1, .ref 0, .int 1]) (H' := ((.inr (.inl (false, scr)) : ACell) :: [])) rfl ?_
  obtain ⟨r69, hq137, h⟩ := bnd h
  refine OEndsQ.call0 hm_0 rfl rfl (by decide) rfl (as := [.ref 0, .int 1]) (rest := [.int 1]) rfl rfl (ok_L_cell hq137) ?_
  refine OEndsQ.adv hm_0 4 (pc' := 20) (L' := [.val (.ref 0), .val (.int ((1 : Int32) + (r68 &&& (3 : Int32)))), .val (.int ((1 : Int32) + (r69 &&& (3 : Int32)))), .unset, .unset, .unset, .unset, .unset, .unset, .unset, .unset, .unset]) (S' := []) (H' := ((.inr (.inl (false, scr)) : ACell) :: [])) rfl ?_
  refine OEndsQ.made hm_0 rfl rfl (ks := 11) (c0 := 3) (s0 := 80) rfl (Nat.le_of_ble_eq_true rfl) (Nat.le_of_ble_eq_true rfl) ?_
  refine OEndsQ.adv hm_0 3 (pc' := 26) (L' := [.val (.ref 0), .val (.int ((1 : Int32) + (r68 &&& (3 : Int32)))), .val (.int ((1 : Int32) + (r69 &&& (3 : Int32)))), .unset, .unset, .unset, .unset, .unset, .unset, .unset, .unset, .unset]) (S' := [.int ((1 : Int32) + (r69 &&& (3 : Int32))), .int ((1 : Int32) + (r68 &&& (3 : Int32))), .ref 1, .ref 1]) (H' := ((.inr (.inl (false, scr)) : ACell) :: (.inl (0, [.null, .null, .null, .int 0, .int 0, .long 0, .int 0, .int 0, .long 0, .int 0, .int 0]) : ACell) :: [])) rfl ?_
  obtain ⟨⟨s70, s71, s72, s73, s74, s75, s76, s77, s78, s79, s80⟩, hq138, h⟩ := bnd h
  refine OEndsQ.callN hm_0 rfl rfl (by decide) rfl (as := [.ref 1, .int ((1 : Int32) + (r68 &&& (3 : Int32))), .int ((1 : Int32) + (r69 &&& (3 : Int32)))]) (rest := [.ref 1]) rfl rfl (c0 := 0) (s0 := 0) (ok_init hq138) (Nat.le_of_ble_eq_true rfl) (Nat.le_of_ble_eq_true rfl) ?_
  refine OEndsQ.adv hm_0 5 (pc' := 36) (L' := [.val (.ref 0), .val (.int ((1 : Int32) + (r68 &&& (3 : Int32)))), .val (.int ((1 : Int32) + (r69 &&& (3 : Int32)))), .val (.ref 1), .val (.int 0), .val (.int 2), .unset, .unset, .unset, .unset, .unset, .unset]) (S' := []) (H' := ((.inr (.inl (false, scr)) : ACell) :: bk0 s70 s71 s72 s73 s74 s75 s76 s77 s78 s79 s80 [])) rfl ?_
  exact ok_L_law_36 (k246 := f_L_law_246 scr) ok_L_law_246 100000 h
/-! The board -/
theorem own_tog (R C a b : Int32) : ∃ m : Int64, ∀ L : Int64, f_toggleCell R C L a b = some (L ^^^ m) := by
  by_cases c1 : (0 : Int32) < a <;> by_cases c2 : a + 1 < R <;> by_cases c3 : (0 : Int32) < b <;> by_cases c4 : b + 1 < C <;>
    (simp only [f_toggleCell, f_bit, f_toggleCell_22, f_toggleCell_43, f_toggleCell_58, f_toggleCell_79, Option.bind_some, c1, c2, c3, c4, if_true, if_false]; exact ⟨_, fun L => rfl⟩)
theorem own_pop7 : ∀ (n : Nat) (a : Int32) (v : Int64) (i : Int32), 0 ≤ i.toInt → i.toInt ≤ 64 → 64 - i.toInt < n → ∃ r, f_popCount_7 n a v i = some r := by
  intro n
  induction n with
  | zero => intro a v i h0 h1 h2; exfalso; omega
  | succ n ih =>
    intro a v i h0 h1 h2
    unfold f_popCount_7
    by_cases g : i < 64
    · have g' : i.toInt < 64 := ilt.mp g
      have ei : (i + 1).toInt = i.toInt + 1 := by clear ih; ((try simp only [ilt, ile, ieq, iadd_e, isub_e, imul_e, Int32.reduceToInt] at *) <;> omega)
      rw [if_pos g]
      by_cases g2 : v = 0
      · rw [if_pos g2]; exact ⟨_, rfl⟩
      · rw [if_neg g2]
        exact ih _ _ _ (by omega) (by omega) (by omega)
    · rw [if_neg g]; exact ⟨_, rfl⟩
theorem own_pop (v : Int64) : ∃ r, f_popCount v = some r := own_pop7 100000 0 v 0 (by decide) (by decide) (by decide)
abbrev own_dim (R C : Int32) : Prop := (1 ≤ R.toInt) ∧ (R.toInt ≤ 8) ∧ (1 ≤ C.toInt) ∧ (C.toInt ≤ 8)
theorem own_dim.a {R C : Int32} (self : own_dim R C) : 1 ≤ R.toInt := self.1
theorem own_dim.b {R C : Int32} (self : own_dim R C) : R.toInt ≤ 8 := self.2.1
theorem own_dim.c {R C : Int32} (self : own_dim R C) : 1 ≤ C.toInt := self.2.2.1
theorem own_dim.d {R C : Int32} (self : own_dim R C) : C.toInt ≤ 8 := self.2.2.2
theorem own_ne {R C : Int32} (h : own_dim R C) : ¬ C = 0 := by
  have e0 : (0 : Int32).toInt = 0 := rfl
  rw [ieq]
  have := h.c
  omega
theorem own_ld8 {R C : Int32} (hd : own_dim R C) (L m : Int64) : ∀ (n : Nat) (cur : List Int32) (i : Int32), cur.length = 8 → 0 ≤ i.toInt → i.toInt ≤ 8 → 8 - i.toInt < n → Tot (f_loadRows_8 R C L n cur m i) (fun r => r.length = 8) := by
  have hb := hd.b
  intro n
  induction n with
  | zero => intro cur i h0 h1 h2 h3; exfalso; omega
  | succ n ih =>
    intro cur i h0 h1 h2 h3
    unfold f_loadRows_8
    refine Tot.ite (fun g => ?_) (fun g => Tot.mk h0)
    have g' := ilt.mp g
    have ei : (i + 1).toInt = i.toInt + 1 := by clear ih; ((try simp only [ilt, ile, ieq, iadd_e, isub_e, imul_e, Int32.reduceToInt] at *) <;> omega)
    refine Tot.wr h1 (by omega) (fun A q1 q2 => ?_)
    exact ih A (i + 1) (by omega) (by omega) (by omega) (by omega)
theorem own_arp {R C : Int32} (hd : own_dim R C) (cur : List Int32) (i v : Int32) (hc : cur.length = 8) (h0 : 0 ≤ i.toInt) (h1 : i.toInt < R.toInt) : Tot (f_applyRowPress R C cur i v) (fun r => r.length = 8) := by
  have hb := hd.b
  have ei : (i + 1).toInt = i.toInt + 1 := by ((try simp only [ilt, ile, ieq, iadd_e, isub_e, imul_e, Int32.reduceToInt] at *) <;> omega)
  have e41 : ∀ A : List Int32, A.length = 8 → Tot (f_applyRowPress_41 R C A i v) (fun r => r.length = 8) := by
    intro A hA
    unfold f_applyRowPress_41
    refine Tot.ite (fun g => ?_) (fun g => Tot.mk hA)
    have g' := ilt.mp g
    refine Tot.rdI (by omega) (by omega) (Tot.wr (by omega) (by omega) (fun B q1 q2 => Tot.mk (by omega)))
  unfold f_applyRowPress f_rowMask
  rw [Option.bind_some]
  refine Tot.rdI h0 (by omega) (Tot.wr h0 (by omega) (fun A q1 q2 => Tot.ite (fun g => ?_) (fun g => e41 A (by omega))))
  have g' : 0 < i.toInt := ilt.mp g
  have em : (i - 1).toInt = i.toInt - 1 := by clear e41 q1; ((try simp only [ilt, ile, ieq, iadd_e, isub_e, imul_e, Int32.reduceToInt] at *) <;> omega)
  exact Tot.rdI (by omega) (by omega) (Tot.wr (by omega) (by omega) (fun B q3 q4 => e41 B (by omega)))
theorem own_ch8 {R C : Int32} (hd : own_dim R C) (L : Int64) : ∀ (n : Nat) (cur prs : List Int32) (v i : Int32), cur.length = 8 → prs.length = 8 → 0 ≤ i.toInt → i.toInt ≤ 8 → 8 - i.toInt < n → Tot (f_chase_8 (f_chase_42 R C L) R C L n cur prs v i) (fun r => r.2.1.length = 8 ∧ r.2.2.length = 8) := by
  have ha := hd.a
  have hb := hd.b
  intro n
  induction n with
  | zero => intro cur prs v i h0 h1 h2 h3 h4; exfalso; omega
  | succ n ih =>
    intro cur prs v i h0 h1 h2 h3 h4
    unfold f_chase_8
    refine Tot.ite (fun g => ?_) (fun g => ?_)
    · have g' := ilt.mp g
      have ei : (i + 1).toInt = i.toInt + 1 := by clear ih; ((try simp only [ilt, ile, ieq, iadd_e, isub_e, imul_e, Int32.reduceToInt] at *) <;> omega)
      refine Tot.wr h2 (by omega) (fun A q1 q2 => Tot.bind (own_arp hd cur i v h0 h2 g') (fun B hB => Tot.rdI h2 (by omega) ?_))
      exact ih B A _ (i + 1) hB (by omega) (by omega) (by omega) (by omega)
    · unfold f_chase_42
      have er : (R - 1).toInt = R.toInt - 1 := by clear ih; ((try simp only [ilt, ile, ieq, iadd_e, isub_e, imul_e, Int32.reduceToInt] at *) <;> omega)
      exact Tot.rdI (by omega) (by omega) (Tot.mk ⟨h0, h1⟩)
theorem own_chase {R C : Int32} (hd : own_dim R C) (L : Int64) (cur prs : List Int32) (v : Int32) (h0 : cur.length = 8) (h1 : prs.length = 8) : Tot (f_chase R C L cur prs v) (fun r => r.2.1.length = 8 ∧ r.2.2.length = 8) := by
  unfold f_chase f_loadRows f_rowMask
  rw [Option.bind_some]
  exact Tot.bind (own_ld8 hd L _ 100000 cur 0 h0 (by decide) (by decide) (by decide)) (fun A hA => own_ch8 hd L 100000 A prs v 0 hA h1 (by decide) (by decide) (by decide))
theorem own_pk4 {R C : Int32} (hd : own_dim R C) (prs : List Int32) (hp : prs.length = 8) : ∀ (n : Nat) (v : Int64) (i : Int32), 0 ≤ i.toInt → i.toInt ≤ 8 → 8 - i.toInt < n → Tot (f_packPresses_4 prs R C n v i) (fun _ => True) := by
  have hb := hd.b
  intro n
  induction n with
  | zero => intro v i h0 h1 h2; exfalso; omega
  | succ n ih =>
    intro v i h0 h1 h2
    unfold f_packPresses_4
    refine Tot.ite (fun g => ?_) (fun g => Tot.mk trivial)
    have g' := ilt.mp g
    have ei : (i + 1).toInt = i.toInt + 1 := by clear ih; ((try simp only [ilt, ile, ieq, iadd_e, isub_e, imul_e, Int32.reduceToInt] at *) <;> omega)
    exact Tot.rdI h0 (by omega) (ih _ (i + 1) (by omega) (by omega) (by omega))
theorem own_so18 {R C : Int32} (hd : own_dim R C) (L : Int64) (w : Int32) (hw : w.toInt ≤ 256) : ∀ (n : Nat) (cur prs : List Int32) (st : Int32) (ss : Int64) (sz sc v1 v2 : Int32) (v3 : Int64) (i : Int32), cur.length = 8 → prs.length = 8 → 0 ≤ i.toInt → i.toInt ≤ 256 → 256 - i.toInt < n →
    Tot (f_solve_18 (f_solve_86 R C L) R C L n cur prs st ss sz sc v1 v2 v3 w i) (fun r => r.2.1.length = 8 ∧ r.2.2.1.length = 8) := by
  intro n
  induction n with
  | zero => intro cur prs st ss sz sc v1 v2 v3 i h0 h1 h2 h3 h4; exfalso; omega
  | succ n ih =>
    intro cur prs st ss sz sc v1 v2 v3 i h0 h1 h2 h3 h4
    unfold f_solve_18
    refine Tot.ite (fun g => ?_) (fun g => ?_)
    · have g' := ilt.mp g
      have ei : (i + 1).toInt = i.toInt + 1 := by clear ih; ((try simp only [ilt, ile, ieq, iadd_e, isub_e, imul_e, Int32.reduceToInt] at *) <;> omega)
      refine Tot.bind (own_chase hd L cur prs i h0 h1) ?_
      rintro ⟨r, A, B⟩ ⟨hA, hB⟩
      refine Tot.ite (fun g2 => ?_) (fun g2 => ?_)
      · exact ih A B st ss sz sc _ _ _ (i + 1) hA hB (by omega) (by omega) (by omega)
      · unfold f_packPresses
        refine Tot.bind (own_pk4 hd B hB 100000 0 0 (by decide) (by decide) (by decide)) (fun x _ => ?_)
        obtain ⟨y, ey⟩ := own_pop x
        rw [ey, Option.bind_some]
        refine Tot.ite (fun g3 => ?_) (fun g3 => Tot.ite (fun g4 => ?_) (fun g4 => ?_))
        · exact ih A B st ss sz sc _ _ _ (i + 1) hA hB (by omega) (by omega) (by omega)
        · unfold f_unsignedLess
          rw [Option.bind_some]
          exact ih A B st ss sz sc _ _ _ (i + 1) hA hB (by omega) (by omega) (by omega)
        · exact ih A B st ss sz sc _ _ _ (i + 1) hA hB (by omega) (by omega) (by omega)
    · unfold f_solve_86
      exact Tot.mk ⟨h0, h1⟩
theorem own_cols {R C : Int32} (hd : own_dim R C) : ((1 : Int32) <<< (C &&& 31)).toInt ≤ 256 := by
  have hc := hd.c
  have hb := hd.d
  have k : C = 1 ∨ C = 2 ∨ C = 3 ∨ C = 4 ∨ C = 5 ∨ C = 6 ∨ C = 7 ∨ C = 8 := by
    simp only [ieq, Int32.reduceToInt]
    omega
  rcases k with rfl | rfl | rfl | rfl | rfl | rfl | rfl | rfl <;> decide
theorem own_solve {R C : Int32} (hd : own_dim R C) (L : Int64) (cur prs : List Int32) (st : Int32) (ss : Int64) (sz sc : Int32) (h0 : cur.length = 8) (h1 : prs.length = 8) : Tot (f_solve R C L cur prs st ss sz sc) (fun r => r.2.1.length = 8 ∧ r.2.2.1.length = 8) := by
  unfold f_solve
  exact own_so18 hd L _ (own_cols hd) 100000 cur prs st ss sz sc 0 65 0 0 h0 h1 (by decide) (by decide) (by decide)
theorem own_ap38 {R C : Int32} (hd : own_dim R C) (st : Int32) (ss : Int64) (sz w : Int32) (hw : w.toInt ≤ 64) : ∀ (n : Nat) (log : List Int32) (L : Int64) (ll i : Int32), log.length = 64 → 0 ≤ ll.toInt → ll.toInt ≤ 64 → 0 ≤ i.toInt → i.toInt ≤ 64 → 64 - i.toInt < n →
    Tot (f_applySolution_38 R C st ss sz n log L ll w i) (fun r => r.2.1.length = 64 ∧ 0 ≤ r.2.2.2.toInt ∧ r.2.2.2.toInt ≤ 64) := by
  have nc := own_ne hd
  intro n
  induction n with
  | zero => intro log L ll i h0 h1 h2 h3 h4 h5; exfalso; omega
  | succ n ih =>
    intro log L ll i h0 h1 h2 h3 h4 h5
    unfold f_applySolution_38
    refine Tot.ite (fun g => ?_) (fun g => Tot.mk ⟨h0, h1, h2⟩)
    have g' := ilt.mp g
    have ei : (i + 1).toInt = i.toInt + 1 := by clear ih; ((try simp only [ilt, ile, ieq, iadd_e, isub_e, imul_e, Int32.reduceToInt] at *) <;> omega)
    refine Tot.ite (fun g2 => ?_) (fun g2 => Tot.ite (fun g3 => ?_) (fun g3 => Tot.mk ⟨h0, h1, h2⟩))
    · exact ih log L ll (i + 1) h0 h1 h2 (by omega) (by omega) (by omega)
    · have g3' : ll.toInt < 64 := ilt.mp g3
      have el : (ll + 1).toInt = ll.toInt + 1 := by clear ih; ((try simp only [ilt, ile, ieq, iadd_e, isub_e, imul_e, Int32.reduceToInt] at *) <;> omega)
      obtain ⟨m, hm⟩ := own_tog R C (i / C) (i % C)
      rw [if_neg nc, if_neg nc, hm, Option.bind_some]
      refine Tot.wr h1 (by omega) (fun A q1 q2 => ?_)
      exact ih A _ (ll + 1) (i + 1) (by omega) (by omega) (by omega) (by omega) (by omega) (by omega)
theorem own_area {R C : Int32} (hd : own_dim R C) : (R * C).toInt = R.toInt * C.toInt ∧ 1 ≤ (R * C).toInt ∧ (R * C).toInt ≤ 64 := by
  have m := mulb (M := 8) (a := R.toInt) (b := C.toInt) (by have := hd.a; omega) hd.b (by have := hd.c; omega) hd.d
  have e : (R * C).toInt = R.toInt * C.toInt := imul_i (by omega) (by omega)
  have l : 1 * 1 ≤ R.toInt * C.toInt := Int.mul_le_mul hd.a hd.c (by omega) (by have := hd.a; omega)
  exact ⟨e, by omega, by omega⟩
theorem own_apply {R C : Int32} (hd : own_dim R C) (st : Int32) (ss : Int64) (sz : Int32) (log : List Int32) (L : Int64) (ll : Int32) (h0 : log.length = 64) (h1 : 0 ≤ ll.toInt) (h2 : ll.toInt ≤ 64) :
    Tot (f_applySolution R C st ss sz log L ll) (fun r => r.2.1.length = 64 ∧ 0 ≤ r.2.2.2.toInt ∧ r.2.2.2.toInt ≤ 64) := by
  unfold f_applySolution
  refine Tot.ite (fun g => Tot.ite (fun g2 => Tot.mk ⟨h0, h1, h2⟩) (fun g2 => ?_)) (fun g => Tot.mk ⟨h0, h1, h2⟩)
  exact own_ap38 hd st ss sz (R * C) (own_area hd).2.2 100000 log L ll 0 h0 h1 h2 (by decide) (by decide) (by decide)
theorem own_press {R C : Int32} (log : List Int32) (L : Int64) (ll a b : Int32) (h0 : log.length = 64) (h1 : 0 ≤ ll.toInt) (h2 : ll.toInt ≤ 64) :
    Tot (f_press R C log L ll a b) (fun r => r.2.1.length = 64 ∧ 0 ≤ r.2.2.2.toInt ∧ r.2.2.2.toInt ≤ 64) := by
  unfold f_press f_onBoard
  rw [Option.bind_some]
  refine Tot.ite (fun g => Tot.mk ⟨h0, h1, h2⟩) (fun g => Tot.ite (fun g2 => ?_) (fun g2 => Tot.mk ⟨h0, h1, h2⟩))
  have g' : ll.toInt < 64 := ilt.mp g2
  have el : (ll + 1).toInt = ll.toInt + 1 := by clear g; ((try simp only [ilt, ile, ieq, iadd_e, isub_e, imul_e, Int32.reduceToInt] at *) <;> omega)
  obtain ⟨m, hm⟩ := own_tog R C a b
  rw [hm, Option.bind_some]
  exact Tot.wr h1 (by omega) (fun A q1 q2 => Tot.mk ⟨by show A.length = 64; omega, by show 0 ≤ (ll + 1).toInt; omega, by show (ll + 1).toInt ≤ 64; omega⟩)
theorem own_undo {R C : Int32} (hd : own_dim R C) (log : List Int32) (L : Int64) (ll : Int32) (h0 : log.length = 64) (h1 : 0 ≤ ll.toInt) (h2 : ll.toInt ≤ 64) :
    Tot (f_undo log R C L ll) (fun r => 0 ≤ r.2.2.toInt ∧ r.2.2.toInt ≤ 64) := by
  have nc := own_ne hd
  unfold f_undo
  refine Tot.ite (fun g => ?_) (fun g => Tot.mk ⟨h1, h2⟩)
  have g' : 0 < ll.toInt := ilt.mp g
  have el : (ll - 1).toInt = ll.toInt - 1 := by ((try simp only [ilt, ile, ieq, iadd_e, isub_e, imul_e, Int32.reduceToInt] at *) <;> omega)
  refine Tot.rdI (by omega) (by omega) ?_
  obtain ⟨m, hm⟩ := own_tog R C (gI log (ll - 1) / C) (gI log (ll - 1) % C)
  rw [if_neg nc, if_neg nc, hm, Option.bind_some]
  exact Tot.mk ⟨by show 0 ≤ (ll - 1).toInt; omega, by show (ll - 1).toInt ≤ 64; omega⟩
def own_cl (v : Int32) : Int32 := if v < (1 : Int32) then (1 : Int32) else (if (8 : Int32) < v then (8 : Int32) else v)
theorem own_cl_rng (v : Int32) : 1 ≤ (own_cl v).toInt ∧ (own_cl v).toInt ≤ 8 := by
  unfold own_cl
  have e1 : (1 : Int32).toInt = 1 := rfl
  have e8 : (8 : Int32).toInt = 8 := rfl
  split
  · decide
  · rename_i g
    split
    · decide
    · rename_i g2
      rw [ilt] at g g2
      omega
theorem own_init (a b : Int32) : f_init a b = some (List.replicate 64 0, List.replicate 8 0, List.replicate 8 0, own_cl a, own_cl b, 0, 0, 0, 0, 0, 0) := rfl
/-! Bits of longs, counting -/
def own_cnt (p : Nat → Bool) : Nat → Nat
  | 0 => 0
  | n + 1 => own_cnt p n + (if p n then 1 else 0)
theorem own_cnt_le (p : Nat → Bool) : ∀ n, own_cnt p n ≤ n := by
  intro n
  induction n with
  | zero => exact Nat.le_refl 0
  | succ n ih => rw [own_cnt]; split <;> omega
theorem own_cnt_same {p q : Nat → Bool} : ∀ n, (∀ j, j < n → p j = q j) → own_cnt p n = own_cnt q n := by
  intro n
  induction n with
  | zero => intro _; rw [own_cnt, own_cnt]
  | succ n ih => intro h; rw [own_cnt, own_cnt, ih (fun j hj => h j (by omega)), h n (by omega)]
theorem own_cnt_app (p : Nat → Bool) (m : Nat) : ∀ n, own_cnt p (m + n) = own_cnt p m + own_cnt (fun j => p (m + j)) n := by
  intro n
  induction n with
  | zero => rw [Nat.add_zero, own_cnt]; rfl
  | succ n ih => rw [← Nat.add_assoc, own_cnt, own_cnt, ih]; omega
theorem own_cnt_z {p : Nat → Bool} {m : Nat} (h : ∀ j, m ≤ j → p j = false) : ∀ n, own_cnt p (m + n) = own_cnt p m := by
  intro n
  induction n with
  | zero => rfl
  | succ n ih => rw [← Nat.add_assoc, own_cnt, ih, h (m + n) (by omega)]; rfl
theorem own_cnt_ex {p : Nat → Bool} : ∀ n, 1 ≤ own_cnt p n → ∃ j, j < n ∧ p j = true := by
  intro n
  induction n with
  | zero => intro h; rw [own_cnt] at h; omega
  | succ n ih =>
    intro h
    rw [own_cnt] at h
    by_cases g : p n = true
    · exact ⟨n, by omega, g⟩
    · rw [if_neg g] at h
      obtain ⟨j, hj, hp⟩ := ih (by omega)
      exact ⟨j, by omega, hp⟩
/-- xor with a number below 2^k turns the numbers below 2^k about -/
theorem own_xlt {x y k : Nat} (hx : x < 2 ^ k) (hy : y < 2 ^ k) : x ^^^ y < 2 ^ k := Nat.xor_lt_two_pow hx hy
theorem own_xhi {x y k : Nat} (hx : x < 2 ^ k) (hy : y < 2 ^ k) : (2 ^ k + x) ^^^ y = 2 ^ k + (x ^^^ y) ∧ x ^^^ (2 ^ k + y) = 2 ^ k + (x ^^^ y) ∧ (2 ^ k + x) ^^^ (2 ^ k + y) = x ^^^ y := by
  have hxy := own_xlt hx hy
  have e : ∀ z : Nat, 2 ^ k + z = 2 ^ k * 1 + z := fun z => by rw [Nat.mul_one]
  refine ⟨?_, ?_, ?_⟩
  · apply Nat.eq_of_testBit_eq
    intro i
    rw [Nat.testBit_xor, e x, e (x ^^^ y), Nat.testBit_two_pow_mul_add 1 hx, Nat.testBit_two_pow_mul_add 1 hxy, Nat.testBit_xor]
    by_cases h : i < k
    · rw [if_pos h, if_pos h]
    · rw [if_neg h, if_neg h, Nat.testBit_lt_two_pow (Nat.lt_of_lt_of_le hy (Nat.pow_le_pow_right (by omega) (by omega))), Bool.xor_false]
  · apply Nat.eq_of_testBit_eq
    intro i
    rw [Nat.testBit_xor, e y, e (x ^^^ y), Nat.testBit_two_pow_mul_add 1 hy, Nat.testBit_two_pow_mul_add 1 hxy, Nat.testBit_xor]
    by_cases h : i < k
    · rw [if_pos h, if_pos h]
    · rw [if_neg h, if_neg h, Nat.testBit_lt_two_pow (Nat.lt_of_lt_of_le hx (Nat.pow_le_pow_right (by omega) (by omega))), Bool.false_xor]
  · apply Nat.eq_of_testBit_eq
    intro i
    rw [Nat.testBit_xor, e x, e y, Nat.testBit_two_pow_mul_add 1 hx, Nat.testBit_two_pow_mul_add 1 hy, Nat.testBit_xor]
    by_cases h : i < k
    · rw [if_pos h, if_pos h]
    · rw [if_neg h, if_neg h, Bool.xor_self, Nat.testBit_lt_two_pow (Nat.lt_of_lt_of_le hx (Nat.pow_le_pow_right (by omega) (by omega))), Nat.testBit_lt_two_pow (Nat.lt_of_lt_of_le hy (Nat.pow_le_pow_right (by omega) (by omega)))]
      rfl
theorem own_cnt_x : ∀ (k : Nat) (p : Nat → Bool) (y : Nat), y < 2 ^ k → own_cnt (fun x => p (x ^^^ y)) (2 ^ k) = own_cnt p (2 ^ k) := by
  intro k
  induction k with
  | zero =>
    intro p y hy
    have : y = 0 := by omega
    subst this
    rfl
  | succ k ih =>
    intro p y hy
    have e : 2 ^ (k + 1) = 2 ^ k + 2 ^ k := by rw [Nat.pow_succ]; omega
    rw [e, own_cnt_app, own_cnt_app]
    by_cases h : y < 2 ^ k
    · have a := ih p y h
      have b := ih (fun j => p (2 ^ k + j)) y h
      rw [own_cnt_same (p := fun j => p (2 ^ k + j ^^^ y)) (q := fun j => p (2 ^ k + (j ^^^ y))) (2 ^ k) (fun j hj => by show p _ = p _; rw [(own_xhi hj h).1]), a, b]
    · obtain ⟨z, hz⟩ : ∃ z, y = 2 ^ k + z := ⟨y - 2 ^ k, by omega⟩
      subst hz
      have hz : z < 2 ^ k := by omega
      have a := ih (fun j => p (2 ^ k + j)) z hz
      have b := ih p z hz
      rw [own_cnt_same (p := fun x => p (x ^^^ (2 ^ k + z))) (q := fun j => p (2 ^ k + (j ^^^ z))) (2 ^ k) (fun j hj => by show p _ = p _; rw [(own_xhi hj hz).2.1]),
        own_cnt_same (p := fun j => p (2 ^ k + j ^^^ (2 ^ k + z))) (q := fun j => p (j ^^^ z)) (2 ^ k) (fun j hj => by show p _ = p _; rw [(own_xhi hj hz).2.2]), a, b]
      omega
def own_g (v : Int64) (n : Nat) : Bool := v.toBitVec.getLsbD n
/-- clearing the lowest bit takes one away -/
theorem own_kern : ∀ (n w : Nat), w < 2 ^ n → w ≠ 0 → own_cnt (fun i => (w &&& (w - 1)).testBit i) n + 1 = own_cnt (fun i => w.testBit i) n := by
  have sh : ∀ (p : Nat → Bool) (n : Nat), own_cnt p (n + 1) = (if p 0 then 1 else 0) + own_cnt (fun i => p (i + 1)) n := by
    intro p n
    rw [Nat.add_comm n 1, own_cnt_app]
    have : own_cnt p 1 = (if p 0 then 1 else 0) := by rw [own_cnt, own_cnt]; omega
    rw [this]
    congr 1
    exact own_cnt_same n (fun j _ => by rw [Nat.add_comm])
  intro n
  induction n with
  | zero => intro w h0 h1; omega
  | succ n ih =>
    intro w h0 h1
    rw [sh, sh]
    by_cases hodd : w % 2 = 1
    · have e : w &&& (w - 1) = w - 1 := by
        apply Nat.eq_of_testBit_eq
        intro i
        rw [Nat.testBit_and]
        cases i with
        | zero =>
          rw [Nat.testBit_zero, Nat.testBit_zero, decide_eq_true hodd, Bool.true_and]
        | succ i =>
          rw [Nat.testBit_succ, Nat.testBit_succ, show (w - 1) / 2 = w / 2 by omega, Bool.and_self]
      rw [e]
      have a0 : (w - 1).testBit 0 = false := by rw [Nat.testBit_zero]; exact decide_eq_false (by omega)
      have b0 : w.testBit 0 = true := by rw [Nat.testBit_zero]; exact decide_eq_true hodd
      rw [a0, b0, own_cnt_same (p := fun i => (w - 1).testBit (i + 1)) (q := fun i => w.testBit (i + 1)) n (fun j _ => by show Nat.testBit _ _ = Nat.testBit _ _; rw [Nat.testBit_succ, Nat.testBit_succ, show (w - 1) / 2 = w / 2 by omega])]
      simp
      omega
    · have hw : w / 2 ≠ 0 := by omega
      have i := ih (w / 2) (by rw [Nat.pow_succ] at h0; omega) hw
      have a0 : (w &&& (w - 1)).testBit 0 = false := by
        rw [Nat.testBit_and, Nat.testBit_zero, decide_eq_false (by omega : ¬ w % 2 = 1), Bool.false_and]
      have b0 : w.testBit 0 = false := by rw [Nat.testBit_zero]; exact decide_eq_false hodd
      rw [a0, b0, own_cnt_same (p := fun i => (w &&& (w - 1)).testBit (i + 1)) (q := fun i => (w / 2 &&& (w / 2 - 1)).testBit i) n (fun j _ => by
          show Nat.testBit _ _ = Nat.testBit _ _
          rw [Nat.testBit_and, Nat.testBit_and, Nat.testBit_succ, Nat.testBit_succ, show (w - 1) / 2 = w / 2 - 1 by omega]),
        own_cnt_same (p := fun i => w.testBit (i + 1)) (q := fun i => (w / 2).testBit i) n (fun j _ => by show Nat.testBit _ _ = Nat.testBit _ _; rw [Nat.testBit_succ]), if_neg (show ¬ false = true by decide)]
      omega
theorem own_popX (v : Int64) : f_popCount v = some (Int32.ofNat (own_cnt (own_g v) 64)) := by
  have e64 : (64 : Int32).toInt = 64 := rfl
  have e1 : (1 : Int32).toInt = 1 := rfl
  have key : ∀ (f i : Nat) (a : Int32) (w : Int64) (v5 : Int32), v5.toInt = i → i ≤ 64 → 64 - i < f → own_cnt (own_g w) 64 + i ≤ 64 → a.toInt = i → f_popCount_7 f a w v5 = some (Int32.ofNat (own_cnt (own_g w) 64 + i)) := by
    intro f
    induction f with
    | zero => intro i a w v5 h1 h2 h3; omega
    | succ f ih =>
      intro i a w v5 h1 h2 h3 h4 h5
      unfold f_popCount_7
      have hw : w.toBitVec.toNat < 2 ^ 64 := w.toBitVec.isLt
      have ai : Int32.ofNat i = a := by rw [ieq, Int32.toInt_ofNat_of_lt (by omega)]; omega
      by_cases z : w = 0
      · have c0 : own_cnt (own_g w) 64 = 0 := by rw [z]; decide
        rw [if_pos z, c0, Nat.zero_add, ai]
        split <;> rfl
      · have nz : w.toBitVec.toNat ≠ 0 := by
          intro h
          apply z
          apply Int64.toBitVec_inj.mp
          apply BitVec.eq_of_toNat_eq
          exact h
        have k := own_kern 64 w.toBitVec.toNat hw nz
        have en : (w &&& (w - 1)).toBitVec.toNat = w.toBitVec.toNat &&& (w.toBitVec.toNat - 1) := by
          rw [Int64.toBitVec_and, BitVec.toNat_and, Int64.toBitVec_sub, BitVec.toNat_sub]
          congr 1
          have o : (1 : Int64).toBitVec.toNat = 1 := rfl
          rw [o]
          omega
        have k' : own_cnt (own_g (w &&& (w - 1))) 64 + 1 = own_cnt (own_g w) 64 := by
          have q : ∀ u : Int64, own_cnt (own_g u) 64 = own_cnt (fun i => u.toBitVec.toNat.testBit i) 64 := fun u => own_cnt_same 64 (fun j _ => rfl)
          rw [q, q, en]
          exact k
        have lt : v5 < 64 := by rw [ilt]; omega
        have p5 : (v5 + 1).toInt = v5.toInt + 1 := by rw [iadd_i (by omega) (by omega), e1]
        have pa : (a + 1).toInt = a.toInt + 1 := by rw [iadd_i (by omega) (by omega), e1]
        rw [if_pos lt, if_neg z, ih (i + 1) (a + 1) _ (v5 + 1) (by omega) (by omega) (by omega) (by omega) (by omega)]
        congr 2
        omega
  exact key 100000 0 0 v 0 rfl (by omega) (by omega) (by have := own_cnt_le (own_g v) 64; omega) rfl
theorem own_pow2 : ∀ (k : Nat) (p : Nat → Bool), p 0 = true → (∀ x y, x < 2 ^ k → y < 2 ^ k → p x = true → p y = true → p (x ^^^ y) = true) → ∃ j, j ≤ k ∧ own_cnt p (2 ^ k) = 2 ^ j := by
  intro k
  induction k with
  | zero =>
    intro p h0 _
    refine ⟨0, by omega, ?_⟩
    show own_cnt p 1 = 1
    rw [own_cnt, own_cnt, h0]
    rfl
  | succ k ih =>
    intro p h0 hx
    have e : 2 ^ (k + 1) = 2 ^ k + 2 ^ k := by rw [Nat.pow_succ]; omega
    obtain ⟨j, hj, hc⟩ := ih p h0 (fun x y a b => hx x y (by omega) (by omega))
    rw [e, own_cnt_app]
    by_cases ex : 1 ≤ own_cnt (fun i => p (2 ^ k + i)) (2 ^ k)
    · obtain ⟨z, hz, pz⟩ := own_cnt_ex (2 ^ k) ex
      refine ⟨j + 1, by omega, ?_⟩
      have s : own_cnt (fun i => p (2 ^ k + i)) (2 ^ k) = own_cnt p (2 ^ k) := by
        rw [← own_cnt_x k p z hz]
        apply own_cnt_same
        intro i hi
        show p (2 ^ k + i) = p (i ^^^ z)
        have hiz := own_xlt hi hz
        have q := own_xhi hi hz
        rw [Bool.eq_iff_iff]
        constructor
        · intro h
          have := hx (2 ^ k + i) (2 ^ k + z) (by omega) (by omega) h pz
          rw [q.2.2] at this
          exact this
        · intro h
          have := hx (i ^^^ z) (2 ^ k + z) (by omega) (by omega) h pz
          rw [(own_xhi hiz hz).2.1, Nat.xor_assoc, Nat.xor_self, Nat.xor_zero] at this
          exact this
      rw [s, hc, Nat.pow_succ]
      omega
    · refine ⟨j, by omega, ?_⟩
      rw [hc]
      omega
/-! The chase -/
def own_T (m p : Int32) : Int32 := ((p ^^^ (p <<< ((1 : Int32) &&& 31))) ^^^ (XT.ushr p 1)) &&& m
theorem own_T_b (m p : Int32) {i : Nat} (hi : i < 32) : (own_T m p).toBitVec.getLsbD i = (((p.toBitVec.getLsbD i ^^ (!decide (i < 1) && p.toBitVec.getLsbD (i - 1))) ^^ p.toBitVec.getLsbD (1 + i)) && m.toBitVec.getLsbD i) := by
  have k1 : (((1 : Int32) &&& 31).toBitVec.smod 32).toNat = 1 := by decide
  have k2 : (((1 : Int32) &&& 31).toBitVec % 32#32).toNat = 1 := by decide
  have e1 : (XT.ushr p 1).toBitVec = p.toBitVec >>> 1 := by
    show p.toBitVec >>> (((1 : Int32) &&& 31).toBitVec % 32#32) = _
    rw [BitVec.ushiftRight_eq', k2]
  unfold own_T
  rw [Int32.toBitVec_and, Int32.toBitVec_xor, Int32.toBitVec_xor, e1, Int32.toBitVec_shiftLeft, BitVec.shiftLeft_eq', k1, BitVec.getLsbD_and, BitVec.getLsbD_xor, BitVec.getLsbD_xor, BitVec.getLsbD_shiftLeft, BitVec.getLsbD_ushiftRight, decide_eq_true hi, Bool.true_and]
theorem own_T_x (m a b : Int32) : own_T m (a ^^^ b) = own_T m a ^^^ own_T m b := by
  apply Int32.toBitVec_inj.mp
  apply BitVec.eq_of_getLsbD_eq
  intro i hi
  rw [Int32.toBitVec_xor, BitVec.getLsbD_xor, own_T_b _ _ hi, own_T_b _ _ hi, own_T_b _ _ hi, Int32.toBitVec_xor, BitVec.getLsbD_xor, BitVec.getLsbD_xor, BitVec.getLsbD_xor]
  cases a.toBitVec.getLsbD i <;> cases b.toBitVec.getLsbD i <;> cases a.toBitVec.getLsbD (i - 1) <;> cases b.toBitVec.getLsbD (i - 1) <;> cases a.toBitVec.getLsbD (1 + i) <;> cases b.toBitVec.getLsbD (1 + i) <;> cases m.toBitVec.getLsbD i <;> cases (!decide (i < 1)) <;> rfl
/-- the presses of the row before and of this row -/
def own_pr (m : Int32) (rw : Nat → Int32) (x : Int32) : Nat → Int32 × Int32
  | 0 => (0, x)
  | r + 1 => ((own_pr m rw x r).2, (rw r ^^^ (own_pr m rw x r).1) ^^^ own_T m (own_pr m rw x r).2)
theorem own_P_lin (m : Int32) (rw : Nat → Int32) (x : Int32) : ∀ r, (own_pr m rw x r).1 = (own_pr m rw 0 r).1 ^^^ (own_pr m (fun _ => 0) x r).1 ∧ (own_pr m rw x r).2 = (own_pr m rw 0 r).2 ^^^ (own_pr m (fun _ => 0) x r).2 := by
  intro r
  induction r with
  | zero => exact ⟨(Int32.xor_zero).symm, (Int32.zero_xor).symm⟩
  | succ r ih =>
    obtain ⟨h1, h2⟩ := ih
    refine ⟨h2, ?_⟩
    show (rw r ^^^ (own_pr m rw x r).1) ^^^ own_T m (own_pr m rw x r).2 = ((rw r ^^^ (own_pr m rw 0 r).1) ^^^ own_T m (own_pr m rw 0 r).2) ^^^ ((0 ^^^ (own_pr m (fun _ => 0) x r).1) ^^^ own_T m (own_pr m (fun _ => 0) x r).2)
    rw [h1, h2, own_T_x, Int32.zero_xor]
    ac_rfl
theorem own_B_x (m : Int32) (x y : Int32) : ∀ r, (own_pr m (fun _ => 0) (x ^^^ y) r).1 = (own_pr m (fun _ => 0) x r).1 ^^^ (own_pr m (fun _ => 0) y r).1 ∧ (own_pr m (fun _ => 0) (x ^^^ y) r).2 = (own_pr m (fun _ => 0) x r).2 ^^^ (own_pr m (fun _ => 0) y r).2 := by
  intro r
  induction r with
  | zero => exact ⟨(Int32.xor_zero).symm, rfl⟩
  | succ r ih =>
    obtain ⟨h1, h2⟩ := ih
    refine ⟨h2, ?_⟩
    show (0 ^^^ (own_pr m (fun _ => 0) (x ^^^ y) r).1) ^^^ own_T m (own_pr m (fun _ => 0) (x ^^^ y) r).2 = ((0 ^^^ (own_pr m (fun _ => 0) x r).1) ^^^ own_T m (own_pr m (fun _ => 0) x r).2) ^^^ ((0 ^^^ (own_pr m (fun _ => 0) y r).1) ^^^ own_T m (own_pr m (fun _ => 0) y r).2)
    rw [h1, h2, own_T_x, Int32.zero_xor, Int32.zero_xor, Int32.zero_xor]
    ac_rfl
theorem own_onx {x y : Nat} (hx : x < 256) (hy : y < 256) : Int32.ofNat (x ^^^ y) = Int32.ofNat x ^^^ Int32.ofNat y := by
  have h : x ^^^ y < 2 ^ 8 := own_xlt (k := 8) hx hy
  apply Int32.toBitVec_inj.mp
  apply BitVec.eq_of_toNat_eq
  rw [Int32.toBitVec_xor, BitVec.toNat_xor]
  show (x ^^^ y) % 4294967296 = (x % 4294967296) ^^^ (y % 4294967296)
  rw [Nat.mod_eq_of_lt (by omega), Nat.mod_eq_of_lt (by omega), Nat.mod_eq_of_lt (by omega)]
/-- how many first rows solve the board -/
theorem own_sols (m : Int32) (rw : Nat → Int32) (R k : Nat) (hk : k ≤ 8) : own_cnt (fun x => decide ((own_pr m rw (Int32.ofNat x) R).2 = 0)) (2 ^ k) = 0 ∨ ∃ j, j ≤ 8 ∧ own_cnt (fun x => decide ((own_pr m rw (Int32.ofNat x) R).2 = 0)) (2 ^ k) = 2 ^ j := by
  have h256 : 2 ^ k ≤ 2 ^ 8 := Nat.pow_le_pow_right (by omega) hk
  by_cases ex : 1 ≤ own_cnt (fun x => decide ((own_pr m rw (Int32.ofNat x) R).2 = 0)) (2 ^ k)
  · right
    obtain ⟨x0, hx0, h0⟩ := own_cnt_ex _ ex
    have h0' : (own_pr m rw (Int32.ofNat x0) R).2 = 0 := of_decide_eq_true h0
    obtain ⟨j, hj, hc⟩ := own_pow2 k (fun x => decide ((own_pr m (fun _ => 0) (Int32.ofNat x) R).2 = 0)) (by
      apply decide_eq_true
      have z : ∀ r, own_pr m (fun _ => 0) 0 r = (0, 0) := by
        intro r
        induction r with
        | zero => rfl
        | succ r ih =>
          have t0 : own_T m 0 = 0 := by
            have := own_T_x m 0 0
            rw [Int32.xor_self, Int32.xor_self] at this
            exact this
          rw [own_pr, ih]
          show ((0 : Int32), ((0 : Int32) ^^^ 0) ^^^ own_T m 0) = (0, 0)
          rw [t0]
          rfl
      show (own_pr m (fun _ => 0) 0 R).2 = 0
      rw [z R]) (by
      intro x y hx hy px py
      have px' : (own_pr m (fun _ => 0) (Int32.ofNat x) R).2 = 0 := of_decide_eq_true px
      have py' : (own_pr m (fun _ => 0) (Int32.ofNat y) R).2 = 0 := of_decide_eq_true py
      apply decide_eq_true
      rw [own_onx (by omega) (by omega), (own_B_x m _ _ R).2, px', py']
      rfl)
    refine ⟨j, by omega, ?_⟩
    rw [← hc, ← own_cnt_x k (fun x => decide ((own_pr m (fun _ => 0) (Int32.ofNat x) R).2 = 0)) x0 hx0]
    apply own_cnt_same
    intro x hx
    show decide _ = decide _
    rw [(own_P_lin m rw (Int32.ofNat x) R).2, own_onx (by omega) (by omega), (own_B_x m _ _ R).2]
    rw [(own_P_lin m rw (Int32.ofNat x0) R).2] at h0'
    generalize (own_pr m rw 0 R).2 = A at *
    generalize (own_pr m (fun _ => 0) (Int32.ofNat x) R).2 = b at *
    generalize (own_pr m (fun _ => 0) (Int32.ofNat x0) R).2 = c at *
    have eA : A = c := by
      have := congrArg (fun t => t ^^^ c) h0'
      simp only [Int32.zero_xor] at this
      rw [Int32.xor_assoc, Int32.xor_self, Int32.xor_zero] at this
      exact this
    rw [eA, Int32.xor_comm c b]
  · left
    omega
/-! The chase, exactly -/
def own_m (C : Int32) : Int32 := ((1 : Int32) <<< (C &&& 31)) - (1 : Int32)
def own_row (L : Int64) (C : Int32) (n : Nat) : Int32 := ((XT.ushrL L (Int32.ofNat n * C)) &&& (own_m C).toInt64).toInt32
theorem own_of {q : Int32} (h0 : 0 ≤ q.toInt) : Int32.ofNat q.toInt.toNat = q := by
  have := irng q
  rw [ieq, Int32.toInt_ofNat_of_lt (by omega)]
  omega
theorem own_ldX {R C : Int32} (hd : own_dim R C) (L M : Int64) : ∀ (n : Nat) (cur : List Int32) (i : Int32), cur.length = 8 → 0 ≤ i.toInt → i.toInt ≤ 8 → 8 - i.toInt < n → Tot (f_loadRows_8 R C L n cur M i) (fun r => r.length = 8 ∧ ∀ j : Int32, 0 ≤ j.toInt → j.toInt < R.toInt → gI r j = if j.toInt < i.toInt then gI cur j else ((XT.ushrL L (j * C)) &&& M).toInt32) := by
  have hb := hd.b
  intro n
  induction n with
  | zero => intro cur i h0 h1 h2 h3; exfalso; omega
  | succ n ih =>
    intro cur i h0 h1 h2 h3
    unfold f_loadRows_8
    refine Tot.ite (fun g => ?_) (fun g => Tot.mk ⟨h0, fun j j0 j1 => ?_⟩)
    · have g' := ilt.mp g
      have ei : (i + 1).toInt = i.toInt + 1 := by clear ih; ((try simp only [ilt, ile, ieq, iadd_e, isub_e, imul_e, Int32.reduceToInt] at *) <;> omega)
      refine Tot.wr h1 (by omega) (fun A q1 q2 => ?_)
      refine Tot.mono (ih A (i + 1) (by omega) (by omega) (by omega) (by omega)) ?_
      rintro r ⟨r1, r2⟩
      refine ⟨r1, fun j j0 j1 => ?_⟩
      rw [r2 j j0 j1, q1, gset h1 (by omega) j0]
      by_cases e : i = j
      · subst e
        rw [if_pos (by omega), if_pos rfl, if_neg (by omega)]
      · have e' : ¬ i.toInt = j.toInt := fun h => e (ieq.mpr h)
        rw [if_neg e]
        by_cases l : j.toInt < i.toInt
        · rw [if_pos (by omega), if_pos l]
        · rw [if_neg (by omega), if_neg l]
    · rw [ilt] at g
      rw [if_pos (by omega)]
theorem own_arpX {R C : Int32} (hd : own_dim R C) (cur : List Int32) (i v : Int32) (hc : cur.length = 8) (h0 : 0 ≤ i.toInt) (h1 : i.toInt < R.toInt) : Tot (f_applyRowPress R C cur i v) (fun r => r.length = 8 ∧ gI r i = gI cur i ^^^ own_T (own_m C) v ∧ ∀ j : Int32, i.toInt < j.toInt → j.toInt < R.toInt → gI r j = if j.toInt = i.toInt + 1 then gI cur j ^^^ v else gI cur j) := by
  have hb := hd.b
  have ei : (i + 1).toInt = i.toInt + 1 := by ((try simp only [ilt, ile, ieq, iadd_e, isub_e, imul_e, Int32.reduceToInt] at *) <;> omega)
  have e41 : ∀ A : List Int32, A.length = 8 → Tot (f_applyRowPress_41 R C A i v) (fun r => r.length = 8 ∧ gI r i = gI A i ∧ ∀ j : Int32, i.toInt < j.toInt → j.toInt < R.toInt → gI r j = if j.toInt = i.toInt + 1 then gI A j ^^^ v else gI A j) := by
    intro A hA
    unfold f_applyRowPress_41
    refine Tot.ite (fun g => ?_) (fun g => Tot.mk ⟨hA, rfl, fun j j0 j1 => ?_⟩)
    · have g' := ilt.mp g
      refine Tot.rdI (by omega) (by omega) (Tot.wr (by omega) (by omega) (fun B q1 q2 => Tot.mk ⟨by omega, ?_, fun j j0 j1 => ?_⟩))
      · rw [q1, gset (by omega) (by omega) h0, if_neg (by rw [ieq]; omega)]
      · rw [q1, gset (by omega) (by omega) (by omega)]
        by_cases e : i + 1 = j
        · rw [if_pos e, if_pos (by rw [← e]; omega), e]
        · rw [if_neg e, if_neg (by rw [ieq] at e; omega)]
    · rw [ilt] at g
      rw [if_neg (by omega)]
  have hx41 : ∀ A : List Int32, A.length = 8 → gI A i = gI cur i ^^^ own_T (own_m C) v → (∀ j : Int32, i.toInt < j.toInt → j.toInt < R.toInt → gI A j = gI cur j) → Tot (f_applyRowPress_41 R C A i v) (fun r => r.length = 8 ∧ gI r i = gI cur i ^^^ own_T (own_m C) v ∧ ∀ j : Int32, i.toInt < j.toInt → j.toInt < R.toInt → gI r j = if j.toInt = i.toInt + 1 then gI cur j ^^^ v else gI cur j) := by
    intro A a1 a2 a3
    refine Tot.mono (e41 A a1) ?_
    rintro r ⟨r1, r2, r3⟩
    refine ⟨r1, by rw [r2, a2], fun j j0 j1 => ?_⟩
    rw [r3 j j0 j1, a3 j j0 j1]
  unfold f_applyRowPress f_rowMask
  rw [Option.bind_some]
  refine Tot.rdI h0 (by omega) (Tot.wr h0 (by omega) (fun A q1 q2 => ?_))
  have a2 : gI A i = gI cur i ^^^ own_T (own_m C) v := by rw [q1, gset h0 (by omega) h0, if_pos rfl]; rfl
  have a3 : ∀ j : Int32, i.toInt < j.toInt → j.toInt < R.toInt → gI A j = gI cur j := by
    intro j j0 j1
    rw [q1, gset h0 (by omega) (by omega), if_neg (by rw [ieq]; omega)]
  refine Tot.ite (fun g => ?_) (fun g => hx41 A (by omega) a2 a3)
  have g' : 0 < i.toInt := ilt.mp g
  have em : (i - 1).toInt = i.toInt - 1 := by clear e41 hx41 a2 a3 q1; ((try simp only [ilt, ile, ieq, iadd_e, isub_e, imul_e, Int32.reduceToInt] at *) <;> omega)
  refine Tot.rdI (by omega) (by omega) (Tot.wr (by omega) (by omega) (fun B q3 q4 => hx41 B (by omega) ?_ (fun j j0 j1 => ?_)))
  · rw [q3, gset (by omega) (by omega) h0, if_neg (by rw [ieq]; omega), a2]
  · rw [q3, gset (by omega) (by omega) (by omega), if_neg (by rw [ieq]; omega), a3 j j0 j1]
theorem own_chX {R C : Int32} (hd : own_dim R C) (L : Int64) (rw : Nat → Int32) (x : Int32) : ∀ (n : Nat) (cur prs : List Int32) (v i : Int32) (r : Nat), cur.length = 8 → prs.length = 8 → i.toInt = r → r ≤ R.toInt.toNat → 8 - r < n →
    v = (own_pr (own_m C) rw x r).2 → (i.toInt < R.toInt → gI cur i = rw r ^^^ (own_pr (own_m C) rw x r).1) → (∀ j : Int32, i.toInt < j.toInt → j.toInt < R.toInt → gI cur j = rw j.toInt.toNat) → (0 < i.toInt → gI cur (i - 1) = v) → (∀ j : Int32, 0 ≤ j.toInt → j.toInt < i.toInt → gI prs j = (own_pr (own_m C) rw x j.toInt.toNat).2) →
    Tot (f_chase_8 (f_chase_42 R C L) R C L n cur prs v i) (fun t => t.2.1.length = 8 ∧ t.2.2.length = 8 ∧ t.1 = (if (own_pr (own_m C) rw x R.toInt.toNat).2 = 0 then 1 else 0) ∧ ∀ j : Int32, 0 ≤ j.toInt → j.toInt < R.toInt → gI t.2.2 j = (own_pr (own_m C) rw x j.toInt.toNat).2) := by
  have ha := hd.a
  have hb := hd.b
  intro n
  induction n with
  | zero => intro cur prs v i r h0 h1 h2 h3 h4; exfalso; omega
  | succ n ih =>
    intro cur prs v i r h0 h1 h2 h3 h4 hv hc hr hl hp
    unfold f_chase_8
    refine Tot.ite (fun g => ?_) (fun g => ?_)
    · have g' := ilt.mp g
      have ei : (i + 1).toInt = i.toInt + 1 := by clear ih hc hr hl hp hv; ((try simp only [ilt, ile, ieq, iadd_e, isub_e, imul_e, Int32.reduceToInt] at *) <;> omega)
      refine Tot.wr (by omega) (by omega) (fun A q1 q2 => Tot.bind (own_arpX hd cur i v h0 (by omega) g') (fun B hB => Tot.rdI (by omega) (by omega) ?_))
      obtain ⟨b1, b2, b3⟩ := hB
      have es : i + 1 - 1 = i := by clear ih hc hr hl hp hv b2 b3 q1; ((try simp only [ilt, ile, ieq, iadd_e, isub_e, imul_e, Int32.reduceToInt] at *) <;> omega)
      have nx : gI B i = (own_pr (own_m C) rw x (r + 1)).2 := by
        rw [b2, hc g', hv]
        rfl
      refine ih B A _ (i + 1) (r + 1) b1 (by omega) (by omega) (by omega) (by omega) nx (fun l => ?_) (fun j j0 j1 => ?_) (fun _ => ?_) (fun j j0 j1 => ?_)
      · rw [b3 (i + 1) (by omega) l, if_pos (by omega), hr (i + 1) (by omega) l, hv, show (i + 1).toInt.toNat = r + 1 by omega]
        rfl
      · rw [b3 j (by omega) j1, if_neg (by omega), hr j (by omega) j1]
      · rw [es]
      · rw [q1, gset (by omega) (by omega) j0]
        by_cases e : i = j
        · rw [if_pos e, hv, ← e, h2]
          rfl
        · rw [if_neg e]
          exact hp j j0 (by rw [ieq] at e; omega)
    · rw [ilt] at g
      unfold f_chase_42
      have er : (R - 1).toInt = R.toInt - 1 := by clear ih hc hr hl hp hv; ((try simp only [ilt, ile, ieq, iadd_e, isub_e, imul_e, Int32.reduceToInt] at *) <;> omega)
      have eR : i = R := by rw [ieq]; omega
      refine Tot.rdI (by omega) (by omega) (Tot.mk ⟨h0, h1, ?_, fun j j0 j1 => hp j j0 (by omega)⟩)
      have := hl (by omega)
      rw [eR] at this
      show (if gI cur (R - 1) = 0 then (1 : Int32) else 0) = _
      rw [this, hv, show r = R.toInt.toNat by omega]
theorem own_chaseX {R C : Int32} (hd : own_dim R C) (L : Int64) (cur prs : List Int32) (x : Int32) (h0 : cur.length = 8) (h1 : prs.length = 8) : Tot (f_chase R C L cur prs x) (fun t => t.2.1.length = 8 ∧ t.2.2.length = 8 ∧ t.1 = (if (own_pr (own_m C) (own_row L C) x R.toInt.toNat).2 = 0 then 1 else 0) ∧ ∀ j : Int32, 0 ≤ j.toInt → j.toInt < R.toInt → gI t.2.2 j = (own_pr (own_m C) (own_row L C) x j.toInt.toNat).2) := by
  have ha := hd.a
  have hb := hd.b
  unfold f_chase f_loadRows f_rowMask
  rw [Option.bind_some]
  refine Tot.bind (own_ldX hd L _ 100000 cur 0 h0 (by decide) (by decide) (by decide)) (fun A hA => ?_)
  obtain ⟨a1, a2⟩ := hA
  have rows : ∀ j : Int32, 0 ≤ j.toInt → j.toInt < R.toInt → gI A j = own_row L C j.toInt.toNat := by
    intro j j0 j1
    rw [a2 j j0 j1, if_neg (by have : (0 : Int32).toInt = 0 := rfl; omega)]
    unfold own_row
    rw [own_of j0]
    rfl
  have z : (0 : Int32).toInt = 0 := rfl
  refine own_chX hd L (own_row L C) x 100000 A prs x 0 0 a1 h1 rfl (by omega) (by omega) rfl (fun _ => ?_) (fun j j0 j1 => rows j (by omega) j1) (fun h => by omega) (fun j j0 j1 => by omega)
  rw [rows 0 (by omega) (by omega)]
  exact (Int32.xor_zero).symm
/-! no bits beyond the row -/
theorem own_mm {R C : Int32} (hd : own_dim R C) : 0 ≤ (own_m C).toInt ∧ (own_m C).toInt = 2 ^ C.toInt.toNat - 1 ∧ ((1 : Int32) <<< (C &&& 31)).toInt = 2 ^ C.toInt.toNat := by
  have hc := hd.c
  have hb := hd.d
  have k : C = 1 ∨ C = 2 ∨ C = 3 ∨ C = 4 ∨ C = 5 ∨ C = 6 ∨ C = 7 ∨ C = 8 := by
    simp only [ieq, Int32.reduceToInt]
    omega
  rcases k with rfl | rfl | rfl | rfl | rfl | rfl | rfl | rfl <;> decide
theorem own_ax (a b m : Int32) : (a ^^^ b) &&& m = (a &&& m) ^^^ (b &&& m) := by
  apply Int32.toBitVec_inj.mp
  apply BitVec.eq_of_getLsbD_eq
  intro i hi
  rw [Int32.toBitVec_xor, BitVec.getLsbD_xor, Int32.toBitVec_and, Int32.toBitVec_and, Int32.toBitVec_and, Int32.toBitVec_xor, BitVec.getLsbD_and, BitVec.getLsbD_and, BitVec.getLsbD_and, BitVec.getLsbD_xor]
  cases a.toBitVec.getLsbD i <;> cases b.toBitVec.getLsbD i <;> cases m.toBitVec.getLsbD i <;> rfl
theorem own_aa (a m : Int32) : (a &&& m) &&& m = a &&& m := by rw [Int32.and_assoc, Int32.and_self]
theorem own_row_m (L : Int64) (C : Int32) (n : Nat) : own_row L C n &&& own_m C = own_row L C n := by
  have e : ∀ m : Int32, m.toInt64.toInt32 = m := fun m => Int32.toInt32_toInt64 m
  unfold own_row
  rw [Int64.toInt32_and, e, own_aa]
theorem own_P_m (C : Int32) (L : Int64) (x : Int32) (hx : x &&& own_m C = x) : ∀ r, (own_pr (own_m C) (own_row L C) x r).1 &&& own_m C = (own_pr (own_m C) (own_row L C) x r).1 ∧ (own_pr (own_m C) (own_row L C) x r).2 &&& own_m C = (own_pr (own_m C) (own_row L C) x r).2 := by
  intro r
  induction r with
  | zero => exact ⟨Int32.zero_and, hx⟩
  | succ r ih =>
    refine ⟨ih.2, ?_⟩
    show ((own_row L C r ^^^ (own_pr (own_m C) (own_row L C) x r).1) ^^^ own_T (own_m C) (own_pr (own_m C) (own_row L C) x r).2) &&& own_m C = _
    rw [own_ax, own_ax, own_row_m, ih.1]
    have t : own_T (own_m C) (own_pr (own_m C) (own_row L C) x r).2 &&& own_m C = own_T (own_m C) (own_pr (own_m C) (own_row L C) x r).2 := own_aa _ _
    rw [t]
    rfl
theorem own_xm : ∀ k : Fin 9, 1 ≤ k.val → ∀ x : Fin 256, x.val < 2 ^ k.val → Int32.ofNat x.val &&& own_m (Int32.ofNat k.val) = Int32.ofNat x.val := by decide +kernel
theorem own_sh63 : ∀ k : Fin 64, (((Int32.ofNat k.val).toInt64 &&& 63).toBitVec.smod 64).toNat = k.val := by decide +kernel
theorem own_g_shl (p : Int64) (s : Int32) (h0 : 0 ≤ s.toInt) (h1 : s.toInt < 64) (n : Nat) : own_g (p <<< (s.toInt64 &&& 63)) n = (decide (n < 64) && !decide (n < s.toInt.toNat) && own_g p (n - s.toInt.toNat)) := by
  have k := own_sh63 ⟨s.toInt.toNat, by omega⟩
  simp only [own_of h0] at k
  unfold own_g
  rw [Int64.toBitVec_shiftLeft, BitVec.shiftLeft_eq', k, BitVec.getLsbD_shiftLeft]
theorem own_g_out (v : Int64) {n : Nat} (h : 64 ≤ n) : own_g v n = false := BitVec.getLsbD_of_ge _ _ h
theorem own_g_or (a b : Int64) (n : Nat) : own_g (a ||| b) n = (own_g a n || own_g b n) := by
  unfold own_g
  rw [Int64.toBitVec_or, BitVec.getLsbD_or]
theorem own_g_low {R C : Int32} (hd : own_dim R C) (p : Int32) (hp : p &&& own_m C = p) {n : Nat} (hn : C.toInt.toNat ≤ n) : own_g p.toInt64 n = false := by
  obtain ⟨m0, m1, _⟩ := own_mm hd
  have hr := iand_rng p (own_m C) m0
  rw [hp, m1] at hr
  have e : p.toInt64.toBitVec.toNat = p.toInt.toNat := by
    have q : p.toInt64.toInt = p.toInt := Int32.toInt_toInt64 p
    have q2 : p.toInt64.toInt = p.toInt64.toBitVec.toInt := rfl
    have h := irng p
    rw [q2, BitVec.toInt_eq_toNat_cond] at q
    have hl : p.toInt64.toBitVec.toNat < 2 ^ 64 := p.toInt64.toBitVec.isLt
    split at q <;> omega
  unfold own_g
  show Nat.testBit _ _ = _
  rw [e]
  apply Nat.testBit_lt_two_pow
  have : 2 ^ C.toInt.toNat ≤ 2 ^ n := Nat.pow_le_pow_right (by omega) hn
  have c : ((2 ^ C.toInt.toNat : Nat) : Int) = 2 ^ C.toInt.toNat := by rw [Int.natCast_pow]; rfl
  omega
theorem own_pkX {R C : Int32} (hd : own_dim R C) (prs : List Int32) (hp : prs.length = 8) (hm : ∀ j : Int32, 0 ≤ j.toInt → j.toInt < R.toInt → gI prs j &&& own_m C = gI prs j) : ∀ (n : Nat) (v : Int64) (i : Int32), 0 ≤ i.toInt → i.toInt ≤ R.toInt → 8 - i.toInt < n → (∀ b, (i.toInt * C.toInt).toNat ≤ b → own_g v b = false) → Tot (f_packPresses_4 prs R C n v i) (fun w => ∀ b, (R.toInt * C.toInt).toNat ≤ b → own_g w b = false) := by
  have hb := hd.b
  have hc := hd.c
  have hc8 := hd.d
  intro n
  induction n with
  | zero => intro v i h0 h1 h2; exfalso; omega
  | succ n ih =>
    intro v i h0 h1 h2 h3
    unfold f_packPresses_4
    refine Tot.ite (fun g => ?_) (fun g => Tot.mk ?_)
    · have g' := ilt.mp g
      have ei : (i + 1).toInt = i.toInt + 1 := by clear ih h3 hm; ((try simp only [ilt, ile, ieq, iadd_e, isub_e, imul_e, Int32.reduceToInt] at *) <;> omega)
      have mb := mulb (M := 7) (a := i.toInt) (b := C.toInt - 1) (by omega) (by omega) (by omega) (by omega)
      have mb2 := Int.mul_sub i.toInt C.toInt 1
      have em : (i * C).toInt = i.toInt * C.toInt := imul_i (by omega) (by omega)
      have ea : (i.toInt + 1) * C.toInt = i.toInt * C.toInt + C.toInt := by rw [Int.add_mul, Int.one_mul]
      have nn : 0 ≤ i.toInt * C.toInt := Int.mul_nonneg (by omega) (by omega)
      refine Tot.rdI h0 (by omega) (ih _ (i + 1) (by omega) (by omega) (by omega) (fun b hb' => ?_))
      rw [ei, ea] at hb'
      rw [own_g_or, h3 b (by omega), own_g_shl _ _ (by omega) (by omega), em, own_g_low hd _ (hm i h0 g') (show C.toInt.toNat ≤ b - (i.toInt * C.toInt).toNat by omega)]
      simp
    · rw [ilt] at g
      have : i.toInt = R.toInt := by omega
      rw [this] at h3
      exact h3
/-! xor sums of masks -/
theorem own_g_xor (a b : Int64) (n : Nat) : own_g (a ^^^ b) n = (own_g a n ^^ own_g b n) := by
  unfold own_g
  rw [Int64.toBitVec_xor, BitVec.getLsbD_xor]
theorem own_g_and (a b : Int64) (n : Nat) : own_g (a &&& b) n = (own_g a n && own_g b n) := by
  unfold own_g
  rw [Int64.toBitVec_and, BitVec.getLsbD_and]
theorem own_g_0 (n : Nat) : own_g 0 n = false := by unfold own_g; exact BitVec.getLsbD_zero
theorem own_g_e {a b : Int64} (h : ∀ n, n < 64 → own_g a n = own_g b n) : a = b := by
  apply Int64.toBitVec_inj.mp
  apply BitVec.eq_of_getLsbD_eq
  intro i hi
  exact h i hi
theorem own_g_1 (n : Nat) : own_g 1 n = decide (n = 0) := by
  unfold own_g
  show (1#64).getLsbD n = _
  rw [BitVec.getLsbD_one]
  simp
def own_B (i : Nat) : Int64 := (1 : Int64) <<< ((Int32.ofNat i).toInt64 &&& 63)
theorem own_g_B {i : Nat} (hi : i < 64) (n : Nat) : own_g (own_B i) n = decide (n = i) := by
  have e : (Int32.ofNat i).toInt = i := Int32.toInt_ofNat_of_lt (by omega)
  unfold own_B
  rw [own_g_shl _ _ (by omega) (by omega), own_g_1, e, Int.toNat_natCast]
  by_cases h : n = i
  · subst h
    rw [decide_eq_true hi, decide_eq_false (Nat.lt_irrefl _), Nat.sub_self]
    simp
  · rw [decide_eq_false h]
    by_cases l : n < i
    · rw [decide_eq_true l]
      simp
    · rw [decide_eq_false (show ¬ n - i = 0 by omega), Bool.and_false]
theorem own_tst (ss : Int64) {i : Nat} (hi : i < 64) : ((ss &&& own_B i) = 0) ↔ own_g ss i = false := by
  constructor
  · intro h
    have := congrArg (fun t => own_g t i) h
    simp only [own_g_and, own_g_B hi, own_g_0, decide_true, Bool.and_true] at this
    exact this
  · intro h
    apply own_g_e
    intro n _
    rw [own_g_and, own_g_B hi, own_g_0]
    by_cases e : n = i
    · rw [e, h, Bool.false_and]
    · rw [decide_eq_false e, Bool.and_false]
def own_X (f : Nat → Int64) (q : Nat → Bool) : Nat → Int64
  | 0 => 0
  | k + 1 => if q k then own_X f q k ^^^ f k else own_X f q k
theorem own_X_B (q : Nat → Bool) : ∀ k, k ≤ 64 → ∀ n, own_g (own_X own_B q k) n = (decide (n < k) && q n) := by
  intro k
  induction k with
  | zero => intro _ n; rw [own_X, own_g_0, decide_eq_false (by omega), Bool.false_and]
  | succ k ih =>
    intro hk n
    rw [own_X]
    by_cases h : n = k
    · subst h
      rw [decide_eq_true (by omega), Bool.true_and]
      cases c : q n with
      | true => rw [if_pos rfl, own_g_xor, ih (by omega), own_g_B (by omega), decide_eq_true rfl, decide_eq_false (Nat.lt_irrefl _), Bool.false_and]; rfl
      | false => rw [if_neg (by decide), ih (by omega), decide_eq_false (Nat.lt_irrefl _), Bool.false_and]
    · have e : decide (n < k + 1) = decide (n < k) := by
        by_cases l : n < k
        · rw [decide_eq_true l, decide_eq_true (by omega)]
        · rw [decide_eq_false l, decide_eq_false (by omega)]
      rw [e]
      cases c : q k with
      | true => rw [if_pos rfl, own_g_xor, ih (by omega), own_g_B (by omega), decide_eq_false h, Bool.xor_false]
      | false => rw [if_neg (by decide), ih (by omega)]
theorem own_X_hi {f : Nat → Int64} {N : Nat} (q : Nat → Bool) : ∀ k, (∀ i, i < k → ∀ b, N ≤ b → own_g (f i) b = false) → ∀ b, N ≤ b → own_g (own_X f q k) b = false := by
  intro k
  induction k with
  | zero => intro _ b _; exact own_g_0 b
  | succ k ih =>
    intro h b hb
    rw [own_X]
    have i := ih (fun j hj => h j (by omega)) b hb
    split
    · rw [own_g_xor, i, h k (by omega) b hb]; rfl
    · exact i
theorem own_X_same {f : Nat → Int64} {q r : Nat → Bool} : ∀ k, (∀ i, i < k → q i = r i) → own_X f q k = own_X f r k := by
  intro k
  induction k with
  | zero => intro _; rfl
  | succ k ih => intro h; rw [own_X, own_X, ih (fun i hi => h i (by omega)), h k (by omega)]
/-- turning one bit -/
theorem own_X_flip {f : Nat → Int64} {q r : Nat → Bool} {j : Nat} (hj : r j = !q j) (ho : ∀ i, i ≠ j → r i = q i) : ∀ k, own_X f r k = if j < k then own_X f q k ^^^ f j else own_X f q k := by
  intro k
  induction k with
  | zero => rw [if_neg (by omega)]; rfl
  | succ k ih =>
    rw [own_X, own_X, ih]
    by_cases e : k = j
    · subst e
      have l1 : k < k + 1 := by omega
      have l2 : ¬ k < k := by omega
      rw [if_pos l1, if_neg l2, hj]
      cases q k with
      | true =>
        show own_X f q k = (own_X f q k ^^^ f k) ^^^ f k
        rw [Int64.xor_assoc, Int64.xor_self, Int64.xor_zero]
      | false => rfl
    · rw [ho k e]
      by_cases l : j < k
      · have l1 : j < k + 1 := by omega
        rw [if_pos l, if_pos l1]
        cases q k with
        | true =>
          show (own_X f q k ^^^ f j) ^^^ f k = (own_X f q k ^^^ f k) ^^^ f j
          rw [Int64.xor_assoc, Int64.xor_comm (f j), ← Int64.xor_assoc]
        | false => rfl
      · have l1 : ¬ j < k + 1 := by omega
        rw [if_neg l, if_neg l1]
/-! rows -/
theorem own_sh63b : ∀ k : Fin 64, (((Int32.ofNat k.val).toInt64.toUInt64 &&& Int64.toUInt64 63).toBitVec % 64#64).toNat = k.val := by decide +kernel
theorem own_g_shr (v : Int64) (s : Int32) (h0 : 0 ≤ s.toInt) (h1 : s.toInt < 64) (n : Nat) : own_g (XT.ushrL v s) n = own_g v (s.toInt.toNat + n) := by
  have k := own_sh63b ⟨s.toInt.toNat, by omega⟩
  simp only [own_of h0] at k
  have e : (XT.ushrL v s).toBitVec = v.toBitVec >>> ((s.toInt64.toUInt64 &&& Int64.toUInt64 63).toBitVec % 64#64) := rfl
  unfold own_g
  rw [e, BitVec.ushiftRight_eq', k, BitVec.getLsbD_ushiftRight]
theorem own_ush_x (a b : Int64) (s : Int32) : XT.ushrL (a ^^^ b) s = XT.ushrL a s ^^^ XT.ushrL b s := by
  apply Int64.toBitVec_inj.mp
  have e : ∀ v : Int64, (XT.ushrL v s).toBitVec = v.toBitVec >>> ((s.toInt64.toUInt64 &&& Int64.toUInt64 63).toBitVec % 64#64) := fun _ => rfl
  rw [Int64.toBitVec_xor, e, e, e, Int64.toBitVec_xor, BitVec.ushiftRight_eq', BitVec.ushiftRight_eq', BitVec.ushiftRight_eq', BitVec.ushiftRight_xor_distrib]
theorem own_ax64 (a b m : Int64) : (a ^^^ b) &&& m = (a &&& m) ^^^ (b &&& m) := by
  apply own_g_e
  intro n _
  rw [own_g_and, own_g_xor, own_g_xor, own_g_and, own_g_and]
  cases own_g a n <;> cases own_g b n <;> cases own_g m n <;> rfl
theorem own_row_x (a b : Int64) (C : Int32) (r : Nat) : own_row (a ^^^ b) C r = own_row a C r ^^^ own_row b C r := by
  unfold own_row
  rw [own_ush_x, own_ax64, Int64.toInt32_xor]
theorem own_row_0 (C : Int32) (r : Nat) : own_row 0 C r = 0 := by
  have := own_row_x 0 0 C r
  rw [Int64.xor_self, Int32.xor_self] at this
  exact this
theorem own_m_bits : ∀ C : Fin 9, 1 ≤ C.val → ∀ c : Fin 32, (own_m (Int32.ofNat C.val)).toBitVec.getLsbD c.val = decide (c.val < C.val) := by decide +kernel
theorem own_row_b {R C : Int32} (hd : own_dim R C) (v : Int64) {r c : Nat} (hr : r < 8) (hc : c < 32) : (own_row v C r).toBitVec.getLsbD c = (own_g v (r * C.toInt.toNat + c) && decide (c < C.toInt.toNat)) := by
  have h1 := hd.c
  have h8 := hd.d
  have mb := own_m_bits ⟨C.toInt.toNat, by omega⟩ (by show 1 ≤ C.toInt.toNat; omega) ⟨c, hc⟩
  simp only [own_of (show 0 ≤ C.toInt by omega)] at mb
  have er : (Int32.ofNat r).toInt = r := Int32.toInt_ofNat_of_lt (by omega)
  have mm := mulb (M := 7) (a := (r : Int)) (b := C.toInt - 1) (by omega) (by omega) (by omega) (by omega)
  have mb2 := Int.mul_sub (r : Int) C.toInt 1
  have nn : 0 ≤ (r : Int) * C.toInt := Int.mul_nonneg (by omega) (by omega)
  have em : (Int32.ofNat r * C).toInt = (r : Int) * C.toInt := by rw [imul_i (by rw [er]; omega) (by rw [er]; omega), er]
  have en : (Int32.ofNat r * C).toInt.toNat = r * C.toInt.toNat := by
    rw [em, Int.toNat_mul (by omega) (by omega)]
    rfl
  have k := own_row_m v C r
  have q : (own_row v C r).toBitVec.getLsbD c = (own_g (XT.ushrL v (Int32.ofNat r * C)) c && (own_m C).toBitVec.getLsbD c) := by
    unfold own_row
    rw [Int64.toInt32_and, Int32.toInt32_toInt64, Int32.toBitVec_and, BitVec.getLsbD_and]
    congr 1
    have t : (XT.ushrL v (Int32.ofNat r * C)).toInt32.toBitVec = (XT.ushrL v (Int32.ofNat r * C)).toBitVec.signExtend 32 := rfl
    rw [t, BitVec.signExtend_eq_setWidth_of_le _ (by decide), BitVec.getLsbD_setWidth, decide_eq_true hc, Bool.true_and]
    rfl
  rw [q, mb, own_g_shr _ _ (by rw [em]; omega) (by rw [em]; omega), en]
theorem own_rows_e {R C : Int32} (hd : own_dim R C) {a b : Int64} (ha : ∀ n, R.toInt.toNat * C.toInt.toNat ≤ n → own_g a n = false) (hb : ∀ n, R.toInt.toNat * C.toInt.toNat ≤ n → own_g b n = false) (h : ∀ r, r < R.toInt.toNat → own_row a C r = own_row b C r) : a = b := by
  have r1 := hd.a
  have r8 := hd.b
  have c1 := hd.c
  have c8 := hd.d
  apply own_g_e
  intro n hn
  by_cases l : n < R.toInt.toNat * C.toInt.toNat
  · have hq : n / C.toInt.toNat < R.toInt.toNat := Nat.div_lt_of_lt_mul (by rw [Nat.mul_comm]; exact l)
    have hm : n % C.toInt.toNat < C.toInt.toNat := Nat.mod_lt _ (by omega)
    have e := congrArg (fun t : Int32 => t.toBitVec.getLsbD (n % C.toInt.toNat)) (h (n / C.toInt.toNat) hq)
    rw [own_row_b hd a (by omega) (by omega), own_row_b hd b (by omega) (by omega), decide_eq_true hm, Bool.and_true, Bool.and_true, Nat.mul_comm, Nat.div_add_mod] at e
    exact e
  · rw [ha n (by omega), hb n (by omega)]
/-! what a press does -/
def own_M (R C : Int32) (i : Nat) : Int64 := (f_L_pressMask (Int32.ofNat i) R C).getD 0
def own_Lr (R : Nat) (C : Int32) (r : Nat) (v : Int64) : Int32 := (own_T (own_m C) (own_row v C r) ^^^ (if 0 < r then own_row v C (r - 1) else 0)) ^^^ (if r + 1 < R then own_row v C (r + 1) else 0)
theorem own_Lr_x (R : Nat) (C : Int32) (r : Nat) (a b : Int64) : own_Lr R C r (a ^^^ b) = own_Lr R C r a ^^^ own_Lr R C r b := by
  unfold own_Lr
  rw [own_row_x, own_row_x, own_row_x, own_T_x]
  by_cases h1 : 0 < r
  · rw [if_pos h1, if_pos h1, if_pos h1]
    by_cases h2 : r + 1 < R
    · rw [if_pos h2, if_pos h2, if_pos h2]; ac_rfl
    · rw [if_neg h2, if_neg h2, if_neg h2, Int32.xor_zero, Int32.xor_zero, Int32.xor_zero]; ac_rfl
  · rw [if_neg h1, if_neg h1, if_neg h1, Int32.xor_zero, Int32.xor_zero, Int32.xor_zero]
    by_cases h2 : r + 1 < R
    · rw [if_pos h2, if_pos h2, if_pos h2]; ac_rfl
    · rw [if_neg h2, if_neg h2, if_neg h2, Int32.xor_zero, Int32.xor_zero, Int32.xor_zero]
theorem own_Lr_0 (R : Nat) (C : Int32) (r : Nat) : own_Lr R C r 0 = 0 := by
  have := own_Lr_x R C r 0 0
  rw [Int64.xor_self, Int32.xor_self] at this
  exact this
theorem own_M_all : ∀ r c : Fin 4, ∀ i : Fin 16, i.val < (r.val + 1) * (c.val + 1) →
    f_L_pressMask (Int32.ofNat i.val) (Int32.ofNat (r.val + 1)) (Int32.ofNat (c.val + 1)) = some (own_M (Int32.ofNat (r.val + 1)) (Int32.ofNat (c.val + 1)) i.val) ∧
    f_toggleCell (Int32.ofNat (r.val + 1)) (Int32.ofNat (c.val + 1)) 0 (Int32.ofNat i.val / Int32.ofNat (c.val + 1)) (Int32.ofNat i.val % Int32.ofNat (c.val + 1)) = some (own_M (Int32.ofNat (r.val + 1)) (Int32.ofNat (c.val + 1)) i.val) ∧
    (own_M (Int32.ofNat (r.val + 1)) (Int32.ofNat (c.val + 1)) i.val).toBitVec.toNat < 2 ^ ((r.val + 1) * (c.val + 1)) ∧
    ∀ k : Fin 4, k.val < r.val + 1 → own_row (own_M (Int32.ofNat (r.val + 1)) (Int32.ofNat (c.val + 1)) i.val) (Int32.ofNat (c.val + 1)) k.val = own_Lr (r.val + 1) (Int32.ofNat (c.val + 1)) k.val (own_B i.val) := by decide +kernel
abbrev own_d4 (R C : Int32) : Prop := (own_dim R C) ∧ (R.toInt ≤ 4) ∧ (C.toInt ≤ 4)
theorem own_d4.d {R C : Int32} (self : own_d4 R C) : own_dim R C := self.1
theorem own_d4.r {R C : Int32} (self : own_d4 R C) : R.toInt ≤ 4 := self.2.1
theorem own_d4.c {R C : Int32} (self : own_d4 R C) : C.toInt ≤ 4 := self.2.2
theorem own_n16 {R C : Int32} (h : own_d4 R C) : 1 ≤ R.toInt.toNat * C.toInt.toNat ∧ R.toInt.toNat * C.toInt.toNat ≤ 16 := by
  have r1 := h.d.a
  have c1 := h.d.c
  have r4 := h.r
  have c4 := h.c
  exact ⟨Nat.mul_pos (by omega) (by omega), Nat.mul_le_mul (show R.toInt.toNat ≤ 4 by omega) (show C.toInt.toNat ≤ 4 by omega)⟩
theorem own_M_f {R C : Int32} (h : own_d4 R C) {i : Nat} (hi : i < R.toInt.toNat * C.toInt.toNat) : f_L_pressMask (Int32.ofNat i) R C = some (own_M R C i) ∧ f_toggleCell R C 0 (Int32.ofNat i / C) (Int32.ofNat i % C) = some (own_M R C i) ∧ (∀ b, R.toInt.toNat * C.toInt.toNat ≤ b → own_g (own_M R C i) b = false) ∧ ∀ k, k < R.toInt.toNat → own_row (own_M R C i) C k = own_Lr R.toInt.toNat C k (own_B i) := by
  have r1 := h.d.a
  have c1 := h.d.c
  have r4 := h.r
  have c4 := h.c
  have n16 := own_n16 h
  have er : R.toInt.toNat - 1 + 1 = R.toInt.toNat := by omega
  have ec : C.toInt.toNat - 1 + 1 = C.toInt.toNat := by omega
  have q := own_M_all ⟨R.toInt.toNat - 1, by omega⟩ ⟨C.toInt.toNat - 1, by omega⟩ ⟨i, by omega⟩ (by
    show i < (R.toInt.toNat - 1 + 1) * (C.toInt.toNat - 1 + 1)
    rw [er, ec]; exact hi)
  simp only [er, ec, own_of (show 0 ≤ R.toInt by omega), own_of (show 0 ≤ C.toInt by omega)] at q
  refine ⟨q.1, q.2.1, fun b hb => ?_, fun k hk => q.2.2.2 ⟨k, by omega⟩ hk⟩
  show Nat.testBit _ _ = false
  exact Nat.testBit_lt_two_pow (Nat.lt_of_lt_of_le q.2.2.1 (Nat.pow_le_pow_right (by decide) hb))
/-- what the presses q do -/
def own_E (R C : Int32) (q : Nat → Bool) : Int64 := own_X (own_M R C) q (R.toInt.toNat * C.toInt.toNat)
theorem own_E_hi {R C : Int32} (h : own_d4 R C) (q : Nat → Bool) : ∀ b, R.toInt.toNat * C.toInt.toNat ≤ b → own_g (own_E R C q) b = false :=
  own_X_hi q _ (fun i hi => (own_M_f h hi).2.2.1)
theorem own_XB_g {s : Int64} {N : Nat} (hN : N ≤ 64) (hs : ∀ b, N ≤ b → own_g s b = false) : own_X own_B (own_g s) N = s := by
  apply own_g_e
  intro n hn
  rw [own_X_B _ _ hN]
  by_cases l : n < N
  · rw [decide_eq_true l, Bool.true_and]
  · rw [decide_eq_false l, Bool.false_and, hs n (by omega)]
theorem own_E_row {R C : Int32} (h : own_d4 R C) (q : Nat → Bool) {r : Nat} (hr : r < R.toInt.toNat) : ∀ k, k ≤ R.toInt.toNat * C.toInt.toNat → own_row (own_X (own_M R C) q k) C r = own_Lr R.toInt.toNat C r (own_X own_B q k) := by
  intro k
  induction k with
  | zero => intro _; rw [own_X, own_X, own_row_0, own_Lr_0]
  | succ k ih =>
    intro hk
    rw [own_X, own_X]
    cases q k with
    | true =>
      show own_row (own_X (own_M R C) q k ^^^ own_M R C k) C r = own_Lr R.toInt.toNat C r (own_X own_B q k ^^^ own_B k)
      rw [own_row_x, own_Lr_x, ih (by omega), (own_M_f h (show k < R.toInt.toNat * C.toInt.toNat by omega)).2.2.2 r hr]
    | false => exact ih (by omega)
theorem own_E_iff {R C : Int32} (h : own_d4 R C) {s L : Int64} (hs : ∀ b, R.toInt.toNat * C.toInt.toNat ≤ b → own_g s b = false) (hL : ∀ b, R.toInt.toNat * C.toInt.toNat ≤ b → own_g L b = false) : own_E R C (own_g s) = L ↔ ∀ r, r < R.toInt.toNat → own_Lr R.toInt.toNat C r s = own_row L C r := by
  have n16 := own_n16 h
  have e : ∀ r, r < R.toInt.toNat → own_row (own_E R C (own_g s)) C r = own_Lr R.toInt.toNat C r s := by
    intro r hr
    unfold own_E
    rw [own_E_row h _ hr _ (Nat.le_refl _), own_XB_g (by omega) hs]
  constructor
  · intro q r hr
    rw [← e r hr, q]
  · intro q
    exact own_rows_e h.d (own_E_hi h _) hL (fun r hr => by rw [e r hr, q r hr])
theorem own_x3 {a b c d : Int32} (h : (a ^^^ b) ^^^ c = d) : c = (d ^^^ b) ^^^ a := by
  rw [← h]
  have e : (((a ^^^ b) ^^^ c) ^^^ b) ^^^ a = c ^^^ ((a ^^^ a) ^^^ (b ^^^ b)) := by ac_rfl
  rw [e, Int32.xor_self, Int32.xor_self, Int32.xor_self, Int32.xor_zero]
theorem own_x4 {a b c d : Int32} (h : c = (d ^^^ b) ^^^ a) : (a ^^^ b) ^^^ c = d := by
  rw [h]
  have e : (a ^^^ b) ^^^ ((d ^^^ b) ^^^ a) = d ^^^ ((a ^^^ a) ^^^ (b ^^^ b)) := by ac_rfl
  rw [e, Int32.xor_self, Int32.xor_self, Int32.xor_self, Int32.xor_zero]
theorem own_pr_1 (m : Int32) (f : Nat → Int32) (x : Int32) (r : Nat) : (own_pr m f x r).1 = if 0 < r then (own_pr m f x (r - 1)).2 else 0 := by
  cases r with
  | zero => rfl
  | succ r => rw [if_pos (by omega)]; rfl
/-- a solution's rows are the chase's -/
theorem own_solB {R C : Int32} (h : own_d4 R C) {s L : Int64} (hq : ∀ r, r < R.toInt.toNat → own_Lr R.toInt.toNat C r s = own_row L C r) : (∀ r, r < R.toInt.toNat → (own_pr (own_m C) (own_row L C) (own_row s C 0) r).2 = own_row s C r) ∧ (own_pr (own_m C) (own_row L C) (own_row s C 0) R.toInt.toNat).2 = 0 := by
  have r1 := h.d.a
  have key : ∀ r, r < R.toInt.toNat → (own_pr (own_m C) (own_row L C) (own_row s C 0) r).2 = own_row s C r ∧ (own_pr (own_m C) (own_row L C) (own_row s C 0) r).1 = (if 0 < r then own_row s C (r - 1) else 0) := by
    intro r
    induction r with
    | zero => intro _; exact ⟨rfl, rfl⟩
    | succ r ih =>
      intro hr
      obtain ⟨i1, i2⟩ := ih (by omega)
      have e := hq r (by omega)
      unfold own_Lr at e
      rw [if_pos hr] at e
      refine ⟨?_, ?_⟩
      · show (own_row L C r ^^^ (own_pr (own_m C) (own_row L C) (own_row s C 0) r).1) ^^^ own_T (own_m C) (own_pr (own_m C) (own_row L C) (own_row s C 0) r).2 = _
        rw [i1, i2]
        exact (own_x3 e).symm
      · rw [if_pos (by omega)]
        exact i1
  refine ⟨fun r hr => (key r hr).1, ?_⟩
  obtain ⟨k, hk⟩ : ∃ k, R.toInt.toNat = k + 1 := ⟨R.toInt.toNat - 1, by omega⟩
  obtain ⟨i1, i2⟩ := key k (by omega)
  have e := hq k (by omega)
  unfold own_Lr at e
  rw [if_neg (show ¬ k + 1 < R.toInt.toNat by omega)] at e
  rw [hk]
  show (own_row L C k ^^^ (own_pr (own_m C) (own_row L C) (own_row s C 0) k).1) ^^^ own_T (own_m C) (own_pr (own_m C) (own_row L C) (own_row s C 0) k).2 = _
  rw [i1, i2]
  exact (own_x3 e).symm
theorem own_solA {R C : Int32} (h : own_d4 R C) {s L : Int64} {x : Int32} (hr : ∀ r, r < R.toInt.toNat → own_row s C r = (own_pr (own_m C) (own_row L C) x r).2) (h0 : (own_pr (own_m C) (own_row L C) x R.toInt.toNat).2 = 0) : ∀ r, r < R.toInt.toNat → own_Lr R.toInt.toNat C r s = own_row L C r := by
  intro r l
  have st : (own_pr (own_m C) (own_row L C) x (r + 1)).2 = (own_row L C r ^^^ (own_pr (own_m C) (own_row L C) x r).1) ^^^ own_T (own_m C) (own_pr (own_m C) (own_row L C) x r).2 := rfl
  have nx : (if r + 1 < R.toInt.toNat then own_row s C (r + 1) else 0) = (own_pr (own_m C) (own_row L C) x (r + 1)).2 := by
    by_cases g : r + 1 < R.toInt.toNat
    · rw [if_pos g, hr _ g]
    · rw [if_neg g, show r + 1 = R.toInt.toNat by omega, h0]
  have pv : (if 0 < r then own_row s C (r - 1) else 0) = (own_pr (own_m C) (own_row L C) x r).1 := by
    rw [own_pr_1]
    by_cases g : 0 < r
    · rw [if_pos g, if_pos g, hr _ (by omega)]
    · rw [if_neg g, if_neg g]
  unfold own_Lr
  rw [nx, pv, hr r l]
  exact own_x4 st
/-- the presses that begin with the row x -/
def own_w (R C : Int32) (L : Int64) (x : Nat) : Int64 := own_X own_B (fun i => (own_pr (own_m C) (own_row L C) (Int32.ofNat x) (i / C.toInt.toNat)).2.toBitVec.getLsbD (i % C.toInt.toNat)) (R.toInt.toNat * C.toInt.toNat)
theorem own_w_g {R C : Int32} (h : own_d4 R C) (L : Int64) (x n : Nat) : own_g (own_w R C L x) n = (decide (n < R.toInt.toNat * C.toInt.toNat) && (own_pr (own_m C) (own_row L C) (Int32.ofNat x) (n / C.toInt.toNat)).2.toBitVec.getLsbD (n % C.toInt.toNat)) := by
  have n16 := own_n16 h
  unfold own_w
  rw [own_X_B _ _ (by omega)]
theorem own_w_hi {R C : Int32} (h : own_d4 R C) (L : Int64) (x : Nat) : ∀ b, R.toInt.toNat * C.toInt.toNat ≤ b → own_g (own_w R C L x) b = false := by
  intro b hb
  rw [own_w_g h, decide_eq_false (by omega), Bool.false_and]
theorem own_xm4 {R C : Int32} (h : own_d4 R C) {x : Nat} (hx : x < 2 ^ C.toInt.toNat) : Int32.ofNat x &&& own_m C = Int32.ofNat x := by
  have c1 := h.d.c
  have c4 := h.c
  have h16 : 2 ^ C.toInt.toNat ≤ 2 ^ 4 := Nat.pow_le_pow_right (by decide) (by omega)
  have := own_xm ⟨C.toInt.toNat, by omega⟩ (by show 1 ≤ C.toInt.toNat; omega) ⟨x, by omega⟩ hx
  simp only [own_of (show 0 ≤ C.toInt by omega)] at this
  exact this
theorem own_w_row {R C : Int32} (h : own_d4 R C) (L : Int64) {x : Nat} (hx : x < 2 ^ C.toInt.toNat) {r : Nat} (hr : r < R.toInt.toNat) : own_row (own_w R C L x) C r = (own_pr (own_m C) (own_row L C) (Int32.ofNat x) r).2 := by
  have c1 := h.d.c
  have c4 := h.c
  have r4 := h.r
  have pm := (own_P_m C L (Int32.ofNat x) (own_xm4 h hx) r).2
  apply Int32.toBitVec_inj.mp
  apply BitVec.eq_of_getLsbD_eq
  intro c hc
  rw [own_row_b h.d _ (by omega) hc, own_w_g h]
  by_cases l : c < C.toInt.toNat
  · have e1 : (r * C.toInt.toNat + c) / C.toInt.toNat = r := by
      rw [Nat.mul_comm, Nat.mul_add_div (by omega), Nat.div_eq_of_lt l, Nat.add_zero]
    have e2 : (r * C.toInt.toNat + c) % C.toInt.toNat = c := by
      rw [Nat.mul_comm, Nat.mul_add_mod, Nat.mod_eq_of_lt l]
    have lt : r * C.toInt.toNat + c < R.toInt.toNat * C.toInt.toNat := by
      have : (r + 1) * C.toInt.toNat ≤ R.toInt.toNat * C.toInt.toNat := Nat.mul_le_mul_right _ (by omega)
      rw [Nat.add_mul] at this
      omega
    rw [e1, e2, decide_eq_true lt, decide_eq_true l, Bool.true_and, Bool.and_true]
  · rw [decide_eq_false l, Bool.and_false, ← pm]
    have mb := own_m_bits ⟨C.toInt.toNat, by omega⟩ (by show 1 ≤ C.toInt.toNat; omega) ⟨c, hc⟩
    simp only [own_of (show 0 ≤ C.toInt by omega)] at mb
    rw [Int32.toBitVec_and, BitVec.getLsbD_and, mb, decide_eq_false l, Bool.and_false]
def own_succ (R C : Int32) (L : Int64) (x : Nat) : Bool := decide ((own_pr (own_m C) (own_row L C) (Int32.ofNat x) R.toInt.toNat).2 = 0)
theorem own_w_sol {R C : Int32} (h : own_d4 R C) {L : Int64} (hL : ∀ b, R.toInt.toNat * C.toInt.toNat ≤ b → own_g L b = false) {x : Nat} (hx : x < 2 ^ C.toInt.toNat) (hs : own_succ R C L x = true) : own_E R C (own_g (own_w R C L x)) = L :=
  (own_E_iff h (own_w_hi h L x) hL).mpr (own_solA h (fun r hr => own_w_row h L hx hr) (of_decide_eq_true hs))
theorem own_sol_w {R C : Int32} (h : own_d4 R C) {L s : Int64} (hL : ∀ b, R.toInt.toNat * C.toInt.toNat ≤ b → own_g L b = false) (hs : ∀ b, R.toInt.toNat * C.toInt.toNat ≤ b → own_g s b = false) (he : own_E R C (own_g s) = L) : ∃ x, x < 2 ^ C.toInt.toNat ∧ Int32.ofNat x = own_row s C 0 ∧ own_succ R C L x = true ∧ s = own_w R C L x := by
  obtain ⟨k1, k2⟩ := own_solB h ((own_E_iff h hs hL).mp he)
  have c1 := h.d.c
  have c4 := h.c
  obtain ⟨m0, m1, _⟩ := own_mm h.d
  have rg := iand_rng (own_row s C 0) (own_m C) m0
  rw [own_row_m, m1] at rg
  have cc : ((2 ^ C.toInt.toNat : Nat) : Int) = 2 ^ C.toInt.toNat := by rw [Int.natCast_pow]; rfl
  have ex : Int32.ofNat (own_row s C 0).toInt.toNat = own_row s C 0 := own_of rg.1
  have hx : (own_row s C 0).toInt.toNat < 2 ^ C.toInt.toNat := by omega
  refine ⟨(own_row s C 0).toInt.toNat, hx, ex, ?_, ?_⟩
  · unfold own_succ
    rw [ex]
    exact decide_eq_true k2
  · exact own_rows_e h.d hs (own_w_hi h L _) (fun r hr => by rw [own_w_row h L hx hr, ex, k1 r hr])
/-! counting solutions -/
theorem own_cnt_rm {v : Nat → Bool} {y : Nat} (hv : v y = true) : ∀ B, y < B → own_cnt v B = own_cnt (fun t => v t && !decide (t = y)) B + 1 := by
  intro B
  induction B with
  | zero => intro h; omega
  | succ B ih =>
    intro h
    rw [own_cnt, own_cnt]
    by_cases e : y = B
    · subst e
      rw [own_cnt_same (p := v) (q := fun t => v t && !decide (t = y)) y (fun j hj => by
        show v j = (v j && !decide (j = y))
        rw [decide_eq_false (by omega)]; simp)]
      rw [hv, decide_eq_true rfl]
      rfl
    · rw [ih (by omega), decide_eq_false (show ¬ B = y from fun q => e q.symm)]
      simp
      omega
theorem own_inj (f : Nat → Nat) (u : Nat → Bool) (B : Nat) : ∀ (A : Nat) (v : Nat → Bool), (∀ x, x < A → u x = true → f x < B ∧ v (f x) = true) → (∀ x y, x < A → y < A → u x = true → u y = true → f x = f y → x = y) → own_cnt u A ≤ own_cnt v B := by
  intro A
  induction A with
  | zero => intro v _ _; exact Nat.zero_le _
  | succ A ih =>
    intro v h1 h2
    rw [own_cnt]
    cases c : u A with
    | false =>
      have := ih v (fun x hx => h1 x (by omega)) (fun x y hx hy => h2 x y (by omega) (by omega))
      simpa using this
    | true =>
      obtain ⟨k1, k2⟩ := h1 A (by omega) c
      rw [own_cnt_rm k2 B k1]
      have := ih (fun t => v t && !decide (t = f A)) (fun x hx ux => by
        obtain ⟨q1, q2⟩ := h1 x (by omega) ux
        refine ⟨q1, ?_⟩
        show (v (f x) && !decide (f x = f A)) = true
        rw [q2, decide_eq_false (fun e => by have := h2 x A (by omega) (by omega) ux c e; omega)]
        rfl) (fun x y hx hy => h2 x y (by omega) (by omega))
      simpa using this
theorem own_gN {s : Nat} (hs : s < 2 ^ 64) (i : Nat) : own_g (Int64.ofNat s) i = s.testBit i := by
  unfold own_g
  show (BitVec.ofNat 64 s).getLsbD i = _
  rw [BitVec.getLsbD_ofNat]
  by_cases l : i < 64
  · rw [decide_eq_true l, Bool.true_and]
  · rw [decide_eq_false l, Bool.false_and]
    exact (Nat.testBit_lt_two_pow (Nat.lt_of_lt_of_le hs (Nat.pow_le_pow_right (by decide) (by omega)))).symm
def own_sol (R C : Int32) (L : Int64) (s : Nat) : Bool := decide (own_E R C (fun i => s.testBit i) = L)
theorem own_cnt_eq {R C : Int32} (h : own_d4 R C) {L : Int64} (hL : ∀ b, R.toInt.toNat * C.toInt.toNat ≤ b → own_g L b = false) : own_cnt (own_sol R C L) (2 ^ (R.toInt.toNat * C.toInt.toNat)) = own_cnt (own_succ R C L) (2 ^ C.toInt.toNat) := by
  have n16 := own_n16 h
  have r1 := h.d.a
  have c1 := h.d.c
  have c4 := h.c
  have h16 : 2 ^ C.toInt.toNat ≤ 2 ^ 4 := Nat.pow_le_pow_right (by decide) (by omega)
  have hN : 2 ^ (R.toInt.toNat * C.toInt.toNat) ≤ 2 ^ 16 := Nat.pow_le_pow_right (by decide) n16.2
  have ofs : ∀ s, s < 2 ^ (R.toInt.toNat * C.toInt.toNat) → own_sol R C L s = true → ∃ x, x < 2 ^ C.toInt.toNat ∧ Int32.ofNat x = own_row (Int64.ofNat s) C 0 ∧ own_succ R C L x = true ∧ Int64.ofNat s = own_w R C L x := by
    intro s hs hq
    have g : ∀ i, own_g (Int64.ofNat s) i = s.testBit i := fun i => own_gN (by omega) i
    refine own_sol_w h hL (fun b hb => ?_) ?_
    · rw [g]
      exact Nat.testBit_lt_two_pow (Nat.lt_of_lt_of_le hs (Nat.pow_le_pow_right (by decide) hb))
    · have e : own_E R C (own_g (Int64.ofNat s)) = own_E R C (fun i => s.testBit i) := own_X_same _ (fun i _ => g i)
      rw [e]
      exact of_decide_eq_true hq
  have tn : ∀ x, x < 2 ^ C.toInt.toNat → (Int32.ofNat x).toInt.toNat = x := fun x hx => by
    rw [Int32.toInt_ofNat_of_lt (by omega)]
    rfl
  apply Nat.le_antisymm
  · refine own_inj (fun s => (own_row (Int64.ofNat s) C 0).toInt.toNat) _ _ _ _ (fun s hs hq => ?_) (fun s t hs ht hq hr e => ?_)
    · obtain ⟨x, k1, k2, k3, k4⟩ := ofs s hs hq
      show (own_row (Int64.ofNat s) C 0).toInt.toNat < _ ∧ own_succ R C L (own_row (Int64.ofNat s) C 0).toInt.toNat = true
      rw [← k2, tn x k1]
      exact ⟨k1, k3⟩
    · obtain ⟨x, k1, k2, k3, k4⟩ := ofs s hs hq
      obtain ⟨y, l1, l2, l3, l4⟩ := ofs t ht hr
      have e' : (own_row (Int64.ofNat s) C 0).toInt.toNat = (own_row (Int64.ofNat t) C 0).toInt.toNat := e
      rw [← k2, ← l2, tn x k1, tn y l1] at e'
      rw [e', ← l4] at k4
      have q := congrArg (fun v : Int64 => v.toBitVec.toNat) k4
      have e1 : ∀ z, z < 2 ^ 16 → (Int64.ofNat z).toBitVec.toNat = z := fun z hz => by
        show (BitVec.ofNat 64 z).toNat = z
        rw [BitVec.toNat_ofNat, Nat.mod_eq_of_lt (by omega)]
      have q' : (Int64.ofNat s).toBitVec.toNat = (Int64.ofNat t).toBitVec.toNat := q
      rw [e1 s (by omega), e1 t (by omega)] at q'
      exact q'
  · refine own_inj (fun x => (own_w R C L x).toBitVec.toNat) _ _ _ _ (fun x hx hq => ⟨?_, ?_⟩) (fun x y hx hy hq hr e => ?_)
    · exact Nat.lt_pow_two_of_testBit _ (fun i hi => own_w_hi h L x i hi)
    · exact decide_eq_true (own_w_sol h hL hx hq)
    · have e' : own_w R C L x = own_w R C L y := Int64.toBitVec_inj.mp (BitVec.eq_of_toNat_eq e)
      have q : own_row (own_w R C L x) C 0 = own_row (own_w R C L y) C 0 := by rw [e']
      rw [own_w_row h L hx (by omega), own_w_row h L hy (by omega)] at q
      have q' : Int32.ofNat x = Int32.ofNat y := q
      rw [← tn x hx, ← tn y hy, q']
theorem own_sol_min {R C : Int32} (h : own_d4 R C) {L : Int64} (hL : ∀ b, R.toInt.toNat * C.toInt.toNat ≤ b → own_g L b = false) {Z : Nat} (hZ : ∀ x, x < 2 ^ C.toInt.toNat → own_succ R C L x = true → Z ≤ own_cnt (own_g (own_w R C L x)) 64) {s : Nat} (hs : s < 2 ^ (R.toInt.toNat * C.toInt.toNat)) (hq : own_sol R C L s = true) : Z ≤ own_cnt (fun i => s.testBit i) (R.toInt.toNat * C.toInt.toNat) := by
  have n16 := own_n16 h
  have hN : 2 ^ (R.toInt.toNat * C.toInt.toNat) ≤ 2 ^ 16 := Nat.pow_le_pow_right (by decide) n16.2
  have g : ∀ i, own_g (Int64.ofNat s) i = s.testBit i := fun i => own_gN (by omega) i
  have hi : ∀ b, R.toInt.toNat * C.toInt.toNat ≤ b → own_g (Int64.ofNat s) b = false := fun b hb => by
    rw [g]
    exact Nat.testBit_lt_two_pow (Nat.lt_of_lt_of_le hs (Nat.pow_le_pow_right (by decide) hb))
  obtain ⟨x, k1, k2, k3, k4⟩ := own_sol_w h hL hi (by
    have e : own_E R C (own_g (Int64.ofNat s)) = own_E R C (fun i => s.testBit i) := own_X_same _ (fun i _ => g i)
    rw [e]
    exact of_decide_eq_true hq)
  have z := hZ x k1 k3
  rw [← k4] at z
  have cz := own_cnt_z hi (64 - R.toInt.toNat * C.toInt.toNat)
  rw [show R.toInt.toNat * C.toInt.toNat + (64 - R.toInt.toNat * C.toInt.toNat) = 64 by omega] at cz
  rw [cz] at z
  rw [own_cnt_same (p := fun i => s.testBit i) (q := own_g (Int64.ofNat s)) _ (fun j _ => (g j).symm)]
  exact z
/-! Gray's order -/
def own_gr (k : Nat) : Nat := k ^^^ (k / 2)
theorem own_dm2 {x q m : Nat} (h1 : x / 2 = q) (h2 : x % 2 = m) : x = 2 * q + m := by omega
theorem own_xd (a b : Nat) : (a ^^^ b) / 2 = a / 2 ^^^ b / 2 := Nat.xor_div_two
theorem own_xmm (a b : Nat) : (a ^^^ b) % 2 = (a + b) % 2 := by
  have h := Nat.testBit_xor a b 0
  rw [Nat.testBit_zero, Nat.testBit_zero, Nat.testBit_zero] at h
  by_cases h1 : a % 2 = 1
  · by_cases h2 : b % 2 = 1
    · rw [decide_eq_true h1, decide_eq_true h2] at h
      have := of_decide_eq_false h
      omega
    · rw [decide_eq_true h1, decide_eq_false h2] at h
      have := of_decide_eq_true h
      omega
  · by_cases h2 : b % 2 = 1
    · rw [decide_eq_false h1, decide_eq_true h2] at h
      have := of_decide_eq_true h
      omega
    · rw [decide_eq_false h1, decide_eq_false h2] at h
      have := of_decide_eq_false h
      omega
theorem own_gr_e (j : Nat) : own_gr (2 * j) = 2 * own_gr j + j % 2 := by
  unfold own_gr
  refine own_dm2 ?_ ?_
  · rw [own_xd, show 2 * j / 2 = j by omega]
  · rw [own_xmm, show 2 * j / 2 = j by omega]
    omega
theorem own_gr_o (j : Nat) : own_gr (2 * j + 1) = 2 * own_gr j + (1 - j % 2) := by
  unfold own_gr
  refine own_dm2 ?_ ?_
  · rw [own_xd, show (2 * j + 1) / 2 = j by omega]
  · rw [own_xmm, show (2 * j + 1) / 2 = j by omega]
    omega
def own_sm (f : Nat → Nat) : Nat → Nat
  | 0 => 0
  | n + 1 => own_sm f n + f n
theorem own_sm_same {f g : Nat → Nat} : ∀ n, (∀ k, k < n → f k = g k) → own_sm f n = own_sm g n := by
  intro n
  induction n with
  | zero => intro _; rfl
  | succ n ih => intro h; rw [own_sm, own_sm, ih (fun k hk => h k (by omega)), h n (by omega)]
theorem own_sm_2 (f : Nat → Nat) : ∀ n, own_sm f (2 * n) = own_sm (fun j => f (2 * j) + f (2 * j + 1)) n := by
  intro n
  induction n with
  | zero => rfl
  | succ n ih => rw [show 2 * (n + 1) = 2 * n + 1 + 1 by omega, own_sm, own_sm, own_sm, ih]; omega
theorem own_sm_gr : ∀ (a : Nat) (f : Nat → Nat), own_sm (fun k => f (own_gr k)) (2 ^ a) = own_sm f (2 ^ a) := by
  intro a
  induction a with
  | zero => intro f; rfl
  | succ a ih =>
    intro f
    rw [show 2 ^ (a + 1) = 2 * 2 ^ a by rw [Nat.pow_succ]; omega, own_sm_2, own_sm_2, ← ih (fun j => f (2 * j) + f (2 * j + 1))]
    apply own_sm_same
    intro j _
    show f (own_gr (2 * j)) + f (own_gr (2 * j + 1)) = f (2 * own_gr j) + f (2 * own_gr j + 1)
    rw [own_gr_e, own_gr_o]
    have : j % 2 = 0 ∨ j % 2 = 1 := by omega
    rcases this with e | e
    · rw [e]
      rfl
    · rw [e, Nat.add_comm]
      rfl
theorem own_cnt_sm (u : Nat → Bool) : ∀ n, own_cnt u n = own_sm (fun k => if u k then 1 else 0) n := by
  intro n
  induction n with
  | zero => rfl
  | succ n ih => rw [own_cnt, own_sm, ih]
theorem own_cnt_gr (u : Nat → Bool) (a : Nat) : own_cnt (fun k => u (own_gr k)) (2 ^ a) = own_cnt u (2 ^ a) := by
  rw [own_cnt_sm, own_cnt_sm]
  exact own_sm_gr a (fun k => if u k then 1 else 0)
theorem own_and1 {k : Nat} (h : k < 2147483648) : (Int32.ofNat k &&& 1).toInt = (k % 2 : Nat) := by
  have e : (Int32.ofNat k &&& 1).toBitVec.toNat = k % 2 := by
    rw [Int32.toBitVec_and, BitVec.toNat_and]
    show (BitVec.ofNat 32 k).toNat &&& 1 = k % 2
    rw [BitVec.toNat_ofNat, Nat.mod_eq_of_lt (by omega), Nat.and_one_is_mod]
  have t : (Int32.ofNat k &&& 1).toInt = (Int32.ofNat k &&& 1).toBitVec.toInt := rfl
  rw [t, BitVec.toInt_eq_toNat_cond, e]
  rw [if_pos (by omega)]
theorem own_ushr1 {k : Nat} (h : k < 2147483648) : XT.ushr (Int32.ofNat k) 1 = Int32.ofNat (k / 2) := by
  apply Int32.toBitVec_inj.mp
  apply BitVec.eq_of_toNat_eq
  have e : (XT.ushr (Int32.ofNat k) 1).toBitVec = (BitVec.ofNat 32 k) >>> 1 := rfl
  have e2 : (Int32.ofNat (k / 2)).toBitVec = BitVec.ofNat 32 (k / 2) := rfl
  rw [e, e2, BitVec.toNat_ushiftRight, BitVec.toNat_ofNat, BitVec.toNat_ofNat, Nat.mod_eq_of_lt (by omega), Nat.mod_eq_of_lt (by omega), Nat.shiftRight_eq_div_pow]
theorem own_tz : ∀ (a k t n : Nat), 0 < k → k < 2 ^ a → t + a ≤ 31 → a < n → ∃ j, j < a ∧ f_L_tz_2 n (Int32.ofNat k) (Int32.ofNat t) = some (Int32.ofNat (t + j)) ∧ own_gr k = own_gr (k - 1) ^^^ 2 ^ j := by
  have z : (0 : Int32).toInt = 0 := rfl
  have e32 : (32 : Int32).toInt = 32 := rfl
  intro a
  induction a with
  | zero => intro k t n h0 h1; rw [Nat.pow_zero] at h1; omega
  | succ a ih =>
    intro k t n h0 h1 h2 h3
    have kb : k < 2147483648 := by
      have : 2 ^ (a + 1) ≤ 2 ^ 31 := Nat.pow_le_pow_right (by decide) (by omega)
      omega
    cases n with
    | zero => omega
    | succ n =>
      unfold f_L_tz_2
      have an := own_and1 kb
      by_cases od : k % 2 = 1
      · refine ⟨0, by omega, ?_, ?_⟩
        · rw [if_neg (by rw [ieq, an, z]; omega)]
          rfl
        · obtain ⟨j, rfl⟩ : ∃ j, k = 2 * j + 1 := ⟨k / 2, by omega⟩
          rw [show 2 * j + 1 - 1 = 2 * j by omega, own_gr_o, own_gr_e]
          refine (own_dm2 ?_ ?_).symm
          · rw [own_xd, show (2 * own_gr j + j % 2) / 2 = own_gr j by omega]
            exact Nat.xor_zero _
          · rw [own_xmm, Nat.pow_zero]
            omega
      · obtain ⟨j, rfl⟩ : ∃ j, k = 2 * j := ⟨k / 2, by omega⟩
        obtain ⟨i, i1, i2, i3⟩ := ih j (t + 1) n (by omega) (by rw [Nat.pow_succ] at h1; omega) (by omega) (by omega)
        have tt0 : (Int32.ofNat t).toInt = t := Int32.toInt_ofNat_of_lt (by omega)
        have t1 : Int32.ofNat t + 1 = Int32.ofNat (t + 1) := by
          have o : (1 : Int32).toInt = 1 := rfl
          rw [ieq, iadd_i (by omega) (by omega), tt0, Int32.toInt_ofNat_of_lt (by omega), o]
          omega
        refine ⟨i + 1, by omega, ?_, ?_⟩
        · rw [if_pos (by rw [ieq, an, z]; omega), if_pos (by rw [ilt, tt0, e32]; omega), own_ushr1 kb, show 2 * j / 2 = j by omega, t1, i2, show t + 1 + i = t + (i + 1) by omega]
        · obtain ⟨q, rfl⟩ : ∃ q, j = q + 1 := ⟨j - 1, by omega⟩
          rw [show q + 1 - 1 = q by omega] at i3
          rw [show 2 * (q + 1) - 1 = 2 * q + 1 by omega, own_gr_o, own_gr_e, i3]
          refine (own_dm2 ?_ ?_).symm
          · rw [own_xd, show (2 * own_gr q + (1 - q % 2)) / 2 = own_gr q by omega, Nat.pow_succ, show 2 ^ i * 2 / 2 = 2 ^ i by omega]
          · rw [own_xmm, Nat.pow_succ]
            omega
theorem own_gr_lt {k a : Nat} (h : k < 2 ^ a) : own_gr k < 2 ^ a := Nat.xor_lt_two_pow h (by omega)
theorem own_cnt_up {q r : Nat → Bool} {j n : Nat} (hj : j < n) (hr : r j = true) (hq : q j = false) (ho : ∀ i, i ≠ j → r i = q i) : own_cnt r n = own_cnt q n + 1 := by
  rw [own_cnt_rm hr n hj]
  congr 1
  apply own_cnt_same
  intro i _
  show (r i && !decide (i = j)) = q i
  by_cases e : i = j
  · rw [e, hq, decide_eq_true rfl]; simp
  · rw [decide_eq_false e, ho i e]; simp
/-! packPresses and solve, exactly -/
theorem own_g_32 (p : Int32) {c : Nat} (hc : c < 32) : own_g p.toInt64 c = p.toBitVec.getLsbD c := by
  have t : p.toInt64.toBitVec = p.toBitVec.signExtend 64 := rfl
  unfold own_g
  rw [t, BitVec.getLsbD_signExtend, decide_eq_true (show c < 64 by omega), Bool.true_and, if_pos hc]
theorem own_pkY {R C : Int32} (h : own_d4 R C) (L : Int64) (x : Nat) (hx : x < 2 ^ C.toInt.toNat) (prs : List Int32) (hp : prs.length = 8) (hm : ∀ j : Int32, 0 ≤ j.toInt → j.toInt < R.toInt → gI prs j = (own_pr (own_m C) (own_row L C) (Int32.ofNat x) j.toInt.toNat).2) : ∀ (n : Nat) (v : Int64) (i : Int32) (k : Nat), i.toInt = k → k ≤ R.toInt.toNat → 8 - k < n →
    (∀ b, own_g v b = (decide (b < k * C.toInt.toNat) && (own_pr (own_m C) (own_row L C) (Int32.ofNat x) (b / C.toInt.toNat)).2.toBitVec.getLsbD (b % C.toInt.toNat))) → f_packPresses_4 prs R C n v i = some (own_w R C L x) := by
  have r1 := h.d.a
  have c1 := h.d.c
  have r4 := h.r
  have c4 := h.c
  intro n
  induction n with
  | zero => intro v i k h0 h1 h2; omega
  | succ n ih =>
    intro v i k h0 h1 h2 h3
    unfold f_packPresses_4
    by_cases g : i < R
    · have g' := ilt.mp g
      have ei : (i + 1).toInt = i.toInt + 1 := by
        have o : (1 : Int32).toInt = 1 := rfl
        rw [iadd_i (by omega) (by omega), o]
      have kc : k * C.toInt.toNat ≤ 3 * 4 := Nat.mul_le_mul (by omega) (by omega)
      have em : (i * C).toInt = ((k * C.toInt.toNat : Nat) : Int) := by
        have e : i.toInt * C.toInt = ((k * C.toInt.toNat : Nat) : Int) := by rw [Int.natCast_mul, h0]; congr 1; omega
        rw [imul_i (by rw [e]; omega) (by rw [e]; omega), e]
      rw [if_pos g, rdg (by omega) (by omega), Option.bind_some]
      refine ih _ (i + 1) (k + 1) (by omega) (by omega) (by omega) (fun b => ?_)
      have pk := hm i (by omega) g'
      rw [show i.toInt.toNat = k by omega] at pk
      rw [own_g_or, h3 b, own_g_shl _ _ (by rw [em]; omega) (by rw [em]; omega), em, Int.toNat_natCast, pk]
      have e1 : (k + 1) * C.toInt.toNat = k * C.toInt.toNat + C.toInt.toNat := by rw [Nat.add_mul, Nat.one_mul]
      rw [e1]
      have pm := (own_P_m C L (Int32.ofNat x) (own_xm4 h hx) k).2
      by_cases l1 : b < k * C.toInt.toNat
      · rw [decide_eq_true l1, decide_eq_true (show b < k * C.toInt.toNat + C.toInt.toNat by omega)]
        simp
      · by_cases l2 : b < k * C.toInt.toNat + C.toInt.toNat
        · obtain ⟨c, rfl⟩ : ∃ c, b = k * C.toInt.toNat + c := ⟨b - k * C.toInt.toNat, by omega⟩
          have lc : c < C.toInt.toNat := by omega
          have d1 : (k * C.toInt.toNat + c) / C.toInt.toNat = k := by
            rw [Nat.mul_comm, Nat.mul_add_div (by omega), Nat.div_eq_of_lt lc, Nat.add_zero]
          have d2 : (k * C.toInt.toNat + c) % C.toInt.toNat = c := by
            rw [Nat.mul_comm, Nat.mul_add_mod, Nat.mod_eq_of_lt lc]
          rw [decide_eq_false l1, decide_eq_true l2, d1, d2, decide_eq_true (show k * C.toInt.toNat + c < 64 by omega), show k * C.toInt.toNat + c - k * C.toInt.toNat = c by omega, own_g_32 _ (by omega)]
          simp
        · rw [decide_eq_false l1, decide_eq_false l2, own_g_low h.d _ pm (show C.toInt.toNat ≤ b - k * C.toInt.toNat by omega)]
          simp
    · rw [ilt] at g
      rw [if_neg (by rw [ilt]; omega)]
      congr 1
      apply own_g_e
      intro b _
      rw [h3 b, own_w_g h, show k = R.toInt.toNat by omega]
def own_N (R C : Int32) (L : Int64) (x : Nat) : Nat := own_cnt (own_g (own_w R C L x)) 64
abbrev own_V (R C : Int32) (L : Int64) (k : Nat) (v1 v2 : Int32) (v3 : Int64) : Prop := (v1 = Int32.ofNat (own_cnt (own_succ R C L) k)) ∧ ((own_cnt (own_succ R C L) k = 0 ∧ v2 = 65) ∨ (1 ≤ own_cnt (own_succ R C L) k ∧ ∃ x, x < k ∧ own_succ R C L x = true ∧ v3 = own_w R C L x ∧ v2 = Int32.ofNat (own_N R C L x))) ∧ (∀ x, x < k → own_succ R C L x = true → v2.toInt ≤ own_N R C L x)
theorem own_V.a {R C : Int32} {L : Int64} {k : Nat} {v1 v2 : Int32} {v3 : Int64} (self : own_V R C L k v1 v2 v3) : v1 = Int32.ofNat (own_cnt (own_succ R C L) k) := self.1
theorem own_V.b {R C : Int32} {L : Int64} {k : Nat} {v1 v2 : Int32} {v3 : Int64} (self : own_V R C L k v1 v2 v3) : (own_cnt (own_succ R C L) k = 0 ∧ v2 = 65) ∨ (1 ≤ own_cnt (own_succ R C L) k ∧ ∃ x, x < k ∧ own_succ R C L x = true ∧ v3 = own_w R C L x ∧ v2 = Int32.ofNat (own_N R C L x)) := self.2.1
theorem own_V.c {R C : Int32} {L : Int64} {k : Nat} {v1 v2 : Int32} {v3 : Int64} (self : own_V R C L k v1 v2 v3) : ∀ x, x < k → own_succ R C L x = true → v2.toInt ≤ own_N R C L x := self.2.2
theorem own_N_le (R C : Int32) (L : Int64) (x : Nat) : own_N R C L x ≤ 64 := own_cnt_le _ _
theorem own_N_i (R C : Int32) (L : Int64) (x : Nat) : (Int32.ofNat (own_N R C L x)).toInt = own_N R C L x := by
  have := own_N_le R C L x
  exact Int32.toInt_ofNat_of_lt (by omega)
theorem own_so18Y {R C : Int32} (h : own_d4 R C) (L : Int64) (w : Int32) (hw : w.toInt = 2 ^ C.toInt.toNat) : ∀ (n : Nat) (cur prs : List Int32) (st : Int32) (ss : Int64) (sz sc v1 v2 : Int32) (v3 : Int64) (i : Int32) (k : Nat), cur.length = 8 → prs.length = 8 → i.toInt = k → k ≤ 2 ^ C.toInt.toNat → 16 - k < n → own_V R C L k v1 v2 v3 →
    Tot (f_solve_18 (f_solve_86 R C L) R C L n cur prs st ss sz sc v1 v2 v3 w i) (fun r => r.2.1.length = 8 ∧ r.2.2.1.length = 8 ∧ ∃ v1 v2 v3, own_V R C L (2 ^ C.toInt.toNat) v1 v2 v3 ∧ r.1 = (if v1 = 0 then 2 else 1) ∧ r.2.2.2.1 = (if v1 = 0 then 2 else 1) ∧ r.2.2.2.2.1 = (if v1 = 0 then 0 else v3) ∧ r.2.2.2.2.2.1 = (if v1 = 0 then 0 else v2) ∧ r.2.2.2.2.2.2 = (if v1 = 0 then 0 else v1)) := by
  have c1 := h.d.c
  have c4 := h.c
  have r1 := h.d.a
  have h16 : 2 ^ C.toInt.toNat ≤ 2 ^ 4 := Nat.pow_le_pow_right (by decide) (by omega)
  have cc : ((2 ^ C.toInt.toNat : Nat) : Int) = 2 ^ C.toInt.toNat := by rw [Int.natCast_pow]; rfl
  have e65 : (65 : Int32).toInt = 65 := rfl
  intro n
  induction n with
  | zero => intro cur prs st ss sz sc v1 v2 v3 i k h0 h1 h2 h3 h4; exfalso; omega
  | succ n ih =>
    intro cur prs st ss sz sc v1 v2 v3 i k h0 h1 h2 h3 h4 hV
    have ck := own_cnt_le (own_succ R C L) k
    unfold f_solve_18
    refine Tot.ite (fun g => ?_) (fun g => ?_)
    · have g' := ilt.mp g
      have kl : k < 2 ^ C.toInt.toNat := by omega
      have ei : (i + 1).toInt = i.toInt + 1 := by
        have o : (1 : Int32).toInt = 1 := rfl
        rw [iadd_i (by omega) (by omega), o]
      have eo : Int32.ofNat k = i := by rw [← own_of (show 0 ≤ i.toInt by omega), h2]; rfl
      have e1 : own_cnt (own_succ R C L) (k + 1) = own_cnt (own_succ R C L) k + (if own_succ R C L k then 1 else 0) := rfl
      have ev1 : Int32.ofNat (own_cnt (own_succ R C L) k) + 1 = Int32.ofNat (own_cnt (own_succ R C L) k + 1) := by
        rw [ieq, iadd_e, Int32.toInt_ofNat_of_lt (by omega), Int32.toInt_ofNat_of_lt (by omega)]
        have : (1 : Int32).toInt = 1 := rfl
        omega
      refine Tot.bind (own_chaseX h.d L cur prs i h0 h1) ?_
      rintro ⟨r, A, B⟩ ⟨hA, hB, hr, hp⟩
      simp only at hA hB hr hp
      have hr' : r = if own_succ R C L k then 1 else 0 := by
        rw [hr]
        unfold own_succ
        rw [eo]
        by_cases z : (own_pr (own_m C) (own_row L C) i R.toInt.toNat).2 = 0
        · rw [if_pos z, decide_eq_true z]; rfl
        · rw [if_neg z, decide_eq_false z]; rfl
      refine Tot.ite (fun g2 => ?_) (fun g2 => ?_)
      · have s0 : own_succ R C L k = false := by
          cases q : own_succ R C L k with
          | false => rfl
          | true => exfalso; rw [q] at hr'; rw [hr'] at g2; exact absurd g2 (by decide)
        have e2 : own_cnt (own_succ R C L) (k + 1) = own_cnt (own_succ R C L) k := by rw [e1, s0]; rfl
        refine ih A B st ss sz sc _ _ _ (i + 1) (k + 1) hA hB (by omega) (by omega) (by omega) ⟨by rw [e2]; exact hV.a, ?_, fun x hx hs => ?_⟩
        · rw [e2]
          rcases hV.b with q | ⟨q, x, q1, q2⟩
          · exact Or.inl q
          · exact Or.inr ⟨q, x, by omega, q2⟩
        · by_cases ek : x = k
          · subst ek; rw [s0] at hs; cases hs
          · exact hV.c x (by omega) hs
      · have s1 : own_succ R C L k = true := by
          cases q : own_succ R C L k with
          | true => rfl
          | false => exfalso; rw [q] at hr'; exact g2 hr'
        have e2 : own_cnt (own_succ R C L) (k + 1) = own_cnt (own_succ R C L) k + 1 := by rw [e1, s1]; rfl
        unfold f_packPresses
        rw [own_pkY h L k kl B hB (fun j j0 j1 => by rw [hp j j0 j1, eo]) 100000 0 0 0 rfl (by omega) (by omega) (fun b => by rw [own_g_0, Nat.zero_mul, decide_eq_false (by omega), Bool.false_and]), Option.bind_some, own_popX, Option.bind_some]
        have tx := own_N_i R C L k
        have cx := own_N_le R C L k
        have hv' : v1 + 1 = Int32.ofNat (own_cnt (own_succ R C L) (k + 1)) := by rw [e2, hV.a, ev1]
        show Tot (if Int32.ofNat (own_N R C L k) < v2 then _ else _) _
        refine Tot.ite (fun g3 => ?_) (fun g3 => ?_)
        · rw [ilt, tx] at g3
          refine ih A B st ss sz sc _ _ _ (i + 1) (k + 1) hA hB (by omega) (by omega) (by omega) ⟨hv', Or.inr ⟨by omega, k, by omega, s1, rfl, rfl⟩, fun x hx hs => ?_⟩
          show (Int32.ofNat (own_N R C L k)).toInt ≤ _
          rw [tx]
          by_cases ek : x = k
          · rw [ek]; exact Int.le_refl _
          · have := hV.c x (by omega) hs
            omega
        · rw [ilt, tx] at g3
          have keep : 1 ≤ own_cnt (own_succ R C L) k ∧ ∃ x, x < k ∧ own_succ R C L x = true ∧ v3 = own_w R C L x ∧ v2 = Int32.ofNat (own_N R C L x) := by
            rcases hV.b with ⟨_, q⟩ | q
            · exfalso
              rw [q] at g3
              omega
            · exact q
          obtain ⟨c0, x0, x1, x2, x3, x4⟩ := keep
          have low : ∀ x, x < k + 1 → own_succ R C L x = true → v2.toInt ≤ own_N R C L x := by
            intro x hx hs
            by_cases ek : x = k
            · rw [ek]; omega
            · exact hV.c x (by omega) hs
          have kp : own_V R C L (k + 1) (v1 + 1) v2 v3 := ⟨hv', Or.inr ⟨by omega, x0, by omega, x2, x3, x4⟩, low⟩
          refine Tot.ite (fun g4 => ?_) (fun g4 => ?_)
          · unfold f_unsignedLess
            rw [Option.bind_some]
            generalize (if (own_w R C L k ^^^ (-9223372036854775808 : Int64)) < (v3 ^^^ (-9223372036854775808 : Int64)) then (1 : Int32) else (0 : Int32)) = u
            by_cases hu : u = 0
            · rw [if_pos hu, if_pos hu]
              exact ih A B st ss sz sc _ _ _ (i + 1) (k + 1) hA hB (by omega) (by omega) (by omega) kp
            · rw [if_neg hu, if_neg hu]
              refine ih A B st ss sz sc _ _ _ (i + 1) (k + 1) hA hB (by omega) (by omega) (by omega) ⟨hv', Or.inr ⟨by omega, k, by omega, s1, rfl, rfl⟩, fun x hx hs => ?_⟩
              have := low x hx hs
              rw [← g4] at this
              exact this
          · exact ih A B st ss sz sc _ _ _ (i + 1) (k + 1) hA hB (by omega) (by omega) (by omega) kp
    · rw [ilt] at g
      have ek : k = 2 ^ C.toInt.toNat := by omega
      unfold f_solve_86
      rw [ek] at hV
      exact Tot.mk ⟨h0, h1, v1, v2, v3, hV, rfl, rfl, rfl, rfl, rfl⟩
abbrev own_G (R C : Int32) (L : Int64) (ss : Int64) (sz sc : Int32) : Prop := (∀ b, R.toInt.toNat * C.toInt.toNat ≤ b → own_g ss b = false) ∧ (own_E R C (own_g ss) = L) ∧ (sz = Int32.ofNat (own_cnt (own_g ss) 64)) ∧ (sc = Int32.ofNat (own_cnt (own_succ R C L) (2 ^ C.toInt.toNat))) ∧ (∀ x, x < 2 ^ C.toInt.toNat → own_succ R C L x = true → own_cnt (own_g ss) 64 ≤ own_cnt (own_g (own_w R C L x)) 64)
theorem own_G.a {R C : Int32} {L : Int64} {ss : Int64} {sz sc : Int32} (self : own_G R C L ss sz sc) : ∀ b, R.toInt.toNat * C.toInt.toNat ≤ b → own_g ss b = false := self.1
theorem own_G.b {R C : Int32} {L : Int64} {ss : Int64} {sz sc : Int32} (self : own_G R C L ss sz sc) : own_E R C (own_g ss) = L := self.2.1
theorem own_G.c {R C : Int32} {L : Int64} {ss : Int64} {sz sc : Int32} (self : own_G R C L ss sz sc) : sz = Int32.ofNat (own_cnt (own_g ss) 64) := self.2.2.1
theorem own_G.d {R C : Int32} {L : Int64} {ss : Int64} {sz sc : Int32} (self : own_G R C L ss sz sc) : sc = Int32.ofNat (own_cnt (own_succ R C L) (2 ^ C.toInt.toNat)) := self.2.2.2.1
theorem own_G.e {R C : Int32} {L : Int64} {ss : Int64} {sz sc : Int32} (self : own_G R C L ss sz sc) : ∀ x, x < 2 ^ C.toInt.toNat → own_succ R C L x = true → own_cnt (own_g ss) 64 ≤ own_cnt (own_g (own_w R C L x)) 64 := self.2.2.2.2
theorem own_solveY {R C : Int32} (h : own_d4 R C) (L : Int64) (hL : ∀ b, R.toInt.toNat * C.toInt.toNat ≤ b → own_g L b = false) (cur prs : List Int32) (st : Int32) (ss : Int64) (sz sc : Int32) (h0 : cur.length = 8) (h1 : prs.length = 8) :
    Tot (f_solve R C L cur prs st ss sz sc) (fun r => r.2.1.length = 8 ∧ r.2.2.1.length = 8 ∧ r.2.2.2.1 = r.1 ∧ ((r.1 = 2 ∧ own_cnt (own_succ R C L) (2 ^ C.toInt.toNat) = 0) ∨ (r.1 = 1 ∧ own_G R C L r.2.2.2.2.1 r.2.2.2.2.2.1 r.2.2.2.2.2.2))) := by
  have c1 := h.d.c
  have c4 := h.c
  have h16 : 2 ^ C.toInt.toNat ≤ 2 ^ 4 := Nat.pow_le_pow_right (by decide) (by omega)
  obtain ⟨m0, m1, m2⟩ := own_mm h.d
  unfold f_solve
  refine Tot.mono (own_so18Y h L _ m2 100000 cur prs st ss sz sc 0 65 0 0 0 h0 h1 rfl (Nat.zero_le _) (by omega) ⟨rfl, Or.inl ⟨rfl, rfl⟩, fun x hx => by omega⟩) ?_
  rintro r ⟨l1, l2, v1, v2, v3, hV, e1, e2, e3, e4, e5⟩
  refine ⟨l1, l2, by rw [e2, e1], ?_⟩
  have cl := own_cnt_le (own_succ R C L) (2 ^ C.toInt.toNat)
  have ti : (Int32.ofNat (own_cnt (own_succ R C L) (2 ^ C.toInt.toNat))).toInt = own_cnt (own_succ R C L) (2 ^ C.toInt.toNat) := Int32.toInt_ofNat_of_lt (by omega)
  have z : (0 : Int32).toInt = 0 := rfl
  have va := hV.a
  by_cases v0 : v1 = 0
  · left
    rw [if_pos v0] at e1
    refine ⟨e1, ?_⟩
    rw [v0, ieq, ti, z] at va
    omega
  · right
    rw [if_neg v0] at e1 e3 e4 e5
    refine ⟨e1, ?_⟩
    rcases hV.b with ⟨q, _⟩ | ⟨q, x, x1, x2, x3, x4⟩
    · exfalso
      apply v0
      rw [va, q]
      rfl
    · rw [e3, e4, e5, x3]
      refine ⟨own_w_hi h L x, own_w_sol h hL x1 x2, x4, va, fun y hy hs => ?_⟩
      have := hV.c y hy hs
      rw [x4, own_N_i] at this
      have t : own_N R C L x ≤ own_N R C L y := by omega
      exact t
/-! the law's own check -/
theorem own_cell_all : ∀ r c : Fin 4, ∀ i : Fin 16, i.val < (r.val + 1) * (c.val + 1) →
    f_onBoard (Int32.ofNat (r.val + 1)) (Int32.ofNat (c.val + 1)) (Int32.ofNat i.val / Int32.ofNat (c.val + 1)) (Int32.ofNat i.val % Int32.ofNat (c.val + 1)) = some 1 ∧
    f_bit (Int32.ofNat (c.val + 1)) (Int32.ofNat i.val / Int32.ofNat (c.val + 1)) (Int32.ofNat i.val % Int32.ofNat (c.val + 1)) = some (own_B i.val) := by decide +kernel
theorem own_cell_f {R C : Int32} (h : own_d4 R C) {i : Nat} (hi : i < R.toInt.toNat * C.toInt.toNat) : f_onBoard R C (Int32.ofNat i / C) (Int32.ofNat i % C) = some 1 ∧ f_bit C (Int32.ofNat i / C) (Int32.ofNat i % C) = some (own_B i) := by
  have r1 := h.d.a
  have c1 := h.d.c
  have r4 := h.r
  have c4 := h.c
  have n16 := own_n16 h
  have er : R.toInt.toNat - 1 + 1 = R.toInt.toNat := by omega
  have ec : C.toInt.toNat - 1 + 1 = C.toInt.toNat := by omega
  have q := own_cell_all ⟨R.toInt.toNat - 1, by omega⟩ ⟨C.toInt.toNat - 1, by omega⟩ ⟨i, by omega⟩ (by
    show i < (R.toInt.toNat - 1 + 1) * (C.toInt.toNat - 1 + 1)
    rw [er, ec]; exact hi)
  simp only [er, ec, own_of (show 0 ≤ R.toInt by omega), own_of (show 0 ≤ C.toInt by omega)] at q
  exact q
theorem own_lit {R C : Int32} (h : own_d4 R C) (L : Int64) {i : Nat} (hi : i < R.toInt.toNat * C.toInt.toNat) : f_isLit R C L (Int32.ofNat i / C) (Int32.ofNat i % C) = some (if own_g L i then 1 else 0) := by
  have n16 := own_n16 h
  obtain ⟨q1, q2⟩ := own_cell_f h hi
  have t := own_tst L (show i < 64 by omega)
  unfold f_isLit
  rw [q1, Option.bind_some, if_neg (by decide), q2, Option.bind_some]
  cases c : own_g L i with
  | false => rw [if_pos (t.mpr c)]; rfl
  | true => rw [if_neg (fun e => by rw [t.mp e] at c; cases c)]; rfl
theorem own_inS {R C : Int32} (h : own_d4 R C) (L : Int64) {i : Nat} (hi : i < R.toInt.toNat * C.toInt.toNat) : f_inSolution R C 1 L (Int32.ofNat i / C) (Int32.ofNat i % C) = some (if own_g L i then 1 else 0) := by
  have n16 := own_n16 h
  obtain ⟨q1, q2⟩ := own_cell_f h hi
  have t := own_tst L (show i < 64 by omega)
  unfold f_inSolution
  rw [if_pos rfl, q1, Option.bind_some, if_neg (by decide), q2, Option.bind_some]
  cases c : own_g L i with
  | false => rw [if_pos (t.mpr c)]; rfl
  | true => rw [if_neg (fun e => by rw [t.mp e] at c; cases c)]; rfl
theorem own_nn {R C : Int32} (h : own_d4 R C) : (R * C).toInt = (R.toInt.toNat * C.toInt.toNat : Nat) := by
  obtain ⟨a1, a2, a3⟩ := own_area h.d
  have r1 := h.d.a
  have c1 := h.d.c
  rw [a1, Int.natCast_mul]
  congr 1 <;> omega
theorem own_oi {i : Nat} (h : i < 2147483647) : Int32.ofNat i + 1 = Int32.ofNat (i + 1) := by
  have o : (1 : Int32).toInt = 1 := rfl
  have t : (Int32.ofNat i).toInt = i := Int32.toInt_ofNat_of_lt (by omega)
  rw [ieq, iadd_i (by omega) (by omega), t, Int32.toInt_ofNat_of_lt (by omega), o]
  omega
theorem own_c10 {R C : Int32} (h : own_d4 R C) (L : Int64) (K : List Int32 → List Int32 → Int32 → Int64 → Int32 → Int32 → Int32 → Int32 → Int32 → Int64 → Option (Int32 × List Int32 × List Int32 × Int32 × Int64 × Int32 × Int32)) (cur prs : List Int32) (st : Int32) (ss : Int64) (sz sc : Int32) : ∀ (n k : Nat), k ≤ R.toInt.toNat * C.toInt.toNat → 16 - k < n → f_L_check_10 K R C L n cur prs st ss sz sc R C (R * C) (own_X own_B (own_g L) k) (Int32.ofNat k) = K cur prs st ss sz sc R C (R * C) (own_X own_B (own_g L) (R.toInt.toNat * C.toInt.toNat)) := by
  have n16 := own_n16 h
  have nn := own_nn h
  have nc := own_ne h.d
  intro n
  induction n with
  | zero => intro k h1 h2; omega
  | succ n ih =>
    intro k h1 h2
    have tk : (Int32.ofNat k).toInt = k := Int32.toInt_ofNat_of_lt (by omega)
    unfold f_L_check_10
    by_cases g : Int32.ofNat k < R * C
    · rw [if_pos g, if_neg nc, if_neg nc]
      rw [ilt, tk, nn] at g
      have kl : k < R.toInt.toNat * C.toInt.toNat := by omega
      rw [own_lit h L kl, Option.bind_some, own_oi (by omega), ← ih (k + 1) (by omega) (by omega)]
      congr 1
      rw [own_X]
      cases c : own_g L k with
      | false => rfl
      | true =>
        show own_X own_B (own_g L) k ||| own_B k = own_X own_B (own_g L) k ^^^ own_B k
        apply own_g_e
        intro b _
        rw [own_g_or, own_g_xor, own_X_B _ _ (by omega), own_g_B (by omega)]
        by_cases e : b = k
        · rw [e, decide_eq_false (Nat.lt_irrefl k), Bool.false_and]; simp
        · rw [decide_eq_false e]; simp
    · rw [if_neg g]
      rw [ilt, tk, nn] at g
      rw [show k = R.toInt.toNat * C.toInt.toNat by omega]
theorem own_c233 {R C : Int32} (h : own_d4 R C) (L ss : Int64) (K : List Int32 → List Int32 → Int32 → Int64 → Int32 → Int32 → Int64 → Int32 → Int32 → Int32 → Int64 → Int32 → Option (Int32 × List Int32 × List Int32 × Int32 × Int64 × Int32 × Int32)) (cur prs : List Int32) (sz sc : Int32) (v4 : Int64) (v6 v12 v13 : Int32) : ∀ (n k : Nat), k ≤ R.toInt.toNat * C.toInt.toNat → 16 - k < n → f_L_check_233 K R C L n cur prs 1 ss sz sc R C (R * C) v4 v6 v12 v13 (own_X (own_M R C) (own_g ss) k) (Int32.ofNat (own_cnt (own_g ss) k)) (Int32.ofNat k) = K cur prs 1 ss sz sc v4 v6 v12 v13 (own_E R C (own_g ss)) (Int32.ofNat (own_cnt (own_g ss) (R.toInt.toNat * C.toInt.toNat))) := by
  have n16 := own_n16 h
  have nn := own_nn h
  have nc := own_ne h.d
  intro n
  induction n with
  | zero => intro k h1 h2; omega
  | succ n ih =>
    intro k h1 h2
    have tk : (Int32.ofNat k).toInt = k := Int32.toInt_ofNat_of_lt (by omega)
    have cl := own_cnt_le (own_g ss) k
    unfold f_L_check_233
    by_cases g : Int32.ofNat k < R * C
    · rw [if_pos g, if_neg nc, if_neg nc]
      rw [ilt, tk, nn] at g
      have kl : k < R.toInt.toNat * C.toInt.toNat := by omega
      have nx := ih (k + 1) (by omega) (by omega)
      rw [own_X, own_cnt] at nx
      rw [own_inS h ss kl, Option.bind_some, own_oi (show k < 2147483647 by omega)]
      cases c : own_g ss k with
      | false =>
        rw [c] at nx
        rw [if_pos (show (if false = true then (1 : Int32) else 0) = 0 from rfl)]
        exact nx
      | true =>
        rw [c] at nx
        rw [if_neg (show ¬ (if true = true then (1 : Int32) else 0) = 0 by decide), (own_M_f h kl).1, Option.bind_some, own_oi (by omega)]
        exact nx
    · rw [if_neg g]
      rw [ilt, tk, nn] at g
      rw [show k = R.toInt.toNat * C.toInt.toNat by omega]
      rfl
theorem own_W16 : ∀ n : Fin 17, ((1 : Int32) <<< (Int32.ofNat n.val &&& 31)).toInt = 2 ^ n.val := by decide +kernel
theorem own_tb (s j i : Nat) : (s ^^^ 2 ^ j).testBit i = (s.testBit i ^^ decide (j = i)) := by
  rw [Nat.testBit_xor, Nat.testBit_two_pow]
theorem own_c105 {R C : Int32} (h : own_d4 R C) (L0 L : Int64) (K : List Int32 → List Int32 → Int32 → Int64 → Int32 → Int32 → Int32 → Int32 → Int32 → Int64 → Int32 → Int32 → Int32 → Option (Int32 × List Int32 × List Int32 × Int32 × Int64 × Int32 × Int32)) (cur prs : List Int32) (st : Int32) (ss : Int64) (sz sc v6 W : Int32) (hW : W.toInt = (2 ^ (R.toInt.toNat * C.toInt.toNat) : Nat)) {Z : Nat} (hZ : ∀ s, s < 2 ^ (R.toInt.toNat * C.toInt.toNat) → own_sol R C L s = true → Z ≤ own_cnt (fun i => s.testBit i) (R.toInt.toNat * C.toInt.toNat)) :
    ∀ (n : Nat) (v11 v13 : Int32) (k : Nat), 1 ≤ k → k ≤ 2 ^ (R.toInt.toNat * C.toInt.toNat) → 65536 - k < n → v11.toInt = own_cnt (fun i => (own_gr (k - 1)).testBit i) (R.toInt.toNat * C.toInt.toNat) → (Z : Int) ≤ v13.toInt →
      ∃ v13' : Int32, (Z : Int) ≤ v13'.toInt ∧ f_L_check_105 K R C L0 n cur prs st ss sz sc R C (R * C) L v6 (own_E R C (fun i => (own_gr (k - 1)).testBit i)) (Int64.ofNat (own_gr (k - 1))) v11 (Int32.ofNat (own_cnt (fun i => own_sol R C L (own_gr i)) k)) v13 W (Int32.ofNat k) = K cur prs st ss sz sc R C (R * C) L v6 (Int32.ofNat (own_cnt (own_sol R C L) (2 ^ (R.toInt.toNat * C.toInt.toNat)))) v13' := by
  have n16 := own_n16 h
  have hN : 2 ^ (R.toInt.toNat * C.toInt.toNat) ≤ 2 ^ 16 := Nat.pow_le_pow_right (by decide) n16.2
  intro n
  induction n with
  | zero => intro v11 v13 k h0 h1 h2; omega
  | succ n ih =>
    intro v11 v13 k h0 h1 h2 h3 h4
    have tk : (Int32.ofNat k).toInt = k := Int32.toInt_ofNat_of_lt (by omega)
    have cl := own_cnt_le (fun i => own_sol R C L (own_gr i)) k
    unfold f_L_check_105
    by_cases g : Int32.ofNat k < W
    · rw [if_pos g]
      rw [ilt, tk, hW] at g
      have kl : k < 2 ^ (R.toInt.toNat * C.toInt.toNat) := by omega
      obtain ⟨j, j1, j2, j3⟩ := own_tz (R.toInt.toNat * C.toInt.toNat) k 0 100000 (by omega) kl (by omega) (by omega)
      have etz : f_L_tz (Int32.ofNat k) = some (Int32.ofNat j) := by
        unfold f_L_tz
        rw [Nat.zero_add] at j2
        exact j2
      rw [etz, Option.bind_some, (own_M_f h j1).1, Option.bind_some]
      have s1 : own_gr (k - 1) < 2 ^ (R.toInt.toNat * C.toInt.toNat) := own_gr_lt (by omega)
      have s2 : own_gr k < 2 ^ (R.toInt.toNat * C.toInt.toNat) := own_gr_lt kl
      have fl : ∀ i, (own_gr k).testBit i = ((own_gr (k - 1)).testBit i ^^ decide (j = i)) := fun i => by rw [j3, own_tb]
      have eE : own_E R C (fun i => (own_gr (k - 1)).testBit i) ^^^ own_M R C j = own_E R C (fun i => (own_gr k).testBit i) := by
        unfold own_E
        rw [own_X_flip (q := fun i => (own_gr (k - 1)).testBit i) (r := fun i => (own_gr k).testBit i) (j := j) (by
          show (own_gr k).testBit j = !(own_gr (k - 1)).testBit j
          rw [fl, decide_eq_true rfl]; simp) (fun i hi => by
          show (own_gr k).testBit i = (own_gr (k - 1)).testBit i
          rw [fl, decide_eq_false (fun e => hi e.symm)]; simp), if_pos j1]
      have eB : Int64.ofNat (own_gr (k - 1)) ^^^ ((1 : Int64) <<< ((Int32.ofNat j).toInt64 &&& 63)) = Int64.ofNat (own_gr k) := by
        apply own_g_e
        intro b _
        have q := own_g_B (show j < 64 by omega) b
        unfold own_B at q
        rw [own_g_xor, own_gN (by omega), own_gN (by omega), q, fl]
        congr 1
        by_cases e : b = j
        · rw [decide_eq_true e, decide_eq_true e.symm]
        · rw [decide_eq_false e, decide_eq_false (fun q => e q.symm)]
      rw [eE, eB]
      have tst := own_tst (Int64.ofNat (own_gr k)) (show j < 64 by omega)
      unfold own_B at tst
      rw [own_gN (by omega)] at tst
      have cb := own_cnt_le (fun i => (own_gr (k - 1)).testBit i) (R.toInt.toNat * C.toInt.toNat)
      have m1 : (-1 : Int32).toInt = -1 := rfl
      have o1 : (1 : Int32).toInt = 1 := rfl
      have e11 : (if Int64.ofNat (own_gr k) &&& ((1 : Int64) <<< ((Int32.ofNat j).toInt64 &&& 63)) = 0 then v11 + (-1) else v11 + 1).toInt = own_cnt (fun i => (own_gr k).testBit i) (R.toInt.toNat * C.toInt.toNat) := by
        cases c : (own_gr k).testBit j with
        | false =>
          have up := own_cnt_up (q := fun i => (own_gr k).testBit i) (r := fun i => (own_gr (k - 1)).testBit i) j1 (by
            have := fl j
            rw [c, decide_eq_true rfl] at this
            show (own_gr (k - 1)).testBit j = true
            revert this
            cases (own_gr (k - 1)).testBit j <;> simp) c (fun i hi => by
            show (own_gr (k - 1)).testBit i = (own_gr k).testBit i
            rw [fl, decide_eq_false (fun e => hi e.symm)]; simp)
          rw [if_pos (tst.mpr c), iadd_i (by omega) (by omega), m1]
          omega
        | true =>
          have up := own_cnt_up (q := fun i => (own_gr (k - 1)).testBit i) (r := fun i => (own_gr k).testBit i) j1 c (by
            have := fl j
            rw [c, decide_eq_true rfl] at this
            show (own_gr (k - 1)).testBit j = false
            revert this
            cases (own_gr (k - 1)).testBit j <;> simp) (fun i hi => by
            show (own_gr k).testBit i = (own_gr (k - 1)).testBit i
            rw [fl, decide_eq_false (fun e => hi e.symm)]; simp)
          rw [if_neg (fun e => by rw [tst.mp e] at c; cases c), iadd_i (by omega) (by omega), o1]
          omega
      generalize (if Int64.ofNat (own_gr k) &&& ((1 : Int64) <<< ((Int32.ofNat j).toInt64 &&& 63)) = 0 then v11 + (-1) else v11 + 1) = w11 at e11 ⊢
      unfold f_L_check_161
      have e12 : (if own_E R C (fun i => (own_gr k).testBit i) = L then Int32.ofNat (own_cnt (fun i => own_sol R C L (own_gr i)) k) + 1 else Int32.ofNat (own_cnt (fun i => own_sol R C L (own_gr i)) k)) = Int32.ofNat (own_cnt (fun i => own_sol R C L (own_gr i)) (k + 1)) := by
        rw [own_cnt]
        by_cases q : own_E R C (fun i => (own_gr k).testBit i) = L
        · have sl : own_sol R C L (own_gr k) = true := decide_eq_true q
          rw [if_pos q, own_oi (by omega), sl]
          rfl
        · have sl : own_sol R C L (own_gr k) = false := decide_eq_false q
          rw [if_neg q, sl]
          rfl
      rw [e12, own_oi (by omega)]
      have hz : (Z : Int) ≤ (if own_E R C (fun i => (own_gr k).testBit i) = L then (if w11 < v13 then w11 else v13) else v13).toInt := by
        by_cases q : own_E R C (fun i => (own_gr k).testBit i) = L
        · rw [if_pos q]
          split
          · have := hZ (own_gr k) s2 (decide_eq_true q)
            omega
          · exact h4
        · rw [if_neg q]
          exact h4
      exact ih w11 _ (k + 1) (by omega) (by omega) (by omega) e11 hz
    · rw [if_neg g]
      rw [ilt, tk, hW] at g
      have ek : k = 2 ^ (R.toInt.toNat * C.toInt.toNat) := by omega
      refine ⟨v13, h4, ?_⟩
      rw [ek, own_cnt_gr (own_sol R C L) (R.toInt.toNat * C.toInt.toNat)]
theorem own_X_no (f : Nat → Int64) : ∀ k, own_X f (fun i => Nat.testBit 0 i) k = 0 := by
  intro k
  induction k with
  | zero => rfl
  | succ k ih => rw [own_X, Nat.zero_testBit, if_neg (by decide), ih]
theorem own_cnt_no : ∀ k, own_cnt (fun i => Nat.testBit 0 i) k = 0 := by
  intro k
  induction k with
  | zero => rfl
  | succ k ih => rw [own_cnt, Nat.zero_testBit, ih]; rfl
theorem own_brute {R C : Int32} (h : own_d4 R C) (L : Int64) (cur prs : List Int32) (st : Int32) (ss : Int64) (sz sc v6 : Int32) {Z : Nat} (hZ : ∀ s, s < 2 ^ (R.toInt.toNat * C.toInt.toNat) → own_sol R C L s = true → Z ≤ own_cnt (fun i => s.testBit i) (R.toInt.toNat * C.toInt.toNat)) (hz : Z ≤ R.toInt.toNat * C.toInt.toNat + 1) :
    ∃ v13 : Int32, (Z : Int) ≤ v13.toInt ∧ f_L_check_67 R C L cur prs st ss sz sc R C (R * C) L v6 = f_L_check_189 R C L cur prs st ss sz sc R C (R * C) L v6 (Int32.ofNat (own_cnt (own_sol R C L) (2 ^ (R.toInt.toNat * C.toInt.toNat)))) v13 := by
  have n16 := own_n16 h
  have nn := own_nn h
  have o1 : (1 : Int32).toInt = 1 := rfl
  have z0 : (0 : Int32).toInt = 0 := rfl
  have pos : 1 ≤ 2 ^ (R.toInt.toNat * C.toInt.toNat) := Nat.one_le_two_pow
  have e0 : own_E R C (fun i => (own_gr (1 - 1)).testBit i) = 0 := own_X_no _ _
  have c0 : own_cnt (fun i => (own_gr (1 - 1)).testBit i) (R.toInt.toNat * C.toInt.toNat) = 0 := own_cnt_no _
  have W : ((1 : Int32) <<< ((R * C) &&& 31)).toInt = (2 ^ (R.toInt.toNat * C.toInt.toNat) : Nat) := by
    have q := own_W16 ⟨R.toInt.toNat * C.toInt.toNat, by omega⟩
    have e : Int32.ofNat (R.toInt.toNat * C.toInt.toNat) = R * C := by rw [ieq, Int32.toInt_ofNat_of_lt (by omega), nn]
    simp only [e] at q
    rw [q, Int.natCast_pow]
    rfl
  have e12 : (if L = 0 then (1 : Int32) else 0) = Int32.ofNat (own_cnt (fun i => own_sol R C L (own_gr i)) 1) := by
    rw [own_cnt, own_cnt]
    by_cases q : L = 0
    · have sl : own_sol R C L (own_gr 0) = true := decide_eq_true (by rw [q]; exact e0)
      rw [if_pos q, sl]
      rfl
    · have sl : own_sol R C L (own_gr 0) = false := decide_eq_false (fun e => q (by rw [← e]; exact e0))
      rw [if_neg q, sl]
      rfl
  have h13 : (Z : Int) ≤ (if L = 0 then (0 : Int32) else R * C + 1).toInt := by
    by_cases q : L = 0
    · rw [if_pos q]
      have sl : own_sol R C L 0 = true := decide_eq_true (by rw [q]; exact e0)
      have := hZ 0 (by omega) sl
      rw [own_cnt_no] at this
      omega
    · rw [if_neg q, iadd_i (by omega) (by omega), nn, o1]
      omega
  obtain ⟨v13, k1, k2⟩ := own_c105 h L L (f_L_check_189 R C L) cur prs st ss sz sc v6 _ W hZ 100000 0 (if L = 0 then (0 : Int32) else R * C + 1) 1 (by omega) pos (by omega) (by rw [c0]; rfl) h13
  refine ⟨v13, k1, ?_⟩
  unfold f_L_check_67 f_L_check_97
  rw [e12, ← k2, e0]
  rfl
theorem own_check {R C : Int32} (h : own_d4 R C) (L : Int64) (hL : ∀ b, R.toInt.toNat * C.toInt.toNat ≤ b → own_g L b = false) (cur prs : List Int32) (st : Int32) (ss : Int64) (sz sc : Int32) (h0 : cur.length = 8) (h1 : prs.length = 8) :
    Tot (f_L_check R C L cur prs st ss sz sc R C) (fun r => r.2.1.length = 8 ∧ r.2.2.1.length = 8 ∧ (r.1 = 2 ∨ (r.1 = 1 ∧ r.2.2.2.1 = 1 ∧ own_G R C L r.2.2.2.2.1 r.2.2.2.2.2.1 r.2.2.2.2.2.2))) := by
  have n16 := own_n16 h
  have c1 := h.d.c
  have c4 := h.c
  have h16 : 2 ^ C.toInt.toNat ≤ 2 ^ 4 := Nat.pow_le_pow_right (by decide) (by omega)
  unfold f_L_check
  have z : (0 : Int64) = own_X own_B (own_g L) 0 := rfl
  have zi : (0 : Int32) = Int32.ofNat 0 := rfl
  have q10 := own_c10 h L (f_L_check_46 R C L) cur prs st ss sz sc 100000 0 (by omega) (by omega)
  rw [own_XB_g (by omega) hL] at q10
  have q10' : f_L_check_10 (f_L_check_46 R C L) R C L 100000 cur prs st ss sz sc R C (R * C) 0 0 = f_L_check_46 R C L cur prs st ss sz sc R C (R * C) L := q10
  rw [q10']
  unfold f_L_check_46
  refine Tot.bind (own_solveY h L hL cur prs st ss sz sc h0 h1) ?_
  rintro ⟨r, A, B, s1, s2, s3, s4⟩ ⟨l1, l2, es, q⟩
  simp only at l1 l2 es q
  rcases q with ⟨e, c0⟩ | ⟨e, hG⟩
  · subst e
    subst es
    rw [← own_cnt_eq h hL] at c0
    obtain ⟨v13, _, eb⟩ := own_brute h L A B 2 s2 s3 s4 2 (Z := 0) (fun _ _ _ => Nat.zero_le _) (Nat.zero_le _)
    show Tot (if (2 : Int32) = 1 then _ else if (2 : Int32) = 2 then f_L_check_67 R C L A B 2 s2 s3 s4 R C (R * C) L 2 else _) _
    rw [if_neg (by decide), if_pos rfl, eb, c0]
    exact Tot.mk ⟨l1, l2, Or.inl rfl⟩
  · subst e
    subst es
    obtain ⟨ga, gb, gc, gd, ge⟩ := hG
    have cz := own_cnt_z ga (64 - R.toInt.toNat * C.toInt.toNat)
    rw [show R.toInt.toNat * C.toInt.toNat + (64 - R.toInt.toNat * C.toInt.toNat) = 64 by omega] at cz
    have cn := own_cnt_le (own_g s2) (R.toInt.toNat * C.toInt.toNat)
    obtain ⟨v13, k1, eb⟩ := own_brute h L A B 1 s2 s3 s4 1 (Z := own_cnt (own_g s2) 64) (fun s hs hq => own_sol_min h hL ge hs hq) (by omega)
    show Tot (if (1 : Int32) = 1 then f_L_check_67 R C L A B 1 s2 s3 s4 R C (R * C) L 1 else _) _
    rw [if_pos rfl, eb]
    unfold f_L_check_189
    rw [if_neg (by decide)]
    have q233 := own_c233 h L s2 (f_L_check_275 R C L) A B s3 s4 L 1 (Int32.ofNat (own_cnt (own_sol R C L) (2 ^ (R.toInt.toNat * C.toInt.toNat)))) v13 100000 0 (by omega) (by omega)
    have q233' : f_L_check_233 (f_L_check_275 R C L) R C L 100000 A B 1 s2 s3 s4 R C (R * C) L 1 (Int32.ofNat (own_cnt (own_sol R C L) (2 ^ (R.toInt.toNat * C.toInt.toNat)))) v13 0 0 0 = _ := q233
    rw [q233', gb, own_cnt_eq h hL, ← gd, ← cz, ← gc]
    unfold f_L_check_275 f_solutionSize f_solutionCount
    have t3 : s3.toInt = own_cnt (own_g s2) 64 := by rw [gc]; exact Int32.toInt_ofNat_of_lt (by omega)
    rw [if_pos rfl, if_pos rfl, Option.bind_some, if_pos rfl, if_neg (by rw [ilt]; omega), if_pos rfl, Option.bind_some, if_pos rfl]
    exact Tot.mk ⟨l1, l2, Or.inr ⟨rfl, rfl, ga, gb, gc, gd, ge⟩⟩
theorem own_dm_all : ∀ c : Fin 8, ∀ r : Fin 8, ∀ k : Fin 8, k.val ≤ c.val → (Int32.ofNat r.val * Int32.ofNat (c.val + 1) + Int32.ofNat k.val) / Int32.ofNat (c.val + 1) = Int32.ofNat r.val ∧ (Int32.ofNat r.val * Int32.ofNat (c.val + 1) + Int32.ofNat k.val) % Int32.ofNat (c.val + 1) = Int32.ofNat k.val := by decide +kernel
theorem own_dm {R C a b : Int32} (hd : own_dim R C) (h0 : 0 ≤ a.toInt) (h1 : a.toInt < R.toInt) (h2 : 0 ≤ b.toInt) (h3 : b.toInt < C.toInt) : (a * C + b) / C = a ∧ (a * C + b) % C = b := by
  obtain ⟨d1, d2, d3, d4⟩ := hd
  have k := own_dm_all ⟨C.toInt.toNat - 1, by omega⟩ ⟨a.toInt.toNat, by omega⟩ ⟨b.toInt.toNat, by omega⟩ (by show b.toInt.toNat ≤ C.toInt.toNat - 1; omega)
  have e : C.toInt.toNat - 1 + 1 = C.toInt.toNat := by omega
  simp only [e, own_of h0, own_of h2, own_of (show 0 ≤ C.toInt by omega)] at k
  exact k
theorem own_tgX {R C : Int32} (h : own_d4 R C) {i : Nat} (hi : i < R.toInt.toNat * C.toInt.toNat) (L : Int64) : f_toggleCell R C L (Int32.ofNat i / C) (Int32.ofNat i % C) = some (L ^^^ own_M R C i) := by
  obtain ⟨m, hm⟩ := own_tog R C (Int32.ofNat i / C) (Int32.ofNat i % C)
  have q := (own_M_f h hi).2.1
  rw [hm 0, Int64.zero_xor] at q
  rw [hm L, Option.some.inj q]
theorem own_at {R C a b : Int32} (h : own_d4 R C) (h0 : 0 ≤ a.toInt) (h1 : a.toInt < R.toInt) (h2 : 0 ≤ b.toInt) (h3 : b.toInt < C.toInt) : ∃ i, i < R.toInt.toNat * C.toInt.toNat ∧ a * C + b = Int32.ofNat i ∧ Int32.ofNat i / C = a ∧ Int32.ofNat i % C = b := by
  obtain ⟨d1, d2⟩ := own_dm h.d h0 h1 h2 h3
  have c1 := h.d.c
  have c4 := h.c
  have r4 := h.r
  have n16 := own_n16 h
  have am : a.toInt * C.toInt = ((a.toInt.toNat * C.toInt.toNat : Nat) : Int) := by rw [Int.natCast_mul]; congr 1 <;> omega
  have le : (a.toInt.toNat + 1) * C.toInt.toNat ≤ R.toInt.toNat * C.toInt.toNat := Nat.mul_le_mul_right _ (by omega)
  rw [Nat.add_mul, Nat.one_mul] at le
  have em : (a * C).toInt = ((a.toInt.toNat * C.toInt.toNat : Nat) : Int) := by rw [imul_i (by rw [am]; omega) (by rw [am]; omega), am]
  have es : (a * C + b).toInt = ((a.toInt.toNat * C.toInt.toNat : Nat) : Int) + b.toInt := by rw [iadd_i (by rw [em]; omega) (by rw [em]; omega), em]
  have e : Int32.ofNat (a * C + b).toInt.toNat = a * C + b := own_of (by rw [es]; omega)
  refine ⟨(a * C + b).toInt.toNat, by rw [es]; omega, e.symm, ?_, ?_⟩
  · rw [e, d1]
  · rw [e, d2]
def own_lo (R C : Int32) (L : Int64) : Prop := ∀ b, R.toInt.toNat * C.toInt.toNat ≤ b → own_g L b = false
theorem own_lo_x {R C : Int32} {a b : Int64} (ha : own_lo R C a) (hb : own_lo R C b) : own_lo R C (a ^^^ b) := by
  intro n hn
  rw [own_g_xor, ha n hn, hb n hn]
  rfl
theorem own_M_lo {R C : Int32} (h : own_d4 R C) {i : Nat} (hi : i < R.toInt.toNat * C.toInt.toNat) : own_lo R C (own_M R C i) := (own_M_f h hi).2.2.1
abbrev own_Y (R C : Int32) (log cur prs : List Int32) (L : Int64) (ll : Int32) : Prop := (log.length = 64) ∧ (cur.length = 8) ∧ (prs.length = 8) ∧ (0 ≤ ll.toInt) ∧ (ll.toInt ≤ 64) ∧ (own_lo R C L) ∧ (∀ j : Int32, 0 ≤ j.toInt → j.toInt < ll.toInt → ∃ i, i < R.toInt.toNat * C.toInt.toNat ∧ gI log j = Int32.ofNat i)
theorem own_Y.l {R C : Int32} {log cur prs : List Int32} {L : Int64} {ll : Int32} (self : own_Y R C log cur prs L ll) : log.length = 64 := self.1
theorem own_Y.c {R C : Int32} {log cur prs : List Int32} {L : Int64} {ll : Int32} (self : own_Y R C log cur prs L ll) : cur.length = 8 := self.2.1
theorem own_Y.p {R C : Int32} {log cur prs : List Int32} {L : Int64} {ll : Int32} (self : own_Y R C log cur prs L ll) : prs.length = 8 := self.2.2.1
theorem own_Y.h0 {R C : Int32} {log cur prs : List Int32} {L : Int64} {ll : Int32} (self : own_Y R C log cur prs L ll) : 0 ≤ ll.toInt := self.2.2.2.1
theorem own_Y.h1 {R C : Int32} {log cur prs : List Int32} {L : Int64} {ll : Int32} (self : own_Y R C log cur prs L ll) : ll.toInt ≤ 64 := self.2.2.2.2.1
theorem own_Y.b {R C : Int32} {log cur prs : List Int32} {L : Int64} {ll : Int32} (self : own_Y R C log cur prs L ll) : own_lo R C L := self.2.2.2.2.2.1
theorem own_Y.e {R C : Int32} {log cur prs : List Int32} {L : Int64} {ll : Int32} (self : own_Y R C log cur prs L ll) : ∀ j : Int32, 0 ≤ j.toInt → j.toInt < ll.toInt → ∃ i, i < R.toInt.toNat * C.toInt.toNat ∧ gI log j = Int32.ofNat i := self.2.2.2.2.2.2
theorem own_pressY {R C : Int32} (h : own_d4 R C) {log cur prs : List Int32} {L : Int64} {ll : Int32} (hY : own_Y R C log cur prs L ll) (a b : Int32) (h0 : 0 ≤ a.toInt) (h1 : a.toInt < R.toInt) (h2 : 0 ≤ b.toInt) (h3 : b.toInt < C.toInt) : Tot (f_press R C log L ll a b) (fun r => own_Y R C r.2.1 cur prs r.2.2.1 r.2.2.2) := by
  obtain ⟨i, i1, i2, i3, i4⟩ := own_at h h0 h1 h2 h3
  have hl := hY.l
  have l0 := hY.h0
  have l1 := hY.h1
  obtain ⟨q1, q2⟩ := own_cell_f h i1
  rw [i3, i4] at q1
  have tg := own_tgX h i1 L
  rw [i3, i4] at tg
  unfold f_press
  rw [q1, Option.bind_some, if_neg (by decide)]
  refine Tot.ite (fun g => ?_) (fun _ => Tot.mk hY)
  have g' : ll.toInt < 64 := ilt.mp g
  have e1 : (ll + 1).toInt = ll.toInt + 1 := by
    have o : (1 : Int32).toInt = 1 := rfl
    rw [iadd_i (by omega) (by omega), o]
  rw [tg, Option.bind_some]
  refine Tot.wr l0 (by omega) (fun A a1 a2 => Tot.mk ⟨by show A.length = 64; omega, hY.c, hY.p, by show 0 ≤ (ll + 1).toInt; omega, by show (ll + 1).toInt ≤ 64; omega, own_lo_x hY.b (own_M_lo h i1), fun j j0 j1 => ?_⟩)
  have j1' : j.toInt < (ll + 1).toInt := j1
  show ∃ i, _ ∧ gI A j = _
  rw [a1, gset l0 (by omega) j0]
  by_cases e : ll = j
  · rw [if_pos e]; exact ⟨i, i1, i2⟩
  · rw [if_neg e]
    exact hY.e j j0 (by rw [ieq] at e; omega)
theorem own_undoY {R C : Int32} (h : own_d4 R C) {log cur prs : List Int32} {L : Int64} {ll : Int32} (hY : own_Y R C log cur prs L ll) : Tot (f_undo log R C L ll) (fun r => own_Y R C log cur prs r.2.1 r.2.2) := by
  have nc := own_ne h.d
  have hl := hY.l
  have l0 := hY.h0
  have l1 := hY.h1
  unfold f_undo
  refine Tot.ite (fun g => ?_) (fun g => Tot.mk hY)
  have g' : 0 < ll.toInt := ilt.mp g
  have o : (1 : Int32).toInt = 1 := rfl
  have el : (ll - 1).toInt = ll.toInt - 1 := by rw [isub_i (by omega) (by omega), o]
  refine Tot.rdI (by omega) (by omega) ?_
  obtain ⟨i, i1, i2⟩ := hY.e (ll - 1) (by omega) (by omega)
  rw [i2, if_neg nc, if_neg nc, own_tgX h i1, Option.bind_some]
  exact Tot.mk ⟨hl, hY.c, hY.p, by show 0 ≤ (ll - 1).toInt; omega, by show (ll - 1).toInt ≤ 64; omega, own_lo_x hY.b (own_M_lo h i1), fun j j0 j1 => hY.e j j0 (by have q : j.toInt < (ll - 1).toInt := j1; omega)⟩
theorem own_setY {R C : Int32} (h : own_d4 R C) {L : Int64} (hL : own_lo R C L) (a b c : Int32) (h0 : 0 ≤ a.toInt) (h1 : a.toInt < R.toInt) (h2 : 0 ≤ b.toInt) (h3 : b.toInt < C.toInt) : Tot (f_setLight R C L a b c) (fun r => own_lo R C r.2) := by
  obtain ⟨i, i1, i2, i3, i4⟩ := own_at h h0 h1 h2 h3
  have n16 := own_n16 h
  obtain ⟨q1, q2⟩ := own_cell_f h i1
  rw [i3, i4] at q1 q2
  unfold f_setLight
  rw [q1, Option.bind_some, if_neg (by decide), q2, Option.bind_some]
  refine Tot.mk ?_
  show own_lo R C (if c = 0 then L &&& (own_B i ^^^ -1) else L ||| own_B i)
  intro n hn
  split
  · rw [own_g_and, hL n hn, Bool.false_and]
  · rw [own_g_or, hL n hn, own_g_B (by omega), decide_eq_false (by omega)]
    rfl
theorem own_cnt_mono (q : Nat → Bool) (m : Nat) : ∀ n, own_cnt q m ≤ own_cnt q (m + n) := by
  intro n
  induction n with
  | zero => exact Nat.le_refl _
  | succ n ih => rw [← Nat.add_assoc, own_cnt]; omega
theorem own_ap38Y {R C : Int32} (h : own_d4 R C) (st : Int32) (ss : Int64) (sz : Int32) (cur prs : List Int32) : ∀ (n : Nat) (log : List Int32) (L : Int64) (ll : Int32) (k : Nat), own_Y R C log cur prs L ll → k ≤ R.toInt.toNat * C.toInt.toNat → 16 - k < n →
    Tot (f_applySolution_38 R C st ss sz n log L ll (R * C) (Int32.ofNat k)) (fun r => own_Y R C r.2.1 cur prs r.2.2.1 r.2.2.2 ∧ (ll.toInt + ((own_cnt (own_g ss) (R.toInt.toNat * C.toInt.toNat) : Int) - own_cnt (own_g ss) k) ≤ 64 → r.2.2.1 = (L ^^^ own_X (own_M R C) (own_g ss) k) ^^^ own_E R C (own_g ss))) := by
  have nc := own_ne h.d
  have n16 := own_n16 h
  have nn := own_nn h
  intro n
  induction n with
  | zero => intro log L ll k hY h1 h2; exfalso; omega
  | succ n ih =>
    intro log L ll k hY h1 h2
    have hl := hY.l
    have l0 := hY.h0
    have l1 := hY.h1
    have tk : (Int32.ofNat k).toInt = k := Int32.toInt_ofNat_of_lt (by omega)
    unfold f_applySolution_38
    refine Tot.ite (fun g => ?_) (fun g => ?_)
    · rw [ilt, tk, nn] at g
      have kl : k < R.toInt.toNat * C.toInt.toNat := by omega
      have b1 : own_B 0 = 1 := by decide
      have tst := own_tst (XT.ushrL ss (Int32.ofNat k)) (show 0 < 64 by omega)
      rw [b1, own_g_shr _ _ (by omega) (by omega), tk, Int.toNat_natCast, Nat.add_zero] at tst
      have ok := own_oi (show k < 2147483647 by omega)
      have eX : own_X (own_M R C) (own_g ss) (k + 1) = if own_g ss k then own_X (own_M R C) (own_g ss) k ^^^ own_M R C k else own_X (own_M R C) (own_g ss) k := rfl
      have eC : own_cnt (own_g ss) (k + 1) = own_cnt (own_g ss) k + (if own_g ss k then 1 else 0) := rfl
      refine Tot.ite (fun g2 => ?_) (fun g2 => ?_)
      · have c := tst.mp g2
        rw [c] at eX eC
        rw [ok]
        refine Tot.mono (ih log L ll (k + 1) hY (by omega) (by omega)) ?_
        rintro r ⟨q1, q2⟩
        refine ⟨q1, fun hh => ?_⟩
        have eC' : own_cnt (own_g ss) (k + 1) = own_cnt (own_g ss) k := eC
        have eX' : own_X (own_M R C) (own_g ss) (k + 1) = own_X (own_M R C) (own_g ss) k := eX
        rw [eC', eX'] at q2
        exact q2 hh
      · have c : own_g ss k = true := by
          cases q : own_g ss k with
          | true => rfl
          | false => exact absurd (tst.mpr q) g2
        rw [c] at eX eC
        have eC' : own_cnt (own_g ss) (k + 1) = own_cnt (own_g ss) k + 1 := eC
        have eX' : own_X (own_M R C) (own_g ss) (k + 1) = own_X (own_M R C) (own_g ss) k ^^^ own_M R C k := eX
        have mono := own_cnt_mono (own_g ss) (k + 1) (R.toInt.toNat * C.toInt.toNat - (k + 1))
        rw [show k + 1 + (R.toInt.toNat * C.toInt.toNat - (k + 1)) = R.toInt.toNat * C.toInt.toNat by omega] at mono
        refine Tot.ite (fun g3 => ?_) (fun g3 => ?_)
        · have g3' : ll.toInt < 64 := ilt.mp g3
          have e1 : (ll + 1).toInt = ll.toInt + 1 := by
            have o : (1 : Int32).toInt = 1 := rfl
            rw [iadd_i (by omega) (by omega), o]
          rw [if_neg nc, if_neg nc, own_tgX h kl, Option.bind_some]
          refine Tot.wr l0 (by omega) (fun A a1 a2 => ?_)
          rw [ok]
          have hY' : own_Y R C A cur prs (L ^^^ own_M R C k) (ll + 1) := by
            refine ⟨by omega, hY.c, hY.p, by omega, by omega, own_lo_x hY.b (own_M_lo h kl), fun j j0 j1 => ?_⟩
            rw [a1, gset l0 (by omega) j0]
            by_cases e : ll = j
            · rw [if_pos e]; exact ⟨k, kl, rfl⟩
            · rw [if_neg e]
              exact hY.e j j0 (by rw [ieq] at e; omega)
          refine Tot.mono (ih A _ (ll + 1) (k + 1) hY' (by omega) (by omega)) ?_
          rintro r ⟨q1, q2⟩
          refine ⟨q1, fun hh => ?_⟩
          rw [q2 (by omega), eX']
          congr 1
          have e : (L ^^^ own_M R C k) ^^^ (own_X (own_M R C) (own_g ss) k ^^^ own_M R C k) = (L ^^^ own_X (own_M R C) (own_g ss) k) ^^^ (own_M R C k ^^^ own_M R C k) := by ac_rfl
          rw [e, Int64.xor_self, Int64.xor_zero]
        · refine Tot.mk ⟨hY, fun hh => ?_⟩
          exfalso
          have e64 : (64 : Int32).toInt = 64 := rfl
          rw [ilt] at g3
          omega
    · rw [ilt, tk, nn] at g
      have ek : k = R.toInt.toNat * C.toInt.toNat := by omega
      refine Tot.mk ⟨hY, fun _ => ?_⟩
      show L = _
      rw [ek]
      show L = (L ^^^ own_E R C (own_g ss)) ^^^ own_E R C (own_g ss)
      rw [Int64.xor_assoc, Int64.xor_self, Int64.xor_zero]
theorem own_appY {R C : Int32} (h : own_d4 R C) {log cur prs : List Int32} {L : Int64} {ll : Int32} (hY : own_Y R C log cur prs L ll) (st : Int32) (ss : Int64) (sz sc : Int32) : Tot (f_applySolution R C st ss sz log L ll) (fun r => own_Y R C r.2.1 cur prs r.2.2.1 r.2.2.2 ∧ (own_G R C L ss sz sc → r.1 = 0 ∨ r.2.2.1 = 0)) := by
  have n16 := own_n16 h
  have l0 := hY.h0
  have l1 := hY.h1
  unfold f_applySolution
  refine Tot.ite (fun g => Tot.ite (fun g2 => Tot.mk ⟨hY, fun _ => Or.inl rfl⟩) (fun g2 => ?_)) (fun g => Tot.mk ⟨hY, fun _ => Or.inl rfl⟩)
  have q := own_ap38Y h st ss sz cur prs 100000 log L ll 0 hY (by omega) (by omega)
  refine Tot.mono q ?_
  rintro r ⟨q1, q2⟩
  refine ⟨q1, fun hG => Or.inr ?_⟩
  have cz := own_cnt_z hG.a (64 - R.toInt.toNat * C.toInt.toNat)
  rw [show R.toInt.toNat * C.toInt.toNat + (64 - R.toInt.toNat * C.toInt.toNat) = 64 by omega] at cz
  have cn := own_cnt_le (own_g ss) (R.toInt.toNat * C.toInt.toNat)
  have t3 : sz.toInt = own_cnt (own_g ss) 64 := by rw [hG.c]; exact Int32.toInt_ofNat_of_lt (by omega)
  have e64 : (64 : Int32).toInt = 64 := rfl
  have c0 : own_cnt (own_g ss) 0 = 0 := rfl
  rw [ilt, iadd_i (by omega) (by omega)] at g2
  rw [q2 (by omega), hG.b]
  show (L ^^^ 0) ^^^ L = 0
  rw [Int64.xor_zero, Int64.xor_self]
theorem own_mod {a b : Int32} (h0 : 0 ≤ a.toInt) (h1 : 0 < b.toInt) : 0 ≤ (a % b).toInt ∧ (a % b).toInt < b.toInt := by
  have e : (a % b).toInt = a.toInt % b.toInt := by rw [Int32.toInt_mod, Int.tmod_eq_emod_of_nonneg h0]
  rw [e]
  exact ⟨Int.emod_nonneg _ (by omega), Int.emod_lt_of_pos _ h1⟩
theorem own_lc (scr : List Int32) (hl : scr.length ≤ 260) (v : Int32) (h0 : 0 ≤ v.toInt) : ∃ x, f_L_cell scr v = some x := by
  have el := iscr hl
  unfold f_L_cell
  by_cases g : v < scr.length.toInt32
  · have g' := ilt.mp g
    rw [if_pos g, rdg h0 (by omega), Option.bind_some]
    exact ⟨_, rfl⟩
  · rw [if_neg g]
    exact ⟨_, rfl⟩
theorem own_lc0 {L : Int64} (h : L = 0) : f_litCount L = some 0 := by
  unfold f_litCount
  rw [own_popX, h]
  have e : own_cnt (own_g 0) 64 = 0 := by
    have := own_cnt_no 64
    rw [← this]
    apply own_cnt_same
    intro j _
    rw [own_g_0, Nat.zero_testBit]
  rw [e, Option.bind_some]
  rfl
theorem own_36 (scr : List Int32) (hl : scr.length ≤ 260) {R C : Int32} (h : own_d4 R C) : ∀ (n : Nat) (log cur prs : List Int32) (L : Int64) (ll st : Int32) (ss : Int64) (sz sc js v : Int32), own_Y R C log cur prs L ll → (js = 0 ∨ own_G R C L ss sz sc) → 0 ≤ v.toInt → v.toInt ≤ 264 → 264 - v.toInt < n → Tot (f_L_law_36 (f_L_law_246 scr) scr n log cur prs R C L ll st ss sz sc R C js v) (fun r => r = 1) := by
  have el := iscr hl
  have r1 := h.d.a
  have c1 := h.d.c
  have nc := own_ne h.d
  have nr : ¬ R = 0 := by
    rw [ieq]
    have e0 : (0 : Int32).toInt = 0 := rfl
    omega
  have o1 : (1 : Int32).toInt = 1 := rfl
  have o2 : (2 : Int32).toInt = 2 := rfl
  have z0 : (0 : Int32).toInt = 0 := rfl
  intro n
  induction n with
  | zero => intro log cur prs L ll st ss sz sc js v hY hG h0 h1 h2; exfalso; omega
  | succ n ih =>
    intro log cur prs L ll st ss sz sc js v hY hG h0 h1 h2
    unfold f_L_law_36
    refine Tot.ite (fun g => ?_) (fun g => ?_)
    · have g' := ilt.mp g
      have p1 : (v + 1).toInt = v.toInt + 1 := by rw [iadd_i (by omega) (by omega), o1]
      have p2 : (v + 2).toInt = v.toInt + 2 := by rw [iadd_i (by omega) (by omega), o2]
      obtain ⟨x, ex⟩ := own_lc scr hl v h0
      obtain ⟨y, ey⟩ := own_lc scr hl (v + 1) (by omega)
      rw [ex, Option.bind_some, ey, Option.bind_some, if_neg nr, if_neg nc]
      obtain ⟨a0, a1⟩ := own_mod (a := y &&& 255) (b := R) (iand_rng y 255 (by decide)).1 (by omega)
      obtain ⟨b0, b1⟩ := own_mod (a := XT.ushr y 8 &&& 255) (b := C) (iand_rng (XT.ushr y 8) 255 (by decide)).1 (by omega)
      generalize (y &&& 255) % R = a at *
      generalize (XT.ushr y 8 &&& 255) % C = b at *
      have nx : ∀ (log cur prs : List Int32) (L : Int64) (ll st : Int32) (ss : Int64) (sz sc js : Int32), own_Y R C log cur prs L ll → (js = 0 ∨ own_G R C L ss sz sc) → Tot (f_L_law_36 (f_L_law_246 scr) scr n log cur prs R C L ll st ss sz sc R C js (v + 2)) (fun r => r = 1) :=
        fun log cur prs L ll st ss sz sc js k1 k2 => ih log cur prs L ll st ss sz sc js (v + 2) k1 k2 (by omega) (by omega) (by omega)
      refine Tot.ite (fun _ => ?_) (fun _ => Tot.ite (fun _ => ?_) (fun _ => Tot.ite (fun _ => ?_) (fun _ => Tot.ite (fun _ => ?_) (fun _ => Tot.ite (fun _ => ?_) (fun _ => ?_)))))
      · refine Tot.bind (own_setY h hY.b a b _ a0 a1 b0 b1) ?_
        rintro ⟨r, L'⟩ q
        exact nx log cur prs L' ll st ss sz sc 0 ⟨hY.l, hY.c, hY.p, hY.h0, hY.h1, q, hY.e⟩ (Or.inl rfl)
      · refine Tot.bind (own_pressY h hY a b a0 a1 b0 b1) ?_
        rintro ⟨r, A, L', l'⟩ q
        exact nx A cur prs L' l' st ss sz sc 0 q (Or.inl rfl)
      · refine Tot.bind (own_undoY h hY) ?_
        rintro ⟨r, L', l'⟩ q
        exact nx log cur prs L' l' st ss sz sc 0 q (Or.inl rfl)
      · refine Tot.bind (own_check h L hY.b cur prs st ss sz sc hY.c hY.p) ?_
        rintro ⟨r, A, B, s1, s2, s3, s4⟩ ⟨l1, l2, q⟩
        simp only at l1 l2 q
        refine Tot.ite (fun g2 => ?_) (fun g2 => ?_)
        · exfalso
          rw [ilt] at g2
          rcases q with q | ⟨q, _⟩
          · rw [q, o2] at g2; omega
          · rw [q, o1] at g2; omega
        · refine nx log A B L ll s1 s2 s3 s4 _ ⟨hY.l, l1, l2, hY.h0, hY.h1, hY.b, hY.e⟩ ?_
          rcases q with q | ⟨q, _, q2⟩
          · left
            rw [q]
            rfl
          · right
            exact q2
      · refine Tot.bind (own_appY h hY st ss sz sc) ?_
        rintro ⟨r, A, L', l'⟩ ⟨q1, q2⟩
        simp only at q1 q2
        refine Tot.ite (fun _ => nx A cur prs L' l' st ss sz sc 0 q1 (Or.inl rfl)) (fun g2 => Tot.ite (fun _ => nx A cur prs L' l' st ss sz sc 0 q1 (Or.inl rfl)) (fun g3 => ?_))
        have e : L' = 0 := by
          rcases hG with k | k
          · exact absurd k g2
          · rcases q2 k with k2 | k2
            · exact absurd k2 g3
            · exact k2
        rw [own_lc0 e, Option.bind_some, if_pos rfl]
        exact nx A cur prs L' l' st ss sz sc 0 q1 (Or.inl rfl)
      · unfold f_clear f_forgetResult
        rw [Option.bind_some, Option.bind_some]
        exact nx log cur prs 0 0 0 0 0 0 0 ⟨hY.l, hY.c, hY.p, by decide, by decide, fun b _ => own_g_0 b, fun j j0 j1 => by omega⟩ (Or.inl rfl)
    · unfold f_L_law_246
      refine Tot.bind (own_check h L hY.b cur prs st ss sz sc hY.c hY.p) ?_
      rintro ⟨r, A, B, s1, s2, s3, s4⟩ ⟨l1, l2, q⟩
      simp only at q
      refine Tot.mk ?_
      show (if r < 0 then (0 : Int32) else 1) = 1
      rw [if_neg]
      rw [ilt]
      rcases q with q | ⟨q, _⟩
      · rw [q, o2]; omega
      · rw [q, o1]; omega
theorem own_cl_id {v : Int32} (h0 : 1 ≤ v.toInt) (h1 : v.toInt ≤ 8) : own_cl v = v := by
  have e1 : (1 : Int32).toInt = 1 := rfl
  have e8 : (8 : Int32).toInt = 8 := rfl
  unfold own_cl
  rw [if_neg (by rw [ilt]; omega), if_neg (by rw [ilt]; omega)]
theorem own_true (scr : List Int32) (hl : scr.length ≤ 260) : f_L_law scr = some 1 := by
  have el := iscr hl
  have o1 : (1 : Int32).toInt = 1 := rfl
  have o3 : (3 : Int32).toInt = 3 := rfl
  obtain ⟨x, ex⟩ := own_lc scr hl 0 (by decide)
  obtain ⟨y, ey⟩ := own_lc scr hl 1 (by decide)
  have rx := iand_rng x 3 (by decide)
  have ry := iand_rng y 3 (by decide)
  have ea : (1 + (x &&& 3)).toInt = 1 + (x &&& 3).toInt := by rw [iadd_i (by omega) (by omega), o1]
  have eb : (1 + (y &&& 3)).toInt = 1 + (y &&& 3).toInt := by rw [iadd_i (by omega) (by omega), o1]
  unfold f_L_law
  rw [ex, Option.bind_some, ey, Option.bind_some, own_init, own_cl_id (by omega) (by omega), own_cl_id (by omega) (by omega), Option.bind_some]
  have h : own_d4 (1 + (x &&& 3)) (1 + (y &&& 3)) := ⟨⟨by omega, by omega, by omega, by omega⟩, by omega, by omega⟩
  generalize 1 + (x &&& 3) = R at *
  generalize 1 + (y &&& 3) = C at *
  have l64 : (List.replicate 64 (0 : Int32)).length = 64 := List.length_replicate
  have l8 : (List.replicate 8 (0 : Int32)).length = 8 := List.length_replicate
  generalize List.replicate 64 (0 : Int32) = lg at *
  generalize List.replicate 8 (0 : Int32) = lc at *
  exact Tot.eq (own_36 scr hl h 100000 lg lc lc 0 0 0 0 0 0 0 2 ⟨l64, l8, l8, by decide, by decide, fun b _ => own_g_0 b, fun j j0 j1 => by have z : (0 : Int32).toInt = 0 := rfl; omega⟩ (Or.inl rfl) (by decide) (by decide) (by decide))
set_option maxRecDepth 65536 in
theorem comes_1 {Post : Tables → Env → Array Value → State → Outcome → State → Prop} (hpost : ∀ tb e args s v u, (limb_1_1.after args s (.returned v) u = true ∧ limb_1_2.after args s (.returned v) u = true ∧ True) → FrameEnd s (.returned v) u (Jvm.fieldLocs frame_1_writes args s ++ Jvm.arrayLocs frame_1_arrays args s ++ Jvm.staticLocs frame_1_statics s) 16 256 → Post tb e args s (.returned v) u) :
    ArmFor flags0 classFile x code maxLocals ret World_1 tables_1 room_1 Calls_1 rest_1 Pre_1 Post := by
  intro l hfl _ _ p e ha hc hk s m args below hf hA hF happ hP
  obtain ⟨hcalls, hrest, hpre⟩ := hP
  obtain ⟨-, -, -, hnamed, -, -, -, hat⟩ := (Spec.applies_iff hf).mp happ
  obtain ⟨hg, hn⟩ := and_e (Cond.before_iff.mp (show (Jvm.Cond.and given_1 narrow_1).before args s = true from hpre))
  obtain ⟨h1, h2⟩ := and_e hg
  have hw := fun d (hd : d ∈ tables_1) => atoms_spec (ws := Jvm.Cond.code x code maxLocals ret :: tables_1) hat d (List.mem_cons_of_mem _ hd)
  obtain ⟨w0, rfl⟩ : ∃ w0 : Value, args = #[w0] := by
    have hs : args.size = 1 := by simpa [Cond.value, given_1] using h1
    obtain ⟨L⟩ := args
    match L, hs with
    | [w0], _ => exact ⟨w0, rfl⟩
  have hfit : Fit s := fun {y c} hc i hi => by
    obtain ⟨ha, rfl⟩ := Array.getElem?_eq_some_iff.mp hc
    have q := List.all_eq_true.mp ((Array.all_eq_true_iff_forall_mem.mp hF) _ (Array.getElem_mem ha)) i (List.mem_range.mpr hi)
    simpa [Array.getElem?_eq_getElem hi] using q
  obtain ⟨hn1, hn2⟩ := and_e hn
  obtain ⟨ad, e0⟩ := arr_v hn1
  obtain ⟨cl, A⟩ := Arr.start e0 hn1
  obtain rfl : w0 = .ref ad := Option.some.inj e0
  obtain ⟨scr, hs1, hs2, hs3⟩ := script_of hfit A e0 hn2
  have E : OEndsQ own_P 0 0 (entL [.ref 0] d_0.maxL) [] [.inr (.inl (false, scr))] (LawQ 1 4 91) := ok_L_law (own_true scr hs2)
  have hS : SR [ad] [.ref 0] [.ref ad] := ⟨_, _, rfl, ⟨ad, rfl, rfl⟩, rfl⟩
  have hH : HR own_P s s.heap.size s.heap [ad] [.inr (.inl (false, scr))] := hr_script rfl A hs1 hs2 hs3
  have M := law_met (l := l) own_chk (fun w hw' => hw w (own_in w hw')) hm_0 E hS (Nat.le_of_ble_eq_true rfl) hH tables_1 room_1 (Nat.le_of_ble_eq_true rfl) (Nat.le_of_ble_eq_true rfl) (Nat.le_of_ble_eq_true rfl) (Nat.le_of_ble_eq_true rfl)
  obtain ⟨n, o, h1, h2, h3, L, rfl, N, hq⟩ := M p e ha hc hk s m _ below hf ((Spec.applies_iff_loose hf).mp happ).1 ⟨rfl, State.Warmed39.refl s, rfl⟩ trivial
  refine ⟨n, _, h1, h2, h3, hpost _ _ _ _ _ _ ⟨Cond.after_iff.mpr rfl, Cond.after_iff.mpr (eq_i res_at (Term.int_eval (1)) rfl), trivial⟩ ⟨hq.1, hq.2.1, (hq.2.2.sift fun y hy => Or.inr (N y hy)).mono (by decide) (by decide)⟩⟩
theorem main_1_1 : Claimed_1_1 := comes_1 fun _ _ _ _ _ _ h hF => ⟨h.1, hF⟩
theorem main_1_2 : Claimed_1_2 := comes_1 fun _ _ _ _ _ _ h hF => ⟨h.2.1, hF⟩
end Jvm.Pilot.@@N@@
namespace Jvm.Pilot.@@N@@
open Jvm Jvm.ClassFile Sem Op Lib Jvm.Free Jvm.Stand Jvm.Pilot.@@N@@.Jvm.D
/-! MADE BY PROGRAM (witnessworld.py) out of the Statement's table words and the real class files: 9 classes; the members and pool entries that the words name. The judged class is class 1, her method 5. -/
namespace start1
open Jvm.ClassFile
def u (s : String) : CpInfo := .utf8 (stringToUtf16 s)
/-- a pool by its gaps: so many unusable entries, then the entry; so many at the end -/
def gap : Nat → List CpInfo → List CpInfo
  | 0, r => r
  | n + 1, r => .unusable :: gap n r
def poolList (es : List (Nat × CpInfo)) (last : Nat) : List CpInfo := es.foldr (fun e r => gap e.1 (e.2 :: r)) (gap last [])
def pool (es : List (Nat × CpInfo)) (last : Nat) : Array CpInfo := ⟨poolList es last⟩
def fileOf (pool : Array CpInfo) (this : Nat) (attrs : Array Attribute := #[]) (ms : Array MethodInfo := #[]) (fl : Nat := 33) (sup : Nat := 0) (ifs : Array Nat := #[]) (fds : Array FieldInfo := #[]) : ClassFile where
  minorVersion := 0
  majorVersion := 65
  constantPool := pool
  accessFlags := fl
  thisClass := this
  superClass := sup
  interfaces := ifs
  fields := fds
  methods := ms
  attributes := attrs
def plain (name : String) (sup : Option ClassId) : Class where
  name := name
  kind := .ordinary
  loader := none
  accessFlags := 33
  super := sup
  interfaces := #[]
  cf := none
  fields := #[]
  methods := #[]
  instanceTypes := #[]
  staticTypes := #[]
  resolved := #[]
  callSites := []
  init := .initialized
  statics := none
  mirror := none

def pool0 : Array CpInfo := pool [(5, u "<init>"), (0, u "()V"), (1, .class_ 10), (1, u "java/lang/Object")] 113

def k0c0 : Code := { maxStack := 0, maxLocals := 1, code := object_method_1_code, exceptionTable := #[], attributes := #[] }
def k0m0 : Method := { name := "<init>", desc := "()V", sig := { parameters := [], returnType := none }, accessFlags := 1, code := some k0c0 }
/-- java/lang/Object -/
def k0 : Class := { plain "java/lang/Object" none with
  accessFlags := 33
  interfaces := #[]
  cf := some (fileOf pool0 8 #[] #[{ accessFlags := 1, nameIndex := 5, descriptorIndex := 6, attributes := #[] }] 33 0 #[] #[])
  fields := #[]
  methods := #[k0m0]
  instanceTypes := #[]
  staticTypes := #[]
  resolved := Array.replicate 124 none
  statics := none }

def pool1 : Array CpInfo := pool [(2, .class_ 4), (1, u "java/lang/Object"), (0, u "<init>"), (0, u "()V"), (0, .methodref 8 9), (0, .class_ 10), (0, .nameAndType 11 12), (0, u "LightsOutSolver"), (0, u "isLit"), (0, u "(II)Z"), (0, .methodref 8 14), (0, .nameAndType 15 16), (0, u "solve"), (0, u "()I"), (0, .methodref 18 19), (0, .class_ 20), (0, .nameAndType 21 22), (0, u "LightsOutSolverOwnLaw"), (0, u "tz"), (0, u "(I)I"), (0, .methodref 18 24), (0, .nameAndType 25 26), (0, u "pressMask"), (0, u "(III)J"), (0, .methodref 8 28), (0, .nameAndType 29 16), (0, u "solutionSize"), (0, .methodref 8 31), (0, .nameAndType 32 16), (0, u "solutionCount"), (0, .methodref 8 34), (0, .nameAndType 35 12), (0, u "inSolution"), (0, .methodref 18 37), (0, .nameAndType 38 39), (0, u "cell"), (0, u "([II)I"), (0, .methodref 8 41), (0, .nameAndType 5 42), (0, u "(II)V"), (0, .integer 2147483647), (0, .methodref 8 45), (0, .nameAndType 46 47), (0, u "setLight"), (0, u "(III)Z"), (0, .methodref 8 49), (0, .nameAndType 50 12), (0, u "press"), (0, .methodref 8 52), (0, .nameAndType 53 54), (0, u "undo"), (0, u "()Z"), (0, .methodref 18 56), (0, .nameAndType 57 58), (0, u "check"), (0, u "(LLightsOutSolver;II)I"), (0, .methodref 8 60), (0, .nameAndType 61 54), (0, u "applySolution"), (0, .methodref 8 63), (0, .nameAndType 64 16), (0, u "litCount"), (0, .methodref 8 66), (0, .nameAndType 67 6), (0, u "clear"), (3, u "law"), (0, u "([I)Z")] 4

def k1m0 : Method := { name := "<init>", desc := "()V", sig := { parameters := [], returnType := none }, accessFlags := 1, code := none }
def k1c1 : Code := { maxStack := 2, maxLocals := 2, code := method_2_code, exceptionTable := #[], attributes := #[] }
def k1m1 : Method := { name := "cell", desc := "([II)I", sig := { parameters := [(.array .int), .int], returnType := some .int }, accessFlags := 10, code := some k1c1 }
def k1c2 : Code := { maxStack := 6, maxLocals := 7, code := method_3_code, exceptionTable := #[], attributes := #[] }
def k1m2 : Method := { name := "pressMask", desc := "(III)J", sig := { parameters := [.int, .int, .int], returnType := some .long }, accessFlags := 10, code := some k1c2 }
def k1c3 : Code := { maxStack := 2, maxLocals := 2, code := method_4_code, exceptionTable := #[], attributes := #[] }
def k1m3 : Method := { name := "tz", desc := "(I)I", sig := { parameters := [.int], returnType := some .int }, accessFlags := 10, code := some k1c3 }
def k1c4 : Code := { maxStack := 5, maxLocals := 19, code := method_5_code, exceptionTable := #[], attributes := #[] }
def k1m4 : Method := { name := "check", desc := "(LLightsOutSolver;II)I", sig := { parameters := [(.object "LightsOutSolver"), .int, .int], returnType := some .int }, accessFlags := 10, code := some k1c4 }
def k1c5 : Code := { maxStack := 4, maxLocals := 12, code := code, exceptionTable := #[], attributes := #[] }
def k1m5 : Method := { name := "law", desc := "([I)Z", sig := { parameters := [(.array .int)], returnType := some .boolean }, accessFlags := 9, code := some k1c5 }
/-- LightsOutSolverOwnLaw -/
def k1 : Class := { plain "LightsOutSolverOwnLaw" (some 0) with
  accessFlags := 49
  interfaces := #[]
  cf := some (fileOf pool1 18 #[] #[{ accessFlags := 1, nameIndex := 5, descriptorIndex := 6, attributes := #[] }, { accessFlags := 10, nameIndex := 38, descriptorIndex := 39, attributes := #[] }, { accessFlags := 10, nameIndex := 25, descriptorIndex := 26, attributes := #[] }, { accessFlags := 10, nameIndex := 21, descriptorIndex := 22, attributes := #[] }, { accessFlags := 10, nameIndex := 57, descriptorIndex := 58, attributes := #[] }, { accessFlags := 9, nameIndex := 71, descriptorIndex := 72, attributes := #[] }] 49 2 #[] #[])
  fields := #[]
  methods := #[k1m0, k1m1, k1m2, k1m3, k1m4, k1m5]
  instanceTypes := #[]
  staticTypes := #[]
  resolved := Array.replicate 77 none
  statics := none }

def pool2 : Array CpInfo := pool [(1, .methodref 2 3), (0, .class_ 4), (0, .nameAndType 5 6), (0, u "java/lang/Object"), (0, u "<init>"), (0, u "()V"), (0, .fieldref 8 9), (0, .class_ 10), (0, .nameAndType 11 12), (0, u "LightsOutSolver"), (0, u "log"), (0, u "[I"), (0, .fieldref 8 14), (0, .nameAndType 15 12), (0, u "cur"), (0, .fieldref 8 17), (0, .nameAndType 18 12), (0, u "prs"), (0, .methodref 8 20), (0, .nameAndType 21 22), (0, u "clamp"), (0, u "(I)I"), (0, .fieldref 8 24), (0, .nameAndType 25 26), (0, u "nRows"), (0, u "I"), (0, .fieldref 8 28), (0, .nameAndType 29 26), (0, u "nCols"), (0, .fieldref 8 31), (0, .nameAndType 32 33), (0, u "lights"), (0, u "J"), (0, .fieldref 8 35), (0, .nameAndType 36 26), (0, u "logLen"), (0, .methodref 8 38), (0, .nameAndType 39 6), (0, u "forgetResult"), (0, .methodref 8 41), (0, .nameAndType 42 43), (0, u "onBoard"), (0, u "(II)Z"), (0, .methodref 8 45), (0, .nameAndType 46 47), (0, u "bit"), (0, u "(II)J"), (0, .long 18446744073709551615), (1, .methodref 8 51), (0, .nameAndType 52 53), (0, u "toggleCell"), (0, u "(II)V"), (0, .methodref 8 55), (0, .nameAndType 56 57), (0, u "popCount"), (0, u "(J)I"), (0, .methodref 8 59), (0, .nameAndType 60 61), (0, u "chase"), (0, u "(I)Z"), (0, .methodref 8 63), (0, .nameAndType 64 65), (0, u "packPresses"), (0, u "()J"), (0, .methodref 8 67), (0, .nameAndType 68 69), (0, u "unsignedLess"), (0, u "(JJ)Z"), (0, .fieldref 8 71), (0, .nameAndType 72 26), (0, u "status"), (0, .fieldref 8 74), (0, .nameAndType 75 33), (0, u "solSet"), (0, .fieldref 8 77), (0, .nameAndType 78 26), (0, u "solSize"), (0, .fieldref 8 80), (0, .nameAndType 81 26), (0, u "solCount"), (0, .methodref 8 83), (0, .nameAndType 84 85), (0, u "rowMask"), (0, u "()I"), (0, .methodref 8 87), (0, .nameAndType 88 6), (0, u "loadRows"), (0, .methodref 8 90), (0, .nameAndType 91 53), (0, u "applyRowPress"), (0, .long 9223372036854775808), (1, u "STATUS_NONE"), (2, u "STATUS_SOLVED"), (1, u "STATUS_UNSOLVABLE"), (1, u "LOG_CAPACITY"), (5, u "setLight"), (0, u "(III)Z"), (1, u "press"), (0, u "undo"), (0, u "()Z"), (2, u "isLit"), (0, u "litCount"), (0, u "solve"), (0, u "solutionSize"), (0, u "solutionCount"), (0, u "inSolution"), (0, u "applySolution"), (0, u "clear")] 2

def k2c0 : Code := { maxStack := 3, maxLocals := 3, code := prog_1_method_1_code, exceptionTable := #[], attributes := #[] }
def k2m0 : Method := { name := "<init>", desc := "(II)V", sig := { parameters := [.int, .int], returnType := none }, accessFlags := 1, code := some k2c0 }
def k2c1 : Code := { maxStack := 7, maxLocals := 6, code := prog_1_method_4_code, exceptionTable := #[], attributes := #[] }
def k2m1 : Method := { name := "setLight", desc := "(III)Z", sig := { parameters := [.int, .int, .int], returnType := some .boolean }, accessFlags := 1, code := some k2c1 }
def k2c2 : Code := { maxStack := 4, maxLocals := 3, code := prog_1_method_5_code, exceptionTable := #[], attributes := #[] }
def k2m2 : Method := { name := "press", desc := "(II)Z", sig := { parameters := [.int, .int], returnType := some .boolean }, accessFlags := 1, code := some k2c2 }
def k2c3 : Code := { maxStack := 4, maxLocals := 2, code := prog_1_method_6_code, exceptionTable := #[], attributes := #[] }
def k2m3 : Method := { name := "undo", desc := "()Z", sig := { parameters := [], returnType := some .boolean }, accessFlags := 1, code := some k2c3 }
def k2c4 : Code := { maxStack := 5, maxLocals := 3, code := prog_1_method_9_code, exceptionTable := #[], attributes := #[] }
def k2m4 : Method := { name := "isLit", desc := "(II)Z", sig := { parameters := [.int, .int], returnType := some .boolean }, accessFlags := 1, code := some k2c4 }
def k2c5 : Code := { maxStack := 2, maxLocals := 1, code := prog_1_method_10_code, exceptionTable := #[], attributes := #[] }
def k2m5 : Method := { name := "litCount", desc := "()I", sig := { parameters := [], returnType := some .int }, accessFlags := 1, code := some k2c5 }
def k2c6 : Code := { maxStack := 4, maxLocals := 10, code := prog_1_method_11_code, exceptionTable := #[], attributes := #[] }
def k2m6 : Method := { name := "solve", desc := "()I", sig := { parameters := [], returnType := some .int }, accessFlags := 1, code := some k2c6 }
def k2c7 : Code := { maxStack := 2, maxLocals := 1, code := prog_1_method_13_code, exceptionTable := #[], attributes := #[] }
def k2m7 : Method := { name := "solutionSize", desc := "()I", sig := { parameters := [], returnType := some .int }, accessFlags := 1, code := some k2c7 }
def k2c8 : Code := { maxStack := 2, maxLocals := 1, code := prog_1_method_14_code, exceptionTable := #[], attributes := #[] }
def k2m8 : Method := { name := "solutionCount", desc := "()I", sig := { parameters := [], returnType := some .int }, accessFlags := 1, code := some k2c8 }
def k2c9 : Code := { maxStack := 5, maxLocals := 3, code := prog_1_method_15_code, exceptionTable := #[], attributes := #[] }
def k2m9 : Method := { name := "inSolution", desc := "(II)Z", sig := { parameters := [.int, .int], returnType := some .boolean }, accessFlags := 1, code := some k2c9 }
def k2c10 : Code := { maxStack := 4, maxLocals := 3, code := prog_1_method_16_code, exceptionTable := #[], attributes := #[] }
def k2m10 : Method := { name := "applySolution", desc := "()Z", sig := { parameters := [], returnType := some .boolean }, accessFlags := 1, code := some k2c10 }
def k2c11 : Code := { maxStack := 3, maxLocals := 1, code := prog_1_method_17_code, exceptionTable := #[], attributes := #[] }
def k2m11 : Method := { name := "clear", desc := "()V", sig := { parameters := [], returnType := none }, accessFlags := 1, code := some k2c11 }
def k2c12 : Code := { maxStack := 2, maxLocals := 1, code := prog_1_method_18_code, exceptionTable := #[], attributes := #[] }
def k2m12 : Method := { name := "clamp", desc := "(I)I", sig := { parameters := [.int], returnType := some .int }, accessFlags := 10, code := some k2c12 }
def k2c13 : Code := { maxStack := 3, maxLocals := 1, code := prog_1_method_19_code, exceptionTable := #[], attributes := #[] }
def k2m13 : Method := { name := "forgetResult", desc := "()V", sig := { parameters := [], returnType := none }, accessFlags := 2, code := some k2c13 }
def k2c14 : Code := { maxStack := 2, maxLocals := 3, code := prog_1_method_20_code, exceptionTable := #[], attributes := #[] }
def k2m14 : Method := { name := "onBoard", desc := "(II)Z", sig := { parameters := [.int, .int], returnType := some .boolean }, accessFlags := 2, code := some k2c14 }
def k2c15 : Code := { maxStack := 4, maxLocals := 3, code := prog_1_method_21_code, exceptionTable := #[], attributes := #[] }
def k2m15 : Method := { name := "bit", desc := "(II)J", sig := { parameters := [.int, .int], returnType := some .long }, accessFlags := 2, code := some k2c15 }
def k2c16 : Code := { maxStack := 6, maxLocals := 5, code := prog_1_method_22_code, exceptionTable := #[], attributes := #[] }
def k2m16 : Method := { name := "toggleCell", desc := "(II)V", sig := { parameters := [.int, .int], returnType := none }, accessFlags := 2, code := some k2c16 }
def k2c17 : Code := { maxStack := 2, maxLocals := 1, code := prog_1_method_23_code, exceptionTable := #[], attributes := #[] }
def k2m17 : Method := { name := "rowMask", desc := "()I", sig := { parameters := [], returnType := some .int }, accessFlags := 2, code := some k2c17 }
def k2c18 : Code := { maxStack := 6, maxLocals := 4, code := prog_1_method_24_code, exceptionTable := #[], attributes := #[] }
def k2m18 : Method := { name := "loadRows", desc := "()V", sig := { parameters := [], returnType := none }, accessFlags := 2, code := some k2c18 }
def k2c19 : Code := { maxStack := 6, maxLocals := 4, code := prog_1_method_25_code, exceptionTable := #[], attributes := #[] }
def k2m19 : Method := { name := "applyRowPress", desc := "(II)V", sig := { parameters := [.int, .int], returnType := none }, accessFlags := 2, code := some k2c19 }
def k2c20 : Code := { maxStack := 3, maxLocals := 4, code := prog_1_method_26_code, exceptionTable := #[], attributes := #[] }
def k2m20 : Method := { name := "chase", desc := "(I)Z", sig := { parameters := [.int], returnType := some .boolean }, accessFlags := 2, code := some k2c20 }
def k2c21 : Code := { maxStack := 6, maxLocals := 4, code := prog_1_method_27_code, exceptionTable := #[], attributes := #[] }
def k2m21 : Method := { name := "packPresses", desc := "()J", sig := { parameters := [], returnType := some .long }, accessFlags := 2, code := some k2c21 }
def k2c22 : Code := { maxStack := 6, maxLocals := 6, code := prog_1_method_28_code, exceptionTable := #[], attributes := #[] }
def k2m22 : Method := { name := "popCount", desc := "(J)I", sig := { parameters := [.long], returnType := some .int }, accessFlags := 10, code := some k2c22 }
def k2c23 : Code := { maxStack := 6, maxLocals := 4, code := prog_1_method_29_code, exceptionTable := #[], attributes := #[] }
def k2m23 : Method := { name := "unsignedLess", desc := "(JJ)Z", sig := { parameters := [.long, .long], returnType := some .boolean }, accessFlags := 10, code := some k2c23 }
/-- LightsOutSolver -/
def k2 : Class := { plain "LightsOutSolver" (some 0) with
  accessFlags := 49
  interfaces := #[]
  cf := some (fileOf pool2 8 #[] #[{ accessFlags := 1, nameIndex := 5, descriptorIndex := 53, attributes := #[] }, { accessFlags := 1, nameIndex := 107, descriptorIndex := 108, attributes := #[] }, { accessFlags := 1, nameIndex := 110, descriptorIndex := 43, attributes := #[] }, { accessFlags := 1, nameIndex := 111, descriptorIndex := 112, attributes := #[] }, { accessFlags := 1, nameIndex := 115, descriptorIndex := 43, attributes := #[] }, { accessFlags := 1, nameIndex := 116, descriptorIndex := 85, attributes := #[] }, { accessFlags := 1, nameIndex := 117, descriptorIndex := 85, attributes := #[] }, { accessFlags := 1, nameIndex := 118, descriptorIndex := 85, attributes := #[] }, { accessFlags := 1, nameIndex := 119, descriptorIndex := 85, attributes := #[] }, { accessFlags := 1, nameIndex := 120, descriptorIndex := 43, attributes := #[] }, { accessFlags := 1, nameIndex := 121, descriptorIndex := 112, attributes := #[] }, { accessFlags := 1, nameIndex := 122, descriptorIndex := 6, attributes := #[] }, { accessFlags := 10, nameIndex := 21, descriptorIndex := 22, attributes := #[] }, { accessFlags := 2, nameIndex := 39, descriptorIndex := 6, attributes := #[] }, { accessFlags := 2, nameIndex := 42, descriptorIndex := 43, attributes := #[] }, { accessFlags := 2, nameIndex := 46, descriptorIndex := 47, attributes := #[] }, { accessFlags := 2, nameIndex := 52, descriptorIndex := 53, attributes := #[] }, { accessFlags := 2, nameIndex := 84, descriptorIndex := 85, attributes := #[] }, { accessFlags := 2, nameIndex := 88, descriptorIndex := 6, attributes := #[] }, { accessFlags := 2, nameIndex := 91, descriptorIndex := 53, attributes := #[] }, { accessFlags := 2, nameIndex := 60, descriptorIndex := 61, attributes := #[] }, { accessFlags := 2, nameIndex := 64, descriptorIndex := 65, attributes := #[] }, { accessFlags := 10, nameIndex := 56, descriptorIndex := 57, attributes := #[] }, { accessFlags := 10, nameIndex := 68, descriptorIndex := 69, attributes := #[] }] 49 2 #[] #[{ accessFlags := 25, nameIndex := 94, descriptorIndex := 26, attributes := #[] }, { accessFlags := 25, nameIndex := 97, descriptorIndex := 26, attributes := #[] }, { accessFlags := 25, nameIndex := 99, descriptorIndex := 26, attributes := #[] }, { accessFlags := 25, nameIndex := 101, descriptorIndex := 26, attributes := #[] }, { accessFlags := 2, nameIndex := 25, descriptorIndex := 26, attributes := #[] }, { accessFlags := 2, nameIndex := 29, descriptorIndex := 26, attributes := #[] }, { accessFlags := 2, nameIndex := 32, descriptorIndex := 33, attributes := #[] }, { accessFlags := 2, nameIndex := 11, descriptorIndex := 12, attributes := #[] }, { accessFlags := 2, nameIndex := 36, descriptorIndex := 26, attributes := #[] }, { accessFlags := 2, nameIndex := 72, descriptorIndex := 26, attributes := #[] }, { accessFlags := 2, nameIndex := 75, descriptorIndex := 33, attributes := #[] }, { accessFlags := 2, nameIndex := 78, descriptorIndex := 26, attributes := #[] }, { accessFlags := 2, nameIndex := 81, descriptorIndex := 26, attributes := #[] }, { accessFlags := 2, nameIndex := 15, descriptorIndex := 12, attributes := #[] }, { accessFlags := 2, nameIndex := 18, descriptorIndex := 12, attributes := #[] }])
  fields := #[{ name := "STATUS_NONE", type := .int, accessFlags := 25, slot := 0, constantValue := 0 }, { name := "STATUS_SOLVED", type := .int, accessFlags := 25, slot := 1, constantValue := 0 }, { name := "STATUS_UNSOLVABLE", type := .int, accessFlags := 25, slot := 2, constantValue := 0 }, { name := "LOG_CAPACITY", type := .int, accessFlags := 25, slot := 3, constantValue := 0 }, { name := "nRows", type := .int, accessFlags := 2, slot := 0, constantValue := 0 }, { name := "nCols", type := .int, accessFlags := 2, slot := 1, constantValue := 0 }, { name := "lights", type := .long, accessFlags := 2, slot := 2, constantValue := 0 }, { name := "log", type := (.array .int), accessFlags := 2, slot := 3, constantValue := 0 }, { name := "logLen", type := .int, accessFlags := 2, slot := 4, constantValue := 0 }, { name := "status", type := .int, accessFlags := 2, slot := 5, constantValue := 0 }, { name := "solSet", type := .long, accessFlags := 2, slot := 6, constantValue := 0 }, { name := "solSize", type := .int, accessFlags := 2, slot := 7, constantValue := 0 }, { name := "solCount", type := .int, accessFlags := 2, slot := 8, constantValue := 0 }, { name := "cur", type := (.array .int), accessFlags := 2, slot := 9, constantValue := 0 }, { name := "prs", type := (.array .int), accessFlags := 2, slot := 10, constantValue := 0 }]
  methods := #[k2m0, k2m1, k2m2, k2m3, k2m4, k2m5, k2m6, k2m7, k2m8, k2m9, k2m10, k2m11, k2m12, k2m13, k2m14, k2m15, k2m16, k2m17, k2m18, k2m19, k2m20, k2m21, k2m22, k2m23]
  instanceTypes := #[.int, .int, .long, (.array .int), .int, .int, .long, .int, .int, (.array .int), (.array .int)]
  staticTypes := #[.int, .int, .int, .int]
  resolved := Array.replicate 125 none
  statics := none }

def pool3 : Array CpInfo := pool [(1, u "java/lang/Cloneable"), (0, .class_ 1), (0, u "java/lang/Object"), (0, .class_ 3)] 3

/-- java/lang/Cloneable -/
def k3 : Class := { plain "java/lang/Cloneable" (some 0) with
  accessFlags := 1537
  interfaces := #[]
  cf := some (fileOf pool3 2 #[] #[] 1537 4 #[] #[])
  fields := #[]
  methods := #[]
  instanceTypes := #[]
  staticTypes := #[]
  resolved := Array.replicate 8 none
  statics := none }

def pool4 : Array CpInfo := pool [(1, u "java/io/Serializable"), (0, .class_ 1), (0, u "java/lang/Object"), (0, .class_ 3)] 3

/-- java/io/Serializable -/
def k4 : Class := { plain "java/io/Serializable" (some 0) with
  accessFlags := 1537
  interfaces := #[]
  cf := some (fileOf pool4 2 #[] #[] 1537 4 #[] #[])
  fields := #[]
  methods := #[]
  instanceTypes := #[]
  staticTypes := #[]
  resolved := Array.replicate 8 none
  statics := none }

/-- the primitive byte -/
def k5 : Class := { plain "byte" none with kind := .primitive 'B', accessFlags := 0x411 }
/-- [B -/
def k6 : Class := { plain "[B" (some 0) with kind := .array 5 .byte, interfaces := #[3, 4], accessFlags := 1041 }

/-- the primitive int -/
def k7 : Class := { plain "int" none with kind := .primitive 'I', accessFlags := 0x411 }
/-- [I -/
def k8 : Class := { plain "[I" (some 0) with kind := .array 7 .int, interfaces := #[3, 4], accessFlags := 1041 }

def heap : Heap := #[{ cls := 8, slots := #[.int 1, .int 2, .int 3], vm := .none }]
def classes : Array Class := #[k0, k1, k2, k3, k4, k5, k6, k7, k8]
def interned : List (Array UInt16 × Addr) := []
def slotsUsed : Nat := 3
def theMethod : MethodId := ⟨1, 5⟩
def args0 : Array Value := #[.ref 0]
def aboutOver (below : List Frame) : State where
  vm := { classes := classes, interned := interned.toArray }
  heap := heap
  slotsUsed := slotsUsed
  threads := #[{ frames := .invoking theMethod args0 :: below }]
def below0 : List Frame := [.native { method := ⟨0, 0⟩, args := #[] }]
def about1 : State := aboutOver below0
def p0 : Program := .bare "" "" ""
def e0 : Env := launch0.env 0 0 0
theorem w_frames : about1.frames = Frame.invoking theMethod args0 :: below0 := rfl
set_option maxRecDepth 65536 in
theorem w_args : argsFit about1.vm theMethod args0 = true := by decide +kernel
set_option maxRecDepth 65536 in
theorem w_heap : heapFits about1 = true := by decide +kernel
set_option maxRecDepth 65536 in
theorem w_runnable : about1.curStatus? = some .runnable := by decide +kernel
set_option maxRecDepth 65536 in
theorem w_alone : about1.alone = true := by decide +kernel
set_option maxRecDepth 65536 in
theorem w_named : about1.methodNamed? x = some theMethod := by decide +kernel
set_option maxRecDepth 65536 in
theorem w_hears : about1.hears theMethod below0 = true := by decide +kernel
set_option maxRecDepth 65536 in
theorem w_ripe : about1.ripe theMethod args0 below0 = true := by decide +kernel
theorem w_running : about1.status = .running := rfl
set_option maxRecDepth 65536 in
theorem w_room : about1.hasRoom e0.platform room_1 = true :=
  launch0.hasRoom_least _ room_1 (by decide +kernel) (by decide +kernel) (by decide +kernel) (by decide +kernel) (by decide +kernel) (by decide +kernel)
theorem allAtoms_all (ts : List Jvm.Cond) (a : Array Jvm.Value) (st : Jvm.State) : (allAtoms ts).before a st = ts.all (fun c => c.before a st) := by
  induction ts with
  | nil => rfl
  | cons c t ih =>
    show (Jvm.Cond.and c (allAtoms t)).before a st = _
    rw [Jvm.Cond.before_and, ih, List.all_cons]
def words1 : List Jvm.Cond := Jvm.Cond.code x code maxLocals ret :: tables_1
/-- a 'code' word, met by the world's own term for the bytes: nothing is compared byte by byte -/
theorem code_word {y : MethodName} {bytes : ByteArray} {mx : Nat} {rt : Option FieldType} {a : Array Value} {s : State} {m : MethodId} {meth : Method} {c : Code} (h1 : s.methodNamed? y = some m) (h2 : s.vm.method? m = some meth) (h3 : meth.code = some c) (h4 : c.code = bytes)
    (h5 : (c.maxLocals == mx && c.exceptionTable.isEmpty && decide (c.maxStack ≤ mostOperands) && decide (meth.sig.returnType = rt) && !meth.locks && decide (parseMethodDescriptor y.desc = some meth.sig)) = true) : (Jvm.Cond.code y bytes mx rt).before a s = true := by
  simp only [Bool.and_eq_true, beq_iff_eq, Bool.not_eq_true', decide_eq_true_eq] at h5
  obtain ⟨⟨⟨⟨⟨g1, g2⟩, g3⟩, g4⟩, g5⟩, g6⟩ := h5
  simp [Cond.before, Cond.holds, Cond.value, h1, h2, h3, h4, g1, g2, g3, g4, g5, g6]
def isCode : Jvm.Cond → Bool
  | .code _ _ _ _ => true
  | _ => false
theorem all_split {L : List Jvm.Cond} {P : Jvm.Cond → Bool} (h1 : L.all (fun c => isCode c || P c) = true) (h2 : ∀ c ∈ L.filter isCode, P c = true) : L.all P = true := by
  refine List.all_eq_true.mpr fun c hc => ?_
  have h := List.all_eq_true.mp h1 c hc
  rcases Bool.eq_false_or_eq_true (isCode c) with hi | hi
  · exact h2 c (List.mem_filter.mpr ⟨hc, hi⟩)
  · simpa [hi] using h
set_option maxRecDepth 65536 in
theorem w_c0 : (Jvm.Cond.code x code maxLocals ret).before args0 about1 = true := code_word (m := ⟨1, 5⟩) (meth := k1m5) (c := k1c5) (by decide +kernel) rfl rfl rfl (by decide +kernel)
set_option maxRecDepth 65536 in
theorem w_c1 : (Jvm.Cond.code ({ cls := "LightsOutSolverOwnLaw", name := "cell", desc := "([II)I" } : Jvm.MethodName) method_2_code (2 : Nat) (Option.some Jvm.ClassFile.FieldType.int)).before args0 about1 = true := code_word (m := ⟨1, 1⟩) (meth := k1m1) (c := k1c1) (by decide +kernel) rfl rfl rfl (by decide +kernel)
set_option maxRecDepth 65536 in
theorem w_c2 : (Jvm.Cond.code ({ cls := "LightsOutSolver", name := "<init>", desc := "(II)V" } : Jvm.MethodName) prog_1_method_1_code (3 : Nat) (Option.none : Option Jvm.ClassFile.FieldType)).before args0 about1 = true := code_word (m := ⟨2, 0⟩) (meth := k2m0) (c := k2c0) (by decide +kernel) rfl rfl rfl (by decide +kernel)
set_option maxRecDepth 65536 in
theorem w_c3 : (Jvm.Cond.code ({ cls := "java/lang/Object", name := "<init>", desc := "()V" } : Jvm.MethodName) object_method_1_code (1 : Nat) (Option.none : Option Jvm.ClassFile.FieldType)).before args0 about1 = true := code_word (m := ⟨0, 0⟩) (meth := k0m0) (c := k0c0) (by decide +kernel) rfl rfl rfl (by decide +kernel)
set_option maxRecDepth 65536 in
theorem w_c4 : (Jvm.Cond.code ({ cls := "LightsOutSolver", name := "clamp", desc := "(I)I" } : Jvm.MethodName) prog_1_method_18_code (1 : Nat) (Option.some Jvm.ClassFile.FieldType.int)).before args0 about1 = true := code_word (m := ⟨2, 12⟩) (meth := k2m12) (c := k2c12) (by decide +kernel) rfl rfl rfl (by decide +kernel)
set_option maxRecDepth 65536 in
theorem w_c5 : (Jvm.Cond.code ({ cls := "LightsOutSolver", name := "forgetResult", desc := "()V" } : Jvm.MethodName) prog_1_method_19_code (1 : Nat) (Option.none : Option Jvm.ClassFile.FieldType)).before args0 about1 = true := code_word (m := ⟨2, 13⟩) (meth := k2m13) (c := k2c13) (by decide +kernel) rfl rfl rfl (by decide +kernel)
set_option maxRecDepth 65536 in
theorem w_c6 : (Jvm.Cond.code ({ cls := "LightsOutSolver", name := "press", desc := "(II)Z" } : Jvm.MethodName) prog_1_method_5_code (3 : Nat) (Option.some Jvm.ClassFile.FieldType.boolean)).before args0 about1 = true := code_word (m := ⟨2, 2⟩) (meth := k2m2) (c := k2c2) (by decide +kernel) rfl rfl rfl (by decide +kernel)
set_option maxRecDepth 65536 in
theorem w_c7 : (Jvm.Cond.code ({ cls := "LightsOutSolver", name := "onBoard", desc := "(II)Z" } : Jvm.MethodName) prog_1_method_20_code (3 : Nat) (Option.some Jvm.ClassFile.FieldType.boolean)).before args0 about1 = true := code_word (m := ⟨2, 14⟩) (meth := k2m14) (c := k2c14) (by decide +kernel) rfl rfl rfl (by decide +kernel)
set_option maxRecDepth 65536 in
theorem w_c8 : (Jvm.Cond.code ({ cls := "LightsOutSolver", name := "toggleCell", desc := "(II)V" } : Jvm.MethodName) prog_1_method_22_code (5 : Nat) (Option.none : Option Jvm.ClassFile.FieldType)).before args0 about1 = true := code_word (m := ⟨2, 16⟩) (meth := k2m16) (c := k2c16) (by decide +kernel) rfl rfl rfl (by decide +kernel)
set_option maxRecDepth 65536 in
theorem w_c9 : (Jvm.Cond.code ({ cls := "LightsOutSolver", name := "bit", desc := "(II)J" } : Jvm.MethodName) prog_1_method_21_code (3 : Nat) (Option.some Jvm.ClassFile.FieldType.long)).before args0 about1 = true := code_word (m := ⟨2, 15⟩) (meth := k2m15) (c := k2c15) (by decide +kernel) rfl rfl rfl (by decide +kernel)
set_option maxRecDepth 65536 in
theorem w_c10 : (Jvm.Cond.code ({ cls := "LightsOutSolverOwnLaw", name := "check", desc := "(LLightsOutSolver;II)I" } : Jvm.MethodName) method_5_code (19 : Nat) (Option.some Jvm.ClassFile.FieldType.int)).before args0 about1 = true := code_word (m := ⟨1, 4⟩) (meth := k1m4) (c := k1c4) (by decide +kernel) rfl rfl rfl (by decide +kernel)
set_option maxRecDepth 65536 in
theorem w_c11 : (Jvm.Cond.code ({ cls := "LightsOutSolver", name := "isLit", desc := "(II)Z" } : Jvm.MethodName) prog_1_method_9_code (3 : Nat) (Option.some Jvm.ClassFile.FieldType.boolean)).before args0 about1 = true := code_word (m := ⟨2, 4⟩) (meth := k2m4) (c := k2c4) (by decide +kernel) rfl rfl rfl (by decide +kernel)
set_option maxRecDepth 65536 in
theorem w_c12 : (Jvm.Cond.code ({ cls := "LightsOutSolver", name := "solve", desc := "()I" } : Jvm.MethodName) prog_1_method_11_code (10 : Nat) (Option.some Jvm.ClassFile.FieldType.int)).before args0 about1 = true := code_word (m := ⟨2, 6⟩) (meth := k2m6) (c := k2c6) (by decide +kernel) rfl rfl rfl (by decide +kernel)
set_option maxRecDepth 65536 in
theorem w_c13 : (Jvm.Cond.code ({ cls := "LightsOutSolver", name := "chase", desc := "(I)Z" } : Jvm.MethodName) prog_1_method_26_code (4 : Nat) (Option.some Jvm.ClassFile.FieldType.boolean)).before args0 about1 = true := code_word (m := ⟨2, 20⟩) (meth := k2m20) (c := k2c20) (by decide +kernel) rfl rfl rfl (by decide +kernel)
set_option maxRecDepth 65536 in
theorem w_c14 : (Jvm.Cond.code ({ cls := "LightsOutSolver", name := "loadRows", desc := "()V" } : Jvm.MethodName) prog_1_method_24_code (4 : Nat) (Option.none : Option Jvm.ClassFile.FieldType)).before args0 about1 = true := code_word (m := ⟨2, 18⟩) (meth := k2m18) (c := k2c18) (by decide +kernel) rfl rfl rfl (by decide +kernel)
set_option maxRecDepth 65536 in
theorem w_c15 : (Jvm.Cond.code ({ cls := "LightsOutSolver", name := "rowMask", desc := "()I" } : Jvm.MethodName) prog_1_method_23_code (1 : Nat) (Option.some Jvm.ClassFile.FieldType.int)).before args0 about1 = true := code_word (m := ⟨2, 17⟩) (meth := k2m17) (c := k2c17) (by decide +kernel) rfl rfl rfl (by decide +kernel)
set_option maxRecDepth 65536 in
theorem w_c16 : (Jvm.Cond.code ({ cls := "LightsOutSolver", name := "applyRowPress", desc := "(II)V" } : Jvm.MethodName) prog_1_method_25_code (4 : Nat) (Option.none : Option Jvm.ClassFile.FieldType)).before args0 about1 = true := code_word (m := ⟨2, 19⟩) (meth := k2m19) (c := k2c19) (by decide +kernel) rfl rfl rfl (by decide +kernel)
set_option maxRecDepth 65536 in
theorem w_c17 : (Jvm.Cond.code ({ cls := "LightsOutSolver", name := "packPresses", desc := "()J" } : Jvm.MethodName) prog_1_method_27_code (4 : Nat) (Option.some Jvm.ClassFile.FieldType.long)).before args0 about1 = true := code_word (m := ⟨2, 21⟩) (meth := k2m21) (c := k2c21) (by decide +kernel) rfl rfl rfl (by decide +kernel)
set_option maxRecDepth 65536 in
theorem w_c18 : (Jvm.Cond.code ({ cls := "LightsOutSolver", name := "popCount", desc := "(J)I" } : Jvm.MethodName) prog_1_method_28_code (6 : Nat) (Option.some Jvm.ClassFile.FieldType.int)).before args0 about1 = true := code_word (m := ⟨2, 22⟩) (meth := k2m22) (c := k2c22) (by decide +kernel) rfl rfl rfl (by decide +kernel)
set_option maxRecDepth 65536 in
theorem w_c19 : (Jvm.Cond.code ({ cls := "LightsOutSolverOwnLaw", name := "tz", desc := "(I)I" } : Jvm.MethodName) method_4_code (2 : Nat) (Option.some Jvm.ClassFile.FieldType.int)).before args0 about1 = true := code_word (m := ⟨1, 3⟩) (meth := k1m3) (c := k1c3) (by decide +kernel) rfl rfl rfl (by decide +kernel)
set_option maxRecDepth 65536 in
theorem w_c20 : (Jvm.Cond.code ({ cls := "LightsOutSolverOwnLaw", name := "pressMask", desc := "(III)J" } : Jvm.MethodName) method_3_code (7 : Nat) (Option.some Jvm.ClassFile.FieldType.long)).before args0 about1 = true := code_word (m := ⟨1, 2⟩) (meth := k1m2) (c := k1c2) (by decide +kernel) rfl rfl rfl (by decide +kernel)
set_option maxRecDepth 65536 in
theorem w_c21 : (Jvm.Cond.code ({ cls := "LightsOutSolver", name := "inSolution", desc := "(II)Z" } : Jvm.MethodName) prog_1_method_15_code (3 : Nat) (Option.some Jvm.ClassFile.FieldType.boolean)).before args0 about1 = true := code_word (m := ⟨2, 9⟩) (meth := k2m9) (c := k2c9) (by decide +kernel) rfl rfl rfl (by decide +kernel)
set_option maxRecDepth 65536 in
theorem w_c22 : (Jvm.Cond.code ({ cls := "LightsOutSolver", name := "solutionSize", desc := "()I" } : Jvm.MethodName) prog_1_method_13_code (1 : Nat) (Option.some Jvm.ClassFile.FieldType.int)).before args0 about1 = true := code_word (m := ⟨2, 7⟩) (meth := k2m7) (c := k2c7) (by decide +kernel) rfl rfl rfl (by decide +kernel)
set_option maxRecDepth 65536 in
theorem w_c23 : (Jvm.Cond.code ({ cls := "LightsOutSolver", name := "solutionCount", desc := "()I" } : Jvm.MethodName) prog_1_method_14_code (1 : Nat) (Option.some Jvm.ClassFile.FieldType.int)).before args0 about1 = true := code_word (m := ⟨2, 8⟩) (meth := k2m8) (c := k2c8) (by decide +kernel) rfl rfl rfl (by decide +kernel)
set_option maxRecDepth 65536 in
theorem w_c24 : (Jvm.Cond.code ({ cls := "LightsOutSolver", name := "undo", desc := "()Z" } : Jvm.MethodName) prog_1_method_6_code (2 : Nat) (Option.some Jvm.ClassFile.FieldType.boolean)).before args0 about1 = true := code_word (m := ⟨2, 3⟩) (meth := k2m3) (c := k2c3) (by decide +kernel) rfl rfl rfl (by decide +kernel)
set_option maxRecDepth 65536 in
theorem w_c25 : (Jvm.Cond.code ({ cls := "LightsOutSolver", name := "setLight", desc := "(III)Z" } : Jvm.MethodName) prog_1_method_4_code (6 : Nat) (Option.some Jvm.ClassFile.FieldType.boolean)).before args0 about1 = true := code_word (m := ⟨2, 1⟩) (meth := k2m1) (c := k2c1) (by decide +kernel) rfl rfl rfl (by decide +kernel)
set_option maxRecDepth 65536 in
theorem w_c26 : (Jvm.Cond.code ({ cls := "LightsOutSolver", name := "applySolution", desc := "()Z" } : Jvm.MethodName) prog_1_method_16_code (3 : Nat) (Option.some Jvm.ClassFile.FieldType.boolean)).before args0 about1 = true := code_word (m := ⟨2, 10⟩) (meth := k2m10) (c := k2c10) (by decide +kernel) rfl rfl rfl (by decide +kernel)
set_option maxRecDepth 65536 in
theorem w_c27 : (Jvm.Cond.code ({ cls := "LightsOutSolver", name := "litCount", desc := "()I" } : Jvm.MethodName) prog_1_method_10_code (1 : Nat) (Option.some Jvm.ClassFile.FieldType.int)).before args0 about1 = true := code_word (m := ⟨2, 5⟩) (meth := k2m5) (c := k2c5) (by decide +kernel) rfl rfl rfl (by decide +kernel)
set_option maxRecDepth 65536 in
theorem w_c28 : (Jvm.Cond.code ({ cls := "LightsOutSolver", name := "clear", desc := "()V" } : Jvm.MethodName) prog_1_method_17_code (1 : Nat) (Option.none : Option Jvm.ClassFile.FieldType)).before args0 about1 = true := code_word (m := ⟨2, 11⟩) (meth := k2m11) (c := k2c11) (by decide +kernel) rfl rfl rfl (by decide +kernel)
set_option maxRecDepth 65536 in
theorem w_c29 : (Jvm.Cond.code ({ cls := "LightsOutSolver", name := "unsignedLess", desc := "(JJ)Z" } : Jvm.MethodName) prog_1_method_29_code (4 : Nat) (Option.some Jvm.ClassFile.FieldType.boolean)).before args0 about1 = true := code_word (m := ⟨2, 23⟩) (meth := k2m23) (c := k2c23) (by decide +kernel) rfl rfl rfl (by decide +kernel)
def codes1 : List Jvm.Cond := [Jvm.Cond.code x code maxLocals ret, Jvm.Cond.code ({ cls := "LightsOutSolverOwnLaw", name := "cell", desc := "([II)I" } : Jvm.MethodName) method_2_code (2 : Nat) (Option.some Jvm.ClassFile.FieldType.int), Jvm.Cond.code ({ cls := "LightsOutSolver", name := "<init>", desc := "(II)V" } : Jvm.MethodName) prog_1_method_1_code (3 : Nat) (Option.none : Option Jvm.ClassFile.FieldType), Jvm.Cond.code ({ cls := "java/lang/Object", name := "<init>", desc := "()V" } : Jvm.MethodName) object_method_1_code (1 : Nat) (Option.none : Option Jvm.ClassFile.FieldType), Jvm.Cond.code ({ cls := "LightsOutSolver", name := "clamp", desc := "(I)I" } : Jvm.MethodName) prog_1_method_18_code (1 : Nat) (Option.some Jvm.ClassFile.FieldType.int), Jvm.Cond.code ({ cls := "LightsOutSolver", name := "forgetResult", desc := "()V" } : Jvm.MethodName) prog_1_method_19_code (1 : Nat) (Option.none : Option Jvm.ClassFile.FieldType), Jvm.Cond.code ({ cls := "LightsOutSolver", name := "press", desc := "(II)Z" } : Jvm.MethodName) prog_1_method_5_code (3 : Nat) (Option.some Jvm.ClassFile.FieldType.boolean), Jvm.Cond.code ({ cls := "LightsOutSolver", name := "onBoard", desc := "(II)Z" } : Jvm.MethodName) prog_1_method_20_code (3 : Nat) (Option.some Jvm.ClassFile.FieldType.boolean), Jvm.Cond.code ({ cls := "LightsOutSolver", name := "toggleCell", desc := "(II)V" } : Jvm.MethodName) prog_1_method_22_code (5 : Nat) (Option.none : Option Jvm.ClassFile.FieldType), Jvm.Cond.code ({ cls := "LightsOutSolver", name := "bit", desc := "(II)J" } : Jvm.MethodName) prog_1_method_21_code (3 : Nat) (Option.some Jvm.ClassFile.FieldType.long), Jvm.Cond.code ({ cls := "LightsOutSolverOwnLaw", name := "check", desc := "(LLightsOutSolver;II)I" } : Jvm.MethodName) method_5_code (19 : Nat) (Option.some Jvm.ClassFile.FieldType.int), Jvm.Cond.code ({ cls := "LightsOutSolver", name := "isLit", desc := "(II)Z" } : Jvm.MethodName) prog_1_method_9_code (3 : Nat) (Option.some Jvm.ClassFile.FieldType.boolean), Jvm.Cond.code ({ cls := "LightsOutSolver", name := "solve", desc := "()I" } : Jvm.MethodName) prog_1_method_11_code (10 : Nat) (Option.some Jvm.ClassFile.FieldType.int), Jvm.Cond.code ({ cls := "LightsOutSolver", name := "chase", desc := "(I)Z" } : Jvm.MethodName) prog_1_method_26_code (4 : Nat) (Option.some Jvm.ClassFile.FieldType.boolean), Jvm.Cond.code ({ cls := "LightsOutSolver", name := "loadRows", desc := "()V" } : Jvm.MethodName) prog_1_method_24_code (4 : Nat) (Option.none : Option Jvm.ClassFile.FieldType), Jvm.Cond.code ({ cls := "LightsOutSolver", name := "rowMask", desc := "()I" } : Jvm.MethodName) prog_1_method_23_code (1 : Nat) (Option.some Jvm.ClassFile.FieldType.int), Jvm.Cond.code ({ cls := "LightsOutSolver", name := "applyRowPress", desc := "(II)V" } : Jvm.MethodName) prog_1_method_25_code (4 : Nat) (Option.none : Option Jvm.ClassFile.FieldType), Jvm.Cond.code ({ cls := "LightsOutSolver", name := "packPresses", desc := "()J" } : Jvm.MethodName) prog_1_method_27_code (4 : Nat) (Option.some Jvm.ClassFile.FieldType.long), Jvm.Cond.code ({ cls := "LightsOutSolver", name := "popCount", desc := "(J)I" } : Jvm.MethodName) prog_1_method_28_code (6 : Nat) (Option.some Jvm.ClassFile.FieldType.int), Jvm.Cond.code ({ cls := "LightsOutSolverOwnLaw", name := "tz", desc := "(I)I" } : Jvm.MethodName) method_4_code (2 : Nat) (Option.some Jvm.ClassFile.FieldType.int), Jvm.Cond.code ({ cls := "LightsOutSolverOwnLaw", name := "pressMask", desc := "(III)J" } : Jvm.MethodName) method_3_code (7 : Nat) (Option.some Jvm.ClassFile.FieldType.long), Jvm.Cond.code ({ cls := "LightsOutSolver", name := "inSolution", desc := "(II)Z" } : Jvm.MethodName) prog_1_method_15_code (3 : Nat) (Option.some Jvm.ClassFile.FieldType.boolean), Jvm.Cond.code ({ cls := "LightsOutSolver", name := "solutionSize", desc := "()I" } : Jvm.MethodName) prog_1_method_13_code (1 : Nat) (Option.some Jvm.ClassFile.FieldType.int), Jvm.Cond.code ({ cls := "LightsOutSolver", name := "solutionCount", desc := "()I" } : Jvm.MethodName) prog_1_method_14_code (1 : Nat) (Option.some Jvm.ClassFile.FieldType.int), Jvm.Cond.code ({ cls := "LightsOutSolver", name := "undo", desc := "()Z" } : Jvm.MethodName) prog_1_method_6_code (2 : Nat) (Option.some Jvm.ClassFile.FieldType.boolean), Jvm.Cond.code ({ cls := "LightsOutSolver", name := "setLight", desc := "(III)Z" } : Jvm.MethodName) prog_1_method_4_code (6 : Nat) (Option.some Jvm.ClassFile.FieldType.boolean), Jvm.Cond.code ({ cls := "LightsOutSolver", name := "applySolution", desc := "()Z" } : Jvm.MethodName) prog_1_method_16_code (3 : Nat) (Option.some Jvm.ClassFile.FieldType.boolean), Jvm.Cond.code ({ cls := "LightsOutSolver", name := "litCount", desc := "()I" } : Jvm.MethodName) prog_1_method_10_code (1 : Nat) (Option.some Jvm.ClassFile.FieldType.int), Jvm.Cond.code ({ cls := "LightsOutSolver", name := "clear", desc := "()V" } : Jvm.MethodName) prog_1_method_17_code (1 : Nat) (Option.none : Option Jvm.ClassFile.FieldType), Jvm.Cond.code ({ cls := "LightsOutSolver", name := "unsignedLess", desc := "(JJ)Z" } : Jvm.MethodName) prog_1_method_29_code (4 : Nat) (Option.some Jvm.ClassFile.FieldType.boolean)]
set_option maxRecDepth 65536 in
theorem codes_eq : words1.filter isCode = codes1 := rfl
theorem w_codes : ∀ c ∈ words1.filter isCode, c.before args0 about1 = true := by
  rw [codes_eq]
  intro c hc
  simp only [codes1, List.mem_cons, List.not_mem_nil, or_false] at hc
  rcases hc with rfl | rfl | rfl | rfl | rfl | rfl | rfl | rfl | rfl | rfl | rfl | rfl | rfl | rfl | rfl | rfl | rfl | rfl | rfl | rfl | rfl | rfl | rfl | rfl | rfl | rfl | rfl | rfl | rfl | rfl
  · exact w_c0
  · exact w_c1
  · exact w_c2
  · exact w_c3
  · exact w_c4
  · exact w_c5
  · exact w_c6
  · exact w_c7
  · exact w_c8
  · exact w_c9
  · exact w_c10
  · exact w_c11
  · exact w_c12
  · exact w_c13
  · exact w_c14
  · exact w_c15
  · exact w_c16
  · exact w_c17
  · exact w_c18
  · exact w_c19
  · exact w_c20
  · exact w_c21
  · exact w_c22
  · exact w_c23
  · exact w_c24
  · exact w_c25
  · exact w_c26
  · exact w_c27
  · exact w_c28
  · exact w_c29
set_option maxRecDepth 65536 in
theorem w_t1 : (words1.take 24).all (fun c => isCode c || c.before args0 about1) = true := by decide +kernel
set_option maxRecDepth 65536 in
theorem w_t2 : ((words1.drop 24).take 24).all (fun c => isCode c || c.before args0 about1) = true := by decide +kernel
set_option maxRecDepth 65536 in
theorem w_t3 : (((words1.drop 24).drop 24).take 24).all (fun c => isCode c || c.before args0 about1) = true := by decide +kernel
set_option maxRecDepth 65536 in
theorem w_t4 : ((((words1.drop 24).drop 24).drop 24).take 24).all (fun c => isCode c || c.before args0 about1) = true := by decide +kernel
set_option maxRecDepth 65536 in
theorem w_t5 : (((((words1.drop 24).drop 24).drop 24).drop 24).take 24).all (fun c => isCode c || c.before args0 about1) = true := by decide +kernel
set_option maxRecDepth 65536 in
theorem w_t6 : ((((((words1.drop 24).drop 24).drop 24).drop 24).drop 24).take 24).all (fun c => isCode c || c.before args0 about1) = true := by decide +kernel
set_option maxRecDepth 65536 in
theorem w_t7 : ((((((words1.drop 24).drop 24).drop 24).drop 24).drop 24).drop 24).all (fun c => isCode c || c.before args0 about1) = true := by decide +kernel
theorem w_tables : (allAtoms (Jvm.Cond.code x code maxLocals ret :: tables_1)).before args0 about1 = true := by
  rw [allAtoms_all]
  show words1.all (fun c => c.before args0 about1) = true
  refine all_split ?_ w_codes
  rw [← List.take_append_drop 24 words1, List.all_append, w_t1, ← List.take_append_drop 24 (words1.drop 24), List.all_append, w_t2, ← List.take_append_drop 24 ((words1.drop 24).drop 24), List.all_append, w_t3, ← List.take_append_drop 24 (((words1.drop 24).drop 24).drop 24), List.all_append, w_t4, ← List.take_append_drop 24 ((((words1.drop 24).drop 24).drop 24).drop 24), List.all_append, w_t5, ← List.take_append_drop 24 (((((words1.drop 24).drop 24).drop 24).drop 24).drop 24), List.all_append, w_t6, w_t7]
  rfl
set_option maxRecDepth 65536 in
theorem w_rest : rest_1_c.before args0 about1 = true := by decide +kernel
set_option maxRecDepth 65536 in
theorem w_case : (Jvm.Cond.and given_1 narrow_1).before args0 about1 = true := by decide +kernel
theorem w_applies : (headSpec (Jvm.Cond.code x code maxLocals ret :: tables_1) room_1).applies x e0.platform about1 = true :=
  (Spec.applies_iff w_frames).mpr ⟨w_running, w_runnable, w_alone, w_named, w_hears, w_ripe, w_room, w_tables⟩
theorem atStart : AtStart classFile x code maxLocals ret World_1 tables_1 room_1 Calls_1 rest_1 Pre_1 launch0 p0 e0 about1 theMethod args0 below0 :=
  ⟨lists_1, trivial, launch0.admits_env _ _ _, launch0.least_env, fairChoices_fair.cas, fairChoices_fair.clock, w_frames, w_args, w_heap, w_applies, trivial, w_rest, w_case⟩
end start1
theorem witness_1 : WitnessClaimed_1 := ⟨start1.p0, start1.e0, start1.about1, start1.theMethod, start1.args0, start1.below0, start1.atStart⟩
end Jvm.Pilot.@@N@@
