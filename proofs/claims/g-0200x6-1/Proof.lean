import JvmDerived
import JvmDerived.Pilot.@@N@@Statement
import JvmDerived.Pilot.@@N@@Code
set_option linter.unusedVariables false
set_option linter.unusedSimpArgs false
namespace Jvm.Own
open Jvm Jvm.ClassFile Sem Op Lib Jvm.Free Jvm.Stand Jvm.LawKit Jvm.RoadKit Bundle

/-! A plain machine: the few instructions that these classes use, over a heap of plain lists. -/
/-- an object (class number, fields in order) | an int array (false) or boolean array (true) | a long array -/
abbrev ACell := (Nat × List Value) ⊕ ((Bool × List Int32) ⊕ List Int64)
abbrev AHeap := List ACell
/-- instruction, length, variables forgotten ahead of it, link number, constant -/
abbrev It := Instr × Nat × List Bool × Nat × Int
/-- a field: name, descriptor, type, final -/
abbrev FD := String × String × FieldType × Bool
/-- a class: name, number of its slots, its fields -/
abbrev CD := String × Nat × List FD
/-- a method: name, bytes, variables, return type; kind (0 static, 1 constructor, 2 private, 3 virtual), parameters, class number, frames, words; code -/
abbrev MD := MethodName × ByteArray × Nat × Option FieldType × Nat × Nat × Nat × Nat × Nat × List (Nat × It)
/-- classes, methods, number of cells that are only read -/
abbrev PD := List CD × List MD × Nat
abbrev PD.cls (P : PD) : List CD := P.1
abbrev PD.mth (P : PD) : List MD := P.2.1
abbrev PD.nr (P : PD) : Nat := P.2.2
abbrev MD.name (d : MD) : MethodName := d.1
abbrev MD.bytes (d : MD) : ByteArray := d.2.1
abbrev MD.maxL (d : MD) : Nat := d.2.2.1
abbrev MD.ret (d : MD) : Option FieldType := d.2.2.2.1
abbrev MD.kind (d : MD) : Nat := d.2.2.2.2.1
abbrev MD.npar (d : MD) : Nat := d.2.2.2.2.2.1
abbrev MD.cid (d : MD) : Nat := d.2.2.2.2.2.2.1
abbrev MD.rf (d : MD) : Nat := d.2.2.2.2.2.2.2.1
abbrev MD.rw (d : MD) : Nat := d.2.2.2.2.2.2.2.2.1
abbrev MD.code (d : MD) : List (Nat × It) := d.2.2.2.2.2.2.2.2.2

def rdA {α : Type} (L : List α) (j : Int32) : Option α := if j < 0 then none else L[j.toNatClampNeg]?
def wrA {α : Type} (L : List α) (j : Int32) (x : α) : Option (List α) := if j < 0 then none else if j.toNatClampNeg < L.length then some (L.set j.toNatClampNeg x) else none
def getL (L : List Slot) (k : Nat) : Option Value := match L[k]? with | some (.val v) => some v | _ => none
def isC2 : Option Slot → Bool | some (.val v) => v.category == 2 | _ => false
def isSec : Option Slot → Bool | some .second => true | _ => false
def free1 : Option Slot → Bool | some .unset => true | some (.val v) => v.category == 1 | _ => false
def st1 (L : List Slot) (k : Nat) (v : Value) : Option (List Slot) :=
  if free1 L[k]? && (k == 0 || !isC2 L[k - 1]?) && !isSec L[k + 1]? then some (L.set k (.val v)) else none
def free2 : Option Slot → Option Slot → Bool | some .unset, some .unset => true | some (.val v), some .second => v.category == 2 | _, _ => false
def st2 (L : List Slot) (k : Nat) (v : Value) : Option (List Slot) :=
  if free2 L[k]? L[k + 1]? && (k == 0 || !isC2 L[k - 1]?) && !isSec L[k + 2]? then some ((L.set k (.val v)).set (k + 1) .second) else none
def forget : List Bool → List Slot → List Slot
  | [], L => L
  | _ :: _, [] => []
  | true :: r, _ :: L => .unset :: forget r L
  | false :: r, s :: L => s :: forget r L
def catSum : List Value → Nat
  | [] => 0
  | v :: r => v.category + catSum r
def entA : List Value → List Slot
  | [] => []
  | v :: r => if v.category = 2 then .val v :: .second :: entA r else .val v :: entA r
def entL (as : List Value) (n : Nat) : List Slot := entA as ++ List.replicate (n - (entA as).length) .unset
def putOk : FieldType → Value → Bool
  | .int, .int _ => true
  | .long, .long _ => true
  | .boolean, .int x => (x == 0) || (x == 1)
  | .array _, .ref _ => true
  | _, _ => false
def dflt : FieldType → Value
  | .long => .long 0
  | .array _ => .null
  | _ => .int 0
def dfOk : FieldType → Bool
  | .int => true
  | .boolean => true
  | .long => true
  | .array _ => true
  | _ => false
def tgt (pc : Nat) (o : Int) : Option Nat := if 0 ≤ (pc : Int) + o then some ((pc : Int) + o).toNat else none
def fetch : List (Nat × It) → Nat → Option It
  | [], _ => none
  | (q, i) :: r, pc => if q = pc then some i else fetch r pc
/-- one instruction that neither branches nor calls nor returns -/
def xI (P : PD) (ini : Bool) (cid : Nat) (i : Instr) (a : Nat) (b : Int) (L : List Slot) (S : List Value) (H : AHeap) : Option (List Slot × List Value × AHeap) :=
  match i with
  | .aload_n k => match getL L k.val with | some (.ref x) => some (L, .ref x :: S, H) | _ => none
  | .aload k => match getL L k with | some (.ref x) => some (L, .ref x :: S, H) | _ => none
  | .iload_n k => match getL L k.val with | some (.int x) => some (L, .int x :: S, H) | _ => none
  | .iload k => match getL L k with | some (.int x) => some (L, .int x :: S, H) | _ => none
  | .lload_n k => match getL L k.val with | some (.long x) => some (L, .long x :: S, H) | _ => none
  | .lload k => match getL L k with | some (.long x) => some (L, .long x :: S, H) | _ => none
  | .istore_n k => match S with | .int x :: S' => (st1 L k.val (.int x)).map fun L' => (L', S', H) | _ => none
  | .istore k => match S with | .int x :: S' => (st1 L k (.int x)).map fun L' => (L', S', H) | _ => none
  | .astore_n k => match S with | .ref x :: S' => (st1 L k.val (.ref x)).map fun L' => (L', S', H) | _ => none
  | .astore k => match S with | .ref x :: S' => (st1 L k (.ref x)).map fun L' => (L', S', H) | _ => none
  | .lstore_n k => match S with | .long x :: S' => (st2 L k.val (.long x)).map fun L' => (L', S', H) | _ => none
  | .lstore k => match S with | .long x :: S' => (st2 L k (.long x)).map fun L' => (L', S', H) | _ => none
  | .iinc k d => match getL L k with | some (.int x) => (st1 L k (.int (x + Int32.ofInt d))).map fun L' => (L', S, H) | _ => none
  | .iconst d => some (L, .int (Int32.ofInt d) :: S, H)
  | .bipush d => some (L, .int (Int8.ofInt d).toInt32 :: S, H)
  | .sipush d => some (L, .int (Int16.ofInt d).toInt32 :: S, H)
  | .lconst k => some (L, .long (Int64.ofNat k) :: S, H)
  | .ldc _ => some (L, .int (Int32.ofInt b) :: S, H)
  | .ldc2_w _ => some (L, .long (Int64.ofInt b) :: S, H)
  | .iadd => match S with | .int y :: .int x :: S' => some (L, .int (x + y) :: S', H) | _ => none
  | .isub => match S with | .int y :: .int x :: S' => some (L, .int (x - y) :: S', H) | _ => none
  | .imul => match S with | .int y :: .int x :: S' => some (L, .int (x * y) :: S', H) | _ => none
  | .iand => match S with | .int y :: .int x :: S' => some (L, .int (x &&& y) :: S', H) | _ => none
  | .ior => match S with | .int y :: .int x :: S' => some (L, .int (x ||| y) :: S', H) | _ => none
  | .ixor => match S with | .int y :: .int x :: S' => some (L, .int (x ^^^ y) :: S', H) | _ => none
  | .ishl => match S with | .int y :: .int x :: S' => some (L, .int (x <<< (y &&& 31)) :: S', H) | _ => none
  | .ishr => match S with | .int y :: .int x :: S' => some (L, .int (x >>> (y &&& 31)) :: S', H) | _ => none
  | .iushr => match S with | .int y :: .int x :: S' => some (L, .int (XT.ushr x y) :: S', H) | _ => none
  | .idiv => match S with | .int y :: .int x :: S' => if y = 0 then none else some (L, .int (x / y) :: S', H) | _ => none
  | .irem => match S with | .int y :: .int x :: S' => if y = 0 then none else some (L, .int (x % y) :: S', H) | _ => none
  | .ladd => match S with | .long y :: .long x :: S' => some (L, .long (x + y) :: S', H) | _ => none
  | .lsub => match S with | .long y :: .long x :: S' => some (L, .long (x - y) :: S', H) | _ => none
  | .lmul => match S with | .long y :: .long x :: S' => some (L, .long (x * y) :: S', H) | _ => none
  | .land => match S with | .long y :: .long x :: S' => some (L, .long (x &&& y) :: S', H) | _ => none
  | .lor => match S with | .long y :: .long x :: S' => some (L, .long (x ||| y) :: S', H) | _ => none
  | .lxor => match S with | .long y :: .long x :: S' => some (L, .long (x ^^^ y) :: S', H) | _ => none
  | .lshl => match S with | .int y :: .long x :: S' => some (L, .long (x <<< (y.toInt64 &&& 63)) :: S', H) | _ => none
  | .lshr => match S with | .int y :: .long x :: S' => some (L, .long (x >>> (y.toInt64 &&& 63)) :: S', H) | _ => none
  | .lushr => match S with | .int y :: .long x :: S' => some (L, .long (XT.ushrL x y) :: S', H) | _ => none
  | .ldiv => match S with | .long y :: .long x :: S' => if y = 0 then none else some (L, .long (x / y) :: S', H) | _ => none
  | .lrem => match S with | .long y :: .long x :: S' => if y = 0 then none else some (L, .long (x % y) :: S', H) | _ => none
  | .lcmp => match S with | .long y :: .long x :: S' => some (L, .int (XT.cmpL x y) :: S', H) | _ => none
  | .i2l => match S with | .int x :: S' => some (L, .long x.toInt64 :: S', H) | _ => none
  | .l2i => match S with | .long x :: S' => some (L, .int x.toInt32 :: S', H) | _ => none
  | .dup => match S with
    | .int x :: S' => some (L, .int x :: .int x :: S', H)
    | .ref x :: S' => some (L, .ref x :: .ref x :: S', H)
    | _ => none
  | .dup2 => match S with
    | .int x :: .ref y :: S' => some (L, .int x :: .ref y :: .int x :: .ref y :: S', H)
    | .long x :: S' => some (L, .long x :: .long x :: S', H)
    | _ => none
  | .pop => match S with | .int _ :: S' => some (L, S', H) | _ => none
  | .getfield _ => match S with
    | .ref o :: S' => match H[o]? with
      | some (.inl (c, fs)) => if c = cid then match fs[a]? with
        | some (.int x) => some (L, .int x :: S', H)
        | some (.long x) => some (L, .long x :: S', H)
        | some (.ref x) => some (L, .ref x :: S', H)
        | _ => none
        else none
      | _ => none
    | _ => none
  | .putfield _ => match S with
    | v :: .ref o :: S' => match H[o]? with
      | some (.inl (c, fs)) => if c = cid ∧ P.nr ≤ o then match (P.cls[c]?).bind fun cd => cd.2.2[a]? with
        | some (_, _, ty, fin) => if putOk ty v && (!fin || ini) then some (L, S', H.set o (.inl (c, fs.set a v))) else none
        | none => none
        else none
      | _ => none
    | _ => none
  | .iaload => match S with
    | .int j :: .ref o :: S' => match H[o]? with
      | some (.inr (.inl (false, A))) => (rdA A j).map fun x => (L, .int x :: S', H)
      | _ => none
    | _ => none
  | .baload => match S with
    | .int j :: .ref o :: S' => match H[o]? with
      | some (.inr (.inl (true, A))) => (rdA A j).map fun x => (L, .int x :: S', H)
      | _ => none
    | _ => none
  | .laload => match S with
    | .int j :: .ref o :: S' => match H[o]? with
      | some (.inr (.inr A)) => (rdA A j).map fun x => (L, .long x :: S', H)
      | _ => none
    | _ => none
  | .iastore => match S with
    | .int x :: .int j :: .ref o :: S' => match H[o]? with
      | some (.inr (.inl (false, A))) => if P.nr ≤ o then (wrA A j x).map fun A' => (L, S', H.set o (.inr (.inl (false, A')))) else none
      | _ => none
    | _ => none
  | .bastore => match S with
    | .int x :: .int j :: .ref o :: S' => match H[o]? with
      | some (.inr (.inl (true, A))) => if P.nr ≤ o then (wrA A j (x &&& 1)).map fun A' => (L, S', H.set o (.inr (.inl (true, A')))) else none
      | _ => none
    | _ => none
  | .lastore => match S with
    | .long x :: .int j :: .ref o :: S' => match H[o]? with
      | some (.inr (.inr A)) => if P.nr ≤ o then (wrA A j x).map fun A' => (L, S', H.set o (.inr (.inr A'))) else none
      | _ => none
    | _ => none
  | .arraylength => match S with
    | .ref o :: S' => match H[o]? with
      | some (.inr (.inl (_, A))) => some (L, .int A.length.toInt32 :: S', H)
      | _ => none
    | _ => none
  | _ => none
/-- one instruction that makes a cell: how many slots it takes stands last -/
def xN (P : PD) (i : Instr) (a : Nat) (S : List Value) (H : AHeap) : Option (List Value × AHeap × Nat) :=
  match i with
  | .new _ => match P.cls[a]? with
    | some cd => some (.ref H.length :: S, H ++ [.inl (a, cd.2.2.map fun f => dflt f.2.2.1)], cd.2.1)
    | none => none
  | .newarray t => match S with
    | .int n :: S' => if n < 0 ∨ 100000 < n.toNatClampNeg then none else match t with
      | .int => some (.ref H.length :: S', H ++ [.inr (.inl (false, List.replicate n.toNatClampNeg 0))], n.toNatClampNeg)
      | .boolean => some (.ref H.length :: S', H ++ [.inr (.inl (true, List.replicate n.toNatClampNeg 0))], n.toNatClampNeg)
      | .long => some (.ref H.length :: S', H ++ [.inr (.inr (List.replicate n.toNatClampNeg 0))], n.toNatClampNeg)
      | _ => none
    | _ => none
  | _ => none
/-- the words that a call from d to y asks -/
def fitsRoom (d y : MD) (rest : List Value) : Bool := decide (y.rf + 1 ≤ d.rf) && decide (catSum rest + (y.maxL + 11) + y.rw ≤ d.rw)
/-- the arguments of a call, first to last, and what lies under them -/
def argsOf (n : Nat) (S : List Value) : Option (List Value × List Value) := if n ≤ S.length then some ((S.take n).reverse, S.drop n) else none
def recvOk (P : PD) (H : AHeap) (y : MD) (as : List Value) : Bool :=
  if y.kind = 0 then true else match as with
    | .ref o :: _ => match H[o]? with
      | some (.inl (c, _)) => decide (c = y.cid)
      | _ => false
    | _ => false
def nargs (y : MD) : Nat := if y.kind = 0 then y.npar else y.npar + 1
def invKind (i : Instr) (k : Nat) : Bool := match i with
  | .invokestatic _ => k == 0
  | .invokespecial _ => k == 1
  | .invokevirtual _ => k == 2 || k == 3
  | _ => false
/-- what a method returns of an int on its stack -/
def retV (r : Option FieldType) (x : Int32) : Option Value := match r with
  | some .int => some (.int x)
  | some .boolean => some (.int (x &&& 1))
  | _ => none
def isInv : Instr → Bool
  | .invokestatic _ => true
  | .invokespecial _ => true
  | .invokevirtual _ => true
  | _ => false
def isNew : Instr → Bool
  | .new _ => true
  | .newarray _ => true
  | _ => false
/-- what a run answers: what it returns, the heap, how many cells and slots it has made -/
abbrev Res := Option Value × AHeap × Nat × Nat
def addR (r : Res) (kc ks : Nat) : Res := (r.1, r.2.1, r.2.2.1 + kc, r.2.2.2 + ks)
/-- n instructions at the most, from pc of method mi to its return -/
def exe (P : PD) : Nat → Nat → Nat → List Slot → List Value → AHeap → Option Res
  | 0, _, _, _, _, _ => none
  | n + 1, mi, pc, L0, S, H => match P.mth[mi]? with
    | none => none
    | some d => match fetch d.code pc with
      | none => none
      | some (i, len, er, a, b) =>
        let L := forget er L0
        match i with
        | .goto o => match tgt pc o with
          | some q => exe P n mi q L S H
          | none => none
        | .if_icmp cd o => match S with
          | .int y :: .int x :: S' => if if_icmp.holds cd x y = true then match tgt pc o with
              | some q => exe P n mi q L S' H
              | none => none
            else exe P n mi (pc + 3) L S' H
          | _ => none
        | .ifCond cd o => match S with
          | .int x :: S' => if ifCond.holds cd x = true then match tgt pc o with
              | some q => exe P n mi q L S' H
              | none => none
            else exe P n mi (pc + 3) L S' H
          | _ => none
        | .ifnonnull o => match S with
          | .ref _ :: S' => match tgt pc o with
            | some q => exe P n mi q L S' H
            | none => none
          | _ => none
        | .ireturn => match S with
          | [.int x] => match retV d.ret x with
            | some v => some (some v, H, 0, 0)
            | none => none
          | _ => none
        | .lreturn => match S with
          | [.long x] => if d.ret = some .long then some (some (.long x), H, 0, 0) else none
          | _ => none
        | .return_ => match S with
          | [] => if d.ret = none then some (none, H, 0, 0) else none
          | _ => none
        | i => if isInv i = true then
            if b = -1 then match i, S with
              | .invokespecial _, .ref _ :: S' => if 1 ≤ d.rf ∧ catSum S' + 12 ≤ d.rw then exe P n mi (pc + 3) L S' H else none
              | _, _ => none
            else match P.mth[a]? with
              | none => none
              | some y => match argsOf (nargs y) S with
                | none => none
                | some (as, rest) =>
                  if decide (0 < a) && invKind i y.kind && recvOk P H y as && fitsRoom d y rest && decide ((entA as).length ≤ y.maxL) then
                    match exe P n a 0 (entL as y.maxL) [] H with
                    | some (v, H1, kc, ks) => (exe P n mi (pc + 3) L (v.toList ++ rest) H1).map fun r => addR r kc ks
                    | none => none
                  else none
          else if isNew i = true then match xN P i a S H with
            | some (S', H', ks) => (exe P n mi (pc + len) L S' H').map fun r => addR r 1 ks
            | none => none
          else match xI P (d.name.name == "<init>") d.cid i a b L S H with
            | some (L', S', H') => exe P n mi (pc + len) L' S' H'
            | none => none
end Jvm.Own
namespace Jvm.Own
open Jvm Jvm.ClassFile Sem Op Lib Jvm.Free Jvm.Stand Jvm.LawKit Jvm.RoadKit Bundle

/-! The words that the machine's program rests on -/
def fWord (C : String) (f : FD) : Jvm.Cond := if f.2.2.2 then .laysFinal C C f.1 f.2.1 else .lays C C f.1 f.2.1
def cWords (cd : CD) : List Jvm.Cond := .instantiable cd.1 cd.2.1 :: .initialized cd.1 :: cd.2.2.map (fWord cd.1)
def mWords (y : MD) : List Jvm.Cond := .code y.name y.bytes y.maxL y.ret :: .initialized y.name.cls ::
  (if y.kind = 0 then [.static y.name] else if y.kind = 1 then [.instanceMethod y.name] else if y.kind = 2 then [.instanceMethod y.name, .privateMethod y.name]
   else [.declares y.name, .selects y.name.cls y.name y.name, .instanceMethod y.name])
def fieldOf (P : PD) (c a : Nat) : Option FD := (P.cls[c]?).bind fun cd => cd.2.2[a]?
def fLink (P : PD) (d : MD) (k a : Nat) : List Jvm.Cond := match fieldOf P d.cid a with | some f => [.fieldLink d.name.cls k d.name.cls f.1 f.2.1] | none => []
def mLink (P : PD) (d : MD) (k a : Nat) (b : Int) : List Jvm.Cond :=
  if b = -1 then [.methodLink d.name.cls k Lib.objectInit, .instanceMethod Lib.objectInit, .code Lib.objectInit ⟨#[0xb1]⟩ 1 none]
  else match P.mth[a]? with | some y => [.methodLink d.name.cls k y.name] | none => []
def iWords (P : PD) (d : MD) (x : Nat × It) : List Jvm.Cond := match x with
  | (_, .getfield k, _, _, a, _) => fLink P d k a
  | (_, .putfield k, _, _, a, _) => fLink P d k a
  | (_, .ldc k, _, _, _, b) => [.constant d.name.cls k (Int32.ofInt b)]
  | (_, .ldc2_w k, _, _, _, b) => [.constantLong d.name.cls k (Int64.ofInt b)]
  | (_, .new k, _, _, a, _) => match P.cls[a]? with | some cd => [.classLink d.name.cls k cd.1] | none => []
  | (_, .newarray t, _, _, _, _) => [.arrayClass (newarray.typeOf t)]
  | (_, .invokestatic k, _, _, a, b) => mLink P d k a b
  | (_, .invokespecial k, _, _, a, b) => mLink P d k a b
  | (_, .invokevirtual k, _, _, a, b) => mLink P d k a b
  | _ => []
def wordsOf (P : PD) : List Jvm.Cond := P.cls.flatMap cWords ++ (P.mth.drop 1).flatMap mWords ++ P.mth.flatMap fun d => d.code.flatMap (iWords P d)
/-! What can be looked up in the program itself -/
def nodup : List String → Bool
  | [] => true
  | x :: r => !r.contains x && nodup r
def fChk (f : FD) : Bool := decide (parseFieldDescriptor f.2.1 = some f.2.2.1) && dfOk f.2.2.1
def cChk (cd : CD) : Bool := nodup (cd.2.2.map fun f => f.1) && cd.2.2.all fChk
def sigChk (y : MD) : Bool := match parseMethodDescriptor y.name.desc with
  | some g => decide (g.parameters.length = y.npar)
  | none => false
def lenOk (i : Instr) (n : Nat) : Bool := match i with
  | .aload _ | .iload _ | .lload _ | .istore _ | .astore _ | .lstore _ | .bipush _ | .ldc _ | .newarray _ => n == 2
  | .iinc _ _ | .sipush _ | .ldc2_w _ | .getfield _ | .putfield _ | .new _ | .goto _ | .if_icmp _ _ | .ifCond _ _ | .ifnonnull _ | .invokestatic _ | .invokespecial _ | .invokevirtual _ => n == 3
  | _ => n == 1
def codeChk (y : MD) : Bool := y.code.all fun x => decide (decode y.bytes x.1 = .ok (x.2.1, x.2.2.1)) && lenOk x.2.1 x.2.2.1
def clsChk (P : PD) (y : MD) : Bool := match P.cls[y.cid]? with | some cd => cd.1 == y.name.cls | none => y.kind == 0
def mChk (P : PD) (y : MD) : Bool := plainName y.name.cls && sigChk y && codeChk y && clsChk P y && decide (y.name.cls ≠ "java/lang/invoke/MethodHandle") && decide (y.name.cls ≠ "java/lang/invoke/VarHandle") && (y.kind != 1 || (y.name.name == "<init>" && decide (y.ret = none)))
def chk (P : PD) : Bool := P.cls.all cChk && P.mth.all (mChk P)

/-! Plain and real values -/
def VR (ρ : List Addr) : Value → Value → Prop
  | .ref k, w => ∃ a, ρ[k]? = some a ∧ w = .ref a
  | v, w => w = v
def SR (ρ : List Addr) : List Value → List Value → Prop
  | [], ws => ws = []
  | v :: vs, ws => ∃ w ws', ws = w :: ws' ∧ VR ρ v w ∧ SR ρ vs ws'
def OV (ρ : List Addr) : Option Value → Option Value → Prop
  | none, w => w = none
  | some v, w => ∃ u, w = some u ∧ VR ρ v u
def WFc (A : Array Slot) : Prop := (∀ (i : Nat) w, A[i]? = some (.val w) → w.category = 2 → A[i + 1]? = some .second) ∧ ∀ (i : Nat), A[i]? = some .second → ∃ j w, i = j + 1 ∧ A[j]? = some (.val w) ∧ w.category = 2
def SlR (ρ : List Addr) : Slot → Option Slot → Prop
  | .unset, _ => True
  | .second, o => o = some .second
  | .val v, o => ∃ w, VR ρ v w ∧ o = some (.val w)
def LR (ρ : List Addr) (L : List Slot) (A : Array Slot) : Prop := A.size = L.length ∧ WFc A ∧ ∀ (i : Nat) s, L[i]? = some s → SlR ρ s A[i]?
theorem VR.mono {ρ t : List Addr} {v w : Value} (h : VR ρ v w) : VR (ρ ++ t) v w := by
  cases v <;> first | exact h | skip
  obtain ⟨a, h1, h2⟩ := h
  exact ⟨a, by rw [List.getElem?_append_left (List.getElem?_eq_some_iff.mp h1).1]; exact h1, h2⟩
theorem SR.mono {ρ t : List Addr} : ∀ {v w : List Value}, SR ρ v w → SR (ρ ++ t) v w
  | [], _, h => h
  | _ :: _, _, ⟨w, ws, h1, h2, h3⟩ => ⟨w, ws, h1, h2.mono, SR.mono h3⟩
theorem SlR.mono {ρ t : List Addr} {s : Slot} {o : Option Slot} (h : SlR ρ s o) : SlR (ρ ++ t) s o := by
  cases s with
  | unset => trivial
  | second => exact h
  | val v => obtain ⟨w, h1, h2⟩ := h; exact ⟨w, h1.mono, h2⟩
theorem LR.mono {ρ t : List Addr} {L : List Slot} {A : Array Slot} (h : LR ρ L A) : LR (ρ ++ t) L A := ⟨h.1, h.2.1, fun i s q => (h.2.2 i s q).mono⟩
theorem VR.cat {ρ : List Addr} {v w : Value} (h : VR ρ v w) : w.category = v.category := by
  cases v <;> first | (obtain ⟨a, -, rfl⟩ := h; rfl) | (cases h; rfl)
theorem SR.cat {ρ : List Addr} : ∀ {v w : List Value}, SR ρ v w → (w.map fun v => v.category).sum = catSum v
  | [], _, h => by cases h; rfl
  | _ :: _, _, ⟨w, ws, h1, h2, h3⟩ => by subst h1; simp [catSum, h2.cat, SR.cat h3]
theorem SR.len {ρ : List Addr} : ∀ {v w : List Value}, SR ρ v w → w.length = v.length
  | [], _, h => by cases h; rfl
  | _ :: _, _, ⟨w, ws, h1, h2, h3⟩ => by subst h1; simp [SR.len h3]
theorem SR.app {ρ : List Addr} : ∀ {v w v' w' : List Value}, SR ρ v w → SR ρ v' w' → SR ρ (v ++ v') (w ++ w')
  | [], _, _, _, h, h' => by cases h; exact h'
  | _ :: _, _, _, _, ⟨w, ws, h1, h2, h3⟩, h' => by subst h1; exact ⟨w, ws ++ _, rfl, h2, SR.app h3 h'⟩
theorem SR.rev {ρ : List Addr} : ∀ {v w : List Value}, SR ρ v w → SR ρ v.reverse w.reverse
  | [], _, h => by cases h; exact rfl
  | _ :: _, _, ⟨w, ws, h1, h2, h3⟩ => by subst h1; simp only [List.reverse_cons]; exact (SR.rev h3).app ⟨w, [], rfl, h2, rfl⟩
theorem SR.take {ρ : List Addr} : ∀ (n : Nat) {v w : List Value}, SR ρ v w → SR ρ (v.take n) (w.take n)
  | 0, _, _, _ => rfl
  | n + 1, [], _, h => by cases h; exact rfl
  | n + 1, _ :: _, _, ⟨w, ws, h1, h2, h3⟩ => by subst h1; exact ⟨w, _, rfl, h2, SR.take n h3⟩
theorem SR.drop {ρ : List Addr} : ∀ (n : Nat) {v w : List Value}, SR ρ v w → SR ρ (v.drop n) (w.drop n)
  | 0, _, _, h => h
  | n + 1, [], _, h => by cases h; exact rfl
  | n + 1, _ :: _, _, ⟨w, ws, h1, h2, h3⟩ => by subst h1; exact SR.drop n h3
theorem OV.list {ρ : List Addr} {v w : Option Value} (h : OV ρ v w) : SR ρ v.toList w.toList := by
  cases v with
  | none => cases h; exact rfl
  | some v => obtain ⟨u, rfl, h⟩ := h; exact ⟨u, [], rfl, h, rfl⟩
theorem LR.get {ρ : List Addr} {L : List Slot} {A : Array Slot} (h : LR ρ L A) {k : Nat} {v : Value} (g : getL L k = some v) : ∃ w, VR ρ v w ∧ A[k]? = some (.val w) := by
  unfold getL at g
  split at g
  · rename_i u q
    cases g
    exact h.2.2 k _ q
  · cases g
theorem forget_get : ∀ (er : List Bool) (L : List Slot) (i : Nat) (s : Slot), (forget er L)[i]? = some s → s = .unset ∨ L[i]? = some s
  | [], L, i, s, h => Or.inr h
  | _ :: _, [], i, s, h => by simp [forget] at h
  | true :: r, t :: L, 0, s, h => by simp [forget] at h; exact Or.inl h.symm
  | false :: r, t :: L, 0, s, h => by simp [forget] at h; exact Or.inr (by simp [h])
  | true :: r, t :: L, i + 1, s, h => by simp [forget] at h; simpa using forget_get r L i s h
  | false :: r, t :: L, i + 1, s, h => by simp [forget] at h; simpa using forget_get r L i s h
theorem forget_len : ∀ (er : List Bool) (L : List Slot), (forget er L).length = L.length
  | [], _ => rfl
  | _ :: _, [] => rfl
  | true :: r, _ :: L => by simp [forget, forget_len r L]
  | false :: r, _ :: L => by simp [forget, forget_len r L]
theorem LR.forget {ρ : List Addr} {A : Array Slot} (er : List Bool) {L : List Slot} (h : LR ρ L A) : LR ρ (forget er L) A :=
  ⟨by rw [forget_len]; exact h.1, h.2.1, fun i s q => by
    rcases forget_get er L i s q with rfl | z
    · trivial
    · exact h.2.2 i s z⟩
/-! Stores -/
theorem setAt_ok {A : Array Slot} {i : Nat} (h : i < A.size) (x : Slot) : setAt A i x = some (A.setIfInBounds i x) := by simp [setAt, h]
theorem get_set (A : Array Slot) (i j : Nat) (x : Slot) : (A.setIfInBounds i x)[j]? = if i = j then (if i < A.size then some x else none) else A[j]? := by
  rw [Array.getElem?_setIfInBounds]
theorem sl_unset {A : Array Slot} {k : Nat} {w : Value} (h : A[k]? = some .unset) : storeLocals A k w = storeSelf A k w := by
  unfold storeLocals; rw [h]; rfl
theorem sl_second {A : Array Slot} {k : Nat} {w : Value} (h : A[k]? = some .second) (hk : k - 1 < A.size) : storeLocals A k w = storeSelf (A.setIfInBounds (k - 1) .unset) k w := by
  unfold storeLocals; rw [h]
  show (setAt A (k - 1) .unset).bind _ = _
  rw [setAt_ok hk]; rfl
theorem sl_val2 {A : Array Slot} {k : Nat} {w u : Value} (h : A[k]? = some (.val u)) (hu : u.category = 2) (hk : k + 1 < A.size) : storeLocals A k w = storeSelf (A.setIfInBounds (k + 1) .unset) k w := by
  unfold storeLocals; rw [h]
  show (if u.category = 2 then (setAt A (k + 1) .unset).bind _ else _) = _
  rw [if_pos hu, setAt_ok hk]; rfl
theorem sl_val1 {A : Array Slot} {k : Nat} {w u : Value} (h : A[k]? = some (.val u)) (hu : ¬ u.category = 2) : storeLocals A k w = storeSelf A k w := by
  unfold storeLocals; rw [h]
  show (if u.category = 2 then (setAt A (k + 1) .unset).bind _ else _) = _
  rw [if_neg hu]
theorem ss_1 {A : Array Slot} {k : Nat} {w : Value} (hk : k < A.size) (hw : ¬ w.category = 2) : storeSelf A k w = some (A.setIfInBounds k (.val w)) := by
  unfold storeSelf; rw [setAt_ok hk]
  show (if w.category = 2 then _ else _) = _
  rw [if_neg hw]
theorem ss_2c {A : Array Slot} {k : Nat} {w u : Value} (hk : k < A.size) (hk1 : k + 1 < A.size) (hk2 : k + 2 < A.size) (hw : w.category = 2) (h : (A.setIfInBounds k (.val w))[k + 1]? = some (.val u)) (hu : u.category = 2) : storeSelf A k w = some (((A.setIfInBounds k (.val w)).setIfInBounds (k + 2) .unset).setIfInBounds (k + 1) .second) := by
  unfold storeSelf; rw [setAt_ok hk]
  show (if w.category = 2 then _ else _) = _
  rw [if_pos hw, h]
  show (if u.category = 2 then (setAt _ (k + 2) .unset).bind _ else _) = _
  rw [if_pos hu, setAt_ok (by simpa using hk2)]
  exact setAt_ok (by simpa using hk1) _
theorem ss_2 {A : Array Slot} {k : Nat} {w : Value} {o : Slot} (hk : k < A.size) (hk1 : k + 1 < A.size) (hw : w.category = 2) (h : (A.setIfInBounds k (.val w))[k + 1]? = some o) (ho : ¬ ∃ u, o = .val u ∧ u.category = 2) : storeSelf A k w = some ((A.setIfInBounds k (.val w)).setIfInBounds (k + 1) .second) := by
  unfold storeSelf; rw [setAt_ok hk]
  show (if w.category = 2 then _ else _) = _
  rw [if_pos hw, h]
  cases o with
  | unset => exact setAt_ok (by simpa using hk1) _
  | second => exact setAt_ok (by simpa using hk1) _
  | val u =>
    show (if u.category = 2 then _ else _) = _
    rw [if_neg fun z => ho ⟨u, rfl, z⟩]
    exact setAt_ok (by simpa using hk1) _
theorem store1_sim {ρ : List Addr} {L : List Slot} {A : Array Slot} (h : LR ρ L A) {k : Nat} {v w : Value} {L' : List Slot} (hs : st1 L k v = some L') (hv : VR ρ v w) (hc : w.category = 1) : ∃ A', storeLocals A k w = some A' ∧ LR ρ L' A' := by
  unfold st1 at hs
  split at hs
  · rename_i q
    cases hs
    simp only [Bool.and_eq_true] at q
    obtain ⟨⟨q1, q2⟩, q3⟩ := q
    obtain ⟨hA, ⟨w1, w2⟩, hl⟩ := h
    have hk : k < L.length := by
      rcases Nat.lt_or_ge k L.length with z | z
      · exact z
      · rw [List.getElem?_eq_none z] at q1; cases q1
    have hkA : k < A.size := hA ▸ hk
    obtain ⟨sl, hsl⟩ : ∃ sl, A[k]? = some sl := ⟨A[k], Array.getElem?_eq_getElem hkA⟩
    have hc2 : ¬ w.category = 2 := by rw [hc]; decide
    classical
    have key : ∃ A', storeLocals A k w = some A' ∧ A'.size = A.size ∧ (∀ j, A'[j]? = if j = k then some (.val w) else if (sl = .second ∧ j + 1 = k) ∨ ((∃ u, sl = .val u ∧ u.category = 2) ∧ j = k + 1) then some .unset else A[j]?) := by
      cases sl with
      | unset =>
        refine ⟨A.setIfInBounds k (.val w), by rw [sl_unset hsl]; exact ss_1 hkA hc2, by simp, fun j => ?_⟩
        rw [get_set]
        by_cases e : k = j
        · subst e; simp [hkA]
        · have e' : ¬ j = k := fun z => e z.symm
          simp [e, e']
      | second =>
        obtain ⟨j0, u, rfl, g1, g2⟩ := w2 k hsl
        refine ⟨(A.setIfInBounds j0 .unset).setIfInBounds (j0 + 1) (.val w), by rw [sl_second hsl (show j0 + 1 - 1 < A.size by omega)]; exact ss_1 (by simpa using hkA) hc2, by simp, fun j => ?_⟩
        rw [get_set, get_set]
        by_cases e : j0 + 1 = j
        · subst e; simp [hkA]
        · by_cases e2 : j0 = j
          · subst e2; simp; omega
          · have e' : ¬ j = j0 + 1 := fun z => e z.symm
            have e2' : ¬ j = j0 := fun z => e2 z.symm
            simp [e, e', e2, e2']
      | val u =>
        by_cases hu : u.category = 2
        · have g := w1 k u hsl hu
          have hk1 : k + 1 < A.size := (Array.getElem?_eq_some_iff.mp g).1
          refine ⟨(A.setIfInBounds (k + 1) .unset).setIfInBounds k (.val w), by rw [sl_val2 hsl hu hk1]; exact ss_1 (by simpa using hkA) hc2, by simp, fun j => ?_⟩
          rw [get_set, get_set]
          by_cases e : k = j
          · subst e; simp [hkA]
          · have e' : ¬ j = k := fun z => e z.symm
            by_cases e2 : k + 1 = j
            · subst e2; simp [hk1, hu]
            · have e2' : ¬ j = k + 1 := fun z => e2 z.symm
              simp [e, e', e2, e2']
        · refine ⟨A.setIfInBounds k (.val w), by rw [sl_val1 hsl hu]; exact ss_1 hkA hc2, by simp, fun j => ?_⟩
          rw [get_set]
          by_cases e : k = j
          · subst e; simp [hkA]
          · have e' : ¬ j = k := fun z => e z.symm
            simp [e, e', hu]
    obtain ⟨A', k1, k2, k3⟩ := key
    refine ⟨A', k1, by rw [k2, hA]; simp, ⟨fun i u g1 g2 => ?_, fun i g1 => ?_⟩, fun i s g => ?_⟩
    · rw [k3] at g1
      split at g1
      · cases g1; exact absurd g2 hc2
      · rename_i e1
        split at g1
        · cases g1
        · rename_i e2
          have g3 := w1 i u g1 g2
          rw [k3]
          split
          · rename_i e3
            have : sl = .second := by rw [← e3] at hsl; exact Option.some.inj (hsl.symm.trans g3)
            exact absurd (Or.inl ⟨this, e3⟩) e2
          · rename_i e3
            split
            · rename_i e4
              rcases e4 with ⟨z1, z2⟩ | ⟨⟨u', z1, z2⟩, z3⟩
              · exfalso
                have : k = i + 1 + 1 := z2.symm
                subst this
                rw [z1] at hsl
                obtain ⟨j0, u0, y1, y2, y3⟩ := w2 _ hsl
                have : j0 = i + 1 := by omega
                subst this
                rw [g3] at y2; cases y2
              · exact absurd (by omega) e1
            · exact g3
    · rw [k3] at g1
      split at g1
      · cases g1
      · rename_i e1
        split at g1
        · cases g1
        · rename_i e2
          obtain ⟨j, u, z1, z2, z3⟩ := w2 i g1
          refine ⟨j, u, z1, ?_, z3⟩
          rw [k3]
          split
          · rename_i e3
            subst e3
            have : sl = .val u := Option.some.inj (hsl.symm.trans z2)
            exact absurd (Or.inr ⟨⟨u, this, z3⟩, z1⟩) e2
          · split
            · rename_i e3 e4
              rcases e4 with ⟨y1, y2⟩ | ⟨⟨u', y1, y2⟩, y3⟩
              · exact absurd (z1.trans y2) e1
              · subst y3
                have g5 := w1 k u' (y1 ▸ hsl) y2
                rw [z2] at g5; cases g5
            · exact z2
    · rw [List.getElem?_set] at g
      split at g
      · rename_i e
        subst e
        cases g
        exact ⟨w, hv, by rw [k3]; simp⟩
      · rename_i e
        have e' : ¬ i = k := fun z => e z.symm
        have g2 := hl i s g
        rw [k3, if_neg e']
        split
        · rename_i e4
          cases s with
          | unset => trivial
          | second =>
            exfalso
            have g2' : A[i]? = some .second := g2
            rcases e4 with ⟨y1, y2⟩ | ⟨⟨u', y1, y2⟩, y3⟩
            · obtain ⟨j0, u0, x1, x2, x3⟩ := w2 k (y1 ▸ hsl)
              have : i = j0 := by omega
              subst this
              rw [x2] at g2'; cases g2'
            · subst y3
              rw [g] at q3
              simp [isSec] at q3
          | val v0 =>
            exfalso
            obtain ⟨w0, x1, x2⟩ := g2
            rcases e4 with ⟨y1, y2⟩ | ⟨⟨u', y1, y2⟩, y3⟩
            · obtain ⟨j0, u0, z1, z2, z3⟩ := w2 k (y1 ▸ hsl)
              have : i = j0 := by omega
              subst this
              have hw0 : w0 = u0 := by rw [x2] at z2; cases z2; rfl
              have hcat : v0.category = 2 := by rw [← x1.cat, hw0]; exact z3
              subst y2
              have : L[i + 1 - 1]? = some (.val v0) := g
              rw [this] at q2
              simp [isC2, hcat] at q2
            · subst y3
              have g5 := w1 k u' (y1 ▸ hsl) y2
              rw [x2] at g5; cases g5
        · exact g2
  · cases hs
end Jvm.Own
namespace Jvm.Own
open Jvm Jvm.ClassFile Sem Op Lib Jvm.Free Jvm.Stand Jvm.LawKit Jvm.RoadKit Bundle
theorem store2_sim {ρ : List Addr} {L : List Slot} {A : Array Slot} (h : LR ρ L A) {k : Nat} {v w : Value} {L' : List Slot} (hs : st2 L k v = some L') (hv : VR ρ v w) (hc : w.category = 2) : ∃ A', storeLocals A k w = some A' ∧ LR ρ L' A' := by
  unfold st2 at hs
  split at hs
  · rename_i q
    cases hs
    simp only [Bool.and_eq_true] at q
    obtain ⟨⟨q1, q2⟩, q3⟩ := q
    obtain ⟨hA, ⟨w1, w2⟩, hl⟩ := h
    have hk1 : k + 1 < L.length := by
      rcases Nat.lt_or_ge (k + 1) L.length with z | z
      · exact z
      · rw [List.getElem?_eq_none z] at q1
        cases h0 : L[k]? with
        | none => rw [h0] at q1; cases q1
        | some s0 => rw [h0] at q1; cases s0 <;> cases q1
    have hk : k < L.length := by omega
    have hkA : k < A.size := hA ▸ hk
    have hkA1 : k + 1 < A.size := hA ▸ hk1
    obtain ⟨sl, hsl⟩ : ∃ sl, A[k]? = some sl := ⟨A[k], Array.getElem?_eq_getElem hkA⟩
    obtain ⟨sm, hsm⟩ : ∃ sm, A[k + 1]? = some sm := ⟨A[k + 1], Array.getElem?_eq_getElem hkA1⟩
    have n1 : ¬ k = k + 1 := by omega
    have n2 : ¬ k + 2 = k + 1 := by omega
    have n3 : ¬ k + 2 = k := by omega
    classical
    have key : ∃ A', storeLocals A k w = some A' ∧ A'.size = A.size ∧ (∀ j, A'[j]? = if j = k then some (.val w) else if j = k + 1 then some .second else if (sl = .second ∧ j + 1 = k) ∨ ((∃ u, sm = .val u ∧ u.category = 2) ∧ j = k + 2) then some .unset else A[j]?) := by
      by_cases hm : ∃ u, sm = .val u ∧ u.category = 2
      · obtain ⟨u, rfl, hu⟩ := hm
        have g := w1 (k + 1) u hsm hu
        have hk2 : k + 2 < A.size := (Array.getElem?_eq_some_iff.mp g).1
        cases sl with
        | unset =>
          refine ⟨((A.setIfInBounds k (.val w)).setIfInBounds (k + 2) .unset).setIfInBounds (k + 1) .second, ?_, by simp, fun j => ?_⟩
          · rw [sl_unset hsl]; exact ss_2c hkA hkA1 hk2 hc (by rw [get_set, if_neg n1]; exact hsm) hu
          · rw [get_set, get_set, get_set]
            by_cases e0 : j = k
            · subst e0; simp [hkA]
            · by_cases e1 : j = k + 1
              · subst e1; simp [hkA1]
              · by_cases e2 : j = k + 2
                · subst e2; simp [hk2, hu]
                · have e0' : ¬ k = j := fun z => e0 z.symm
                  have e1' : ¬ k + 1 = j := fun z => e1 z.symm
                  have e2' : ¬ k + 2 = j := fun z => e2 z.symm
                  simp [e0, e1, e2, e0', e1', e2']
        | second =>
          obtain ⟨j0, u0, rfl, g1, g2⟩ := w2 k hsl
          have hj0 : j0 < A.size := by omega
          refine ⟨(((A.setIfInBounds j0 .unset).setIfInBounds (j0 + 1) (.val w)).setIfInBounds (j0 + 1 + 2) .unset).setIfInBounds (j0 + 1 + 1) .second, ?_, by simp, fun j => ?_⟩
          · have m1 : ¬ j0 + 1 = j0 + 1 + 1 := by omega
            have m2 : ¬ j0 = j0 + 1 + 1 := by omega
            rw [sl_second hsl (show j0 + 1 - 1 < A.size by omega)]
            exact ss_2c (by simpa using hkA) (by simpa using hkA1) (by simpa using hk2) hc (by rw [get_set, if_neg m1, get_set, if_neg (by omega)]; exact hsm) hu
          · rw [get_set, get_set, get_set, get_set]
            by_cases e0 : j = j0 + 1
            · subst e0; simp [hkA]
            · by_cases e1 : j = j0 + 1 + 1
              · subst e1; simp [hkA1]
              · by_cases e2 : j = j0 + 1 + 2
                · subst e2; simp [hk2, hu]
                · by_cases e3 : j = j0
                  · subst e3
                    rw [if_neg (by omega), if_neg (by omega), if_neg (by omega), if_pos rfl, if_pos hj0, if_neg (by omega), if_neg (by omega), if_pos (Or.inl ⟨rfl, rfl⟩)]
                  · have e0' : ¬ j0 + 1 = j := fun z => e0 z.symm
                    have e1' : ¬ j0 + 1 + 1 = j := fun z => e1 z.symm
                    have e2' : ¬ j0 + 1 + 2 = j := fun z => e2 z.symm
                    have e3' : ¬ j0 = j := fun z => e3 z.symm
                    simp [e0, e1, e2, e3, e0', e1', e2', e3']
        | val u1 =>
          have hu1 : ¬ u1.category = 2 := fun z => by have := w1 k u1 hsl z; rw [hsm] at this; cases this
          refine ⟨((A.setIfInBounds k (.val w)).setIfInBounds (k + 2) .unset).setIfInBounds (k + 1) .second, ?_, by simp, fun j => ?_⟩
          · rw [sl_val1 hsl hu1]; exact ss_2c hkA hkA1 hk2 hc (by rw [get_set, if_neg n1]; exact hsm) hu
          · rw [get_set, get_set, get_set]
            by_cases e0 : j = k
            · subst e0; simp [hkA]
            · by_cases e1 : j = k + 1
              · subst e1; simp [hkA1]
              · by_cases e2 : j = k + 2
                · subst e2; simp [hk2, hu]
                · have e0' : ¬ k = j := fun z => e0 z.symm
                  have e1' : ¬ k + 1 = j := fun z => e1 z.symm
                  have e2' : ¬ k + 2 = j := fun z => e2 z.symm
                  simp [e0, e1, e2, e0', e1', e2']
      · cases sl with
        | unset =>
          refine ⟨(A.setIfInBounds k (.val w)).setIfInBounds (k + 1) .second, ?_, by simp, fun j => ?_⟩
          · rw [sl_unset hsl]; exact ss_2 hkA hkA1 hc (by rw [get_set, if_neg n1]; exact hsm) hm
          · rw [get_set, get_set]
            by_cases e0 : j = k
            · subst e0; simp [hkA]
            · by_cases e1 : j = k + 1
              · subst e1; simp [hkA1]
              · have e0' : ¬ k = j := fun z => e0 z.symm
                have e1' : ¬ k + 1 = j := fun z => e1 z.symm
                simp [e0, e1, e0', e1', hm]
        | second =>
          obtain ⟨j0, u0, rfl, g1, g2⟩ := w2 k hsl
          have hj0 : j0 < A.size := by omega
          have m1 : ¬ j0 + 1 = j0 + 1 + 1 := by omega
          have m2 : ¬ j0 = j0 + 1 + 1 := by omega
          refine ⟨((A.setIfInBounds j0 .unset).setIfInBounds (j0 + 1) (.val w)).setIfInBounds (j0 + 1 + 1) .second, ?_, by simp, fun j => ?_⟩
          · rw [sl_second hsl (show j0 + 1 - 1 < A.size by omega)]
            exact ss_2 (by simpa using hkA) (by simpa using hkA1) hc (by rw [get_set, if_neg m1, get_set, if_neg (by omega)]; exact hsm) hm
          · rw [get_set, get_set, get_set]
            by_cases e0 : j = j0 + 1
            · subst e0; simp [hkA]
            · by_cases e1 : j = j0 + 1 + 1
              · subst e1; simp [hkA1]
              · by_cases e3 : j = j0
                · subst e3
                  rw [if_neg (by omega), if_neg (by omega), if_pos rfl, if_pos hj0, if_neg (by omega), if_neg (by omega), if_pos (Or.inl ⟨rfl, rfl⟩)]
                · have e0' : ¬ j0 + 1 = j := fun z => e0 z.symm
                  have e1' : ¬ j0 + 1 + 1 = j := fun z => e1 z.symm
                  have e3' : ¬ j0 = j := fun z => e3 z.symm
                  simp [e0, e1, e3, e0', e1', e3', hm]
        | val u1 =>
          by_cases hu1 : u1.category = 2
          · refine ⟨((A.setIfInBounds (k + 1) .unset).setIfInBounds k (.val w)).setIfInBounds (k + 1) .second, ?_, by simp, fun j => ?_⟩
            · rw [sl_val2 hsl hu1 hkA1]
              exact ss_2 (o := .unset) (by simpa using hkA) (by simpa using hkA1) hc (by rw [get_set, if_neg n1, get_set, if_pos rfl, if_pos hkA1]) (by rintro ⟨u, z, -⟩; cases z)
            · rw [get_set, get_set, get_set]
              by_cases e0 : j = k
              · subst e0; simp [hkA]
              · by_cases e1 : j = k + 1
                · subst e1; simp [hkA1]
                · have e0' : ¬ k = j := fun z => e0 z.symm
                  have e1' : ¬ k + 1 = j := fun z => e1 z.symm
                  simp [e0, e1, e0', e1', hm]
          · refine ⟨(A.setIfInBounds k (.val w)).setIfInBounds (k + 1) .second, ?_, by simp, fun j => ?_⟩
            · rw [sl_val1 hsl hu1]; exact ss_2 hkA hkA1 hc (by rw [get_set, if_neg n1]; exact hsm) hm
            · rw [get_set, get_set]
              by_cases e0 : j = k
              · subst e0; simp [hkA]
              · by_cases e1 : j = k + 1
                · subst e1; simp [hkA1]
                · have e0' : ¬ k = j := fun z => e0 z.symm
                  have e1' : ¬ k + 1 = j := fun z => e1 z.symm
                  simp [e0, e1, e0', e1', hm]
    obtain ⟨A', k1, k2, k3⟩ := key
    refine ⟨A', k1, by rw [k2, hA]; simp, ⟨fun i u g1 g2 => ?_, fun i g1 => ?_⟩, fun i s g => ?_⟩
    · by_cases e1 : i = k
      · subst e1; rw [k3]; simp
      · have g1' := g1
        rw [k3, if_neg e1] at g1'
        split at g1'
        · cases g1'
        · rename_i e2
          split at g1'
          · cases g1'
          · rename_i e4
            have g3 := w1 i u g1' g2
            rw [k3]
            have c1 : ¬ i + 1 = k := fun e3 => by
              have : sl = .second := by rw [← e3] at hsl; exact Option.some.inj (hsl.symm.trans g3)
              exact e4 (Or.inl ⟨this, e3⟩)
            have c2 : ¬ i + 1 = k + 1 := by omega
            have c3 : ¬ ((sl = .second ∧ i + 1 + 1 = k) ∨ ((∃ u, sm = .val u ∧ u.category = 2) ∧ i + 1 = k + 2)) := fun z => by
              rcases z with ⟨z1, z2⟩ | ⟨z1, z2⟩
              · subst z2
                rw [z1] at hsl
                obtain ⟨j0, u0, y1, y2, y3⟩ := w2 _ hsl
                have : j0 = i + 1 := by omega
                subst this
                rw [g3] at y2; cases y2
              · omega
            rw [if_neg c1, if_neg c2, if_neg c3]
            exact g3
    · rw [k3] at g1
      split at g1
      · cases g1
      · rename_i e1
        split at g1
        · rename_i e2
          exact ⟨k, w, e2, by rw [k3]; simp, hc⟩
        · rename_i e2
          split at g1
          · cases g1
          · rename_i e4
            obtain ⟨j, u, z1, z2, z3⟩ := w2 i g1
            refine ⟨j, u, z1, ?_, z3⟩
            rw [k3]
            have c1 : ¬ j = k := by omega
            have c2 : ¬ j = k + 1 := fun e => by
              subst e
              exact e4 (Or.inr ⟨⟨u, Option.some.inj (hsm.symm.trans z2), z3⟩, by omega⟩)
            have c3 : ¬ ((sl = .second ∧ j + 1 = k) ∨ ((∃ u, sm = .val u ∧ u.category = 2) ∧ j = k + 2)) := fun z => by
              rcases z with ⟨y1, y2⟩ | ⟨⟨u', y1, y2⟩, y3⟩
              · exact e1 (z1.trans y2)
              · subst y3
                have g5 := w1 (k + 1) u' (y1 ▸ hsm) y2
                rw [z2] at g5; cases g5
            rw [if_neg c1, if_neg c2, if_neg c3]
            exact z2
    · rw [List.getElem?_set] at g
      split at g
      · rename_i e
        subst e
        have : k + 1 < (L.set k (.val v)).length := by simp [hk1]
        rw [if_pos this] at g
        cases g
        show A'[k + 1]? = some .second
        rw [k3]; simp
      · rename_i e
        have e' : ¬ i = k + 1 := fun z => e z.symm
        rw [List.getElem?_set] at g
        split at g
        · rename_i e0
          subst e0
          cases g
          exact ⟨w, hv, by rw [k3]; simp⟩
        · rename_i e0
          have e0' : ¬ i = k := fun z => e0 z.symm
          have g2 := hl i s g
          rw [k3, if_neg e0', if_neg e']
          split
          · rename_i e4
            cases s with
            | unset => trivial
            | second =>
              exfalso
              have g2' : A[i]? = some .second := g2
              rcases e4 with ⟨y1, y2⟩ | ⟨⟨u', y1, y2⟩, y3⟩
              · obtain ⟨j0, u0, x1, x2, x3⟩ := w2 k (y1 ▸ hsl)
                have : i = j0 := by omega
                subst this
                rw [x2] at g2'; cases g2'
              · subst y3
                rw [g] at q3
                simp [isSec] at q3
            | val v0 =>
              exfalso
              obtain ⟨w0, x1, x2⟩ := g2
              rcases e4 with ⟨y1, y2⟩ | ⟨⟨u', y1, y2⟩, y3⟩
              · obtain ⟨j0, u0, z1, z2, z3⟩ := w2 k (y1 ▸ hsl)
                have : i = j0 := by omega
                subst this
                have hw0 : w0 = u0 := by rw [x2] at z2; cases z2; rfl
                have hcat : v0.category = 2 := by rw [← x1.cat, hw0]; exact z3
                subst y2
                have : L[i + 1 - 1]? = some (.val v0) := g
                rw [this] at q2
                simp [isC2, hcat] at q2
              · subst y3
                have g5 := w1 (k + 1) u' (y1 ▸ hsm) y2
                rw [x2] at g5; cases g5
          · exact g2
  · cases hs
/-! The frame with which a method is entered -/
theorem entA_app (ws : List Value) : ∀ acc : Array Slot, ws.foldl (fun acc v => if v.category = 2 then (acc.push (.val v)).push .second else acc.push (.val v)) acc = acc ++ (entA ws).toArray := by
  induction ws with
  | nil => intro acc; simp [entA]
  | cons v r ih =>
    intro acc
    rw [List.foldl_cons, ih]
    show _ = acc ++ (if v.category = 2 then .val v :: .second :: entA r else .val v :: entA r).toArray
    by_cases h : v.category = 2
    · rw [if_pos h, if_pos h]; simp
    · rw [if_neg h, if_neg h]; simp
theorem argsToLocals_eq (ws : List Value) (n : Nat) : argsToLocals ws.toArray n = (entL ws n).toArray := by
  unfold argsToLocals entL
  have h := entA_app ws #[]
  simp only [List.foldl_toArray', List.size_toArray] at *
  simp [h]
theorem entA_len {ρ : List Addr} : ∀ {v w : List Value}, SR ρ v w → (entA w).length = (entA v).length
  | [], _, h => by cases h; rfl
  | _ :: _, _, ⟨w, ws, h1, h2, h3⟩ => by
    subst h1
    unfold entA
    rw [h2.cat]
    split <;> simp [entA_len h3]
theorem entA_rel {ρ : List Addr} : ∀ {v w : List Value}, SR ρ v w → ∀ (m i : Nat) (s : Slot), (entA v ++ List.replicate m .unset)[i]? = some s → SlR ρ s (entA w ++ List.replicate m .unset)[i]?
  | [], _, h, m, i, s, q => by
    cases h
    simp only [entA, List.nil_append] at q ⊢
    rw [List.getElem?_replicate] at q
    split at q
    · cases q; trivial
    · cases q
  | v :: vs, _, ⟨w, ws, h1, h2, h3⟩, m, i, s, q => by
    subst h1
    unfold entA at q ⊢
    rw [h2.cat]
    split
    · rename_i c
      rw [if_pos c] at q
      match i, q with
      | 0, q => simp at q; subst q; exact ⟨w, h2, by simp⟩
      | 1, q => simp at q; subst q; simp [SlR]
      | i + 2, q => simp at q ⊢; exact entA_rel h3 m i s q
    · rename_i c
      rw [if_neg c] at q
      match i, q with
      | 0, q => simp at q; subst q; exact ⟨w, h2, by simp⟩
      | i + 1, q => simp at q ⊢; exact entA_rel h3 m i s q
theorem entA_wf : ∀ (ws : List Value) (m : Nat), (∀ (i : Nat) w, (entA ws ++ List.replicate m .unset)[i]? = some (.val w) → w.category = 2 → (entA ws ++ List.replicate m .unset)[i + 1]? = some .second) ∧
    ∀ (i : Nat), (entA ws ++ List.replicate m .unset)[i]? = some .second → ∃ j w, i = j + 1 ∧ (entA ws ++ List.replicate m .unset)[j]? = some (.val w) ∧ w.category = 2
  | [], m => by
    constructor
    · intro i w q
      simp only [entA, List.nil_append, List.getElem?_replicate] at q
      split at q <;> cases q
    · intro i q
      simp only [entA, List.nil_append, List.getElem?_replicate] at q
      split at q <;> cases q
  | v :: vs, m => by
    obtain ⟨h1, h2⟩ := entA_wf vs m
    unfold entA
    split
    · rename_i c
      constructor
      · intro i w q
        match i, q with
        | 0, q => intro _; simp
        | 1, q => simp at q
        | i + 2, q => simp at q ⊢; exact h1 i w q
      · intro i q
        match i, q with
        | 0, q => simp at q
        | 1, q => exact ⟨0, v, rfl, by simp, c⟩
        | i + 2, q =>
          simp at q
          obtain ⟨j, w, e, g1, g2⟩ := h2 i q
          exact ⟨j + 2, w, by omega, by simpa using g1, g2⟩
    · rename_i c
      constructor
      · intro i w q
        match i, q with
        | 0, q => intro z; simp at q; subst q; exact absurd z c
        | i + 1, q => simp at q ⊢; exact h1 i w q
      · intro i q
        match i, q with
        | 0, q => simp at q
        | i + 1, q =>
          simp at q
          obtain ⟨j, w, e, g1, g2⟩ := h2 i q
          exact ⟨j + 1, w, by omega, by simpa using g1, g2⟩
theorem LR.enter {ρ : List Addr} {v w : List Value} (h : SR ρ v w) {n : Nat} (hn : (entA v).length ≤ n) : LR ρ (entL v n) (argsToLocals w.toArray n) ∧ (argsToLocals w.toArray n).size = n := by
  rw [argsToLocals_eq]
  have hl := entA_len h
  refine ⟨⟨by simp [entL, hl], ?_, fun i s q => ?_⟩, by simp [entL, hl]; omega⟩
  · obtain ⟨h1, h2⟩ := entA_wf w (n - (entA w).length)
    exact ⟨fun i u q c => by simpa [entL] using h1 i u (by simpa [entL] using q) c, fun i q => by
      obtain ⟨j, u, e, g1, g2⟩ := h2 i (by simpa [entL] using q)
      exact ⟨j, u, e, by simpa [entL] using g1, g2⟩⟩
  · unfold entL at q ⊢
    rw [hl]
    simpa using entA_rel h _ i s q
end Jvm.Own
namespace Jvm.RoadKit
open Sem ClassFile Op Lib Jvm.Stand Jvm.Free Jvm.LawKit
section New
variable {p : Program} {l : Launch} {e : Env} {R : Room} {s : State} {m : MethodId} {args : Array Value} {below : List Frame} {meth : Method} {c : Code} {T : State} {locs : List Loc} {cells slots : Nat}
theorem retI (X : Stand p l e R s m args below meth c T locs cells slots) (hx : p.tables.exec = Jvm.exec) {pc : Nat} {Ls : Array Slot} {z : Int32} {rest : List Value} (hret : meth.sig.returnType = some .int) (hd : decode c.code pc = .ok (.ireturn, 1)) {fs : List Frame}
    (hl : ∀ (f : JFrame) (acts : List Action), f.method = m → f.locked = none → f.entered = [] → (doReturn e (T.setTop f) acts (some (.int z))).1 = T.setFrames fs) : Steps p.tables e below (T.setTop (mkF m pc Ls (.int z :: rest))) (T.setFrames fs) := by
  have hm' : T.vm.method? m = some meth := X.method'
  have hn : narrow .int (.int z) = .int z := rfl
  show Steps p.tables e below (T.setTop { method := m, pc := pc, locals := Ls, stack := _ :: rest, locked := none }) _
  jvm_step X.here [X.here.top, hx, hd, hm', hret, hn]
  first | (intro acts; rw [hl _ acts rfl rfl rfl]) | rw [hl _ _ rfl rfl rfl]
  exact Steps.refl _
end New
end Jvm.RoadKit
namespace Jvm.Own
open Jvm Jvm.ClassFile Sem Op Lib Jvm.Free Jvm.Stand Jvm.LawKit Jvm.RoadKit Bundle
/-! The plain heap and the real one -/
def tyA (b : Bool) : FieldType := if b then .boolean else .int
def CR (P : PD) (Z : State) (h : Heap) (ρ : List Addr) (a : Addr) : ACell → Prop
  | .inl (c, fs) => ∃ cd, P.cls[c]? = some cd ∧ Exa Z h a cd.1 ∧ fs.length = cd.2.2.length ∧ ∀ (i : Nat) v fd, fs[i]? = some v → cd.2.2[i]? = some fd → ∃ w, VR ρ v w ∧ Fld Z h a cd.1 fd.1 fd.2.1 w
  | .inr (.inl (b, L)) => ∃ cl, Arr Z h a cl (tyA b) ∧ cl.slots.size = L.length ∧ L.length < 2 ^ 31 ∧ ∀ (i : Nat) x, L[i]? = some x → cl.slots[i]? = some (.int x)
  | .inr (.inr L) => ∃ cl, Arr Z h a cl .long ∧ cl.slots.size = L.length ∧ L.length < 2 ^ 31 ∧ ∀ (i : Nat) x, L[i]? = some x → cl.slots[i]? = some (.long x)
def HR (P : PD) (Z : State) (n0 : Nat) (h : Heap) (ρ : List Addr) (H : AHeap) : Prop :=
  n0 ≤ h.size ∧ ρ.length = H.length ∧ (∀ (i j : Nat) a, ρ[i]? = some a → ρ[j]? = some a → i = j) ∧ (∀ (k : Nat) a, ρ[k]? = some a → P.nr ≤ k → n0 ≤ a) ∧ ∀ (k : Nat) a c, ρ[k]? = some a → H[k]? = some c → CR P Z h ρ a c
section Heaps
variable {P : PD} {Z : State} {n0 : Nat} {h h' : Heap} {ρ : List Addr} {H : AHeap} {a : Addr} {k : Nat} {a0 : Array Value}
theorem CR.lt {c : ACell} (q : CR P Z h ρ a c) : a < h.size := by
  match c, q with
  | .inl (_, _), q => obtain ⟨cd, -, E, -⟩ := q; exact E.lt
  | .inr (.inl (_, _)), q => obtain ⟨cl, A, -⟩ := q; exact A.lt
  | .inr (.inr _), q => obtain ⟨cl, A, -⟩ := q; exact A.lt
theorem HR.at (q : HR P Z n0 h ρ H) {c : ACell} (hc : H[k]? = some c) : ∃ a, ρ[k]? = some a ∧ CR P Z h ρ a c := by
  obtain ⟨-, q1, -, -, q4⟩ := q
  have hk : k < ρ.length := by rw [q1]; exact (List.getElem?_eq_some_iff.mp hc).1
  exact ⟨ρ[k], List.getElem?_eq_getElem hk, q4 k _ c (List.getElem?_eq_getElem hk) hc⟩
theorem HR.lt (q : HR P Z n0 h ρ H) (hk : ρ[k]? = some a) : a < h.size := by
  obtain ⟨-, q1, -, -, q4⟩ := q
  have hk' : k < H.length := by rw [← q1]; exact (List.getElem?_eq_some_iff.mp hk).1
  exact (q4 k a _ hk (List.getElem?_eq_getElem hk')).lt
theorem CR.grow {t : List Addr} {c : ACell} (E : Ext h h') (q : CR P Z h ρ a c) : CR P Z h' (ρ ++ t) a c := by
  match c, q with
  | .inl (_, _), ⟨cd, q1, q2, q3, q4⟩ => exact ⟨cd, q1, q2.ext E, q3, fun i v fd g1 g2 => by obtain ⟨w, z1, z2⟩ := q4 i v fd g1 g2; exact ⟨w, z1.mono, z2.ext E⟩⟩
  | .inr (.inl (_, _)), ⟨cl, q1, q2⟩ => exact ⟨cl, q1.ext E, q2⟩
  | .inr (.inr _), ⟨cl, q1, q2⟩ => exact ⟨cl, q1.ext E, q2⟩
theorem HR.push {c : ACell} (q : HR P Z n0 h ρ H) (E : Ext h h') (hc : CR P Z h' (ρ ++ [h.size]) h.size c) : HR P Z n0 h' (ρ ++ [h.size]) (H ++ [c]) := by
  have q0 := q
  obtain ⟨q1, q2, q3, q4, q5⟩ := q
  have old : ∀ (i : Nat) b, (ρ ++ [h.size])[i]? = some b → (ρ[i]? = some b ∧ b < h.size) ∨ (i = ρ.length ∧ b = h.size) := fun i b g => by
    rw [List.getElem?_append] at g
    split at g
    · exact Or.inl ⟨g, q0.lt g⟩
    · rename_i z
      right
      have : i - ρ.length = 0 := by
        rcases Nat.eq_zero_or_pos (i - ρ.length) with y | y
        · exact y
        · rw [List.getElem?_eq_none (by simp; omega)] at g; cases g
      rw [this] at g
      simp at g
      exact ⟨by omega, g.symm⟩
  refine ⟨Nat.le_trans q1 E.1, by simp [q2], fun i j b g1 g2 => ?_, fun i b g1 g2 => ?_, fun i b c' g1 g2 => ?_⟩
  · rcases old i b g1 with ⟨y1, y2⟩ | ⟨y1, y2⟩ <;> rcases old j b g2 with ⟨z1, z2⟩ | ⟨z1, z2⟩
    · exact q3 i j b y1 z1
    · exact absurd (z2 ▸ y2) (Nat.lt_irrefl _)
    · exact absurd (y2 ▸ z2) (Nat.lt_irrefl _)
    · rw [y1, z1]
  · rcases old i b g1 with ⟨y1, y2⟩ | ⟨y1, y2⟩
    · exact q4 i b y1 g2
    · rw [y2]; exact q1
  · rcases old i b g1 with ⟨y1, y2⟩ | ⟨y1, y2⟩
    · have hi : i < H.length := by rw [← q2]; exact (List.getElem?_eq_some_iff.mp y1).1
      rw [List.getElem?_append_left hi] at g2
      exact (q5 i b c' y1 g2).grow E
    · subst y1 y2
      rw [q2] at g2
      simp at g2
      subst g2
      exact hc
theorem CR.other {v : Value} {sl : Nat} {b : Addr} {c : ACell} (W : Wr h h' a sl v) (ne : b ≠ a) (q : CR P Z h ρ b c) : CR P Z h' ρ b c := by
  match c, q with
  | .inl (_, _), ⟨cd, q1, q2, q3, q4⟩ => exact ⟨cd, q1, q2.wr W, q3, fun i v fd g1 g2 => by obtain ⟨w, z1, z2⟩ := q4 i v fd g1 g2; exact ⟨w, z1, z2.other W (Or.inl ne)⟩⟩
  | .inr (.inl (_, _)), ⟨cl, q1, q2⟩ => exact ⟨cl, q1.other W ne, q2⟩
  | .inr (.inr _), ⟨cl, q1, q2⟩ => exact ⟨cl, q1.other W ne, q2⟩
theorem HR.set {v : Value} {sl : Nat} {c : ACell} (q : HR P Z n0 h ρ H) (hk : ρ[k]? = some a) (W : Wr h h' a sl v) (hc : CR P Z h' ρ a c) : HR P Z n0 h' ρ (H.set k c) := by
  obtain ⟨q1, q2, q3, q4, q5⟩ := q
  refine ⟨by rw [W.size]; exact q1, by simp [q2], q3, q4, fun i b c' g1 g2 => ?_⟩
  rw [List.getElem?_set] at g2
  split at g2
  · rename_i e
    subst e
    split at g2
    · cases g2
      rw [hk] at g1; cases g1
      exact hc
    · cases g2
  · rename_i e
    exact (q5 i b c' g1 g2).other W fun z => e (q3 k i a hk (z ▸ g1))
theorem nodup_ne : ∀ {l : List String}, nodup l = true → ∀ {i j : Nat} {x y : String}, l[i]? = some x → l[j]? = some y → i ≠ j → x ≠ y
  | [], _, i, j, x, y, h1, _, _ => by simp at h1
  | z :: r, hn, i, j, x, y, h1, h2, ne => by
    simp only [nodup, Bool.and_eq_true, Bool.not_eq_true', List.contains_eq_mem, decide_eq_false_iff_not] at hn
    match i, j, h1, h2, ne with
    | 0, 0, _, _, ne => exact absurd rfl ne
    | 0, j + 1, h1, h2, _ => simp at h1 h2; subst h1; exact fun e => hn.1 (e ▸ List.mem_of_getElem? h2)
    | i + 1, 0, h1, h2, _ => simp at h1 h2; subst h2; exact fun e => hn.1 (e ▸ List.mem_of_getElem? h1)
    | i + 1, j + 1, h1, h2, ne => simp at h1 h2; exact nodup_ne hn.2 h1 h2 (fun e => ne (by rw [e]))
theorem laid_of {C : String} {f : FD} (w : (fWord C f).before a0 Z = true) : Laid Z a0 C C f.1 f.2.1 := by
  unfold fWord at w
  split at w
  · exact Or.inr w
  · exact Or.inl w
theorem HR.putF {c j : Nat} {fs : List Value} {cd : CD} {fd : FD} {v w : Value} (q : HR P Z n0 h ρ H) (hk : ρ[k]? = some a) (hc : H[k]? = some (.inl (c, fs))) (hcd : P.cls[c]? = some cd) (hfd : cd.2.2[j]? = some fd)
    (hck : cChk cd = true) (hl : ∀ f ∈ cd.2.2, (fWord cd.1 f).before a0 Z = true) (W : Wr h h' a (RoadKit.slotOf Z cd.1 fd.1 fd.2.1) w) (hv : VR ρ v w) : HR P Z n0 h' ρ (H.set k (.inl (c, fs.set j v))) := by
  obtain ⟨a', ha, cr⟩ := q.at hc
  rw [hk] at ha; cases ha
  obtain ⟨cd', q1, q2, q3, q4⟩ := cr
  rw [hcd] at q1; cases q1
  refine q.set hk W ⟨cd, hcd, q2.wr W, by simp [q3], fun i v0 fd' g1 g2 => ?_⟩
  simp only [cChk, Bool.and_eq_true, List.all_eq_true] at hck
  obtain ⟨n1, n2⟩ := hck
  by_cases e : j = i
  · subst e
    rw [hfd] at g2; cases g2
    rw [List.getElem?_set] at g1
    split at g1
    · split at g1
      · cases g1
        rename_i z
        obtain ⟨w0, -, F⟩ := q4 j _ fd (List.getElem?_eq_getElem z) hfd
        exact ⟨w, hv, F.same W⟩
      · cases g1
    · rename_i z; exact absurd rfl z
  · rw [List.getElem?_set_ne e] at g1
    obtain ⟨w0, z1, F⟩ := q4 i v0 fd' g1 g2
    refine ⟨w0, z1, F.other W (Or.inr ?_)⟩
    have m1 := List.mem_of_getElem? hfd
    have m2 := List.mem_of_getElem? g2
    have f1 := n2 fd m1
    have f2 := n2 fd' m2
    simp only [fChk, Bool.and_eq_true, decide_eq_true_eq] at f1 f2
    refine slot_ne (laid_of (hl fd' m2)) (laid_of (hl fd m1)) ?_ f2.1 f1.1
    exact nodup_ne n1 (i := i) (j := j) (by simp [g2]) (by simp [hfd]) (fun z => e z.symm)
theorem HR.wrI {b : Bool} {L : List Int32} {i : Nat} {x : Int32} (q : HR P Z n0 h ρ H) (hk : ρ[k]? = some a) (hc : H[k]? = some (.inr (.inl (b, L)))) (W : Wr h h' a i (.int x)) : HR P Z n0 h' ρ (H.set k (.inr (.inl (b, L.set i x)))) := by
  obtain ⟨a', ha, cr⟩ := q.at hc
  rw [hk] at ha; cases ha
  obtain ⟨cl, A, q2, q3, q4⟩ := cr
  have lt : i < cl.slots.size := by
    obtain ⟨cl', z1, -, z3, -⟩ := W
    rw [A.1] at z1; cases z1
    exact z3
  refine q.set hk W ⟨_, A.same W, by simp [sz_set, q2], by simpa using q3, fun j y g => ?_⟩
  rw [List.getElem?_set] at g
  split at g
  · rename_i e
    subst e
    split at g
    · cases g; simp [Cell.setSlot, lt]
    · cases g
  · rename_i e
    have := q4 j y g
    simp [Cell.setSlot, Array.getElem?_setIfInBounds, e, this]
theorem HR.wrJ {L : List Int64} {i : Nat} {x : Int64} (q : HR P Z n0 h ρ H) (hk : ρ[k]? = some a) (hc : H[k]? = some (.inr (.inr L))) (W : Wr h h' a i (.long x)) : HR P Z n0 h' ρ (H.set k (.inr (.inr (L.set i x)))) := by
  obtain ⟨a', ha, cr⟩ := q.at hc
  rw [hk] at ha; cases ha
  obtain ⟨cl, A, q2, q3, q4⟩ := cr
  have lt : i < cl.slots.size := by
    obtain ⟨cl', z1, -, z3, -⟩ := W
    rw [A.1] at z1; cases z1
    exact z3
  refine q.set hk W ⟨_, A.same W, by simp [sz_set, q2], by simpa using q3, fun j y g => ?_⟩
  rw [List.getElem?_set] at g
  split at g
  · rename_i e
    subst e
    split at g
    · cases g; simp [Cell.setSlot, lt]
    · cases g
  · rename_i e
    have := q4 j y g
    simp [Cell.setSlot, Array.getElem?_setIfInBounds, e, this]
end Heaps
theorem SR.int {ρ : List Addr} {x : Int32} {S Sc : List Value} (h : SR ρ (.int x :: S) Sc) : ∃ Sc', Sc = .int x :: Sc' ∧ SR ρ S Sc' := by
  obtain ⟨w, ws, h1, h2, h3⟩ := h
  exact ⟨ws, by rw [h1, show w = .int x from h2], h3⟩
theorem SR.long {ρ : List Addr} {x : Int64} {S Sc : List Value} (h : SR ρ (.long x :: S) Sc) : ∃ Sc', Sc = .long x :: Sc' ∧ SR ρ S Sc' := by
  obtain ⟨w, ws, h1, h2, h3⟩ := h
  exact ⟨ws, by rw [h1, show w = .long x from h2], h3⟩
theorem SR.ref {ρ : List Addr} {x : Nat} {S Sc : List Value} (h : SR ρ (.ref x :: S) Sc) : ∃ a Sc', ρ[x]? = some a ∧ Sc = .ref a :: Sc' ∧ SR ρ S Sc' := by
  obtain ⟨w, ws, h1, ⟨a, h2, h4⟩, h3⟩ := h
  exact ⟨a, ws, h2, by rw [h1, h4], h3⟩
theorem rdA_spec {α : Type} {L : List α} {j : Int32} {x : α} (h : rdA L j = some x) : ¬ j < 0 ∧ L[j.toNatClampNeg]? = some x := by
  unfold rdA at h
  split at h
  · cases h
  · rename_i q; exact ⟨q, h⟩
theorem wrA_spec {α : Type} {L L' : List α} {j : Int32} {x : α} (h : wrA L j x = some L') : ¬ j < 0 ∧ j.toNatClampNeg < L.length ∧ L' = L.set j.toNatClampNeg x := by
  unfold wrA at h
  split at h
  · cases h
  · rename_i q
    split at h
    · rename_i z; cases h; exact ⟨q, z, rfl⟩
    · cases h
end Jvm.Own
namespace Jvm.Own
open Jvm Jvm.ClassFile Sem Op Lib Jvm.Free Jvm.Stand Jvm.LawKit Jvm.RoadKit Bundle
theorem st1_len {L L' : List Slot} {k : Nat} {v : Value} (h : st1 L k v = some L') : L'.length = L.length := by
  unfold st1 at h
  split at h
  · cases h; simp
  · cases h
theorem st2_len {L L' : List Slot} {k : Nat} {v : Value} (h : st2 L k v = some L') : L'.length = L.length := by
  unfold st2 at h
  split at h
  · cases h; simp
  · cases h
theorem lrem_mod (x y : Int64) : x - (x / y) * y = x % y := by
  apply Int64.toInt_inj.mp
  have h1 := Int64.le_toInt (x % y)
  have h2 := Int64.toInt_lt (x % y)
  rw [Int64.toInt_sub, Int64.toInt_mul, Int64.toInt_div, Int.bmod_mul_bmod, Int.sub_bmod_bmod, Int.mul_comm (x.toInt.tdiv y.toInt), ← Int.tmod_def, ← Int64.toInt_mod]
  exact Int.bmod_eq_of_le_mul_two (by omega) (by omega)
theorem putOk_sim {ρ : List Addr} {ty : FieldType} {v w : Value} (h : putOk ty v = true) (hv : VR ρ v w) : narrow ty w = w ∧ fits ty w = true := by
  cases ty <;> cases v <;> first | (simp [putOk] at h; done) | skip
  · cases hv; exact ⟨rfl, rfl⟩
  · cases hv; exact ⟨rfl, rfl⟩
  · rename_i x
    cases hv
    simp only [putOk, Bool.or_eq_true, beq_iff_eq] at h
    rcases h with rfl | rfl
    · exact ⟨rfl, rfl⟩
    · exact ⟨rfl, rfl⟩
  · obtain ⟨a, -, rfl⟩ := hv; exact ⟨rfl, rfl⟩
theorem dflt_sim {ρ : List Addr} {ty : FieldType} (h : dfOk ty = true) : VR ρ (dflt ty) (defaultValue ty) := by
  cases ty <;> first | (simp [dfOk] at h; done) | exact rfl
theorem fieldOf_spec {P : PD} {c a : Nat} {cd : CD} {f : FD} (h1 : P.cls[c]? = some cd) (h2 : cd.2.2[a]? = some f) : fieldOf P c a = some f := by simp [fieldOf, h1, h2]
theorem in_wordsOf {P : PD} {d : MD} {x : Nat × It} {w : Jvm.Cond} (hd : d ∈ P.mth) (hx : x ∈ d.code) (hw : w ∈ iWords P d x) : w ∈ wordsOf P :=
  List.mem_append_right _ (List.mem_flatMap.mpr ⟨d, hd, List.mem_flatMap.mpr ⟨x, hx, hw⟩⟩)
theorem in_wordsC {P : PD} {cd : CD} {w : Jvm.Cond} (hd : cd ∈ P.cls) (hw : w ∈ cWords cd) : w ∈ wordsOf P :=
  List.mem_append_left _ (List.mem_append_left _ (List.mem_flatMap.mpr ⟨cd, hd, hw⟩))
theorem in_wordsM {P : PD} {y : MD} {j : Nat} {w : Jvm.Cond} (hd : P.mth[j]? = some y) (hj : 0 < j) (hw : w ∈ mWords y) : w ∈ wordsOf P := by
  refine List.mem_append_left _ (List.mem_append_right _ (List.mem_flatMap.mpr ⟨y, ?_, hw⟩))
  have : (P.mth.drop 1)[j - 1]? = some y := by rw [List.getElem?_drop]; rw [show 1 + (j - 1) = j by omega]; exact hd
  exact List.mem_of_getElem? this
theorem fWord_in {cd : CD} {f : FD} (h : f ∈ cd.2.2) : fWord cd.1 f ∈ cWords cd := List.mem_cons_of_mem _ (List.mem_cons_of_mem _ (List.mem_map.mpr ⟨f, h, rfl⟩))
theorem cChk_of {P : PD} (hP : chk P = true) {cd : CD} (h : cd ∈ P.cls) : cChk cd = true := by
  simp only [chk, Bool.and_eq_true, List.all_eq_true] at hP
  exact hP.1 cd h
theorem mChk_of {P : PD} (hP : chk P = true) {d : MD} (h : d ∈ P.mth) : mChk P d = true := by
  simp only [chk, Bool.and_eq_true, List.all_eq_true] at hP
  exact hP.2 d h
theorem cid_of {P : PD} (hP : chk P = true) {d : MD} (h : d ∈ P.mth) {cd : CD} (hc : P.cls[d.cid]? = some cd) : cd.1 = d.name.cls := by
  have := mChk_of hP h
  simp only [mChk, Bool.and_eq_true] at this
  have h4 := this.1.1.1.2
  unfold clsChk at h4
  rw [hc] at h4
  simpa using h4
section Step
variable {P : PD} {Z : State} {n0 : Nat} {a0 : Array Value} {l : Launch} {p : Program} {e : Env} {R : Room} {s : State} {m : MethodId} {args : Array Value} {below : List Frame} {meth : Method} {c : Code} {T : State} {locs : List Loc} {cells slots : Nat} {d : MD}
def Nxt (P : PD) (Z : State) (n0 : Nat) (l : Launch) (p : Program) (e : Env) (R : Room) (s : State) (m : MethodId) (args : Array Value) (below : List Frame) (meth : Method) (c : Code) (T : State) (cells slots : Nat) (ρ : List Addr) (g : JFrame) (pc' : Nat) (L L' : List Slot) (S' : List Value) (H1 : AHeap) : Prop :=
  ∃ T' locs' A' Sc', Stand p l e R s m args below meth c T' locs' cells slots ∧ L'.length = L.length ∧ LR ρ L' A' ∧ SR ρ S' Sc' ∧ HR P Z n0 T'.heap ρ H1 ∧ Fr n0 locs' ∧
    ∀ target, Steps p.tables e below (T'.setTop (mkF m pc' A' Sc')) target → Steps p.tables e below (T.setTop g) target
theorem Nxt.pure {ρ : List Addr} {H : AHeap} {g : JFrame} {pc' : Nat} {L L' : List Slot} {S' Sc' : List Value} {A' : Array Slot} (X : Stand p l e R s m args below meth c T locs cells slots) (hl : L'.length = L.length) (hL : LR ρ L' A') (hS : SR ρ S' Sc') (hH : HR P Z n0 T.heap ρ H) (hF : Fr n0 locs)
    (k : ∀ target, Steps p.tables e below (T.setTop (mkF m pc' A' Sc')) target → Steps p.tables e below (T.setTop g) target) : Nxt P Z n0 l p e R s m args below meth c T cells slots ρ g pc' L L' S' H :=
  ⟨T, locs, A', Sc', X, hl, hL, hS, hH, hF, k⟩
theorem Nxt.mem {ρ : List Addr} {H1 : AHeap} {g : JFrame} {pc' : Nat} {L L' : List Slot} {S' Sc' : List Value} {A' : Array Slot} {T' : State} {locs' : List Loc} (X : Stand p l e R s m args below meth c T' locs' cells slots) (hl : L'.length = L.length) (hL : LR ρ L' A') (hS : SR ρ S' Sc') (hH : HR P Z n0 T'.heap ρ H1) (hF : Fr n0 locs')
    (k : ∀ target, Steps p.tables e below (T'.setTop (mkF m pc' A' Sc')) target → Steps p.tables e below (T.setTop g) target) : Nxt P Z n0 l p e R s m args below meth c T cells slots ρ g pc' L L' S' H1 :=
  ⟨T', locs', A', Sc', X, hl, hL, hS, hH, hF, k⟩
set_option maxHeartbeats 4000000 in
theorem stepX (X : Stand p l e R s m args below meth c T locs cells slots) (hx : p.tables.exec = Jvm.exec) (hZ : Z.Warmed39 s.vm) (hown : s.vm.findClass d.name.cls = some m.cls) (hnm : meth.name = d.name.name) (hP : chk P = true) (hW : ∀ w ∈ wordsOf P, w.before a0 Z = true) (hdm : d ∈ P.mth)
    {pc len a : Nat} {er : List Bool} {b : Int} {i : Instr} (hit : (pc, i, len, er, a, b) ∈ d.code) (hd : decode c.code pc = .ok (i, len)) (hlen : lenOk i len = true) {ρ : List Addr} {L L' : List Slot} {S S' Sc : List Value} {H H1 : AHeap} {A : Array Slot}
    (hL : LR ρ L A) (hS : SR ρ S Sc) (hH : HR P Z n0 T.heap ρ H) (hF : Fr n0 locs) (h : xI P (d.name.name == "<init>") d.cid i a b L S H = some (L', S', H1)) :
    Nxt P Z n0 l p e R s m args below meth c T cells slots ρ (mkF m pc A Sc) (pc + len) L L' S' H1 := by
  have hWi : ∀ w ∈ iWords P d (pc, i, len, er, a, b), w.before a0 Z = true := fun w q => hW w (in_wordsOf hdm hit q)
  cases i with
  | aload_n k =>
    obtain rfl : len = 1 := by simpa [lenOk] using hlen
    simp only [xI] at h
    split at h
    · rename_i x q
      cases h
      obtain ⟨w, hv, hg⟩ := hL.get q
      obtain ⟨ad, h1, rfl⟩ := hv
      exact Nxt.pure X rfl hL ⟨_, _, rfl, ⟨ad, h1, rfl⟩, hS⟩ hH hF (fun t z => XS.aloadN (g := mkF m pc A Sc) X.here hx rfl hd hg rfl z)
    · cases h
  | aload k =>
    obtain rfl : len = 2 := by simpa [lenOk] using hlen
    simp only [xI] at h
    split at h
    · rename_i x q
      cases h
      obtain ⟨w, hv, hg⟩ := hL.get q
      obtain ⟨ad, h1, rfl⟩ := hv
      exact Nxt.pure X rfl hL ⟨_, _, rfl, ⟨ad, h1, rfl⟩, hS⟩ hH hF (fun t z => XS.aload (g := mkF m pc A Sc) X.here hx rfl hd hg rfl z)
    · cases h
  | iload_n k =>
    obtain rfl : len = 1 := by simpa [lenOk] using hlen
    simp only [xI] at h
    split at h
    · rename_i x q
      cases h
      obtain ⟨w, hv, hg⟩ := hL.get q
      obtain rfl : w = .int _ := hv
      exact Nxt.pure X rfl hL ⟨_, _, rfl, rfl, hS⟩ hH hF (fun t z => XS.iloadN (g := mkF m pc A Sc) X.here hx rfl hd hg z)
    · cases h
  | iload k =>
    obtain rfl : len = 2 := by simpa [lenOk] using hlen
    simp only [xI] at h
    split at h
    · rename_i x q
      cases h
      obtain ⟨w, hv, hg⟩ := hL.get q
      obtain rfl : w = .int _ := hv
      exact Nxt.pure X rfl hL ⟨_, _, rfl, rfl, hS⟩ hH hF (fun t z => XS.iload (g := mkF m pc A Sc) X.here hx rfl hd hg z)
    · cases h
  | lload_n k =>
    obtain rfl : len = 1 := by simpa [lenOk] using hlen
    simp only [xI] at h
    split at h
    · rename_i x q
      cases h
      obtain ⟨w, hv, hg⟩ := hL.get q
      obtain rfl : w = .long _ := hv
      exact Nxt.pure X rfl hL ⟨_, _, rfl, rfl, hS⟩ hH hF (fun t z => XT.lloadN (g := mkF m pc A Sc) X.here hx rfl hd hg z)
    · cases h
  | lload k =>
    obtain rfl : len = 2 := by simpa [lenOk] using hlen
    simp only [xI] at h
    split at h
    · rename_i x q
      cases h
      obtain ⟨w, hv, hg⟩ := hL.get q
      obtain rfl : w = .long _ := hv
      exact Nxt.pure X rfl hL ⟨_, _, rfl, rfl, hS⟩ hH hF (fun t z => XT.lload (g := mkF m pc A Sc) X.here hx rfl hd hg z)
    · cases h
  | istore_n k =>
    obtain rfl : len = 1 := by simpa [lenOk] using hlen
    simp only [xI] at h
    split at h
    · rename_i x S0
      obtain ⟨L1, q, e1⟩ := Option.map_eq_some_iff.mp h
      cases e1
      obtain ⟨S2, rfl, h2⟩ := hS.int
      obtain ⟨A', z1, z2⟩ := store1_sim hL q (show VR ρ (.int x) (.int x) from rfl) rfl
      exact Nxt.pure X (st1_len q) z2 h2 hH hF (fun t z => XS.istoreN (g := mkF m pc A _) X.here hx rfl hd rfl z1 z)
    · cases h
  | istore k =>
    obtain rfl : len = 2 := by simpa [lenOk] using hlen
    simp only [xI] at h
    split at h
    · rename_i x S0
      obtain ⟨L1, q, e1⟩ := Option.map_eq_some_iff.mp h
      cases e1
      obtain ⟨S2, rfl, h2⟩ := hS.int
      obtain ⟨A', z1, z2⟩ := store1_sim hL q (show VR ρ (.int x) (.int x) from rfl) rfl
      exact Nxt.pure X (st1_len q) z2 h2 hH hF (fun t z => XS.istore (g := mkF m pc A _) X.here hx rfl hd rfl z1 z)
    · cases h
  | astore_n k =>
    obtain rfl : len = 1 := by simpa [lenOk] using hlen
    simp only [xI] at h
    split at h
    · rename_i x S0
      obtain ⟨L1, q, e1⟩ := Option.map_eq_some_iff.mp h
      cases e1
      obtain ⟨ad, S2, h1, rfl, h2⟩ := hS.ref
      obtain ⟨A', z1, z2⟩ := store1_sim hL q (show VR ρ (.ref x) (.ref ad) from ⟨ad, h1, rfl⟩) rfl
      exact Nxt.pure X (st1_len q) z2 h2 hH hF (fun t z => XS.astoreN (g := mkF m pc A _) X.here hx rfl hd rfl rfl z1 z)
    · cases h
  | astore k =>
    obtain rfl : len = 2 := by simpa [lenOk] using hlen
    simp only [xI] at h
    split at h
    · rename_i x S0
      obtain ⟨L1, q, e1⟩ := Option.map_eq_some_iff.mp h
      cases e1
      obtain ⟨ad, S2, h1, rfl, h2⟩ := hS.ref
      obtain ⟨A', z1, z2⟩ := store1_sim hL q (show VR ρ (.ref x) (.ref ad) from ⟨ad, h1, rfl⟩) rfl
      exact Nxt.pure X (st1_len q) z2 h2 hH hF (fun t z => XS.astore (g := mkF m pc A _) X.here hx rfl hd rfl rfl z1 z)
    · cases h
  | lstore_n k =>
    obtain rfl : len = 1 := by simpa [lenOk] using hlen
    simp only [xI] at h
    split at h
    · rename_i x S0
      obtain ⟨L1, q, e1⟩ := Option.map_eq_some_iff.mp h
      cases e1
      obtain ⟨S2, rfl, h2⟩ := hS.long
      obtain ⟨A', z1, z2⟩ := store2_sim hL q (show VR ρ (.long x) (.long x) from rfl) rfl
      exact Nxt.pure X (st2_len q) z2 h2 hH hF (fun t z => XT.lstoreN (g := mkF m pc A _) X.here hx rfl hd rfl z1 z)
    · cases h
  | lstore k =>
    obtain rfl : len = 2 := by simpa [lenOk] using hlen
    simp only [xI] at h
    split at h
    · rename_i x S0
      obtain ⟨L1, q, e1⟩ := Option.map_eq_some_iff.mp h
      cases e1
      obtain ⟨S2, rfl, h2⟩ := hS.long
      obtain ⟨A', z1, z2⟩ := store2_sim hL q (show VR ρ (.long x) (.long x) from rfl) rfl
      exact Nxt.pure X (st2_len q) z2 h2 hH hF (fun t z => XT.lstore (g := mkF m pc A _) X.here hx rfl hd rfl z1 z)
    · cases h
  | iinc k dd =>
    obtain rfl : len = 3 := by simpa [lenOk] using hlen
    simp only [xI] at h
    split at h
    · rename_i x q0
      obtain ⟨L1, q, e1⟩ := Option.map_eq_some_iff.mp h
      cases e1
      obtain ⟨w, hv, hg⟩ := hL.get q0
      obtain rfl : w = .int _ := hv
      obtain ⟨A', z1, z2⟩ := store1_sim hL q (show VR ρ (.int (x + Int32.ofInt dd)) (.int (x + Int32.ofInt dd)) from rfl) rfl
      exact Nxt.pure X (st1_len q) z2 hS hH hF (fun t z => XS.iinc (g := mkF m pc A Sc) X.here hx rfl hd hg z1 z)
    · cases h
  | iconst v =>
    obtain rfl : len = 1 := by simpa [lenOk] using hlen
    simp only [xI] at h
    cases h
    exact Nxt.pure X rfl hL ⟨_, _, rfl, rfl, hS⟩ hH hF (fun t z => XS.iconst (g := mkF m pc A Sc) X.here hx rfl hd z)
  | bipush v =>
    obtain rfl : len = 2 := by simpa [lenOk] using hlen
    simp only [xI] at h
    cases h
    exact Nxt.pure X rfl hL ⟨_, _, rfl, rfl, hS⟩ hH hF (fun t z => XS.bipush (g := mkF m pc A Sc) X.here hx rfl hd z)
  | sipush v =>
    obtain rfl : len = 3 := by simpa [lenOk] using hlen
    simp only [xI] at h
    cases h
    exact Nxt.pure X rfl hL ⟨_, _, rfl, rfl, hS⟩ hH hF (fun t z => XS.sipush (g := mkF m pc A Sc) X.here hx rfl hd z)
  | lconst v =>
    obtain rfl : len = 1 := by simpa [lenOk] using hlen
    simp only [xI] at h
    cases h
    exact Nxt.pure X rfl hL ⟨_, _, rfl, rfl, hS⟩ hH hF (fun t z => XT.lconst (g := mkF m pc A Sc) X.here hx rfl hd z)
  | ldc k =>
    obtain rfl : len = 2 := by simpa [lenOk] using hlen
    simp only [xI] at h
    cases h
    have w1 := hWi (.constant d.name.cls k (Int32.ofInt b)) (List.mem_singleton.mpr rfl)
    exact Nxt.pure X rfl hL ⟨_, _, rfl, rfl, hS⟩ hH hF (fun t z => X.ldcInt hx hown (mvT hZ w1) (g := mkF m pc A Sc) rfl hd t z)
  | ldc2_w k =>
    obtain rfl : len = 3 := by simpa [lenOk] using hlen
    simp only [xI] at h
    cases h
    have w1 := hWi (.constantLong d.name.cls k (Int64.ofInt b)) (List.mem_singleton.mpr rfl)
    exact Nxt.pure X rfl hL ⟨_, _, rfl, rfl, hS⟩ hH hF (fun t z => X.ldc2Long hx hown (mvT hZ w1) (g := mkF m pc A Sc) rfl hd t z)
  | iadd =>
    obtain rfl : len = 1 := by simpa [lenOk] using hlen
    simp only [xI] at h
    split at h
    · rename_i y x S0
      cases h
      obtain ⟨S1, rfl, h1⟩ := hS.int
      obtain ⟨S2, rfl, h2⟩ := h1.int
      exact Nxt.pure X rfl hL ⟨_, _, rfl, rfl, h2⟩ hH hF (fun t z => XS.iadd (g := mkF m pc A _) X.here hx rfl hd rfl z)
    · cases h
  | isub =>
    obtain rfl : len = 1 := by simpa [lenOk] using hlen
    simp only [xI] at h
    split at h
    · rename_i y x S0
      cases h
      obtain ⟨S1, rfl, h1⟩ := hS.int
      obtain ⟨S2, rfl, h2⟩ := h1.int
      exact Nxt.pure X rfl hL ⟨_, _, rfl, rfl, h2⟩ hH hF (fun t z => XS.isub (g := mkF m pc A _) X.here hx rfl hd rfl z)
    · cases h
  | imul =>
    obtain rfl : len = 1 := by simpa [lenOk] using hlen
    simp only [xI] at h
    split at h
    · rename_i y x S0
      cases h
      obtain ⟨S1, rfl, h1⟩ := hS.int
      obtain ⟨S2, rfl, h2⟩ := h1.int
      exact Nxt.pure X rfl hL ⟨_, _, rfl, rfl, h2⟩ hH hF (fun t z => XS.imul (g := mkF m pc A _) X.here hx rfl hd rfl z)
    · cases h
  | iand =>
    obtain rfl : len = 1 := by simpa [lenOk] using hlen
    simp only [xI] at h
    split at h
    · rename_i y x S0
      cases h
      obtain ⟨S1, rfl, h1⟩ := hS.int
      obtain ⟨S2, rfl, h2⟩ := h1.int
      exact Nxt.pure X rfl hL ⟨_, _, rfl, rfl, h2⟩ hH hF (fun t z => XS.iand (g := mkF m pc A _) X.here hx rfl hd rfl z)
    · cases h
  | ior =>
    obtain rfl : len = 1 := by simpa [lenOk] using hlen
    simp only [xI] at h
    split at h
    · rename_i y x S0
      cases h
      obtain ⟨S1, rfl, h1⟩ := hS.int
      obtain ⟨S2, rfl, h2⟩ := h1.int
      exact Nxt.pure X rfl hL ⟨_, _, rfl, rfl, h2⟩ hH hF (fun t z => XT.ior (g := mkF m pc A _) X.here hx rfl hd rfl z)
    · cases h
  | ixor =>
    obtain rfl : len = 1 := by simpa [lenOk] using hlen
    simp only [xI] at h
    split at h
    · rename_i y x S0
      cases h
      obtain ⟨S1, rfl, h1⟩ := hS.int
      obtain ⟨S2, rfl, h2⟩ := h1.int
      exact Nxt.pure X rfl hL ⟨_, _, rfl, rfl, h2⟩ hH hF (fun t z => XT.ixor (g := mkF m pc A _) X.here hx rfl hd rfl z)
    · cases h
  | ishl =>
    obtain rfl : len = 1 := by simpa [lenOk] using hlen
    simp only [xI] at h
    split at h
    · rename_i y x S0
      cases h
      obtain ⟨S1, rfl, h1⟩ := hS.int
      obtain ⟨S2, rfl, h2⟩ := h1.int
      exact Nxt.pure X rfl hL ⟨_, _, rfl, rfl, h2⟩ hH hF (fun t z => XT.ishl (g := mkF m pc A _) X.here hx rfl hd rfl z)
    · cases h
  | ishr =>
    obtain rfl : len = 1 := by simpa [lenOk] using hlen
    simp only [xI] at h
    split at h
    · rename_i y x S0
      cases h
      obtain ⟨S1, rfl, h1⟩ := hS.int
      obtain ⟨S2, rfl, h2⟩ := h1.int
      exact Nxt.pure X rfl hL ⟨_, _, rfl, rfl, h2⟩ hH hF (fun t z => XT.ishr (g := mkF m pc A _) X.here hx rfl hd rfl z)
    · cases h
  | iushr =>
    obtain rfl : len = 1 := by simpa [lenOk] using hlen
    simp only [xI] at h
    split at h
    · rename_i y x S0
      cases h
      obtain ⟨S1, rfl, h1⟩ := hS.int
      obtain ⟨S2, rfl, h2⟩ := h1.int
      exact Nxt.pure X rfl hL ⟨_, _, rfl, rfl, h2⟩ hH hF (fun t z => XT.iushr (g := mkF m pc A _) X.here hx rfl hd rfl z)
    · cases h
  | ladd =>
    obtain rfl : len = 1 := by simpa [lenOk] using hlen
    simp only [xI] at h
    split at h
    · rename_i y x S0
      cases h
      obtain ⟨S1, rfl, h1⟩ := hS.long
      obtain ⟨S2, rfl, h2⟩ := h1.long
      exact Nxt.pure X rfl hL ⟨_, _, rfl, rfl, h2⟩ hH hF (fun t z => XT.ladd (g := mkF m pc A _) X.here hx rfl hd rfl z)
    · cases h
  | lsub =>
    obtain rfl : len = 1 := by simpa [lenOk] using hlen
    simp only [xI] at h
    split at h
    · rename_i y x S0
      cases h
      obtain ⟨S1, rfl, h1⟩ := hS.long
      obtain ⟨S2, rfl, h2⟩ := h1.long
      exact Nxt.pure X rfl hL ⟨_, _, rfl, rfl, h2⟩ hH hF (fun t z => XT.lsub (g := mkF m pc A _) X.here hx rfl hd rfl z)
    · cases h
  | lmul =>
    obtain rfl : len = 1 := by simpa [lenOk] using hlen
    simp only [xI] at h
    split at h
    · rename_i y x S0
      cases h
      obtain ⟨S1, rfl, h1⟩ := hS.long
      obtain ⟨S2, rfl, h2⟩ := h1.long
      exact Nxt.pure X rfl hL ⟨_, _, rfl, rfl, h2⟩ hH hF (fun t z => XT.lmul (g := mkF m pc A _) X.here hx rfl hd rfl z)
    · cases h
  | land =>
    obtain rfl : len = 1 := by simpa [lenOk] using hlen
    simp only [xI] at h
    split at h
    · rename_i y x S0
      cases h
      obtain ⟨S1, rfl, h1⟩ := hS.long
      obtain ⟨S2, rfl, h2⟩ := h1.long
      exact Nxt.pure X rfl hL ⟨_, _, rfl, rfl, h2⟩ hH hF (fun t z => XT.land (g := mkF m pc A _) X.here hx rfl hd rfl z)
    · cases h
  | lor =>
    obtain rfl : len = 1 := by simpa [lenOk] using hlen
    simp only [xI] at h
    split at h
    · rename_i y x S0
      cases h
      obtain ⟨S1, rfl, h1⟩ := hS.long
      obtain ⟨S2, rfl, h2⟩ := h1.long
      exact Nxt.pure X rfl hL ⟨_, _, rfl, rfl, h2⟩ hH hF (fun t z => XT.lor (g := mkF m pc A _) X.here hx rfl hd rfl z)
    · cases h
  | lxor =>
    obtain rfl : len = 1 := by simpa [lenOk] using hlen
    simp only [xI] at h
    split at h
    · rename_i y x S0
      cases h
      obtain ⟨S1, rfl, h1⟩ := hS.long
      obtain ⟨S2, rfl, h2⟩ := h1.long
      exact Nxt.pure X rfl hL ⟨_, _, rfl, rfl, h2⟩ hH hF (fun t z => XT.lxor (g := mkF m pc A _) X.here hx rfl hd rfl z)
    · cases h
  | lcmp =>
    obtain rfl : len = 1 := by simpa [lenOk] using hlen
    simp only [xI] at h
    split at h
    · rename_i y x S0
      cases h
      obtain ⟨S1, rfl, h1⟩ := hS.long
      obtain ⟨S2, rfl, h2⟩ := h1.long
      exact Nxt.pure X rfl hL ⟨_, _, rfl, rfl, h2⟩ hH hF (fun t z => XT.lcmp (g := mkF m pc A _) X.here hx rfl hd rfl z)
    · cases h
  | lshl =>
    obtain rfl : len = 1 := by simpa [lenOk] using hlen
    simp only [xI] at h
    split at h
    · rename_i y x S0
      cases h
      obtain ⟨S1, rfl, h1⟩ := hS.int
      obtain ⟨S2, rfl, h2⟩ := h1.long
      exact Nxt.pure X rfl hL ⟨_, _, rfl, rfl, h2⟩ hH hF (fun t z => XT.lshl (g := mkF m pc A _) X.here hx rfl hd rfl z)
    · cases h
  | lshr =>
    obtain rfl : len = 1 := by simpa [lenOk] using hlen
    simp only [xI] at h
    split at h
    · rename_i y x S0
      cases h
      obtain ⟨S1, rfl, h1⟩ := hS.int
      obtain ⟨S2, rfl, h2⟩ := h1.long
      exact Nxt.pure X rfl hL ⟨_, _, rfl, rfl, h2⟩ hH hF (fun t z => XT.lshr (g := mkF m pc A _) X.here hx rfl hd rfl z)
    · cases h
  | lushr =>
    obtain rfl : len = 1 := by simpa [lenOk] using hlen
    simp only [xI] at h
    split at h
    · rename_i y x S0
      cases h
      obtain ⟨S1, rfl, h1⟩ := hS.int
      obtain ⟨S2, rfl, h2⟩ := h1.long
      exact Nxt.pure X rfl hL ⟨_, _, rfl, rfl, h2⟩ hH hF (fun t z => XT.lushr (g := mkF m pc A _) X.here hx rfl hd rfl z)
    · cases h
  | idiv =>
    obtain rfl : len = 1 := by simpa [lenOk] using hlen
    simp only [xI] at h
    split at h
    · rename_i y x S0
      split at h
      · cases h
      · rename_i hy
        cases h
        obtain ⟨S1, rfl, h1⟩ := hS.int
        obtain ⟨S2, rfl, h2⟩ := h1.int
        exact Nxt.pure X rfl hL ⟨_, _, rfl, rfl, h2⟩ hH hF (fun t z => XS.idiv (g := mkF m pc A _) X.here hx rfl hd rfl hy z)
    · cases h
  | irem =>
    obtain rfl : len = 1 := by simpa [lenOk] using hlen
    simp only [xI] at h
    split at h
    · rename_i y x S0
      split at h
      · cases h
      · rename_i hy
        cases h
        obtain ⟨S1, rfl, h1⟩ := hS.int
        obtain ⟨S2, rfl, h2⟩ := h1.int
        exact Nxt.pure X rfl hL ⟨_, _, rfl, rfl, h2⟩ hH hF (fun t z => iremM (g := mkF m pc A _) X hx rfl hd rfl hy z)
    · cases h
  | ldiv =>
    obtain rfl : len = 1 := by simpa [lenOk] using hlen
    simp only [xI] at h
    split at h
    · rename_i y x S0
      split at h
      · cases h
      · rename_i hy
        cases h
        obtain ⟨S1, rfl, h1⟩ := hS.long
        obtain ⟨S2, rfl, h2⟩ := h1.long
        exact Nxt.pure X rfl hL ⟨_, _, rfl, rfl, h2⟩ hH hF (fun t z => XT.ldiv (g := mkF m pc A _) X.here hx rfl hd rfl hy z)
    · cases h
  | lrem =>
    obtain rfl : len = 1 := by simpa [lenOk] using hlen
    simp only [xI] at h
    split at h
    · rename_i y x S0
      split at h
      · cases h
      · rename_i hy
        cases h
        obtain ⟨S1, rfl, h1⟩ := hS.long
        obtain ⟨S2, rfl, h2⟩ := h1.long
        exact Nxt.pure X rfl hL ⟨_, _, rfl, rfl, h2⟩ hH hF (fun t z => XT.lrem (g := mkF m pc A _) X.here hx rfl hd rfl hy (by rw [lrem_mod]; exact z))
    · cases h
  | i2l =>
    obtain rfl : len = 1 := by simpa [lenOk] using hlen
    simp only [xI] at h
    split at h
    · rename_i x S0
      cases h
      obtain ⟨S1, rfl, h1⟩ := hS.int
      exact Nxt.pure X rfl hL ⟨_, _, rfl, rfl, h1⟩ hH hF (fun t z => XT.i2l (g := mkF m pc A _) X.here hx rfl hd rfl z)
    · cases h
  | l2i =>
    obtain rfl : len = 1 := by simpa [lenOk] using hlen
    simp only [xI] at h
    split at h
    · rename_i x S0
      cases h
      obtain ⟨S1, rfl, h1⟩ := hS.long
      exact Nxt.pure X rfl hL ⟨_, _, rfl, rfl, h1⟩ hH hF (fun t z => XT.l2i (g := mkF m pc A _) X.here hx rfl hd rfl z)
    · cases h
  | dup =>
    obtain rfl : len = 1 := by simpa [lenOk] using hlen
    simp only [xI] at h
    split at h
    · rename_i x S0
      cases h
      obtain ⟨S1, rfl, h1⟩ := hS.int
      exact Nxt.pure X rfl hL ⟨_, _, rfl, rfl, _, _, rfl, rfl, h1⟩ hH hF (fun t z => XS.dup (g := mkF m pc A _) X.here hx rfl hd rfl rfl z)
    · rename_i x S0
      cases h
      obtain ⟨ad, S1, g1, rfl, h1⟩ := hS.ref
      exact Nxt.pure X rfl hL ⟨_, _, rfl, ⟨ad, g1, rfl⟩, _, _, rfl, ⟨ad, g1, rfl⟩, h1⟩ hH hF (fun t z => XS.dup (g := mkF m pc A _) X.here hx rfl hd rfl rfl z)
    · cases h
  | dup2 =>
    obtain rfl : len = 1 := by simpa [lenOk] using hlen
    simp only [xI] at h
    split at h
    · rename_i x y S0
      cases h
      obtain ⟨S1, rfl, h1⟩ := hS.int
      obtain ⟨ad, S2, g1, rfl, h2⟩ := h1.ref
      exact Nxt.pure X rfl hL ⟨_, _, rfl, rfl, _, _, rfl, ⟨ad, g1, rfl⟩, _, _, rfl, rfl, _, _, rfl, ⟨ad, g1, rfl⟩, h2⟩ hH hF (fun t z => XT.dup2 (g := mkF m pc A _) X.here hx rfl hd rfl rfl rfl z)
    · rename_i x S0
      cases h
      obtain ⟨S1, rfl, h1⟩ := hS.long
      exact Nxt.pure X rfl hL ⟨_, _, rfl, rfl, _, _, rfl, rfl, h1⟩ hH hF (fun t z => XT.dup2L (g := mkF m pc A _) X.here hx rfl hd rfl z)
    · cases h
  | pop =>
    obtain rfl : len = 1 := by simpa [lenOk] using hlen
    simp only [xI] at h
    split at h
    · rename_i x S0
      cases h
      obtain ⟨S1, rfl, h1⟩ := hS.int
      exact Nxt.pure X rfl hL h1 hH hF (fun t z => XT.pop (g := mkF m pc A _) X.here hx rfl hd rfl rfl z)
    · cases h
  | getfield k =>
    obtain rfl : len = 3 := by simpa [lenOk] using hlen
    simp only [xI] at h
    split at h
    · rename_i o S0
      obtain ⟨ad, S1, g1, rfl, h1⟩ := hS.ref
      split at h
      · rename_i c0 fs hc0
        split at h
        · rename_i ec
          subst ec
          obtain ⟨ad', g2, cd, q1, q2, q3, q4⟩ := hH.at hc0
          rw [g1] at g2; cases g2
          have hcd := cid_of hP hdm q1
          have core : ∀ v, fs[a]? = some v → ∃ w T2, VR ρ v w ∧ Stand p l e R s m args below meth c T2 locs cells slots ∧ T2.heap = T.heap ∧ ∀ target, Steps p.tables e below (T2.setTop (mkF m (pc + 3) A (w :: S1))) target → Steps p.tables e below (T.setTop (mkF m pc A (.ref ad :: S1))) target := fun v hv => by
            have ha : a < cd.2.2.length := by rw [← q3]; exact (List.getElem?_eq_some_iff.mp hv).1
            obtain ⟨w, hvw, F⟩ := q4 a v _ hv (List.getElem?_eq_getElem ha)
            have w1 := hWi (.fieldLink d.name.cls k d.name.cls cd.2.2[a].1 cd.2.2[a].2.1) (by
              show _ ∈ fLink P d k a
              unfold fLink
              rw [fieldOf_spec q1 (List.getElem?_eq_getElem ha)]
              exact List.mem_singleton.mpr rfl)
            rw [hcd] at F
            obtain ⟨T2, X2, e2, st2⟩ := getF X hx hZ hown (host := "") (Or.inl w1) Via.refl rfl F (g := mkF m pc A (.ref ad :: S1)) rfl rfl hd
            exact ⟨w, T2, hvw, X2, e2, st2⟩
          split at h
          · rename_i x hv
            cases h
            obtain ⟨w, T2, hvw, X2, e2, st2⟩ := core _ hv
            exact Nxt.mem X2 rfl hL ⟨_, _, rfl, hvw, h1⟩ (by rw [e2]; exact hH) hF st2
          · rename_i x hv
            cases h
            obtain ⟨w, T2, hvw, X2, e2, st2⟩ := core _ hv
            exact Nxt.mem X2 rfl hL ⟨_, _, rfl, hvw, h1⟩ (by rw [e2]; exact hH) hF st2
          · rename_i x hv
            cases h
            obtain ⟨w, T2, hvw, X2, e2, st2⟩ := core _ hv
            exact Nxt.mem X2 rfl hL ⟨_, _, rfl, hvw, h1⟩ (by rw [e2]; exact hH) hF st2
          · cases h
        · cases h
      · cases h
    · cases h
  | putfield k =>
    obtain rfl : len = 3 := by simpa [lenOk] using hlen
    simp only [xI] at h
    split at h
    · rename_i v o S0
      obtain ⟨w, Sx, rfl, hvw, hS1⟩ := hS
      obtain ⟨ad, S1, g1, rfl, h1⟩ := hS1.ref
      split at h
      · rename_i c0 fs hc0
        split at h
        · rename_i ec
          obtain ⟨ec, enr⟩ := ec
          subst ec
          split at h
          · rename_i nm ds ty fin hf
            split at h
            · rename_i hok
              cases h
              simp only [Bool.and_eq_true] at hok
              obtain ⟨hok, hfin⟩ := hok
              obtain ⟨ad', g2, cd, q1, q2, q3, q4⟩ := hH.at hc0
              rw [g1] at g2; cases g2
              have hcd := cid_of hP hdm q1
              rw [q1] at hf
              have hf' : cd.2.2[a]? = some (nm, ds, ty, fin) := hf
              have ha : a < fs.length := by rw [q3]; exact (List.getElem?_eq_some_iff.mp hf').1
              obtain ⟨w0, -, F⟩ := q4 a _ _ (List.getElem?_eq_getElem ha) hf'
              have w1 := hWi (.fieldLink d.name.cls k d.name.cls nm ds) (by
                show _ ∈ fLink P d k a
                unfold fLink
                rw [fieldOf_spec q1 hf']
                exact List.mem_singleton.mpr rfl)
              have hcm : cd ∈ P.cls := List.mem_of_getElem? q1
              have w2 := hW _ (in_wordsC hcm (fWord_in (List.mem_of_getElem? hf')))
              have w3 := hW (.instantiable cd.1 cd.2.1) (in_wordsC hcm (List.mem_cons_self ..))
              have hck := cChk_of hP hcm
              have hck' := hck
              simp only [cChk, Bool.and_eq_true, List.all_eq_true] at hck'
              have f1 := hck'.2 _ (List.mem_of_getElem? hf')
              simp only [fChk, Bool.and_eq_true, decide_eq_true_eq] at f1
              obtain ⟨p1, p2⟩ := putOk_sim hok hvw
              have Ly : (Jvm.Cond.lays cd.1 cd.1 nm ds).before a0 Z = true ∨ ((Jvm.Cond.laysFinal cd.1 cd.1 nm ds).before a0 Z = true ∧ d.name.cls = cd.1 ∧ meth.name = "<init>") := by
                unfold fWord at w2
                cases fin with
                | false => exact Or.inl w2
                | true => exact Or.inr ⟨w2, hcd.symm, by rw [hnm]; simpa using hfin⟩
              obtain ⟨T2, h2, X2, e2, W2, st2⟩ := putF X hx hZ hown (host := "") (R0 := d.name.cls) (O := cd.1) (Or.inl w1) (by rw [hcd]; exact Via.refl) rfl F q2 Ly w3 f1.1 p1 p2 (g := mkF m pc A (w :: .ref ad :: S1)) rfl rfl hd
              have hH2 := hH.putF (a0 := a0) g1 hc0 q1 hf' hck (fun f hfm => hW _ (in_wordsC hcm (fWord_in hfm))) W2 hvw
              exact Nxt.mem X2 rfl hL h1 (by rw [e2]; exact hH2) (Fr.snoc X2 hF (hH.2.2.2.1 _ _ g1 enr)) st2
            · cases h
          · cases h
        · cases h
      · cases h
    · cases h
  | iaload =>
    obtain rfl : len = 1 := by simpa [lenOk] using hlen
    simp only [xI] at h
    split at h
    · rename_i j o S0
      obtain ⟨S1, rfl, h1⟩ := hS.int
      obtain ⟨ad, S2, g1, rfl, h2⟩ := h1.ref
      split at h
      · rename_i B hc0
        obtain ⟨x, q, e1⟩ := Option.map_eq_some_iff.mp h
        cases e1
        obtain ⟨hj, hat⟩ := rdA_spec q
        obtain ⟨ad', g2, cl, Ar, z1, z2, z3⟩ := hH.at hc0
        rw [g1] at g2; cases g2
        have hin : ¬ (j < 0 ∨ cl.slots.size ≤ j.toNatClampNeg) := by
          have := (List.getElem?_eq_some_iff.mp hat).1
          rintro (y | y)
          · exact hj y
          · omega
        exact Nxt.pure X rfl hL ⟨_, _, rfl, rfl, h2⟩ hH hF (fun t z => X.iaload hx (j := j) (v := .int x) Ar.1 (State.isArrayOf_alike hZ.alike Ar.2.1) Ar.2.2 hin (z3 _ _ hat) (g := mkF m pc A _) rfl rfl hd t z)
      · cases h
    · cases h
  | baload =>
    obtain rfl : len = 1 := by simpa [lenOk] using hlen
    simp only [xI] at h
    split at h
    · rename_i j o S0
      obtain ⟨S1, rfl, h1⟩ := hS.int
      obtain ⟨ad, S2, g1, rfl, h2⟩ := h1.ref
      split at h
      · rename_i B hc0
        obtain ⟨x, q, e1⟩ := Option.map_eq_some_iff.mp h
        cases e1
        obtain ⟨hj, hat⟩ := rdA_spec q
        obtain ⟨ad', g2, cl, Ar, z1, z2, z3⟩ := hH.at hc0
        rw [g1] at g2; cases g2
        have hin : ¬ (j < 0 ∨ cl.slots.size ≤ j.toNatClampNeg) := by
          have := (List.getElem?_eq_some_iff.mp hat).1
          rintro (y | y)
          · exact hj y
          · omega
        exact Nxt.pure X rfl hL ⟨_, _, rfl, rfl, h2⟩ hH hF (fun t z => X.baloadBooleans hx (j := j) (v := .int x) Ar.1 (State.isArrayOf_alike hZ.alike Ar.2.1) Ar.2.2 hin (z3 _ _ hat) (g := mkF m pc A _) rfl rfl hd t z)
      · cases h
    · cases h
  | laload =>
    obtain rfl : len = 1 := by simpa [lenOk] using hlen
    simp only [xI] at h
    split at h
    · rename_i j o S0
      obtain ⟨S1, rfl, h1⟩ := hS.int
      obtain ⟨ad, S2, g1, rfl, h2⟩ := h1.ref
      split at h
      · rename_i B hc0
        obtain ⟨x, q, e1⟩ := Option.map_eq_some_iff.mp h
        cases e1
        obtain ⟨hj, hat⟩ := rdA_spec q
        obtain ⟨ad', g2, cl, Ar, z1, z2, z3⟩ := hH.at hc0
        rw [g1] at g2; cases g2
        have hin : ¬ (j < 0 ∨ cl.slots.size ≤ j.toNatClampNeg) := by
          have := (List.getElem?_eq_some_iff.mp hat).1
          rintro (y | y)
          · exact hj y
          · omega
        exact Nxt.pure X rfl hL ⟨_, _, rfl, rfl, h2⟩ hH hF (fun t z => X.laload hx (j := j) (v := .long x) Ar.1 (State.isArrayOf_alike hZ.alike Ar.2.1) Ar.2.2 hin (z3 _ _ hat) (g := mkF m pc A _) rfl rfl hd t z)
      · cases h
    · cases h
  | iastore =>
    obtain rfl : len = 1 := by simpa [lenOk] using hlen
    simp only [xI] at h
    split at h
    · rename_i x j o S0
      obtain ⟨S1, rfl, h1⟩ := hS.int
      obtain ⟨S2, rfl, h2⟩ := h1.int
      obtain ⟨ad, S3, g1, rfl, h3⟩ := h2.ref
      split at h
      · rename_i B hc0
        split at h
        · rename_i enr
          obtain ⟨B', q, e1⟩ := Option.map_eq_some_iff.mp h
          cases e1
          obtain ⟨hj, hlt, rfl⟩ := wrA_spec q
          obtain ⟨ad', g2, cl, Ar, z1, z2, z3⟩ := hH.at hc0
          rw [g1] at g2; cases g2
          have hin : ¬ (j < 0 ∨ cl.slots.size ≤ j.toNatClampNeg) := by
            rintro (y | y)
            · exact hj y
            · omega
          obtain ⟨T2, h2', X2, e2, W2, st2⟩ := stI X hx hZ rfl Ar (j := j) (x := x) hin (g := mkF m pc A _) rfl rfl hd
          exact Nxt.mem X2 rfl hL h3 (by rw [e2]; exact hH.wrI g1 hc0 W2) (Fr.snoc X2 hF (hH.2.2.2.1 _ _ g1 enr)) st2
        · cases h
      · cases h
    · cases h
  | bastore =>
    obtain rfl : len = 1 := by simpa [lenOk] using hlen
    simp only [xI] at h
    split at h
    · rename_i x j o S0
      obtain ⟨S1, rfl, h1⟩ := hS.int
      obtain ⟨S2, rfl, h2⟩ := h1.int
      obtain ⟨ad, S3, g1, rfl, h3⟩ := h2.ref
      split at h
      · rename_i B hc0
        split at h
        · rename_i enr
          obtain ⟨B', q, e1⟩ := Option.map_eq_some_iff.mp h
          cases e1
          obtain ⟨hj, hlt, rfl⟩ := wrA_spec q
          obtain ⟨ad', g2, cl, Ar, z1, z2, z3⟩ := hH.at hc0
          rw [g1] at g2; cases g2
          have hin : ¬ (j < 0 ∨ cl.slots.size ≤ j.toNatClampNeg) := by
            rintro (y | y)
            · exact hj y
            · omega
          obtain ⟨T2, h2', X2, e2, W2, st2⟩ := stZ X hx hZ rfl Ar (j := j) (x := x) hin (g := mkF m pc A _) rfl rfl hd
          exact Nxt.mem X2 rfl hL h3 (by rw [e2]; exact hH.wrI g1 hc0 W2) (Fr.snoc X2 hF (hH.2.2.2.1 _ _ g1 enr)) st2
        · cases h
      · cases h
    · cases h
  | lastore =>
    obtain rfl : len = 1 := by simpa [lenOk] using hlen
    simp only [xI] at h
    split at h
    · rename_i x j o S0
      obtain ⟨S1, rfl, h1⟩ := hS.long
      obtain ⟨S2, rfl, h2⟩ := h1.int
      obtain ⟨ad, S3, g1, rfl, h3⟩ := h2.ref
      split at h
      · rename_i B hc0
        split at h
        · rename_i enr
          obtain ⟨B', q, e1⟩ := Option.map_eq_some_iff.mp h
          cases e1
          obtain ⟨hj, hlt, rfl⟩ := wrA_spec q
          obtain ⟨ad', g2, cl, Ar, z1, z2, z3⟩ := hH.at hc0
          rw [g1] at g2; cases g2
          have hin : ¬ (j < 0 ∨ cl.slots.size ≤ j.toNatClampNeg) := by
            rintro (y | y)
            · exact hj y
            · omega
          obtain ⟨T2, h2', X2, e2, W2, st2⟩ := stJ X hx hZ rfl Ar (j := j) (x := x) hin (g := mkF m pc A _) rfl rfl hd
          exact Nxt.mem X2 rfl hL h3 (by rw [e2]; exact hH.wrJ g1 hc0 W2) (Fr.snoc X2 hF (hH.2.2.2.1 _ _ g1 enr)) st2
        · cases h
      · cases h
    · cases h
  | arraylength =>
    obtain rfl : len = 1 := by simpa [lenOk] using hlen
    simp only [xI] at h
    split at h
    · rename_i o S0
      obtain ⟨ad, S1, g1, rfl, h1⟩ := hS.ref
      split at h
      · rename_i bb B hc0
        cases h
        obtain ⟨ad', g2, cl, Ar, z1, z2, z3⟩ := hH.at hc0
        rw [g1] at g2; cases g2
        exact Nxt.pure X rfl hL ⟨_, _, rfl, rfl, h1⟩ hH hF (fun t z => X.arraylength hx (cell := cl) Ar.1 (State.isArrayOf_alike hZ.alike Ar.2.1) (g := mkF m pc A _) rfl rfl hd t (by rw [z1]; exact z))
      · cases h
    · cases h
  | _ => simp [xI] at h
set_option maxHeartbeats 4000000 in
theorem stepN (X : Stand p l e R s m args below meth c T locs cells slots) (hx : p.tables.exec = Jvm.exec) (hZ : Z.Warmed39 s.vm) (hown : s.vm.findClass d.name.cls = some m.cls) (hP : chk P = true) (hW : ∀ w ∈ wordsOf P, w.before a0 Z = true) (hdm : d ∈ P.mth)
    {pc len a ks : Nat} {er : List Bool} {b : Int} {i : Instr} (hit : (pc, i, len, er, a, b) ∈ d.code) (hd : decode c.code pc = .ok (i, len)) (hlen : lenOk i len = true) {ρ : List Addr} {S S' Sc : List Value} {H H1 : AHeap} {A : Array Slot}
    (hS : SR ρ S Sc) (hH : HR P Z n0 T.heap ρ H) (h : xN P i a S H = some (S', H1, ks)) (hc : cells + 1 ≤ R.cells) (hl : slots + ks ≤ R.slots) :
    ∃ T' ad Sc', Stand p l e R s m args below meth c T' locs (cells + 1) (slots + ks) ∧ SR (ρ ++ [ad]) S' Sc' ∧ HR P Z n0 T'.heap (ρ ++ [ad]) H1 ∧
      ∀ target, Steps p.tables e below (T'.setTop (mkF m (pc + len) A Sc')) target → Steps p.tables e below (T.setTop (mkF m pc A Sc)) target := by
  have hWi : ∀ w ∈ iWords P d (pc, i, len, er, a, b), w.before a0 Z = true := fun w q => hW w (in_wordsOf hdm hit q)
  cases i with
  | new k =>
    obtain rfl : len = 3 := by simpa [lenOk] using hlen
    simp only [xN] at h
    split at h
    · rename_i cd q1
      cases h
      have hcm : cd ∈ P.cls := List.mem_of_getElem? q1
      have w1 := hWi (.classLink d.name.cls k cd.1) (by simp only [iWords, q1]; exact List.mem_singleton.mpr rfl)
      have w2 := hW (.instantiable cd.1 cd.2.1) (in_wordsC hcm (List.mem_cons_self ..))
      have w3 := hW (.initialized cd.1) (in_wordsC hcm (List.mem_cons_of_mem _ (List.mem_cons_self ..)))
      obtain ⟨T2, h2, X2, e2, E2, A2, D2, -, st2⟩ := newO X hx hZ hown w1 w2 w3 rfl (g := mkF m pc A Sc) rfl hd hc hl
      have hck := cChk_of hP hcm
      simp only [cChk, Bool.and_eq_true, List.all_eq_true] at hck
      have hcr : CR P Z h2 (ρ ++ [T.heap.size]) T.heap.size (.inl (a, cd.2.2.map fun f => dflt f.2.2.1)) := by
        refine ⟨cd, q1, A2, by simp, fun j v fd y1 y2 => ?_⟩
        rw [List.getElem?_map, y2] at y1
        cases y1
        have f1 := hck.2 _ (List.mem_of_getElem? y2)
        simp only [fChk, Bool.and_eq_true, decide_eq_true_eq] at f1
        exact ⟨_, dflt_sim f1.2, D2 (laid_of (hW _ (in_wordsC hcm (fWord_in (List.mem_of_getElem? y2))))) f1.1⟩
      refine ⟨T2, T.heap.size, _, X2, ⟨_, _, rfl, ⟨T.heap.size, ?_, rfl⟩, hS.mono⟩, (by rw [e2]; exact hH.push E2 hcr), st2⟩
      rw [← hH.2.1]; simp
    · cases h
  | newarray t =>
    obtain rfl : len = 2 := by simpa [lenOk] using hlen
    simp only [xN] at h
    split at h
    · rename_i n S0
      obtain ⟨S1, rfl, h1⟩ := hS.int
      split at h
      · cases h
      · rename_i hn
        have hn1 : ¬ n < 0 := fun z => hn (Or.inl z)
        have hn2 : n.toNatClampNeg ≤ 100000 := Nat.le_of_not_lt fun z => hn (Or.inr z)
        have w1 := hWi (.arrayClass (newarray.typeOf t)) (List.mem_singleton.mpr rfl)
        have top : (ρ ++ [T.heap.size])[H.length]? = some T.heap.size := by rw [← hH.2.1]; simp
        split at h
        · cases h
          obtain ⟨T2, h2, cA, X2, e2, E2, A2, st2⟩ := newP X hx hZ w1 rfl (g := mkF m pc A _) rfl hd rfl hn1 (cap := n.toNatClampNeg) (Nat.le_refl _) (by omega) hc hl
          have hcr : CR P Z h2 (ρ ++ [T.heap.size]) T.heap.size ((.inr (.inl (false, List.replicate n.toNatClampNeg 0)) : ACell)) := by
            refine ⟨_, A2, by simp [sz_new], by simp; omega, fun j x y => ?_⟩
            rw [List.getElem?_replicate] at y
            split at y
            · rename_i lt
              cases y
              simp [newA, lt, newarray.typeOf, defaultValue]
            · cases y
          exact ⟨T2, T.heap.size, _, X2, ⟨_, _, rfl, ⟨T.heap.size, top, rfl⟩, h1.mono⟩, (by rw [e2]; exact hH.push E2 hcr), st2⟩
        · cases h
          obtain ⟨T2, h2, cA, X2, e2, E2, A2, st2⟩ := newP X hx hZ w1 rfl (g := mkF m pc A _) rfl hd rfl hn1 (cap := n.toNatClampNeg) (Nat.le_refl _) (by omega) hc hl
          have hcr : CR P Z h2 (ρ ++ [T.heap.size]) T.heap.size ((.inr (.inl (true, List.replicate n.toNatClampNeg 0)) : ACell)) := by
            refine ⟨_, A2, by simp [sz_new], by simp; omega, fun j x y => ?_⟩
            rw [List.getElem?_replicate] at y
            split at y
            · rename_i lt
              cases y
              simp [newA, lt, newarray.typeOf, defaultValue]
            · cases y
          exact ⟨T2, T.heap.size, _, X2, ⟨_, _, rfl, ⟨T.heap.size, top, rfl⟩, h1.mono⟩, (by rw [e2]; exact hH.push E2 hcr), st2⟩
        · cases h
          obtain ⟨T2, h2, cA, X2, e2, E2, A2, st2⟩ := newP X hx hZ w1 rfl (g := mkF m pc A _) rfl hd rfl hn1 (cap := n.toNatClampNeg) (Nat.le_refl _) (by omega) hc hl
          have hcr : CR P Z h2 (ρ ++ [T.heap.size]) T.heap.size ((.inr (.inr (List.replicate n.toNatClampNeg 0)) : ACell)) := by
            refine ⟨_, A2, by simp [sz_new], by simp; omega, fun j x y => ?_⟩
            rw [List.getElem?_replicate] at y
            split at y
            · rename_i lt
              cases y
              simp [newA, lt, newarray.typeOf, defaultValue]
            · cases y
          exact ⟨T2, T.heap.size, _, X2, ⟨_, _, rfl, ⟨T.heap.size, top, rfl⟩, h1.mono⟩, (by rw [e2]; exact hH.push E2 hcr), st2⟩
        · cases h
    · cases h
  | _ => simp [xN] at h
end Step
end Jvm.Own
namespace Jvm.Own
open Jvm Jvm.ClassFile Sem Op Lib Jvm.Free Jvm.Stand Jvm.LawKit Jvm.RoadKit Bundle
theorem fetch_mem : ∀ {l : List (Nat × It)} {pc : Nat} {i : It}, fetch l pc = some i → (pc, i) ∈ l
  | [], _, _, h => by simp [fetch] at h
  | (q, j) :: r, pc, i, h => by
    unfold fetch at h
    split at h
    · rename_i e; cases h; subst e; exact List.mem_cons_self ..
    · exact List.mem_cons_of_mem _ (fetch_mem h)
theorem tgt_spec {pc q : Nat} {o : Int} (h : tgt pc o = some q) : 0 ≤ (pc : Int) + o ∧ ((pc : Int) + o).toNat = q := by
  unfold tgt at h
  split at h
  · rename_i z; cases h; exact ⟨z, rfl⟩
  · cases h
/-- the end of a method's run -/
def Done (P : PD) (Z : State) (n0 : Nat) (p : Program) (e : Env) (below : List Frame) (s : State) (ρ : List Addr) (v : Option Value) (H' : AHeap) (kc ks : Nat) (t0 : State) : Prop :=
  ∃ s₂ v' L' t, Steps p.tables e below t0 s₂ ∧ s₂.status = .running ∧ Ended s₂ below (.returned v') ∧ OV (ρ ++ t) v v' ∧ HR P Z n0 s₂.heap (ρ ++ t) H' ∧ Fr n0 L' ∧ FrameEnd s (.returned v') s₂ L' kc ks
def Cx (P : PD) (Z : State) (p : Program) (R : Room) (s : State) (m : MethodId) (meth : Method) (c : Code) (d : MD) : Prop :=
  p.tables.exec = Jvm.exec ∧ Z.Warmed39 s.vm ∧ c.code = d.bytes ∧ c.maxLocals = d.maxL ∧ s.vm.findClass d.name.cls = some m.cls ∧ meth.name = d.name.name ∧ meth.sig.returnType = d.ret ∧ meth.locks = false ∧ d.rf ≤ R.frames ∧ d.rw ≤ R.locals
/-- what the machine says of a run that has come to pc is what the model does -/
def Says (P : PD) (Z : State) (n0 : Nat) (l : Launch) (n : Nat) : Prop :=
  ∀ (mi pc : Nat) (L : List Slot) (S : List Value) (H : AHeap) (v : Option Value) (H' : AHeap) (kc ks : Nat), exe P n mi pc L S H = some (v, H', kc, ks) → ∀ d, P.mth[mi]? = some d →
    ∀ (p : Program) (e : Env) (R : Room) (s : State) (m : MethodId) (args : Array Value) (below : List Frame) (meth : Method) (c : Code) (T : State) (locs : List Loc) (cells slots : Nat),
      Stand p l e R s m args below meth c T locs cells slots → Cx P Z p R s m meth c d → cells + kc ≤ R.cells → slots + ks ≤ R.slots →
      ∀ (ρ : List Addr) (A : Array Slot) (Sc : List Value), LR ρ L A → L.length = d.maxL → SR ρ S Sc → HR P Z n0 T.heap ρ H → Fr n0 locs →
        Done P Z n0 p e below s ρ v H' (cells + kc) (slots + ks) (T.setTop (mkF m pc A Sc))
def QQ (P : PD) (Z : State) (n0 : Nat) (ρ : List Addr) (v : Option Value) (H1 : AHeap) (v' : Option Value) (h' : Heap) (L : List Loc) : Prop := Fr n0 L ∧ ∃ t, OV (ρ ++ t) v v' ∧ HR P Z n0 h' (ρ ++ t) H1
theorem met_of {P : PD} {Z : State} {n0 : Nat} {l : Launch} {n : Nat} (ih : Says P Z n0 l n) {j : Nat} {y : MD} (hy : P.mth[j]? = some y) (hpn : plainName y.name.cls = true) {as ws : List Value} {H H1 : AHeap} {v : Option Value} {kc ks : Nat} (he : exe P n j 0 (entL as y.maxL) [] H = some (v, H1, kc, ks)) {ρ : List Addr} (hS : SR ρ as ws) (hlen : (entA as).length ≤ y.maxL) {h : Heap} (hH : HR P Z n0 h ρ H) (w0 : List Jvm.Cond) (rm : Room) (r1 : y.rf ≤ rm.frames) (r2 : y.rw ≤ rm.locals) (r3 : kc ≤ rm.cells) (r4 : ks ≤ rm.slots) :
    MetFree l y.name (head1 (Jvm.Cond.code y.name y.bytes y.maxL y.ret :: w0) rm) (fun a U => a = ws.toArray ∧ Z.Warmed39 U.vm ∧ U.heap = h) (fun _ _ _ _ _ => True)
      (fun _ U o U' => ∃ v' L, o = .returned v' ∧ QQ P Z n0 ρ v H1 v' U'.heap L ∧ FrameEnd U o U' L kc ks) := by
  refine MetFree.of_bodySF (plainFor_of_name hpn) hisR ?_
  intro p e s m args below meth c s₁ Bd hml0 hP hK
  obtain ⟨rfl, hZ, hh⟩ := hP
  have X0 : Stand p l e rm s m ws.toArray below meth c s₁ [] 0 0 := Stand.of_body Bd
  have e0 : s₁.heap = h := by rw [← hh, Bd.state]; rfl
  obtain ⟨hL, hsz⟩ := LR.enter hS hlen
  have hLl : (entL as y.maxL).length = y.maxL := by rw [← hL.1]; exact hsz
  obtain ⟨s₂, v', L', t, h1, h2, h3, h4, h5, h6, h7⟩ := ih j 0 _ [] H v H1 kc ks he y hy p e _ s m ws.toArray below meth c s₁ [] 0 0 X0
    ⟨Bd.exec, hZ, Bd.bytes, hml0, findClass_of_methodNamed Bd.named, (name_of_methodNamed Bd.named Bd.method).1, Bd.returns, BodyLoose.notSynchronized Bd, r1, r2⟩
    (by rw [Nat.zero_add]; exact r3) (by rw [Nat.zero_add]; exact r4) ρ _ [] hL hLl rfl (by rw [e0]; exact hH) (Fr.nil n0)
  refine ⟨s₂, _, h1, h2, h3, v', L', rfl, ⟨h6, t, h4, h5⟩, ?_⟩
  rw [Nat.zero_add, Nat.zero_add] at h7
  exact h7
section Sound
variable {P : PD} {Z : State} {n0 : Nat} {a0 : Array Value} {l : Launch}
theorem Done.step {p : Program} {e : Env} {below : List Frame} {s : State} {ρ t : List Addr} {v : Option Value} {H' : AHeap} {kc ks : Nat} {t0 t1 : State} (h : Done P Z n0 p e below s (ρ ++ t) v H' kc ks t1) (k : ∀ target, Steps p.tables e below t1 target → Steps p.tables e below t0 target) : Done P Z n0 p e below s ρ v H' kc ks t0 := by
  obtain ⟨s₂, v', L', t', h1, h2, h3, h4, h5, h6, h7⟩ := h
  exact ⟨s₂, v', L', t ++ t', k _ h1, h2, h3, by rw [← List.append_assoc]; exact h4, by rw [← List.append_assoc]; exact h5, h6, h7⟩
theorem argsOf_spec {n : Nat} {S as rest : List Value} (h : argsOf n S = some (as, rest)) : n ≤ S.length ∧ as = (S.take n).reverse ∧ rest = S.drop n := by
  unfold argsOf at h
  split at h
  · rename_i z; cases h; exact ⟨z, rfl, rfl⟩
  · cases h
theorem res_ext {α : Type} {o : Option Res} {v : Option Value} {H' : AHeap} {kc ks c1 s1 : Nat} (h : (o.map fun r => addR r c1 s1) = some (v, H', kc, ks)) : ∃ kc' ks', o = some (v, H', kc', ks') ∧ kc = kc' + c1 ∧ ks = ks' + s1 := by
  obtain ⟨⟨v0, H0, c0, s0⟩, h1, h2⟩ := Option.map_eq_some_iff.mp h
  simp only [addR] at h2
  cases h2
  exact ⟨c0, s0, h1, rfl, rfl⟩
set_option maxHeartbeats 4000000 in
theorem sound (hP : chk P = true) (hW : ∀ w ∈ wordsOf P, w.before a0 Z = true) : ∀ n, Says P Z n0 l n
  | 0 => fun mi pc L S H v H' kc ks h => by simp [exe] at h
  | n + 1 => by
    have ih := sound hP hW n
    intro mi pc L S H v H' kc ks h d hmi
    unfold exe at h
    rw [hmi] at h
    simp only at h
    have hdm : d ∈ P.mth := List.mem_of_getElem? hmi
    split at h
    · cases h
    rename_i it i len er a b hft
    have hit := fetch_mem hft
    have hmc := mChk_of hP hdm
    simp only [mChk, Bool.and_eq_true] at hmc
    obtain ⟨⟨⟨⟨⟨⟨mc1, mc2⟩, mc3⟩, mc4⟩, mc5⟩, mc6⟩, mc7⟩ := hmc
    unfold codeChk at mc3
    rw [List.all_eq_true] at mc3
    have hci := mc3 _ hit
    simp only [Bool.and_eq_true, decide_eq_true_eq] at hci
    obtain ⟨hdec, hlenOk⟩ := hci
    -- a jump, or a fall through
    have jump : ∀ (q : Nat) (S1 : List Value) (h1 : exe P n mi q (forget er L) S1 H = some (v, H', kc, ks)),
        (∀ (p : Program) (e : Env) (R : Room) (s : State) (m : MethodId) (args : Array Value) (below : List Frame) (meth : Method) (c : Code) (T : State) (locs : List Loc) (cells slots : Nat),
          Stand p l e R s m args below meth c T locs cells slots → Cx P Z p R s m meth c d → ∀ (ρ : List Addr) (A : Array Slot) (Sc : List Value), LR ρ L A → SR ρ S Sc → ∃ Sc1, SR ρ S1 Sc1 ∧ ∀ target, Steps p.tables e below (T.setTop (mkF m q A Sc1)) target → Steps p.tables e below (T.setTop (mkF m pc A Sc)) target) →
        ∀ (p : Program) (e : Env) (R : Room) (s : State) (m : MethodId) (args : Array Value) (below : List Frame) (meth : Method) (c : Code) (T : State) (locs : List Loc) (cells slots : Nat),
          Stand p l e R s m args below meth c T locs cells slots → Cx P Z p R s m meth c d → cells + kc ≤ R.cells → slots + ks ≤ R.slots →
          ∀ (ρ : List Addr) (A : Array Slot) (Sc : List Value), LR ρ L A → L.length = d.maxL → SR ρ S Sc → HR P Z n0 T.heap ρ H → Fr n0 locs →
            Done P Z n0 p e below s ρ v H' (cells + kc) (slots + ks) (T.setTop (mkF m pc A Sc)) := by
      intro q S1 h1 st p e R s m args below meth c T locs cells slots X cx k1 k2 ρ A Sc hL hLl hS hH hF
      obtain ⟨Sc1, hS1, st1⟩ := st p e R s m args below meth c T locs cells slots X cx ρ A Sc hL hS
      have := ih mi q _ S1 H v H' kc ks h1 d hmi p e R s m args below meth c T locs cells slots X cx k1 k2 ρ A Sc1 (hL.forget er) (by rw [forget_len]; exact hLl) hS1 hH hF
      exact Done.step (t := []) (by rw [List.append_nil]; exact this) st1
    have dec : ∀ {c : Code}, c.code = d.bytes → decode c.code pc = .ok (i, len) := fun hc => by rw [hc]; exact hdec
    split at h
    · -- goto
      rename_i o
      split at h
      · rename_i q hq
        obtain ⟨t1, t2⟩ := tgt_spec hq
        have m3 := jump q S h
        obtain rfl : len = 3 := by simpa [lenOk] using hlenOk
        exact m3 fun p e R s m args below meth c T locs cells slots X cx ρ A Sc hL hS => ⟨Sc, hS, fun t z => XS.goto (g := mkF m pc A Sc) X.here cx.1 rfl (pc0 := pc) (pc' := q) rfl (dec cx.2.2.1) t1 t2 z⟩
      · cases h
    · -- if_icmp
      rename_i cd o
      split at h
      · rename_i y x S1
        obtain rfl : len = 3 := by simpa [lenOk] using hlenOk
        split at h
        · rename_i hc
          split at h
          · rename_i q hq
            obtain ⟨t1, t2⟩ := tgt_spec hq
            have m3 := jump q S1 h
            exact m3 fun p e R s m args below meth c T locs cells slots X cx ρ A Sc hL hS => by
              obtain ⟨Sa, rfl, ha⟩ := hS.int
              obtain ⟨Sb, rfl, hb⟩ := ha.int
              exact ⟨Sb, hb, fun t z => XS.icmpYes (g := mkF m pc A _) X.here cx.1 rfl (pc0 := pc) (pc' := q) rfl (dec cx.2.2.1) rfl hc t1 t2 z⟩
          · cases h
        · rename_i hc
          have m3 := jump (pc + 3) S1 h
          exact m3 fun p e R s m args below meth c T locs cells slots X cx ρ A Sc hL hS => by
            obtain ⟨Sa, rfl, ha⟩ := hS.int
            obtain ⟨Sb, rfl, hb⟩ := ha.int
            exact ⟨Sb, hb, fun t z => XS.icmpNo (g := mkF m pc A _) X.here cx.1 rfl (dec cx.2.2.1) rfl (by simpa using hc) z⟩
      · cases h
    · -- ifCond
      rename_i cd o
      split at h
      · rename_i x S1
        obtain rfl : len = 3 := by simpa [lenOk] using hlenOk
        split at h
        · rename_i hc
          split at h
          · rename_i q hq
            obtain ⟨t1, t2⟩ := tgt_spec hq
            have m3 := jump q S1 h
            exact m3 fun p e R s m args below meth c T locs cells slots X cx ρ A Sc hL hS => by
              obtain ⟨Sa, rfl, ha⟩ := hS.int
              exact ⟨Sa, ha, fun t z => XS.ifYes (g := mkF m pc A _) X.here cx.1 rfl (pc0 := pc) (pc' := q) rfl (dec cx.2.2.1) rfl hc t1 t2 z⟩
          · cases h
        · rename_i hc
          have m3 := jump (pc + 3) S1 h
          exact m3 fun p e R s m args below meth c T locs cells slots X cx ρ A Sc hL hS => by
            obtain ⟨Sa, rfl, ha⟩ := hS.int
            exact ⟨Sa, ha, fun t z => XS.ifNo (g := mkF m pc A _) X.here cx.1 rfl (dec cx.2.2.1) rfl (by simpa using hc) z⟩
      · cases h
    · -- ifnonnull
      rename_i o
      split at h
      · rename_i x S1
        split at h
        · rename_i q hq
          obtain ⟨t1, t2⟩ := tgt_spec hq
          have m3 := jump q S1 h
          obtain rfl : len = 3 := by simpa [lenOk] using hlenOk
          exact m3 fun p e R s m args below meth c T locs cells slots X cx ρ A Sc hL hS => by
            obtain ⟨ad, Sa, -, rfl, ha⟩ := hS.ref
            exact ⟨Sa, ha, fun t z => XT.ifnonnullYes (g := mkF m pc A _) X.here cx.1 rfl (pc0 := pc) (pc' := q) rfl (dec cx.2.2.1) rfl t1 t2 z⟩
        · cases h
      · cases h
    · -- ireturn
      split at h
      · rename_i x
        split at h
        · rename_i v0 hv0
          cases h
          obtain rfl : len = 1 := by simpa [lenOk] using hlenOk
          intro p e R s m args below meth c T locs cells slots X cx k1 k2 ρ A Sc hL hLl hS hH hF
          obtain ⟨hx, hZ, hby, hml, hown, hnm, hret, hlk, -, -⟩ := cx
          obtain ⟨Sa, rfl, ha⟩ := hS.int
          unfold retV at hv0
          split at hv0
          · rename_i hr0
            cases hv0
            obtain ⟨fs, hr, hrun, hended, hWm, hsame⟩ := X.leave (v := some (.int x)) (fun q => by rw [hret, hr0] at q; cases q) hlk
            exact ⟨_, _, locs, [], retI X hx (by rw [hret, hr0]) (dec hby) hr, hrun, hended, ⟨_, rfl, rfl⟩, by rw [List.append_nil]; exact hH, hF, ⟨_, rfl⟩, hWm, hsame⟩
          · rename_i hr0
            cases hv0
            obtain ⟨fs, hr, hrun, hended, hWm, hsame⟩ := X.leave (v := some (.int (x &&& 1))) (fun q => by rw [hret, hr0] at q; cases q) hlk
            exact ⟨_, _, locs, [], retN X hx (t := .boolean) (by rw [hret, hr0]) (by simp) (dec hby) hr, hrun, hended, ⟨_, rfl, rfl⟩, by rw [List.append_nil]; exact hH, hF, ⟨_, rfl⟩, hWm, hsame⟩
          · cases hv0
        · cases h
      · cases h
    · -- lreturn
      split at h
      · rename_i x
        split at h
        · rename_i hr0
          cases h
          obtain rfl : len = 1 := by simpa [lenOk] using hlenOk
          intro p e R s m args below meth c T locs cells slots X cx k1 k2 ρ A Sc hL hLl hS hH hF
          obtain ⟨hx, hZ, hby, hml, hown, hnm, hret, hlk, -, -⟩ := cx
          obtain ⟨Sa, rfl, ha⟩ := hS.long
          obtain rfl : Sa = [] := ha
          obtain ⟨fs, hr, hrun, hended, hWm, hsame⟩ := X.leave (v := some (.long x)) (fun q => by rw [hret, hr0] at q; cases q) hlk
          exact ⟨_, _, locs, [], X.lreturnOut hx (by rw [hret, hr0]) (dec hby) hr, hrun, hended, ⟨_, rfl, rfl⟩, by rw [List.append_nil]; exact hH, hF, ⟨_, rfl⟩, hWm, hsame⟩
        · cases h
      · cases h
    · -- return
      split at h
      · split at h
        · rename_i hr0
          cases h
          obtain rfl : len = 1 := by simpa [lenOk] using hlenOk
          intro p e R s m args below meth c T locs cells slots X cx k1 k2 ρ A Sc hL hLl hS hH hF
          obtain ⟨hx, hZ, hby, hml, hown, hnm, hret, hlk, -, -⟩ := cx
          obtain rfl : Sc = [] := hS
          obtain ⟨fs, hr, hrun, hended, hWm, hsame⟩ := X.leave (v := none) (fun _ => rfl) hlk
          exact ⟨_, _, locs, [], X.returnOut hx (by rw [hret, hr0]) (dec hby) hr, hrun, hended, rfl, by rw [List.append_nil]; exact hH, hF, ⟨_, rfl⟩, hWm, hsame⟩
        · cases h
      · cases h
    · -- a call, or a plain step
      split at h
      · rename_i hinv
        split at h
        · -- Object.<init>
          rename_i hb1
          subst hb1
          have hk : ∃ k x S1, i = .invokespecial k ∧ S = .ref x :: S1 ∧ (if 1 ≤ d.rf ∧ catSum S1 + 12 ≤ d.rw then exe P n mi (pc + 3) (forget er L) S1 H else none) = some (v, H', kc, ks) := by
            split at h
            · exact ⟨_, _, _, rfl, rfl, h⟩
            · cases h
          clear h
          obtain ⟨k, x, S1, rfl, rfl, h⟩ := hk
          · split at h
            · rename_i hroom
              have m3 := ih mi (pc + 3) _ S1 H v H' kc ks h d hmi
              obtain rfl : len = 3 := by simpa [lenOk] using hlenOk
              have hWi : ∀ w ∈ iWords P d (pc, .invokespecial k, 3, er, a, -1), w.before a0 Z = true := fun w q => hW w (in_wordsOf hdm hit q)
              have hWi' : ∀ w ∈ [Jvm.Cond.methodLink d.name.cls k Lib.objectInit, .instanceMethod Lib.objectInit, .code Lib.objectInit ⟨#[0xb1]⟩ 1 none], w.before a0 Z = true := hWi
              intro p e R s m args below meth c T locs cells slots X cx k1 k2 ρ A Sc hL hLl hS hH hF
              have cx0 := cx
              obtain ⟨hx, hZ, hby, hml, hown, hnm, hret, hlk, hrf, hrw⟩ := cx
              obtain ⟨ad, Sa, -, rfl, ha⟩ := hS.ref
              obtain ⟨T2, X2, e2, st2⟩ := initO X hx hZ hown (hWi' _ (by simp)) (hWi' _ (by simp)) (hWi' _ (by simp)) rfl (g := mkF m pc A (.ref ad :: Sa)) rfl (by rw [hml]; exact hL.1.trans hLl) rfl (dec hby) (by omega) (W := catSum S1) (by show 2 * 0 + _ ≤ _; rw [ha.cat]; omega) (by omega)
              have := m3 p e R s m args below meth c T2 locs cells slots X2 cx0 k1 k2 ρ A Sa (hL.forget er) (by rw [forget_len]; exact hLl) ha (by rw [e2]; exact hH) hF
              exact Done.step (t := []) (by rw [List.append_nil]; exact this) st2
            · cases h
        · rename_i hb1
          split at h
          · cases h
          rename_i y hy
          split at h
          · cases h
          rename_i as rest hao
          split at h
          · rename_i hcond
            simp only [Bool.and_eq_true, decide_eq_true_eq] at hcond
            obtain ⟨⟨⟨⟨hj, hik⟩, hrecv⟩, hroom⟩, hent⟩ := hcond
            split at h
            · rename_i v1 H1 c1 s1 hcal
              obtain ⟨c0, s0, hcon, rfl, rfl⟩ := res_ext (α := Unit) h
              have m3 := ih mi (pc + 3) _ _ H1 v H' c0 s0 hcon d hmi
              intro p e R s m args below meth c T locs cells slots X cx k1 k2 ρ A Sc hL hLl hS hH hF
              have cx0 := cx
              obtain ⟨hx, hZ, hby, hml, hown, hnm, hret, hlk, hrf, hrw⟩ := cx
              have hym : y ∈ P.mth := List.mem_of_getElem? hy
              have hyc := mChk_of hP hym
              simp only [mChk, Bool.and_eq_true, decide_eq_true_eq] at hyc
              obtain ⟨⟨⟨⟨⟨⟨yc1, yc2⟩, yc3⟩, yc4⟩, yc5⟩, yc6⟩, yc7⟩ := hyc
              simp only [fitsRoom, Bool.and_eq_true, decide_eq_true_eq] at hroom
              obtain ⟨hn, has, hrest⟩ := argsOf_spec hao
              have hnc : nargs y ≤ Sc.length := by rw [hS.len]; exact hn
              have hSa : SR ρ as (Sc.take (nargs y)).reverse := by rw [has]; exact (hS.take _).rev
              have hSr : SR ρ rest (Sc.drop (nargs y)) := by rw [hrest]; exact hS.drop _
              have hsplit : Sc = (Sc.take (nargs y)).reverse.reverse ++ Sc.drop (nargs y) := by rw [List.reverse_reverse, List.take_append_drop]
              obtain ⟨ws, hws⟩ : ∃ ws, ws = (Sc.take (nargs y)).reverse := ⟨_, rfl⟩
              obtain ⟨rc, hrc⟩ : ∃ rc, rc = Sc.drop (nargs y) := ⟨_, rfl⟩
              have hwl : ws.length = nargs y := by rw [hws]; simp; omega
              rw [← hws] at hSa hsplit
              rw [← hrc] at hSr hsplit
              have wcode := hW (.code y.name y.bytes y.maxL y.ret) (in_wordsM hy hj (List.mem_cons_self ..))
              have winit := hW (.initialized y.name.cls) (in_wordsM hy hj (List.mem_cons_of_mem _ (List.mem_cons_self ..)))
              have wmore : ∀ w ∈ (if y.kind = 0 then [Jvm.Cond.static y.name] else if y.kind = 1 then [.instanceMethod y.name] else if y.kind = 2 then [.instanceMethod y.name, .privateMethod y.name] else [.declares y.name, .selects y.name.cls y.name y.name, .instanceMethod y.name]), w.before a0 Z = true := fun w q => hW w (in_wordsM hy hj (List.mem_cons_of_mem _ (List.mem_cons_of_mem _ q)))
              have hMH : y.name.cls ≠ "java/lang/invoke/MethodHandle" ∧ y.name.cls ≠ "java/lang/invoke/VarHandle" := ⟨yc5, yc6⟩
              have back := backOf (W := catSum rest) (len := 3) (R := R) (p := p) (e := e) (below := below) (s := s) (args := args) (met_of ih hy yc1 hcal hSa hent hH [] ({ frames := y.rf, cells := c1, slots := s1, locals := y.rw } : Room) (Nat.le_refl _) (Nat.le_refl _) (Nat.le_refl _) (Nat.le_refl _)) hZ wcode winit (by show y.rf + 1 ≤ _; omega) (by show _ + y.rw ≤ _; omega)
              have hWW : 2 * (mkF m pc A Sc).monitorRoom + (rc.map fun v => v.category).sum ≤ catSum rest := by show 2 * 0 + _ ≤ _; rw [hSr.cat]; omega
              have hpar : ∀ sig, parseMethodDescriptor y.name.desc = some sig → sig.parameters.length = y.npar := fun sig q => by
                unfold sigChk at yc2
                rw [q] at yc2
                simpa using yc2
              have fin : ∀ (v1' : Option Value) (T2 : State) (Lc : List Loc), Stand p l e R s m args below meth c T2 (locs ++ Lc) (cells + c1) (slots + s1) → QQ P Z n0 ρ v1 H1 v1' T2.heap Lc →
                  (∀ target, Steps p.tables e below (T2.setTop (mkF m (pc + 3) A (v1'.toList ++ rc))) target → Steps p.tables e below (T.setTop (mkF m pc A Sc)) target) →
                  Done P Z n0 p e below s ρ v H' (cells + (c0 + c1)) (slots + (s0 + s1)) (T.setTop (mkF m pc A Sc)) := by
                intro v1' T2 Lc X2 hq st2
                obtain ⟨hF2, t, hov, hH2⟩ := hq
                have := m3 p e R s m args below meth c T2 (locs ++ Lc) _ _ X2 cx0 (by omega) (by omega) (ρ ++ t) A (v1'.toList ++ rc) (hL.forget er).mono (by rw [forget_len]; exact hLl) (hov.list.app hSr.mono) hH2 (hF.app hF2)
                have q1 : cells + c1 + c0 = cells + (c0 + c1) := by omega
                have q2 : slots + s1 + s0 = slots + (s0 + s1) := by omega
                rw [q1, q2] at this
                exact this.step st2
              have hcR : cells + c1 ≤ R.cells := by omega
              have hsR : slots + s1 ≤ R.slots := by omega
              cases i with
              | invokestatic k =>
                obtain rfl : len = 3 := by simpa [lenOk] using hlenOk
                have hk0 : y.kind = 0 := by simpa [invKind] using hik
                have wl := hW (.methodLink d.name.cls k y.name) (in_wordsOf hdm hit (by show _ ∈ mLink P d k a b; unfold mLink; rw [if_neg hb1, hy]; exact List.mem_singleton.mpr rfl))
                have wst := wmore (.static y.name) (by rw [if_pos hk0]; exact List.mem_singleton.mpr rfl)
                have hna : nargs y = y.npar := by simp [nargs, hk0]
                obtain ⟨v1', _, ⟨T2, L2, k2', n2⟩, -, X2, ⟨Lc, hQ, l2, y2, z2⟩, st2⟩ := Jvm.LawKit.callS X hx (y := y.name) hown (mvT hZ wl) (mvT hZ wst) (mvT hZ winit) (mvT hZ wcode) hMH back (g := mkF m pc A Sc) rfl (by rw [hml]; exact hL.1.trans hLl) (argsL := ws) (rest := rc) (fun sig q => by rw [hpar sig q, hwl, hna]) hsplit hWW (dec hby) (fun _ _ => ⟨rfl, rfl, hcR, hsR⟩)
                dsimp only [Pt.U, Pt.locs, Pt.cells, Pt.slots] at X2 l2 y2 z2 st2 hQ
                subst l2 y2 z2
                exact fin v1' T2 Lc X2 hQ st2
              | invokespecial k =>
                obtain rfl : len = 3 := by simpa [lenOk] using hlenOk
                have hk1 : y.kind = 1 := by simpa [invKind] using hik
                have wl := hW (.methodLink d.name.cls k y.name) (in_wordsOf hdm hit (by show _ ∈ mLink P d k a b; unfold mLink; rw [if_neg hb1, hy]; exact List.mem_singleton.mpr rfl))
                have wst := wmore (.instanceMethod y.name) (by rw [if_neg (by omega), if_pos hk1]; exact List.mem_singleton.mpr rfl)
                have hna : nargs y = y.npar + 1 := by simp [nargs, hk1]
                simp [hk1] at yc7
                have wcode' : (Jvm.Cond.code y.name y.bytes y.maxL none).before a0 Z = true := by rw [← yc7.2]; exact wcode
                unfold recvOk at hrecv
                rw [if_neg (by omega)] at hrecv
                split at hrecv
                · rename_i o as'
                  obtain ⟨ad, ws', g1, rfl, ha'⟩ := hSa.ref
                  have hst : Sc = ws'.reverse ++ .ref ad :: rc := by rw [hsplit]; simp
                  obtain ⟨v1', _, ⟨T2, L2, k2', n2⟩, -, X2, ⟨Lc, hQ, l2, y2, z2⟩, st2⟩ := X.specialBack hx (y := y.name) yc7.1 hown (mvT hZ wl) (mvT hZ wst) (mvT hZ wcode') hMH back (g := mkF m pc A Sc) rfl (by rw [hml]; exact hL.1.trans hLl) (Steps.refl _) (a := ad) (argsL := ws') (rest := rc) (fun sig q => by rw [hpar sig q]; simp [hna] at hwl; omega) hst hWW (dec hby) (fun _ _ => ⟨rfl, rfl, hcR, hsR⟩)
                  dsimp only [Pt.U, Pt.locs, Pt.cells, Pt.slots] at X2 l2 y2 z2 st2 hQ
                  subst l2 y2 z2
                  exact fin v1' T2 Lc X2 hQ fun t z => st2.trans z
                · cases hrecv
              | invokevirtual k =>
                obtain rfl : len = 3 := by simpa [lenOk] using hlenOk
                have wl := hW (.methodLink d.name.cls k y.name) (in_wordsOf hdm hit (by show _ ∈ mLink P d k a b; unfold mLink; rw [if_neg hb1, hy]; exact List.mem_singleton.mpr rfl))
                have hk23 : y.kind = 2 ∨ y.kind = 3 := by simpa [invKind] using hik
                have hk0 : ¬ y.kind = 0 := by omega
                have hk1 : ¬ y.kind = 1 := by omega
                have hna : nargs y = y.npar + 1 := by simp [nargs, hk0]
                unfold recvOk at hrecv
                rw [if_neg hk0] at hrecv
                split at hrecv
                · rename_i o as'
                  obtain ⟨ad, ws', g1, rfl, ha'⟩ := hSa.ref
                  have hst : Sc = ws'.reverse ++ .ref ad :: rc := by rw [hsplit]; simp
                  split at hrecv
                  · rename_i c0 fs hc0
                    obtain rfl : c0 = y.cid := by simpa using hrecv
                    obtain ⟨ad', g2, cd, q1, q2, q3, q4⟩ := hH.at hc0
                    rw [g1] at g2; cases g2
                    have hcd := cid_of hP hym q1
                    have hcm : cd ∈ P.cls := List.mem_of_getElem? q1
                    rw [hcd] at q2
                    by_cases hk2 : y.kind = 2
                    · have w1 := wmore (.instanceMethod y.name) (by rw [if_neg hk0, if_neg hk1, if_pos hk2]; simp)
                      have w2 := wmore (.privateMethod y.name) (by rw [if_neg hk0, if_neg hk1, if_pos hk2]; simp)
                      have w3 := hW (.instantiable cd.1 cd.2.1) (in_wordsC hcm (List.mem_cons_self ..))
                      rw [hcd] at w3
                      obtain ⟨cI, kI, i1, i2, i3, i4, -⟩ := Cond.instantiable_spec (mvT hZ w3 (args := args) : (Jvm.Cond.instantiable y.name.cls cd.2.1).before args s = true)
                      have hsel := selects_self_of_private (args := args) i1 i2 (by simp at i4; exact i4.1) (Cond.privateMethod_at (mvP hZ w2 (args := #[]))) (mvT hZ w1) hMH
                      obtain ⟨cq, hq1, hq2⟩ := q2.cell
                      obtain ⟨v1', _, ⟨T2, L2, k2', n2⟩, -, X2, ⟨Lc, hQ, l2, y2, z2⟩, st2⟩ := X.privateBack hx (y := y.name) hown (mvT hZ wl) (mvT hZ w1) hsel (Cond.privateMethod_at (mvP hZ w2 (args := #[]))) (mvT hZ wcode) hMH back (g := mkF m pc A Sc) rfl (by rw [hml]; exact hL.1.trans hLl) (Steps.refl _) (a := ad) hq1 hq2 (argsL := ws') (rest := rc) (fun sig q => by rw [hpar sig q]; simp [hna] at hwl; omega) hst hWW (dec hby) (fun _ _ => ⟨rfl, rfl, hcR, hsR⟩)
                      dsimp only [Pt.U, Pt.locs, Pt.cells, Pt.slots] at X2 l2 y2 z2 st2 hQ
                      subst l2 y2 z2
                      exact fin v1' T2 Lc X2 hQ fun t z => st2.trans z
                    · have w1 := wmore (.declares y.name) (by rw [if_neg hk0, if_neg hk1, if_neg hk2]; simp)
                      have w2 := wmore (.selects y.name.cls y.name y.name) (by rw [if_neg hk0, if_neg hk1, if_neg hk2]; simp)
                      have w3 := wmore (.instanceMethod y.name) (by rw [if_neg hk0, if_neg hk1, if_neg hk2]; simp)
                      obtain ⟨cq, kq, qa, qb, qc⟩ := isOf hZ rfl q2
                      obtain ⟨v1', _, ⟨T2, L2, k2', n2⟩, -, X2, ⟨Lc, hQ, l2, y2, z2⟩, st2⟩ := X.virtualBack hx (y := y.name) (z := y.name) hown (mvT hZ wl) (mvT hZ w1) (notFace_of_selects (args := #[]) (mvT hZ w2)) (mvT hZ w2) (mvT hZ w3) hMH back qa qc (g := mkF m pc A Sc) rfl (by rw [hml]; exact hL.1.trans hLl) (Steps.refl _) (argsL := ws') (rest := rc) (fun sig q => by rw [hpar sig q]; simp [hna] at hwl; omega) hst hWW (dec hby) (fun _ _ => ⟨rfl, rfl, hcR, hsR⟩)
                      dsimp only [Pt.U, Pt.locs, Pt.cells, Pt.slots] at X2 l2 y2 z2 st2 hQ
                      subst l2 y2 z2
                      exact fin v1' T2 Lc X2 hQ fun t z => st2.trans z
                  · cases hrecv
                · cases hrecv
              | _ => simp [isInv] at hinv
            · cases h
          · cases h
      · split at h
        · split at h
          · rename_i S1 H1 k1' hxN
            obtain ⟨c0, s0, hcon, rfl, rfl⟩ := res_ext (α := Unit) h
            have m3 := ih mi (pc + len) _ S1 H1 v H' c0 s0 hcon d hmi
            intro p e R s m args below meth c T locs cells slots X cx k1 k2 ρ A Sc hL hLl hS hH hF
            have cx0 := cx
            obtain ⟨hx, hZ, hby, hml, hown, hnm, hret, hlk, hrf, hrw⟩ := cx
            obtain ⟨T2, ad, Sc2, X2, hS2, hH2, st2⟩ := stepN (A := A) X hx hZ hown hP hW hdm hit (dec hby) hlenOk hS hH hxN (by omega) (by omega)
            have := m3 p e R s m args below meth c T2 locs _ _ X2 cx0 (by omega) (by omega) (ρ ++ [ad]) A Sc2 (hL.forget er).mono (by rw [forget_len]; exact hLl) hS2 hH2 hF
            have q1 : cells + 1 + c0 = cells + (c0 + 1) := by omega
            have q2 : slots + k1' + s0 = slots + (s0 + k1') := by omega
            rw [q1, q2] at this
            exact this.step st2
          · cases h
        · split at h
          · rename_i L1 S1 H1 hxI
            have m3 := ih mi (pc + len) L1 S1 H1 v H' kc ks h d hmi
            intro p e R s m args below meth c T locs cells slots X cx k1 k2 ρ A Sc hL hLl hS hH hF
            have cx0 := cx
            obtain ⟨hx, hZ, hby, hml, hown, hnm, hret, hlk, hrf, hrw⟩ := cx
            obtain ⟨T2, locs2, A2, Sc2, X2, x3, hL2, hS2, hH2, hF2, st2⟩ := stepX X hx hZ hown hnm hP hW hdm hit (dec hby) hlenOk (hL.forget er) hS hH hF hxI
            have := m3 p e R s m args below meth c T2 locs2 cells slots X2 cx0 k1 k2 ρ A2 Sc2 hL2 (by rw [x3, forget_len]; exact hLl) hS2 hH2 hF2
            exact Done.step (t := []) (by rw [List.append_nil]; exact this) st2
          · cases h
end Sound
end Jvm.Own
namespace Jvm.Own
open Jvm Jvm.ClassFile Sem Op Lib Jvm.Free Jvm.Stand Jvm.LawKit Jvm.RoadKit Bundle
/-! Runs of the plain machine, rule by rule -/
def OEnds (P : PD) (mi pc : Nat) (L : List Slot) (S : List Value) (H : AHeap) (r : Res) : Prop := ∃ n0, ∀ n, n0 ≤ n → exe P n mi pc L S H = some r
def plainI : Instr → Bool
  | .goto _ => false
  | .if_icmp _ _ => false
  | .ifCond _ _ => false
  | .ifnonnull _ => false
  | .ireturn => false
  | .lreturn => false
  | .return_ => false
  | .invokestatic _ => false
  | .invokespecial _ => false
  | .invokevirtual _ => false
  | .new _ => false
  | .newarray _ => false
  | _ => true
section Rules
variable {P : PD} {mi pc len a q : Nat} {er : List Bool} {b : Int} {i : Instr} {d y : MD} {L L' : List Slot} {S S' as rest : List Value} {H H' H1 : AHeap} {r : Res} {kc ks : Nat} {v : Option Value}
theorem OEnds.up (h : ∀ n, exe P n mi q L' S' H' = some r → exe P (n + 1) mi pc L S H = some r) (E : OEnds P mi q L' S' H' r) : OEnds P mi pc L S H r := by
  obtain ⟨n0, E⟩ := E
  refine ⟨n0 + 1, fun n hn => ?_⟩
  obtain ⟨k, rfl⟩ : ∃ k, n = k + 1 := ⟨n - 1, by omega⟩
  exact h k (E k (by omega))
theorem OEnds.plain (hm : P.mth[mi]? = some d) (hf : fetch d.code pc = some (i, len, er, a, b)) (hp : plainI i = true) (hx : xI P (d.name.name == "<init>") d.cid i a b (forget er L) S H = some (L', S', H')) (E : OEnds P mi (pc + len) L' S' H' r) : OEnds P mi pc L S H r := by
  refine E.up fun n h => ?_
  unfold exe
  rw [hm]
  simp only
  rw [hf]
  simp only
  split
  all_goals first | (simp [plainI] at hp; done) | skip
  have h1 : ¬ isInv i = true := by
    cases i <;> first | (simp [plainI] at hp; done) | simp [isInv]
  have h2 : ¬ isNew i = true := by
    cases i <;> first | (simp [plainI] at hp; done) | simp [isNew]
  rw [if_neg h1, if_neg h2, hx]
  exact h
theorem OEnds.goto {o : Int} (hm : P.mth[mi]? = some d) (hf : fetch d.code pc = some (.goto o, len, er, a, b)) (ht : tgt pc o = some q) (E : OEnds P mi q (forget er L) S H r) : OEnds P mi pc L S H r := by
  refine E.up fun n h => ?_
  unfold exe
  rw [hm]
  simp only
  rw [hf]
  simp only
  rw [ht]
  exact h
theorem OEnds.icmpT {o : Int} {cd : ClassFile.Cond} {x z : Int32} (hm : P.mth[mi]? = some d) (hf : fetch d.code pc = some (.if_icmp cd o, len, er, a, b)) (ht : tgt pc o = some q) (hc : if_icmp.holds cd x z = true) (E : OEnds P mi q (forget er L) S H r) : OEnds P mi pc L (.int z :: .int x :: S) H r := by
  refine E.up fun n h => ?_
  unfold exe
  rw [hm]
  simp only
  rw [hf]
  simp only
  rw [if_pos hc, ht]
  exact h
theorem OEnds.icmpF {o : Int} {cd : ClassFile.Cond} {x z : Int32} (hm : P.mth[mi]? = some d) (hf : fetch d.code pc = some (.if_icmp cd o, len, er, a, b)) (hc : if_icmp.holds cd x z = false) (E : OEnds P mi (pc + 3) (forget er L) S H r) : OEnds P mi pc L (.int z :: .int x :: S) H r := by
  refine E.up fun n h => ?_
  unfold exe
  rw [hm]
  simp only
  rw [hf]
  simp only
  rw [if_neg (by rw [hc]; exact Bool.false_ne_true)]
  exact h
theorem OEnds.ifT {o : Int} {cd : ClassFile.Cond} {x : Int32} (hm : P.mth[mi]? = some d) (hf : fetch d.code pc = some (.ifCond cd o, len, er, a, b)) (ht : tgt pc o = some q) (hc : if_icmp.holds cd x 0 = true) (E : OEnds P mi q (forget er L) S H r) : OEnds P mi pc L (.int x :: S) H r := by
  refine E.up fun n h => ?_
  unfold exe
  rw [hm]
  simp only
  rw [hf]
  simp only
  rw [if_pos ((if0 cd x).trans hc), ht]
  exact h
theorem OEnds.ifF {o : Int} {cd : ClassFile.Cond} {x : Int32} (hm : P.mth[mi]? = some d) (hf : fetch d.code pc = some (.ifCond cd o, len, er, a, b)) (hc : if_icmp.holds cd x 0 = false) (E : OEnds P mi (pc + 3) (forget er L) S H r) : OEnds P mi pc L (.int x :: S) H r := by
  refine E.up fun n h => ?_
  unfold exe
  rw [hm]
  simp only
  rw [hf]
  simp only
  rw [if_neg (by rw [if0 cd x, hc]; exact Bool.false_ne_true)]
  exact h
theorem OEnds.nonnull {o : Int} {x : Nat} (hm : P.mth[mi]? = some d) (hf : fetch d.code pc = some (.ifnonnull o, len, er, a, b)) (ht : tgt pc o = some q) (E : OEnds P mi q (forget er L) S H r) : OEnds P mi pc L (.ref x :: S) H r := by
  refine E.up fun n h => ?_
  unfold exe
  rw [hm]
  simp only
  rw [hf]
  simp only
  rw [ht]
  exact h
theorem OEnds.iret {x : Int32} {u : Value} (hm : P.mth[mi]? = some d) (hf : fetch d.code pc = some (.ireturn, len, er, a, b)) (hv : retV d.ret x = some u) : OEnds P mi pc L [.int x] H (some u, H, 0, 0) := by
  refine ⟨1, fun n hn => ?_⟩
  obtain ⟨k, rfl⟩ : ∃ k, n = k + 1 := ⟨n - 1, by omega⟩
  unfold exe
  rw [hm]
  simp only
  rw [hf]
  simp only
  rw [hv]
theorem OEnds.lret {x : Int64} (hm : P.mth[mi]? = some d) (hf : fetch d.code pc = some (.lreturn, len, er, a, b)) (hv : d.ret = some .long) : OEnds P mi pc L [.long x] H (some (.long x), H, 0, 0) := by
  refine ⟨1, fun n hn => ?_⟩
  obtain ⟨k, rfl⟩ : ∃ k, n = k + 1 := ⟨n - 1, by omega⟩
  unfold exe
  rw [hm]
  simp only
  rw [hf]
  simp only
  rw [if_pos hv]
theorem OEnds.vret (hm : P.mth[mi]? = some d) (hf : fetch d.code pc = some (.return_, len, er, a, b)) (hv : d.ret = none) : OEnds P mi pc L [] H (none, H, 0, 0) := by
  refine ⟨1, fun n hn => ?_⟩
  obtain ⟨k, rfl⟩ : ∃ k, n = k + 1 := ⟨n - 1, by omega⟩
  unfold exe
  rw [hm]
  simp only
  rw [hf]
  simp only
  rw [if_pos hv]
theorem OEnds.oinit {k x : Nat} (hm : P.mth[mi]? = some d) (hf : fetch d.code pc = some (.invokespecial k, len, er, a, -1)) (hr : 1 ≤ d.rf ∧ catSum S + 12 ≤ d.rw) (E : OEnds P mi (pc + 3) (forget er L) S H r) : OEnds P mi pc L (.ref x :: S) H r := by
  refine E.up fun n h => ?_
  unfold exe
  rw [hm]
  simp only
  rw [hf]
  simp only [isInv, if_true]
  rw [if_pos hr]
  exact h
theorem OEnds.call (hm : P.mth[mi]? = some d) (hf : fetch d.code pc = some (i, len, er, a, b)) (hi : isInv i = true) (hb : ¬ b = -1) (hy : P.mth[a]? = some y) (hao : argsOf (nargs y) S = some (as, rest))
    (hc : (decide (0 < a) && invKind i y.kind && recvOk P H y as && fitsRoom d y rest && decide ((entA as).length ≤ y.maxL)) = true) (E1 : OEnds P a 0 (entL as y.maxL) [] H (v, H1, kc, ks)) (E2 : OEnds P mi (pc + 3) (forget er L) (v.toList ++ rest) H1 r) : OEnds P mi pc L S H (addR r kc ks) := by
  obtain ⟨n1, E1⟩ := E1
  obtain ⟨n2, E2⟩ := E2
  refine ⟨n1 + n2 + 1, fun n hn => ?_⟩
  obtain ⟨k, rfl⟩ : ∃ k, n = k + 1 := ⟨n - 1, by omega⟩
  have e1 := E1 k (by omega)
  have e2 := E2 k (by omega)
  unfold exe
  rw [hm]
  simp only
  rw [hf]
  simp only
  split
  all_goals first | (simp [isInv] at hi; done) | skip
  rw [if_pos hi, if_neg hb, hy]
  simp only
  rw [hao]
  simp only
  rw [if_pos hc, e1]
  simp only
  rw [e2]
  rfl
theorem OEnds.call0 (hm : P.mth[mi]? = some d) (hf : fetch d.code pc = some (i, len, er, a, b)) (hi : isInv i = true) (hb : ¬ b = -1) (hy : P.mth[a]? = some y) (hao : argsOf (nargs y) S = some (as, rest))
    (hc : (decide (0 < a) && invKind i y.kind && recvOk P H y as && fitsRoom d y rest && decide ((entA as).length ≤ y.maxL)) = true) (E1 : OEnds P a 0 (entL as y.maxL) [] H (v, H1, 0, 0)) (E2 : OEnds P mi (pc + 3) (forget er L) (v.toList ++ rest) H1 r) : OEnds P mi pc L S H r :=
  OEnds.call (r := r) hm hf hi hb hy hao hc E1 E2
theorem OEnds.made (hm : P.mth[mi]? = some d) (hf : fetch d.code pc = some (i, len, er, a, b)) (hi : isNew i = true) (hx : xN P i a S H = some (S', H', ks)) (E : OEnds P mi (pc + len) (forget er L) S' H' r) : OEnds P mi pc L S H (addR r 1 ks) := by
  obtain ⟨n0, E⟩ := E
  refine ⟨n0 + 1, fun n hn => ?_⟩
  obtain ⟨k, rfl⟩ : ∃ k, n = k + 1 := ⟨n - 1, by omega⟩
  have e1 := E k (by omega)
  unfold exe
  rw [hm]
  simp only
  rw [hf]
  simp only
  split
  all_goals first | (simp [isNew] at hi; done) | skip
  have h1 : ¬ isInv i = true := by
    cases i <;> first | (simp [isNew] at hi; done) | simp [isInv]
  rw [if_neg h1, if_pos hi, hx]
  simp only
  rw [e1]
  rfl
end Rules
/-- k plain instructions and jumps in one go -/
def adv (P : PD) (d : MD) : Nat → Nat → List Slot → List Value → AHeap → Option (Nat × List Slot × List Value × AHeap)
  | 0, pc, L, S, H => some (pc, L, S, H)
  | k + 1, pc, L, S, H => match fetch d.code pc with
    | some (i, len, er, a, b) => match i with
      | .goto o => match tgt pc o with
        | some q => adv P d k q (forget er L) S H
        | none => none
      | i => if plainI i = true then match xI P (d.name.name == "<init>") d.cid i a b (forget er L) S H with
          | some (L', S', H') => adv P d k (pc + len) L' S' H'
          | none => none
        else none
    | none => none
theorem OEnds.adv {P : PD} {mi : Nat} {d : MD} (hm : P.mth[mi]? = some d) {r : Res} : ∀ (k : Nat) {pc pc' : Nat} {L L' : List Slot} {S S' : List Value} {H H' : AHeap}, adv P d k pc L S H = some (pc', L', S', H') → OEnds P mi pc' L' S' H' r → OEnds P mi pc L S H r
  | 0, _, _, _, _, _, _, _, _, h, E => by
    unfold Own.adv at h
    cases h
    exact E
  | k + 1, pc, pc', L, L', S, S', H, H', h, E => by
    unfold Own.adv at h
    split at h
    · rename_i it i len er a b hf
      split at h
      · rename_i o
        split at h
        · rename_i q hq
          exact OEnds.goto hm hf hq (OEnds.adv hm k h E)
        · cases h
      · split at h
        · rename_i hp
          split at h
          · rename_i L1 S1 H1 hx
            exact OEnds.plain hm hf hp hx (OEnds.adv hm k h E)
          · cases h
        · cases h
    · cases h
theorem x_iaload {P : PD} {ini : Bool} {cid a o : Nat} {b : Int} {L : List Slot} {S : List Value} {H : AHeap} {A : List Int32} {j x : Int32} (h : H[o]? = some (.inr (.inl (false, A)))) (hx : rdA A j = some x) : xI P ini cid .iaload a b L (.int j :: .ref o :: S) H = some (L, .int x :: S, H) := by simp [xI, h, hx]
theorem x_baload {P : PD} {ini : Bool} {cid a o : Nat} {b : Int} {L : List Slot} {S : List Value} {H : AHeap} {A : List Int32} {j x : Int32} (h : H[o]? = some (.inr (.inl (true, A)))) (hx : rdA A j = some x) : xI P ini cid .baload a b L (.int j :: .ref o :: S) H = some (L, .int x :: S, H) := by simp [xI, h, hx]
theorem x_laload {P : PD} {ini : Bool} {cid a o : Nat} {b : Int} {L : List Slot} {S : List Value} {H : AHeap} {A : List Int64} {j : Int32} {x : Int64} (h : H[o]? = some (.inr (.inr A))) (hx : rdA A j = some x) : xI P ini cid .laload a b L (.int j :: .ref o :: S) H = some (L, .long x :: S, H) := by simp [xI, h, hx]
theorem x_iastore {P : PD} {ini : Bool} {cid a o : Nat} {b : Int} {L : List Slot} {S : List Value} {H : AHeap} {A A' : List Int32} {j x : Int32} (h : H[o]? = some (.inr (.inl (false, A)))) (hn : P.nr ≤ o) (hx : wrA A j x = some A') : xI P ini cid .iastore a b L (.int x :: .int j :: .ref o :: S) H = some (L, S, H.set o (.inr (.inl (false, A')))) := by simp [xI, h, hx, hn]
theorem x_bastore {P : PD} {ini : Bool} {cid a o : Nat} {b : Int} {L : List Slot} {S : List Value} {H : AHeap} {A A' : List Int32} {j x : Int32} (h : H[o]? = some (.inr (.inl (true, A)))) (hn : P.nr ≤ o) (hx : wrA A j (x &&& 1) = some A') : xI P ini cid .bastore a b L (.int x :: .int j :: .ref o :: S) H = some (L, S, H.set o (.inr (.inl (true, A')))) := by simp [xI, h, hx, hn]
theorem x_lastore {P : PD} {ini : Bool} {cid a o : Nat} {b : Int} {L : List Slot} {S : List Value} {H : AHeap} {A A' : List Int64} {j : Int32} {x : Int64} (h : H[o]? = some (.inr (.inr A))) (hn : P.nr ≤ o) (hx : wrA A j x = some A') : xI P ini cid .lastore a b L (.long x :: .int j :: .ref o :: S) H = some (L, S, H.set o (.inr (.inr A'))) := by simp [xI, h, hx, hn]
theorem x_irem {P : PD} {ini : Bool} {cid a : Nat} {b : Int} {L : List Slot} {S : List Value} {H : AHeap} {x y : Int32} (h : ¬ y = 0) : xI P ini cid .irem a b L (.int y :: .int x :: S) H = some (L, .int (x % y) :: S, H) := by simp [xI, h]
theorem x_idiv {P : PD} {ini : Bool} {cid a : Nat} {b : Int} {L : List Slot} {S : List Value} {H : AHeap} {x y : Int32} (h : ¬ y = 0) : xI P ini cid .idiv a b L (.int y :: .int x :: S) H = some (L, .int (x / y) :: S, H) := by simp [xI, h]
theorem x_lrem {P : PD} {ini : Bool} {cid a : Nat} {b : Int} {L : List Slot} {S : List Value} {H : AHeap} {x y : Int64} (h : ¬ y = 0) : xI P ini cid .lrem a b L (.long y :: .long x :: S) H = some (L, .long (x % y) :: S, H) := by simp [xI, h]
theorem x_ldiv {P : PD} {ini : Bool} {cid a : Nat} {b : Int} {L : List Slot} {S : List Value} {H : AHeap} {x y : Int64} (h : ¬ y = 0) : xI P ini cid .ldiv a b L (.long y :: .long x :: S) H = some (L, .long (x / y) :: S, H) := by simp [xI, h]
theorem c_lt {x y : Int64} : XT.cmpL x y < 0 ↔ x < y := by
  unfold XT.cmpL; split <;> (try split) <;> simp_all [Int64.lt_iff_toInt_lt, ← Int64.toInt_inj] <;> omega
theorem c_gt {x y : Int64} : 0 < XT.cmpL x y ↔ y < x := by
  unfold XT.cmpL; split <;> (try split) <;> simp_all [Int64.lt_iff_toInt_lt, ← Int64.toInt_inj] <;> omega
theorem c_eq {x y : Int64} : XT.cmpL x y = 0 ↔ x = y := by
  unfold XT.cmpL; split <;> (try split) <;> simp_all [Int64.lt_iff_toInt_lt, ← Int64.toInt_inj] <;> omega
end Jvm.Own
namespace Jvm.Own
open Jvm Jvm.ClassFile Sem Op Lib Jvm.Free Jvm.Stand Jvm.LawKit Jvm.RoadKit Bundle
theorem bnd {α β : Type} {o : Option α} {f : α → Option β} {b : β} (h : o.bind f = some b) : ∃ a, o = some a ∧ f a = some b := Option.bind_eq_some_iff.mp h
theorem x_putZ {P : PD} {ini : Bool} {k cid a o : Nat} {b : Int} {L : List Slot} {S : List Value} {H : AHeap} {fs : List Value} {nm ds : String} {x : Int32} (h : H[o]? = some (.inl (cid, fs))) (hn : P.nr ≤ o) (hf : ((P.cls[cid]?).bind fun cd => cd.2.2[a]?) = some (nm, ds, .boolean, false)) (hx : x = 0 ∨ x = 1) :
    xI P ini cid (.putfield k) a b L (.int x :: .ref o :: S) H = some (L, S, H.set o (.inl (cid, fs.set a (.int x)))) := by
  rcases hx with rfl | rfl <;> simp [xI, h, hn, hf, putOk]
section Rules
variable {P : PD} {mi pc len a q : Nat} {er : List Bool} {b : Int} {i : Instr} {d y : MD} {L L' : List Slot} {S S' as rest : List Value} {H H' H1 : AHeap} {r : Res} {kc ks : Nat} {v : Option Value}
theorem OEnds.made1 {w : Option Value} {Hf : AHeap} (hm : P.mth[mi]? = some d) (hf : fetch d.code pc = some (i, len, er, a, b)) (hi : isNew i = true) (hx : xN P i a S H = some (S', H', ks)) {c0 s0 c1 s1 : Nat} (hr : (c1, s1) = (c0 + 1, s0 + ks)) (E : OEnds P mi (pc + len) (forget er L) S' H' (w, Hf, c0, s0)) : OEnds P mi pc L S H (w, Hf, c1, s1) := by
  cases hr
  exact OEnds.made (r := (w, Hf, c0, s0)) hm hf hi hx E
/-! The same, of a run whose end is told by a property -/
def OEndsQ (P : PD) (mi pc : Nat) (L : List Slot) (S : List Value) (H : AHeap) (Q : Res → Prop) : Prop := ∃ r, OEnds P mi pc L S H r ∧ Q r
variable {Q : Res → Prop}
theorem OEndsQ.plain (hm : P.mth[mi]? = some d) (hf : fetch d.code pc = some (i, len, er, a, b)) (hp : plainI i = true) (hx : xI P (d.name.name == "<init>") d.cid i a b (forget er L) S H = some (L', S', H')) (E : OEndsQ P mi (pc + len) L' S' H' Q) : OEndsQ P mi pc L S H Q := by
  obtain ⟨r, E, hq⟩ := E; exact ⟨r, OEnds.plain hm hf hp hx E, hq⟩
theorem OEndsQ.icmpT {o : Int} {cd : ClassFile.Cond} {x z : Int32} (hm : P.mth[mi]? = some d) (hf : fetch d.code pc = some (.if_icmp cd o, len, er, a, b)) (ht : tgt pc o = some q) (hc : if_icmp.holds cd x z = true) (E : OEndsQ P mi q (forget er L) S H Q) : OEndsQ P mi pc L (.int z :: .int x :: S) H Q := by
  obtain ⟨r, E, hq⟩ := E; exact ⟨r, OEnds.icmpT hm hf ht hc E, hq⟩
theorem OEndsQ.icmpF {o : Int} {cd : ClassFile.Cond} {x z : Int32} (hm : P.mth[mi]? = some d) (hf : fetch d.code pc = some (.if_icmp cd o, len, er, a, b)) (hc : if_icmp.holds cd x z = false) (E : OEndsQ P mi (pc + 3) (forget er L) S H Q) : OEndsQ P mi pc L (.int z :: .int x :: S) H Q := by
  obtain ⟨r, E, hq⟩ := E; exact ⟨r, OEnds.icmpF hm hf hc E, hq⟩
theorem OEndsQ.ifT {o : Int} {cd : ClassFile.Cond} {x : Int32} (hm : P.mth[mi]? = some d) (hf : fetch d.code pc = some (.ifCond cd o, len, er, a, b)) (ht : tgt pc o = some q) (hc : if_icmp.holds cd x 0 = true) (E : OEndsQ P mi q (forget er L) S H Q) : OEndsQ P mi pc L (.int x :: S) H Q := by
  obtain ⟨r, E, hq⟩ := E; exact ⟨r, OEnds.ifT hm hf ht hc E, hq⟩
theorem OEndsQ.ifF {o : Int} {cd : ClassFile.Cond} {x : Int32} (hm : P.mth[mi]? = some d) (hf : fetch d.code pc = some (.ifCond cd o, len, er, a, b)) (hc : if_icmp.holds cd x 0 = false) (E : OEndsQ P mi (pc + 3) (forget er L) S H Q) : OEndsQ P mi pc L (.int x :: S) H Q := by
  obtain ⟨r, E, hq⟩ := E; exact ⟨r, OEnds.ifF hm hf hc E, hq⟩
theorem OEndsQ.nonnull {o : Int} {x : Nat} (hm : P.mth[mi]? = some d) (hf : fetch d.code pc = some (.ifnonnull o, len, er, a, b)) (ht : tgt pc o = some q) (E : OEndsQ P mi q (forget er L) S H Q) : OEndsQ P mi pc L (.ref x :: S) H Q := by
  obtain ⟨r, E, hq⟩ := E; exact ⟨r, OEnds.nonnull hm hf ht E, hq⟩
theorem OEndsQ.call0 (hm : P.mth[mi]? = some d) (hf : fetch d.code pc = some (i, len, er, a, b)) (hi : isInv i = true) (hb : ¬ b = -1) (hy : P.mth[a]? = some y) (hao : argsOf (nargs y) S = some (as, rest))
    (hc : (decide (0 < a) && invKind i y.kind && recvOk P H y as && fitsRoom d y rest && decide ((entA as).length ≤ y.maxL)) = true) (E1 : OEnds P a 0 (entL as y.maxL) [] H (v, H1, 0, 0)) (E2 : OEndsQ P mi (pc + 3) (forget er L) (v.toList ++ rest) H1 Q) : OEndsQ P mi pc L S H Q := by
  obtain ⟨r, E, hq⟩ := E2; exact ⟨r, OEnds.call0 hm hf hi hb hy hao hc E1 E, hq⟩
theorem OEndsQ.adv (hm : P.mth[mi]? = some d) (k : Nat) {pc' : Nat} (h : adv P d k pc L S H = some (pc', L', S', H')) (E : OEndsQ P mi pc' L' S' H' Q) : OEndsQ P mi pc L S H Q := by
  obtain ⟨r, E, hq⟩ := E; exact ⟨r, OEnds.adv hm k h E, hq⟩
/-- what a law's run ends with: its answer, and at the most so many cells and slots made -/
def LawQ (x : Int32) (kc ks : Nat) (r : Res) : Prop := r.1 = some (.int x) ∧ r.2.2.1 ≤ kc ∧ r.2.2.2 ≤ ks
theorem OEndsQ.iret {x u : Int32} (hm : P.mth[mi]? = some d) (hf : fetch d.code pc = some (.ireturn, len, er, a, b)) (hv : retV d.ret x = some (.int u)) : OEndsQ P mi pc L [.int x] H (LawQ u kc ks) :=
  ⟨_, OEnds.iret hm hf hv, rfl, Nat.zero_le _, Nat.zero_le _⟩
theorem OEndsQ.weak {x : Int32} {c0 s0 : Nat} (h1 : c0 ≤ kc) (h2 : s0 ≤ ks) (E : OEndsQ P mi pc L S H (LawQ x c0 s0)) : OEndsQ P mi pc L S H (LawQ x kc ks) := by
  obtain ⟨r, E, q1, q2, q3⟩ := E; exact ⟨r, E, q1, Nat.le_trans q2 h1, Nat.le_trans q3 h2⟩
theorem OEndsQ.made {x : Int32} {c0 s0 c1 s1 : Nat} (hm : P.mth[mi]? = some d) (hf : fetch d.code pc = some (i, len, er, a, b)) (hi : isNew i = true) (hx : xN P i a S H = some (S', H', ks)) (h1 : c0 + 1 ≤ c1) (h2 : s0 + ks ≤ s1) (E : OEndsQ P mi (pc + len) (forget er L) S' H' (LawQ x c0 s0)) : OEndsQ P mi pc L S H (LawQ x c1 s1) := by
  obtain ⟨⟨v, Hf, k, n⟩, E, q1, q2, q3⟩ := E
  dsimp only at q1 q2 q3
  exact ⟨_, OEnds.made hm hf hi hx E, q1, by show k + 1 ≤ c1; omega, by show n + ks ≤ s1; omega⟩
theorem OEndsQ.callN {x : Int32} {c0 s0 c1 s1 : Nat} (hm : P.mth[mi]? = some d) (hf : fetch d.code pc = some (i, len, er, a, b)) (hi : isInv i = true) (hb : ¬ b = -1) (hy : P.mth[a]? = some y) (hao : argsOf (nargs y) S = some (as, rest))
    (hc : (decide (0 < a) && invKind i y.kind && recvOk P H y as && fitsRoom d y rest && decide ((entA as).length ≤ y.maxL)) = true) (E1 : OEnds P a 0 (entL as y.maxL) [] H (v, H1, kc, ks)) (h1 : c0 + kc ≤ c1) (h2 : s0 + ks ≤ s1) (E2 : OEndsQ P mi (pc + 3) (forget er L) (v.toList ++ rest) H1 (LawQ x c0 s0)) : OEndsQ P mi pc L S H (LawQ x c1 s1) := by
  obtain ⟨⟨v, Hf, k, n⟩, E, q1, q2, q3⟩ := E2
  dsimp only at q1 q2 q3
  exact ⟨_, OEnds.call hm hf hi hb hy hao hc E1 E, q1, by show k + kc ≤ c1; omega, by show n + ks ≤ s1; omega⟩
end Rules
/-! From the machine to the claim -/
theorem law_met {P : PD} {Z : State} {a0 : Array Value} {l : Launch} {y : MD} {as ws : List Value} {H : AHeap} {ρ : List Addr} {n0 kc ks : Nat} {h : Heap} (hP : chk P = true) (hW : ∀ w ∈ wordsOf P, w.before a0 Z = true) (hy : P.mth[0]? = some y)
    (E : OEndsQ P 0 0 (entL as y.maxL) [] H (LawQ 1 kc ks)) (hS : SR ρ as ws) (hlen : (entA as).length ≤ y.maxL) (hH : HR P Z n0 h ρ H) (w0 : List Jvm.Cond) (rm : Room) (r1 : y.rf ≤ rm.frames) (r2 : y.rw ≤ rm.locals) (r3 : kc ≤ rm.cells) (r4 : ks ≤ rm.slots) :
    MetFree l y.name (head1 (Jvm.Cond.code y.name y.bytes y.maxL y.ret :: w0) rm) (fun a U => a = ws.toArray ∧ Z.Warmed39 U.vm ∧ U.heap = h) (fun _ _ _ _ _ => True)
      (fun _ U o U' => ∃ L, o = .returned (some (.int 1)) ∧ Fr n0 L ∧ FrameEnd U o U' L kc ks) := by
  obtain ⟨⟨v, H1, c1, s1⟩, ⟨n, E⟩, q1, q2, q3⟩ := E
  dsimp only at q1 q2 q3
  subst q1
  have hpn : plainName y.name.cls = true := by
    have := mChk_of hP (List.mem_of_getElem? hy)
    simp only [mChk, Bool.and_eq_true] at this
    exact this.1.1.1.1.1.1
  have M := met_of (l := l) (n := n) (sound hP hW n) hy hpn (E n (Nat.le_refl _)) hS hlen hH w0 rm r1 r2 (Nat.le_trans q2 r3) (Nat.le_trans q3 r4)
  intro p e ha hc hk s m args below hf happ hp hK
  obtain ⟨n', o, h1, h2, h3, v', L, rfl, ⟨hF, t, ⟨u, rfl, hu⟩, -⟩, hq⟩ := M p e ha hc hk s m args below hf happ hp hK
  obtain rfl : u = .int 1 := hu
  exact ⟨n', _, h1, h2, h3, L, rfl, hF, hq.1, hq.2.1, hq.2.2.mono q2 q3⟩
end Jvm.Own
namespace Jvm.Own
open Jvm Jvm.ClassFile Sem Op Lib Jvm.Free Jvm.Stand Jvm.LawKit Jvm.RoadKit Bundle
/-- the law's script: an int array of at most 260 -/
theorem script_of {s : State} {ad : Addr} {cl : Cell} (hf : Fit s) (A : Arr s s.heap ad cl .int) (e0 : (Term.arg 0).eval #[.ref ad] s none [] s = some (.ref ad)) (hn : (Jvm.Cond.le (.length (.arg 0)) (.int 260)).value #[.ref ad] s none s [] = some true) :
    ∃ scr : List Int32, cl.slots.size = scr.length ∧ scr.length ≤ 260 ∧ ∀ (i : Nat) x, scr[i]? = some x → cl.slots[i]? = some (.int x) := by
  obtain ⟨u, v, g1, g2, -, -⟩ := cmp_v (Or.inr (Or.inr hn))
  obtain ⟨a', cl', z1, z2, z3⟩ := Term.length_spec g1
  have hat := A.fin (Vm.Alike.refl _)
  rw [e0] at z1
  cases z1
  rw [hat] at z2
  cases z2
  have hsz : cl.slots.size < 2 ^ 31 := by
    rcases Nat.lt_or_ge cl.slots.size (2 ^ 31) with q | q
    · exact q
    · exfalso
      simp [Term.eval, hat] at g1
      omega
  subst z3
  have hv : v = .int 260 := by simpa [Term.eval] using g2.symm
  subst hv
  have hle : cl.slots.size.toInt32 ≤ 260 := by
    simpa [Cond.value, g1, g2] using hn
  have hle' : cl.slots.size ≤ 260 := by
    rw [Int32.le_iff_toInt_le, len_toInt hsz] at hle
    have : (260 : Int32).toInt = 260 := rfl
    rw [this] at hle
    omega
  have key : ∀ i, i < cl.slots.size → ∃ x, cl.slots[i]? = some (.int x) := fun i hi => by
    have hj := idx_in hi hsz
    obtain ⟨v, e1, e2⟩ := elem_fit hf A hj
    have : i.toInt32.toNatClampNeg = i := by
      have h1 : i.toInt32.toInt = i := len_toInt (by omega)
      simp [Int32.toNatClampNeg, h1]
    rw [this] at e1
    obtain ⟨x, rfl⟩ := fit_I e2 (Or.inl rfl)
    exact ⟨x, e1⟩
  refine ⟨cl.slots.toList.map fun v => match v with | .int x => x | _ => 0, by simp, by simpa using hle', fun i x hx => ?_⟩
  rw [List.getElem?_map] at hx
  obtain ⟨v, h1, h2⟩ := Option.map_eq_some_iff.mp hx
  have h1' : cl.slots[i]? = some v := by simpa using h1
  obtain ⟨y, hy⟩ := key i (Array.getElem?_eq_some_iff.mp h1').1
  rw [h1'] at hy
  cases hy
  rw [h1']
  simp at h2
  rw [h2]
theorem hr_script {P : PD} {s : State} {ad : Addr} {cl : Cell} {scr : List Int32} (hnr : P.nr = 1) (A : Arr s s.heap ad cl .int) (h1 : cl.slots.size = scr.length) (h2 : scr.length ≤ 260) (h3 : ∀ (i : Nat) x, scr[i]? = some x → cl.slots[i]? = some (.int x)) : HR P s s.heap.size s.heap [ad] [.inr (.inl (false, scr))] := by
  refine ⟨Nat.le_refl _, rfl, fun i j a g1 g2 => ?_, fun k a g1 g2 => ?_, fun k a c g1 g2 => ?_⟩
  · match i, j, g1, g2 with
    | 0, 0, _, _ => rfl
    | i + 1, _, g1, _ => simp at g1
    | 0, j + 1, _, g2 => simp at g2
  · match k, g1, g2 with
    | 0, _, g2 => rw [hnr] at g2; omega
    | k + 1, g1, _ => simp at g1
  · match k, g1, g2 with
    | 0, g1, g2 =>
      simp at g1 g2
      subst g1 g2
      exact ⟨cl, A, h1, by omega, h3⟩
    | k + 1, g1, _ => simp at g1
end Jvm.Own
namespace Jvm.Own
open Jvm
/-! Ints in range, arrays -/
theorem ilt {a b : Int32} : a < b ↔ a.toInt < b.toInt := Int32.lt_iff_toInt_lt
theorem ile {a b : Int32} : a ≤ b ↔ a.toInt ≤ b.toInt := Int32.le_iff_toInt_le
theorem ieq {a b : Int32} : a = b ↔ a.toInt = b.toInt := Int32.toInt_inj.symm
theorem irng (a : Int32) : -2147483648 ≤ a.toInt ∧ a.toInt < 2147483648 := ⟨Int32.le_toInt a, Int32.toInt_lt a⟩
theorem iadd_i {a b : Int32} (h1 : -2147483648 ≤ a.toInt + b.toInt) (h2 : a.toInt + b.toInt < 2147483648) : (a + b).toInt = a.toInt + b.toInt := by
  rw [Int32.toInt_add]; exact Int.bmod_eq_of_le (by omega) (by omega)
theorem isub_i {a b : Int32} (h1 : -2147483648 ≤ a.toInt - b.toInt) (h2 : a.toInt - b.toInt < 2147483648) : (a - b).toInt = a.toInt - b.toInt := by
  rw [Int32.toInt_sub]; exact Int.bmod_eq_of_le (by omega) (by omega)
theorem imul_i {a b : Int32} (h1 : -2147483648 ≤ a.toInt * b.toInt) (h2 : a.toInt * b.toInt < 2147483648) : (a * b).toInt = a.toInt * b.toInt := by
  rw [Int32.toInt_mul]; exact Int.bmod_eq_of_le (by omega) (by omega)
theorem rdA_nn {α : Type} {L : List α} {j : Int32} (h0 : 0 ≤ j.toInt) : rdA L j = L[j.toInt.toNat]? := by
  unfold rdA
  rw [if_neg (by rw [ilt]; exact Int.not_lt.mpr h0)]
  rfl
theorem rdA_in {α : Type} {L : List α} {j : Int32} (h0 : 0 ≤ j.toInt) (h1 : j.toInt.toNat < L.length) : rdA L j = some L[j.toInt.toNat] := by
  rw [rdA_nn h0, List.getElem?_eq_getElem h1]
theorem wrA_in {α : Type} {L : List α} {j : Int32} {x : α} (h0 : 0 ≤ j.toInt) (h1 : j.toInt.toNat < L.length) : wrA L j x = some (L.set j.toInt.toNat x) := by
  unfold wrA
  rw [if_neg (by rw [ilt]; exact Int.not_lt.mpr h0)]
  exact if_pos h1
theorem rdA_rep {α : Type} {n : Nat} {x : α} {j : Int32} (h0 : 0 ≤ j.toInt) (h1 : j.toInt < n) : rdA (List.replicate n x) j = some x := by
  rw [rdA_nn h0, List.getElem?_replicate, if_pos (by omega)]
end Jvm.Own
namespace Jvm.Own
open Jvm
/-! Sums of ints with their wrap, for omega; runs that answer, and what they answer -/
theorem bmod32 (x : Int) : x.bmod (2 ^ 32) = (x + 2147483648) % 4294967296 - 2147483648 := by
  rw [Int.bmod_def]
  split <;> omega
theorem iadd_e (a b : Int32) : (a + b).toInt = (a.toInt + b.toInt + 2147483648) % 4294967296 - 2147483648 := by
  rw [Int32.toInt_add, bmod32]
theorem isub_e (a b : Int32) : (a - b).toInt = (a.toInt - b.toInt + 2147483648) % 4294967296 - 2147483648 := by
  rw [Int32.toInt_sub, bmod32]
theorem imul_e (a b : Int32) : (a * b).toInt = (a.toInt * b.toInt + 2147483648) % 4294967296 - 2147483648 := by
  rw [Int32.toInt_mul, bmod32]
theorem iscr {n : Nat} (h : n ≤ 260) : (n.toInt32).toInt = n := Int32.toInt_ofNat_of_lt (by omega)
def Tot {α : Type} (x : Option α) (P : α → Prop) : Prop := ∃ r, x = some r ∧ P r
theorem Tot.mk {α : Type} {P : α → Prop} {a : α} (h : P a) : Tot (some a) P := ⟨a, rfl, h⟩
theorem Tot.bind {α β : Type} {x : Option α} {f : α → Option β} {P : α → Prop} {Q : β → Prop} (h : Tot x P) (g : ∀ a, P a → Tot (f a) Q) : Tot (x.bind f) Q := by
  obtain ⟨r, e, p⟩ := h
  rw [e]
  exact g r p
theorem Tot.mono {α : Type} {x : Option α} {P Q : α → Prop} (h : Tot x P) (g : ∀ a, P a → Q a) : Tot x Q := by
  obtain ⟨r, e, p⟩ := h
  exact ⟨r, e, g r p⟩
theorem Tot.ite {α : Type} {c : Prop} [Decidable c] {a b : Option α} {Q : α → Prop} (h1 : c → Tot a Q) (h2 : ¬ c → Tot b Q) : Tot (if c then a else b) Q := by
  by_cases h : c
  · rw [if_pos h]; exact h1 h
  · rw [if_neg h]; exact h2 h
theorem Tot.rd {α β : Type} {L : List α} {j : Int32} {f : α → Option β} {Q : β → Prop} (h0 : 0 ≤ j.toInt) (h1 : j.toInt < L.length) (g : ∀ a, L[j.toInt.toNat]? = some a → Tot (f a) Q) : Tot ((rdA L j).bind f) Q := by
  have h2 : j.toInt.toNat < L.length := by omega
  rw [rdA_in h0 h2]
  exact g _ (List.getElem?_eq_getElem h2)
theorem Tot.wr {α β : Type} {L : List α} {j : Int32} {x : α} {f : List α → Option β} {Q : β → Prop} (h0 : 0 ≤ j.toInt) (h1 : j.toInt < L.length) (g : ∀ L' : List α, L' = L.set j.toInt.toNat x → L'.length = L.length → Tot (f L') Q) : Tot ((wrA L j x).bind f) Q := by
  rw [wrA_in h0 (by omega)]
  exact g _ rfl (by simp)
theorem Tot.eq {α : Type} {x : Option α} {a : α} (h : Tot x (fun r => r = a)) : x = some a := by
  obtain ⟨r, e, p⟩ := h
  rw [e, p]
theorem Tot.of {α : Type} {x : Option α} {a : α} {P : α → Prop} (e : x = some a) (p : P a) : Tot x P := ⟨a, e, p⟩
/-- a bit mask at 15, 31 .. -/
theorem iand_rng (x : Int32) (m : Int32) (h : 0 ≤ m.toInt) : 0 ≤ (x &&& m).toInt ∧ (x &&& m).toInt ≤ m.toInt := by
  have hm : m.toBitVec.msb = false := by
    rw [BitVec.msb_eq_toInt]; simpa using h
  have hx : (x &&& m).toBitVec.msb = false := by
    rw [Int32.toBitVec_and, BitVec.msb_and, hm, Bool.and_false]
  have e1 : m.toInt = (m.toBitVec.toNat : Int) := BitVec.toInt_eq_toNat_of_msb hm
  have e2 : (x &&& m).toInt = (((x &&& m).toBitVec).toNat : Int) := BitVec.toInt_eq_toNat_of_msb hx
  have e3 : ((x &&& m).toBitVec).toNat ≤ m.toBitVec.toNat := by
    rw [Int32.toBitVec_and, BitVec.toNat_and]; exact Nat.and_le_right
  omega
def gI (L : List Int32) (j : Int32) : Int32 := (rdA L j).getD 0
theorem rdg {L : List Int32} {j : Int32} (h0 : 0 ≤ j.toInt) (h1 : j.toInt < L.length) : rdA L j = some (gI L j) := by
  have h2 : j.toInt.toNat < L.length := by omega
  unfold gI
  rw [rdA_in h0 h2]
  (first | done | rfl | simp)
theorem gset {L : List Int32} {i j : Int32} {x : Int32} (hi : 0 ≤ i.toInt) (hl : i.toInt < L.length) (hj : 0 ≤ j.toInt) : gI (L.set i.toInt.toNat x) j = if i = j then x else gI L j := by
  unfold gI
  rw [rdA_nn hj, rdA_nn hj]
  by_cases h : i = j
  · subst h
    rw [if_pos rfl, List.getElem?_set_self (by omega)]
    (first | done | rfl | simp)
  · rw [if_neg h, List.getElem?_set_ne (by rw [ieq] at h; omega)]
theorem gext {A B : List Int32} (hl : A.length < 100000) (ha : A.length = B.length) (h : ∀ i : Int32, 0 ≤ i.toInt → i.toInt < A.length → gI A i = gI B i) : A = B := by
  apply List.ext_getElem ha
  intro k h1 h2
  have e : (Int32.ofNat k).toInt = k := Int32.toInt_ofNat_of_lt (by omega)
  have q := h (Int32.ofNat k) (by omega) (by omega)
  unfold gI at q
  rw [rdA_nn (by omega), rdA_nn (by omega), e] at q
  simpa [h1, h2] using q
theorem Tot.rdI {β : Type} {L : List Int32} {j : Int32} {f : Int32 → Option β} {Q : β → Prop} (h0 : 0 ≤ j.toInt) (h1 : j.toInt < L.length) (g : Tot (f (gI L j)) Q) : Tot ((rdA L j).bind f) Q := by
  rw [rdg h0 h1]
  exact g
theorem gI_rep {n : Nat} {x : Int32} {j : Int32} (h0 : 0 ≤ j.toInt) (h1 : j.toInt < n) : gI (List.replicate n x) j = x := by
  unfold gI
  rw [rdA_rep h0 h1]
  (first | done | rfl | simp)
/-! Longs -/
theorem lltI {a b : Int64} : a < b ↔ a.toInt < b.toInt := Int64.lt_iff_toInt_lt
theorem leqI {a b : Int64} : a = b ↔ a.toInt = b.toInt := Int64.toInt_inj.symm
theorem lrng (a : Int64) : -9223372036854775808 ≤ a.toInt ∧ a.toInt < 9223372036854775808 := ⟨Int64.le_toInt a, Int64.toInt_lt a⟩
theorem ladd_i {a b : Int64} (h1 : -9223372036854775808 ≤ a.toInt + b.toInt) (h2 : a.toInt + b.toInt < 9223372036854775808) : (a + b).toInt = a.toInt + b.toInt := by
  rw [Int64.toInt_add]; exact Int.bmod_eq_of_le (by omega) (by omega)
theorem lsub_i {a b : Int64} (h1 : -9223372036854775808 ≤ a.toInt - b.toInt) (h2 : a.toInt - b.toInt < 9223372036854775808) : (a - b).toInt = a.toInt - b.toInt := by
  rw [Int64.toInt_sub]; exact Int.bmod_eq_of_le (by omega) (by omega)
theorem lmul_i {a b : Int64} (h1 : -9223372036854775808 ≤ a.toInt * b.toInt) (h2 : a.toInt * b.toInt < 9223372036854775808) : (a * b).toInt = a.toInt * b.toInt := by
  rw [Int64.toInt_mul]; exact Int.bmod_eq_of_le (by omega) (by omega)
theorem lmod_i {a b : Int64} (h : 0 ≤ a.toInt) : (a % b).toInt = a.toInt % b.toInt := by
  rw [Int64.toInt_mod, Int.tmod_eq_emod_of_nonneg h]
theorem lback {a : Int64} (h1 : -2147483648 ≤ a.toInt) (h2 : a.toInt < 2147483648) : a.toInt32.toInt64 = a := by
  rw [leqI, Int32.toInt_toInt64, Int64.toInt_toInt32, bmod32]
  omega
theorem mulb {a b M : Int} (h0 : 0 ≤ a) (h1 : a ≤ M) (h2 : 0 ≤ b) (h3 : b ≤ M) : 0 ≤ a * b ∧ a * b ≤ M * M :=
  ⟨Int.mul_nonneg h0 h2, Int.mul_le_mul h1 h3 h2 (by omega)⟩
end Jvm.Own
namespace Jvm.Pilot.@@N@@
open Jvm Jvm.ClassFile Sem Op Lib Jvm.Free Jvm.Stand Jvm.LawKit Jvm.RoadKit Bundle Jvm.Own Jvm.Pilot.@@N@@.Jvm.D
def d_0 : MD := (x, code, maxLocals, ret, 0, 1, 999, 4, 64, [(0, .aload_n 0, 1, [], 0, 0), (1, .arraylength, 1, [], 0, 0), (2, .ifCond .le 9, 3, [], 0, 0), (5, .aload_n 0, 1, [], 0, 0), (6, .iconst 0, 1, [], 0, 0), (7, .iaload, 1, [], 0, 0), (8, .goto 4, 3, [], 0, 0), (11, .iconst 1, 1, [], 0, 0), (12, .istore_n 1, 1, [false, true, true, true, true, true, true, true, true], 0, 0), (13, .aload_n 0, 1, [], 0, 0), (14, .arraylength, 1, [], 0, 0), (15, .iconst 1, 1, [], 0, 0), (16, .if_icmp .le 9, 3, [], 0, 0), (19, .aload_n 0, 1, [], 0, 0), (20, .iconst 1, 1, [], 0, 0), (21, .iaload, 1, [], 0, 0), (22, .goto 4, 3, [], 0, 0), (25, .iconst 1, 1, [], 0, 0), (26, .istore_n 2, 1, [false, false, true, true, true, true, true, true, true], 0, 0), (27, .new 8, 3, [], 0, 0), (30, .dup, 1, [], 0, 0), (31, .iload_n 1, 1, [], 0, 0), (32, .iload_n 2, 1, [], 0, 0), (33, .invokespecial 38, 3, [], 1, 0), (36, .astore_n 3, 1, [], 0, 0), (37, .iconst 2, 1, [], 0, 0), (38, .istore 4, 2, [], 0, 0), (40, .iload 4, 2, [false, true, true, false, false, true, true, true, true], 0, 0), (42, .iconst 4, 1, [], 0, 0), (43, .iadd, 1, [], 0, 0), (44, .aload_n 0, 1, [], 0, 0), (45, .arraylength, 1, [], 0, 0), (46, .if_icmp .gt 134, 3, [], 0, 0), (49, .aload_n 0, 1, [], 0, 0), (50, .iload 4, 2, [], 0, 0), (52, .iaload, 1, [], 0, 0), (53, .bipush 7, 2, [], 0, 0), (55, .iand, 1, [], 0, 0), (56, .istore 5, 2, [], 0, 0), (58, .aload_n 0, 1, [], 0, 0), (59, .iload 4, 2, [], 0, 0), (61, .iconst 1, 1, [], 0, 0), (62, .iadd, 1, [], 0, 0), (63, .iaload, 1, [], 0, 0), (64, .istore 6, 2, [], 0, 0), (66, .aload_n 0, 1, [], 0, 0), (67, .iload 4, 2, [], 0, 0), (69, .iconst 2, 1, [], 0, 0), (70, .iadd, 1, [], 0, 0), (71, .iaload, 1, [], 0, 0), (72, .istore 7, 2, [], 0, 0), (74, .aload_n 0, 1, [], 0, 0), (75, .iload 4, 2, [], 0, 0), (77, .iconst 3, 1, [], 0, 0), (78, .iadd, 1, [], 0, 0), (79, .iaload, 1, [], 0, 0), (80, .istore 8, 2, [], 0, 0), (82, .iload 5, 2, [], 0, 0), (84, .ifCond .ne 17, 3, [], 0, 0), (87, .aload_n 3, 1, [], 0, 0), (88, .iload 6, 2, [], 0, 0), (90, .iload 7, 2, [], 0, 0), (92, .iload 8, 2, [], 0, 0), (94, .invokevirtual 41, 3, [], 23, 0), (97, .pop, 1, [], 0, 0), (98, .goto 67, 3, [], 0, 0), (101, .iload 5, 2, [], 0, 0), (103, .iconst 1, 1, [], 0, 0), (104, .if_icmp .ne 11, 3, [], 0, 0), (107, .aload_n 3, 1, [], 0, 0), (108, .invokevirtual 45, 3, [], 4, 0), (111, .pop, 1, [], 0, 0), (112, .goto 53, 3, [], 0, 0), (115, .iload 5, 2, [], 0, 0), (117, .iconst 2, 1, [], 0, 0), (118, .if_icmp .ne 11, 3, [], 0, 0), (121, .aload_n 3, 1, [], 0, 0), (122, .invokevirtual 49, 3, [], 14, 0), (125, .pop, 1, [], 0, 0), (126, .goto 39, 3, [], 0, 0), (129, .iload 5, 2, [], 0, 0), (131, .iconst 3, 1, [], 0, 0), (132, .if_icmp .ne 11, 3, [], 0, 0), (135, .aload_n 3, 1, [], 0, 0), (136, .invokevirtual 52, 3, [], 24, 0), (139, .pop, 1, [], 0, 0), (140, .goto 25, 3, [], 0, 0), (143, .iload 5, 2, [], 0, 0), (145, .iconst 4, 1, [], 0, 0), (146, .if_icmp .ne 10, 3, [], 0, 0), (149, .aload_n 3, 1, [], 0, 0), (150, .invokevirtual 55, 3, [], 28, 0), (153, .goto 12, 3, [], 0, 0), (156, .aload_n 3, 1, [], 0, 0), (157, .iload 6, 2, [], 0, 0), (159, .iload 7, 2, [], 0, 0), (161, .invokevirtual 58, 3, [], 27, 0), (164, .pop, 1, [], 0, 0), (165, .aload_n 3, 1, [false, true, true, false, false, true, true, true, true], 0, 0), (166, .invokestatic 61, 3, [], 5, 0), (169, .ifCond .ne 5, 3, [], 0, 0), (172, .iconst 0, 1, [], 0, 0), (173, .ireturn, 1, [], 0, 0), (174, .iinc 4 4, 3, [], 0, 0), (177, .goto (-137), 3, [], 0, 0), (180, .iconst 1, 1, [], 0, 0), (181, .ireturn, 1, [], 0, 0)])
def d_1 : MD := (⟨"LightsOutSolver", "<init>", "(II)V"⟩, prog_1_method_1_code, 3, none, 1, 2, 0, 1, 13, [(0, .aload_n 0, 1, [], 0, 0), (1, .invokespecial 1, 3, [], 0, -1), (4, .aload_n 0, 1, [], 0, 0), (5, .bipush 64, 2, [], 0, 0), (7, .newarray .int, 2, [], 0, 0), (9, .putfield 7, 3, [], 0, 0), (12, .aload_n 0, 1, [], 0, 0), (13, .bipush 8, 2, [], 0, 0), (15, .newarray .int, 2, [], 0, 0), (17, .putfield 13, 3, [], 1, 0), (20, .aload_n 0, 1, [], 0, 0), (21, .bipush 8, 2, [], 0, 0), (23, .newarray .int, 2, [], 0, 0), (25, .putfield 16, 3, [], 2, 0), (28, .aload_n 0, 1, [], 0, 0), (29, .iload_n 1, 1, [], 0, 0), (30, .invokestatic 19, 3, [], 2, 0), (33, .putfield 23, 3, [], 3, 0), (36, .aload_n 0, 1, [], 0, 0), (37, .iload_n 2, 1, [], 0, 0), (38, .invokestatic 19, 3, [], 2, 0), (41, .putfield 27, 3, [], 4, 0), (44, .aload_n 0, 1, [], 0, 0), (45, .lconst 0, 1, [], 0, 0), (46, .putfield 30, 3, [], 5, 0), (49, .aload_n 0, 1, [], 0, 0), (50, .iconst 0, 1, [], 0, 0), (51, .putfield 34, 3, [], 6, 0), (54, .aload_n 0, 1, [], 0, 0), (55, .invokevirtual 37, 3, [], 3, 0), (58, .return_, 1, [], 0, 0)])
def d_2 : MD := (⟨"LightsOutSolver", "clamp", "(I)I"⟩, prog_1_method_18_code, 1, some .int, 0, 1, 0, 0, 0, [(0, .iload_n 0, 1, [], 0, 0), (1, .iconst 1, 1, [], 0, 0), (2, .if_icmp .ge 5, 3, [], 0, 0), (5, .iconst 1, 1, [], 0, 0), (6, .ireturn, 1, [], 0, 0), (7, .iload_n 0, 1, [], 0, 0), (8, .bipush 8, 2, [], 0, 0), (10, .if_icmp .le 6, 3, [], 0, 0), (13, .bipush 8, 2, [], 0, 0), (15, .ireturn, 1, [], 0, 0), (16, .iload_n 0, 1, [], 0, 0), (17, .ireturn, 1, [], 0, 0)])
def d_3 : MD := (⟨"LightsOutSolver", "forgetResult", "()V"⟩, prog_1_method_19_code, 1, none, 2, 0, 0, 0, 0, [(0, .aload_n 0, 1, [], 0, 0), (1, .iconst 0, 1, [], 0, 0), (2, .putfield 70, 3, [], 7, 0), (5, .aload_n 0, 1, [], 0, 0), (6, .lconst 0, 1, [], 0, 0), (7, .putfield 73, 3, [], 8, 0), (10, .aload_n 0, 1, [], 0, 0), (11, .iconst 0, 1, [], 0, 0), (12, .putfield 76, 3, [], 9, 0), (15, .aload_n 0, 1, [], 0, 0), (16, .iconst 0, 1, [], 0, 0), (17, .putfield 79, 3, [], 10, 0), (20, .return_, 1, [], 0, 0)])
def d_4 : MD := (⟨"LightsOutSolver", "undo", "()Z"⟩, prog_1_method_6_code, 2, some .boolean, 3, 0, 0, 2, 32, [(0, .aload_n 0, 1, [], 0, 0), (1, .getfield 34, 3, [], 6, 0), (4, .ifCond .gt 5, 3, [], 0, 0), (7, .iconst 0, 1, [], 0, 0), (8, .ireturn, 1, [], 0, 0), (9, .aload_n 0, 1, [], 0, 0), (10, .dup, 1, [], 0, 0), (11, .getfield 34, 3, [], 6, 0), (14, .iconst 1, 1, [], 0, 0), (15, .isub, 1, [], 0, 0), (16, .putfield 34, 3, [], 6, 0), (19, .aload_n 0, 1, [], 0, 0), (20, .getfield 7, 3, [], 0, 0), (23, .aload_n 0, 1, [], 0, 0), (24, .getfield 34, 3, [], 6, 0), (27, .iaload, 1, [], 0, 0), (28, .istore_n 1, 1, [], 0, 0), (29, .aload_n 0, 1, [], 0, 0), (30, .iload_n 1, 1, [], 0, 0), (31, .aload_n 0, 1, [], 0, 0), (32, .getfield 27, 3, [], 4, 0), (35, .idiv, 1, [], 0, 0), (36, .iload_n 1, 1, [], 0, 0), (37, .aload_n 0, 1, [], 0, 0), (38, .getfield 27, 3, [], 4, 0), (41, .irem, 1, [], 0, 0), (42, .invokevirtual 50, 3, [], 26, 0), (45, .iconst 1, 1, [], 0, 0), (46, .ireturn, 1, [], 0, 0)])
def d_5 : MD := (⟨"LightsOutSolverL4", "ok", "(LLightsOutSolver;)Z"⟩, method_3_code, 8, some .boolean, 0, 1, 999, 3, 45, [(0, .aload_n 0, 1, [], 0, 0), (1, .invokevirtual 13, 3, [], 6, 0), (4, .istore_n 1, 1, [], 0, 0), (5, .aload_n 0, 1, [], 0, 0), (6, .invokevirtual 17, 3, [], 7, 0), (9, .istore_n 2, 1, [], 0, 0), (10, .aload_n 0, 1, [], 0, 0), (11, .invokevirtual 20, 3, [], 8, 0), (14, .istore_n 3, 1, [], 0, 0), (15, .aload_n 0, 1, [], 0, 0), (16, .invokestatic 23, 3, [], 9, 0), (19, .istore 4, 2, [], 0, 0), (21, .aload_n 0, 1, [], 0, 0), (22, .invokevirtual 29, 3, [], 11, 0), (25, .istore 5, 2, [], 0, 0), (27, .aload_n 0, 1, [], 0, 0), (28, .invokevirtual 32, 3, [], 12, 0), (31, .istore 6, 2, [], 0, 0), (33, .aload_n 0, 1, [], 0, 0), (34, .invokevirtual 35, 3, [], 13, 0), (37, .istore 7, 2, [], 0, 0), (39, .iload 7, 2, [], 0, 0), (41, .ifCond .lt 10, 3, [], 0, 0), (44, .iload 7, 2, [], 0, 0), (46, .bipush 64, 2, [], 0, 0), (48, .if_icmp .le 5, 3, [], 0, 0), (51, .iconst 0, 1, [], 0, 0), (52, .ireturn, 1, [], 0, 0), (53, .iload_n 1, 1, [], 0, 0), (54, .iconst 1, 1, [], 0, 0), (55, .if_icmp .ne 48, 3, [], 0, 0), (58, .iload_n 2, 1, [], 0, 0), (59, .ifCond .lt 42, 3, [], 0, 0), (62, .iload_n 2, 1, [], 0, 0), (63, .iload 5, 2, [], 0, 0), (65, .iload 6, 2, [], 0, 0), (67, .imul, 1, [], 0, 0), (68, .if_icmp .gt 33, 3, [], 0, 0), (71, .iload_n 3, 1, [], 0, 0), (72, .iconst 1, 1, [], 0, 0), (73, .if_icmp .lt 28, 3, [], 0, 0), (76, .iload_n 3, 1, [], 0, 0), (77, .sipush 256, 3, [], 0, 0), (80, .if_icmp .gt 21, 3, [], 0, 0), (83, .iload_n 3, 1, [], 0, 0), (84, .iload_n 3, 1, [], 0, 0), (85, .iconst 1, 1, [], 0, 0), (86, .isub, 1, [], 0, 0), (87, .iand, 1, [], 0, 0), (88, .ifCond .ne 13, 3, [], 0, 0), (91, .iload 4, 2, [], 0, 0), (93, .iload_n 2, 1, [], 0, 0), (94, .if_icmp .ne 7, 3, [], 0, 0), (97, .iconst 1, 1, [], 0, 0), (98, .goto 4, 3, [], 0, 0), (101, .iconst 0, 1, [], 0, 0), (102, .ireturn, 1, [], 0, 0), (103, .iload_n 1, 1, [], 0, 0), (104, .ifCond .eq 8, 3, [], 0, 0), (107, .iload_n 1, 1, [], 0, 0), (108, .iconst 2, 1, [], 0, 0), (109, .if_icmp .ne 21, 3, [], 0, 0), (112, .iload_n 2, 1, [true, true, false, false, false, true, true, true], 0, 0), (113, .iconst (-1), 1, [], 0, 0), (114, .if_icmp .ne 16, 3, [], 0, 0), (117, .iload_n 3, 1, [], 0, 0), (118, .ifCond .ne 12, 3, [], 0, 0), (121, .iload 4, 2, [], 0, 0), (123, .ifCond .ne 7, 3, [], 0, 0), (126, .iconst 1, 1, [], 0, 0), (127, .goto 4, 3, [], 0, 0), (130, .iconst 0, 1, [], 0, 0), (131, .ireturn, 1, [], 0, 0)])
def d_6 : MD := (⟨"LightsOutSolver", "status", "()I"⟩, prog_1_method_12_code, 1, some .int, 3, 0, 0, 0, 0, [(0, .aload_n 0, 1, [], 0, 0), (1, .getfield 70, 3, [], 7, 0), (4, .ireturn, 1, [], 0, 0)])
def d_7 : MD := (⟨"LightsOutSolver", "solutionSize", "()I"⟩, prog_1_method_13_code, 1, some .int, 3, 0, 0, 0, 0, [(0, .aload_n 0, 1, [], 0, 0), (1, .getfield 70, 3, [], 7, 0), (4, .iconst 1, 1, [], 0, 0), (5, .if_icmp .eq 5, 3, [], 0, 0), (8, .iconst (-1), 1, [], 0, 0), (9, .ireturn, 1, [], 0, 0), (10, .aload_n 0, 1, [], 0, 0), (11, .getfield 76, 3, [], 9, 0), (14, .ireturn, 1, [], 0, 0)])
def d_8 : MD := (⟨"LightsOutSolver", "solutionCount", "()I"⟩, prog_1_method_14_code, 1, some .int, 3, 0, 0, 0, 0, [(0, .aload_n 0, 1, [], 0, 0), (1, .getfield 70, 3, [], 7, 0), (4, .iconst 1, 1, [], 0, 0), (5, .if_icmp .eq 5, 3, [], 0, 0), (8, .iconst 0, 1, [], 0, 0), (9, .ireturn, 1, [], 0, 0), (10, .aload_n 0, 1, [], 0, 0), (11, .getfield 79, 3, [], 10, 0), (14, .ireturn, 1, [], 0, 0)])
def d_9 : MD := (⟨"LightsOutSolverL4", "countIn", "(LLightsOutSolver;)I"⟩, method_2_code, 4, some .int, 0, 1, 999, 2, 30, [(0, .iconst 0, 1, [], 0, 0), (1, .istore_n 1, 1, [], 0, 0), (2, .iconst 0, 1, [], 0, 0), (3, .istore_n 2, 1, [], 0, 0), (4, .iload_n 2, 1, [false, false, false, true], 0, 0), (5, .bipush 8, 2, [], 0, 0), (7, .if_icmp .ge 35, 3, [], 0, 0), (10, .iconst 0, 1, [], 0, 0), (11, .istore_n 3, 1, [], 0, 0), (12, .iload_n 3, 1, [], 0, 0), (13, .bipush 8, 2, [], 0, 0), (15, .if_icmp .ge 21, 3, [], 0, 0), (18, .aload_n 0, 1, [], 0, 0), (19, .iload_n 2, 1, [], 0, 0), (20, .iload_n 3, 1, [], 0, 0), (21, .invokevirtual 7, 3, [], 10, 0), (24, .ifCond .eq 6, 3, [], 0, 0), (27, .iinc 1 1, 3, [], 0, 0), (30, .iinc 3 1, 3, [], 0, 0), (33, .goto (-21), 3, [], 0, 0), (36, .iinc 2 1, 3, [], 0, 0), (39, .goto (-35), 3, [], 0, 0), (42, .iload_n 1, 1, [], 0, 0), (43, .ireturn, 1, [], 0, 0)])
def d_10 : MD := (⟨"LightsOutSolver", "inSolution", "(II)Z"⟩, prog_1_method_15_code, 3, some .boolean, 3, 2, 0, 1, 16, [(0, .aload_n 0, 1, [], 0, 0), (1, .getfield 70, 3, [], 7, 0), (4, .iconst 1, 1, [], 0, 0), (5, .if_icmp .ne 12, 3, [], 0, 0), (8, .aload_n 0, 1, [], 0, 0), (9, .iload_n 1, 1, [], 0, 0), (10, .iload_n 2, 1, [], 0, 0), (11, .invokevirtual 40, 3, [], 21, 0), (14, .ifCond .ne 5, 3, [], 0, 0), (17, .iconst 0, 1, [], 0, 0), (18, .ireturn, 1, [], 0, 0), (19, .aload_n 0, 1, [], 0, 0), (20, .getfield 73, 3, [], 8, 0), (23, .aload_n 0, 1, [], 0, 0), (24, .iload_n 1, 1, [], 0, 0), (25, .iload_n 2, 1, [], 0, 0), (26, .invokevirtual 44, 3, [], 22, 0), (29, .land, 1, [], 0, 0), (30, .lconst 0, 1, [], 0, 0), (31, .lcmp, 1, [], 0, 0), (32, .ifCond .eq 7, 3, [], 0, 0), (35, .iconst 1, 1, [], 0, 0), (36, .goto 4, 3, [], 0, 0), (39, .iconst 0, 1, [], 0, 0), (40, .ireturn, 1, [], 0, 0)])
def d_11 : MD := (⟨"LightsOutSolver", "rows", "()I"⟩, prog_1_method_2_code, 1, some .int, 3, 0, 0, 0, 0, [(0, .aload_n 0, 1, [], 0, 0), (1, .getfield 23, 3, [], 3, 0), (4, .ireturn, 1, [], 0, 0)])
def d_12 : MD := (⟨"LightsOutSolver", "cols", "()I"⟩, prog_1_method_3_code, 1, some .int, 3, 0, 0, 0, 0, [(0, .aload_n 0, 1, [], 0, 0), (1, .getfield 27, 3, [], 4, 0), (4, .ireturn, 1, [], 0, 0)])
def d_13 : MD := (⟨"LightsOutSolver", "logSize", "()I"⟩, prog_1_method_7_code, 1, some .int, 3, 0, 0, 0, 0, [(0, .aload_n 0, 1, [], 0, 0), (1, .getfield 34, 3, [], 6, 0), (4, .ireturn, 1, [], 0, 0)])
def d_14 : MD := (⟨"LightsOutSolver", "solve", "()I"⟩, prog_1_method_11_code, 10, some .int, 3, 0, 0, 3, 42, [(0, .iconst 0, 1, [], 0, 0), (1, .istore_n 1, 1, [], 0, 0), (2, .bipush 65, 2, [], 0, 0), (4, .istore_n 2, 1, [], 0, 0), (5, .lconst 0, 1, [], 0, 0), (6, .lstore_n 3, 1, [], 0, 0), (7, .iconst 1, 1, [], 0, 0), (8, .aload_n 0, 1, [], 0, 0), (9, .getfield 27, 3, [], 4, 0), (12, .ishl, 1, [], 0, 0), (13, .istore 5, 2, [], 0, 0), (15, .iconst 0, 1, [], 0, 0), (16, .istore 6, 2, [], 0, 0), (18, .iload 6, 2, [false, false, false, false, false, false, false, true, true, true], 0, 0), (20, .iload 5, 2, [], 0, 0), (22, .if_icmp .ge 64, 3, [], 0, 0), (25, .aload_n 0, 1, [], 0, 0), (26, .iload 6, 2, [], 0, 0), (28, .invokevirtual 58, 3, [], 15, 0), (31, .ifCond .ne 6, 3, [], 0, 0), (34, .goto 46, 3, [], 0, 0), (37, .iinc 1 1, 3, [], 0, 0), (40, .aload_n 0, 1, [], 0, 0), (41, .invokevirtual 62, 3, [], 19, 0), (44, .lstore 7, 2, [], 0, 0), (46, .lload 7, 2, [], 0, 0), (48, .invokestatic 54, 3, [], 20, 0), (51, .istore 9, 2, [], 0, 0), (53, .iload 9, 2, [], 0, 0), (55, .iload_n 2, 1, [], 0, 0), (56, .if_icmp .lt 18, 3, [], 0, 0), (59, .iload 9, 2, [], 0, 0), (61, .iload_n 2, 1, [], 0, 0), (62, .if_icmp .ne 18, 3, [], 0, 0), (65, .lload 7, 2, [], 0, 0), (67, .lload_n 3, 1, [], 0, 0), (68, .invokestatic 66, 3, [], 25, 0), (71, .ifCond .eq 9, 3, [], 0, 0), (74, .iload 9, 2, [], 0, 0), (76, .istore_n 2, 1, [], 0, 0), (77, .lload 7, 2, [], 0, 0), (79, .lstore_n 3, 1, [], 0, 0), (80, .iinc 6 1, 3, [], 0, 0), (83, .goto (-65), 3, [], 0, 0), (86, .iload_n 1, 1, [false, false, false, false, false, true, true, true, true, true], 0, 0), (87, .ifCond .ne 26, 3, [], 0, 0), (90, .aload_n 0, 1, [], 0, 0), (91, .iconst 2, 1, [], 0, 0), (92, .putfield 70, 3, [], 7, 0), (95, .aload_n 0, 1, [], 0, 0), (96, .lconst 0, 1, [], 0, 0), (97, .putfield 73, 3, [], 8, 0), (100, .aload_n 0, 1, [], 0, 0), (101, .iconst 0, 1, [], 0, 0), (102, .putfield 76, 3, [], 9, 0), (105, .aload_n 0, 1, [], 0, 0), (106, .iconst 0, 1, [], 0, 0), (107, .putfield 79, 3, [], 10, 0), (110, .goto 23, 3, [], 0, 0), (113, .aload_n 0, 1, [], 0, 0), (114, .iconst 1, 1, [], 0, 0), (115, .putfield 70, 3, [], 7, 0), (118, .aload_n 0, 1, [], 0, 0), (119, .lload_n 3, 1, [], 0, 0), (120, .putfield 73, 3, [], 8, 0), (123, .aload_n 0, 1, [], 0, 0), (124, .iload_n 2, 1, [], 0, 0), (125, .putfield 76, 3, [], 9, 0), (128, .aload_n 0, 1, [], 0, 0), (129, .iload_n 1, 1, [], 0, 0), (130, .putfield 79, 3, [], 10, 0), (133, .aload_n 0, 1, [], 0, 0), (134, .getfield 70, 3, [], 7, 0), (137, .ireturn, 1, [], 0, 0)])
def d_15 : MD := (⟨"LightsOutSolver", "chase", "(I)Z"⟩, prog_1_method_26_code, 4, some .boolean, 2, 1, 0, 2, 27, [(0, .aload_n 0, 1, [], 0, 0), (1, .invokevirtual 86, 3, [], 16, 0), (4, .iload_n 1, 1, [], 0, 0), (5, .istore_n 2, 1, [], 0, 0), (6, .iconst 0, 1, [], 0, 0), (7, .istore_n 3, 1, [], 0, 0), (8, .iload_n 3, 1, [false, true], 0, 0), (9, .aload_n 0, 1, [], 0, 0), (10, .getfield 23, 3, [], 3, 0), (13, .if_icmp .ge 29, 3, [], 0, 0), (16, .aload_n 0, 1, [], 0, 0), (17, .getfield 16, 3, [], 2, 0), (20, .iload_n 3, 1, [], 0, 0), (21, .iload_n 2, 1, [], 0, 0), (22, .iastore, 1, [], 0, 0), (23, .aload_n 0, 1, [], 0, 0), (24, .iload_n 3, 1, [], 0, 0), (25, .iload_n 2, 1, [], 0, 0), (26, .invokevirtual 89, 3, [], 18, 0), (29, .aload_n 0, 1, [], 0, 0), (30, .getfield 13, 3, [], 1, 0), (33, .iload_n 3, 1, [], 0, 0), (34, .iaload, 1, [], 0, 0), (35, .istore_n 2, 1, [], 0, 0), (36, .iinc 3 1, 3, [], 0, 0), (39, .goto (-31), 3, [], 0, 0), (42, .aload_n 0, 1, [false, true, true, true], 0, 0), (43, .getfield 13, 3, [], 1, 0), (46, .aload_n 0, 1, [], 0, 0), (47, .getfield 23, 3, [], 3, 0), (50, .iconst 1, 1, [], 0, 0), (51, .isub, 1, [], 0, 0), (52, .iaload, 1, [], 0, 0), (53, .ifCond .ne 7, 3, [], 0, 0), (56, .iconst 1, 1, [], 0, 0), (57, .goto 4, 3, [], 0, 0), (60, .iconst 0, 1, [], 0, 0), (61, .ireturn, 1, [], 0, 0)])
def d_16 : MD := (⟨"LightsOutSolver", "loadRows", "()V"⟩, prog_1_method_24_code, 4, none, 2, 0, 0, 1, 12, [(0, .aload_n 0, 1, [], 0, 0), (1, .invokevirtual 82, 3, [], 17, 0), (4, .i2l, 1, [], 0, 0), (5, .lstore_n 1, 1, [], 0, 0), (6, .iconst 0, 1, [], 0, 0), (7, .istore_n 3, 1, [], 0, 0), (8, .iload_n 3, 1, [], 0, 0), (9, .aload_n 0, 1, [], 0, 0), (10, .getfield 23, 3, [], 3, 0), (13, .if_icmp .ge 29, 3, [], 0, 0), (16, .aload_n 0, 1, [], 0, 0), (17, .getfield 13, 3, [], 1, 0), (20, .iload_n 3, 1, [], 0, 0), (21, .aload_n 0, 1, [], 0, 0), (22, .getfield 30, 3, [], 5, 0), (25, .iload_n 3, 1, [], 0, 0), (26, .aload_n 0, 1, [], 0, 0), (27, .getfield 27, 3, [], 4, 0), (30, .imul, 1, [], 0, 0), (31, .lushr, 1, [], 0, 0), (32, .lload_n 1, 1, [], 0, 0), (33, .land, 1, [], 0, 0), (34, .l2i, 1, [], 0, 0), (35, .iastore, 1, [], 0, 0), (36, .iinc 3 1, 3, [], 0, 0), (39, .goto (-31), 3, [], 0, 0), (42, .return_, 1, [], 0, 0)])
def d_17 : MD := (⟨"LightsOutSolver", "rowMask", "()I"⟩, prog_1_method_23_code, 1, some .int, 2, 0, 0, 0, 0, [(0, .iconst 1, 1, [], 0, 0), (1, .aload_n 0, 1, [], 0, 0), (2, .getfield 27, 3, [], 4, 0), (5, .ishl, 1, [], 0, 0), (6, .iconst 1, 1, [], 0, 0), (7, .isub, 1, [], 0, 0), (8, .ireturn, 1, [], 0, 0)])
def d_18 : MD := (⟨"LightsOutSolver", "applyRowPress", "(II)V"⟩, prog_1_method_25_code, 4, none, 2, 2, 0, 1, 12, [(0, .aload_n 0, 1, [], 0, 0), (1, .invokevirtual 82, 3, [], 17, 0), (4, .istore_n 3, 1, [], 0, 0), (5, .aload_n 0, 1, [], 0, 0), (6, .getfield 13, 3, [], 1, 0), (9, .iload_n 1, 1, [], 0, 0), (10, .dup2, 1, [], 0, 0), (11, .iaload, 1, [], 0, 0), (12, .iload_n 2, 1, [], 0, 0), (13, .iload_n 2, 1, [], 0, 0), (14, .iconst 1, 1, [], 0, 0), (15, .ishl, 1, [], 0, 0), (16, .ixor, 1, [], 0, 0), (17, .iload_n 2, 1, [], 0, 0), (18, .iconst 1, 1, [], 0, 0), (19, .iushr, 1, [], 0, 0), (20, .ixor, 1, [], 0, 0), (21, .iload_n 3, 1, [], 0, 0), (22, .iand, 1, [], 0, 0), (23, .ixor, 1, [], 0, 0), (24, .iastore, 1, [], 0, 0), (25, .iload_n 1, 1, [], 0, 0), (26, .ifCond .le 15, 3, [], 0, 0), (29, .aload_n 0, 1, [], 0, 0), (30, .getfield 13, 3, [], 1, 0), (33, .iload_n 1, 1, [], 0, 0), (34, .iconst 1, 1, [], 0, 0), (35, .isub, 1, [], 0, 0), (36, .dup2, 1, [], 0, 0), (37, .iaload, 1, [], 0, 0), (38, .iload_n 2, 1, [], 0, 0), (39, .ixor, 1, [], 0, 0), (40, .iastore, 1, [], 0, 0), (41, .iload_n 1, 1, [false, false, false, true], 0, 0), (42, .iconst 1, 1, [], 0, 0), (43, .iadd, 1, [], 0, 0), (44, .aload_n 0, 1, [], 0, 0), (45, .getfield 23, 3, [], 3, 0), (48, .if_icmp .ge 15, 3, [], 0, 0), (51, .aload_n 0, 1, [], 0, 0), (52, .getfield 13, 3, [], 1, 0), (55, .iload_n 1, 1, [], 0, 0), (56, .iconst 1, 1, [], 0, 0), (57, .iadd, 1, [], 0, 0), (58, .dup2, 1, [], 0, 0), (59, .iaload, 1, [], 0, 0), (60, .iload_n 2, 1, [], 0, 0), (61, .ixor, 1, [], 0, 0), (62, .iastore, 1, [], 0, 0), (63, .return_, 1, [], 0, 0)])
def d_19 : MD := (⟨"LightsOutSolver", "packPresses", "()J"⟩, prog_1_method_27_code, 4, some .long, 2, 0, 0, 0, 0, [(0, .lconst 0, 1, [], 0, 0), (1, .lstore_n 1, 1, [], 0, 0), (2, .iconst 0, 1, [], 0, 0), (3, .istore_n 3, 1, [], 0, 0), (4, .iload_n 3, 1, [], 0, 0), (5, .aload_n 0, 1, [], 0, 0), (6, .getfield 23, 3, [], 3, 0), (9, .if_icmp .ge 26, 3, [], 0, 0), (12, .lload_n 1, 1, [], 0, 0), (13, .aload_n 0, 1, [], 0, 0), (14, .getfield 16, 3, [], 2, 0), (17, .iload_n 3, 1, [], 0, 0), (18, .iaload, 1, [], 0, 0), (19, .i2l, 1, [], 0, 0), (20, .iload_n 3, 1, [], 0, 0), (21, .aload_n 0, 1, [], 0, 0), (22, .getfield 27, 3, [], 4, 0), (25, .imul, 1, [], 0, 0), (26, .lshl, 1, [], 0, 0), (27, .lor, 1, [], 0, 0), (28, .lstore_n 1, 1, [], 0, 0), (29, .iinc 3 1, 3, [], 0, 0), (32, .goto (-28), 3, [], 0, 0), (35, .lload_n 1, 1, [], 0, 0), (36, .lreturn, 1, [], 0, 0)])
def d_20 : MD := (⟨"LightsOutSolver", "popCount", "(J)I"⟩, prog_1_method_28_code, 6, some .int, 0, 1, 0, 0, 0, [(0, .iconst 0, 1, [], 0, 0), (1, .istore_n 2, 1, [], 0, 0), (2, .lload_n 0, 1, [], 0, 0), (3, .lstore_n 3, 1, [], 0, 0), (4, .iconst 0, 1, [], 0, 0), (5, .istore 5, 2, [], 0, 0), (7, .iload 5, 2, [true, true], 0, 0), (9, .bipush 64, 2, [], 0, 0), (11, .if_icmp .ge 24, 3, [], 0, 0), (14, .lload_n 3, 1, [], 0, 0), (15, .lconst 0, 1, [], 0, 0), (16, .lcmp, 1, [], 0, 0), (17, .ifCond .eq 18, 3, [], 0, 0), (20, .lload_n 3, 1, [], 0, 0), (21, .lload_n 3, 1, [], 0, 0), (22, .lconst 1, 1, [], 0, 0), (23, .lsub, 1, [], 0, 0), (24, .land, 1, [], 0, 0), (25, .lstore_n 3, 1, [], 0, 0), (26, .iinc 2 1, 3, [], 0, 0), (29, .iinc 5 1, 3, [], 0, 0), (32, .goto (-25), 3, [], 0, 0), (35, .iload_n 2, 1, [], 0, 0), (36, .ireturn, 1, [], 0, 0)])
def d_21 : MD := (⟨"LightsOutSolver", "onBoard", "(II)Z"⟩, prog_1_method_20_code, 3, some .boolean, 2, 2, 0, 0, 0, [(0, .iload_n 1, 1, [], 0, 0), (1, .ifCond .lt 27, 3, [], 0, 0), (4, .iload_n 1, 1, [], 0, 0), (5, .aload_n 0, 1, [], 0, 0), (6, .getfield 23, 3, [], 3, 0), (9, .if_icmp .ge 19, 3, [], 0, 0), (12, .iload_n 2, 1, [], 0, 0), (13, .ifCond .lt 15, 3, [], 0, 0), (16, .iload_n 2, 1, [], 0, 0), (17, .aload_n 0, 1, [], 0, 0), (18, .getfield 27, 3, [], 4, 0), (21, .if_icmp .ge 7, 3, [], 0, 0), (24, .iconst 1, 1, [], 0, 0), (25, .goto 4, 3, [], 0, 0), (28, .iconst 0, 1, [], 0, 0), (29, .ireturn, 1, [], 0, 0)])
def d_22 : MD := (⟨"LightsOutSolver", "bit", "(II)J"⟩, prog_1_method_21_code, 3, some .long, 2, 2, 0, 0, 0, [(0, .lconst 1, 1, [], 0, 0), (1, .iload_n 1, 1, [], 0, 0), (2, .aload_n 0, 1, [], 0, 0), (3, .getfield 27, 3, [], 4, 0), (6, .imul, 1, [], 0, 0), (7, .iload_n 2, 1, [], 0, 0), (8, .iadd, 1, [], 0, 0), (9, .lshl, 1, [], 0, 0), (10, .lreturn, 1, [], 0, 0)])
def d_23 : MD := (⟨"LightsOutSolver", "setLight", "(III)Z"⟩, prog_1_method_4_code, 6, some .boolean, 3, 3, 0, 1, 14, [(0, .aload_n 0, 1, [], 0, 0), (1, .iload_n 1, 1, [], 0, 0), (2, .iload_n 2, 1, [], 0, 0), (3, .invokevirtual 40, 3, [], 21, 0), (6, .ifCond .ne 5, 3, [], 0, 0), (9, .iconst 0, 1, [], 0, 0), (10, .ireturn, 1, [], 0, 0), (11, .aload_n 0, 1, [], 0, 0), (12, .iload_n 1, 1, [], 0, 0), (13, .iload_n 2, 1, [], 0, 0), (14, .invokevirtual 44, 3, [], 22, 0), (17, .lstore 4, 2, [], 0, 0), (19, .iload_n 3, 1, [], 0, 0), (20, .ifCond .ne 21, 3, [], 0, 0), (23, .aload_n 0, 1, [], 0, 0), (24, .dup, 1, [], 0, 0), (25, .getfield 30, 3, [], 5, 0), (28, .lload 4, 2, [], 0, 0), (30, .ldc2_w 48, 3, [], 0, -1), (33, .lxor, 1, [], 0, 0), (34, .land, 1, [], 0, 0), (35, .putfield 30, 3, [], 5, 0), (38, .goto 14, 3, [], 0, 0), (41, .aload_n 0, 1, [], 0, 0), (42, .dup, 1, [], 0, 0), (43, .getfield 30, 3, [], 5, 0), (46, .lload 4, 2, [], 0, 0), (48, .lor, 1, [], 0, 0), (49, .putfield 30, 3, [], 5, 0), (52, .iconst 1, 1, [], 0, 0), (53, .ireturn, 1, [], 0, 0)])
def d_24 : MD := (⟨"LightsOutSolver", "applySolution", "()Z"⟩, prog_1_method_16_code, 3, some .boolean, 3, 0, 0, 2, 32, [(0, .aload_n 0, 1, [], 0, 0), (1, .getfield 70, 3, [], 7, 0), (4, .iconst 1, 1, [], 0, 0), (5, .if_icmp .eq 5, 3, [], 0, 0), (8, .iconst 0, 1, [], 0, 0), (9, .ireturn, 1, [], 0, 0), (10, .aload_n 0, 1, [], 0, 0), (11, .getfield 34, 3, [], 6, 0), (14, .aload_n 0, 1, [], 0, 0), (15, .getfield 76, 3, [], 9, 0), (18, .iadd, 1, [], 0, 0), (19, .bipush 64, 2, [], 0, 0), (21, .if_icmp .le 5, 3, [], 0, 0), (24, .iconst 0, 1, [], 0, 0), (25, .ireturn, 1, [], 0, 0), (26, .aload_n 0, 1, [], 0, 0), (27, .getfield 23, 3, [], 3, 0), (30, .aload_n 0, 1, [], 0, 0), (31, .getfield 27, 3, [], 4, 0), (34, .imul, 1, [], 0, 0), (35, .istore_n 1, 1, [], 0, 0), (36, .iconst 0, 1, [], 0, 0), (37, .istore_n 2, 1, [], 0, 0), (38, .iload_n 2, 1, [], 0, 0), (39, .iload_n 1, 1, [], 0, 0), (40, .if_icmp .ge 73, 3, [], 0, 0), (43, .aload_n 0, 1, [], 0, 0), (44, .getfield 73, 3, [], 8, 0), (47, .iload_n 2, 1, [], 0, 0), (48, .lushr, 1, [], 0, 0), (49, .lconst 1, 1, [], 0, 0), (50, .land, 1, [], 0, 0), (51, .lconst 0, 1, [], 0, 0), (52, .lcmp, 1, [], 0, 0), (53, .ifCond .ne 6, 3, [], 0, 0), (56, .goto 51, 3, [], 0, 0), (59, .aload_n 0, 1, [], 0, 0), (60, .getfield 34, 3, [], 6, 0), (63, .bipush 64, 2, [], 0, 0), (65, .if_icmp .lt 6, 3, [], 0, 0), (68, .goto 45, 3, [], 0, 0), (71, .aload_n 0, 1, [], 0, 0), (72, .iload_n 2, 1, [], 0, 0), (73, .aload_n 0, 1, [], 0, 0), (74, .getfield 27, 3, [], 4, 0), (77, .idiv, 1, [], 0, 0), (78, .iload_n 2, 1, [], 0, 0), (79, .aload_n 0, 1, [], 0, 0), (80, .getfield 27, 3, [], 4, 0), (83, .irem, 1, [], 0, 0), (84, .invokevirtual 50, 3, [], 26, 0), (87, .aload_n 0, 1, [], 0, 0), (88, .getfield 7, 3, [], 0, 0), (91, .aload_n 0, 1, [], 0, 0), (92, .getfield 34, 3, [], 6, 0), (95, .iload_n 2, 1, [], 0, 0), (96, .iastore, 1, [], 0, 0), (97, .aload_n 0, 1, [], 0, 0), (98, .dup, 1, [], 0, 0), (99, .getfield 34, 3, [], 6, 0), (102, .iconst 1, 1, [], 0, 0), (103, .iadd, 1, [], 0, 0), (104, .putfield 34, 3, [], 6, 0), (107, .iinc 2 1, 3, [], 0, 0), (110, .goto (-72), 3, [], 0, 0), (113, .iconst 1, 1, [], 0, 0), (114, .ireturn, 1, [], 0, 0)])
def d_25 : MD := (⟨"LightsOutSolver", "unsignedLess", "(JJ)Z"⟩, prog_1_method_29_code, 4, some .boolean, 0, 2, 0, 0, 0, [(0, .lload_n 0, 1, [], 0, 0), (1, .ldc2_w 92, 3, [], 0, -9223372036854775808), (4, .lxor, 1, [], 0, 0), (5, .lload_n 2, 1, [], 0, 0), (6, .ldc2_w 92, 3, [], 0, -9223372036854775808), (9, .lxor, 1, [], 0, 0), (10, .lcmp, 1, [], 0, 0), (11, .ifCond .ge 7, 3, [], 0, 0), (14, .iconst 1, 1, [], 0, 0), (15, .goto 4, 3, [], 0, 0), (18, .iconst 0, 1, [], 0, 0), (19, .ireturn, 1, [], 0, 0)])
def d_26 : MD := (⟨"LightsOutSolver", "toggleCell", "(II)V"⟩, prog_1_method_22_code, 5, none, 2, 2, 0, 1, 16, [(0, .aload_n 0, 1, [], 0, 0), (1, .iload_n 1, 1, [], 0, 0), (2, .iload_n 2, 1, [], 0, 0), (3, .invokevirtual 44, 3, [], 22, 0), (6, .lstore_n 3, 1, [], 0, 0), (7, .iload_n 1, 1, [], 0, 0), (8, .ifCond .le 14, 3, [], 0, 0), (11, .lload_n 3, 1, [], 0, 0), (12, .aload_n 0, 1, [], 0, 0), (13, .iload_n 1, 1, [], 0, 0), (14, .iconst 1, 1, [], 0, 0), (15, .isub, 1, [], 0, 0), (16, .iload_n 2, 1, [], 0, 0), (17, .invokevirtual 44, 3, [], 22, 0), (20, .lor, 1, [], 0, 0), (21, .lstore_n 3, 1, [], 0, 0), (22, .iload_n 1, 1, [], 0, 0), (23, .iconst 1, 1, [], 0, 0), (24, .iadd, 1, [], 0, 0), (25, .aload_n 0, 1, [], 0, 0), (26, .getfield 23, 3, [], 3, 0), (29, .if_icmp .ge 14, 3, [], 0, 0), (32, .lload_n 3, 1, [], 0, 0), (33, .aload_n 0, 1, [], 0, 0), (34, .iload_n 1, 1, [], 0, 0), (35, .iconst 1, 1, [], 0, 0), (36, .iadd, 1, [], 0, 0), (37, .iload_n 2, 1, [], 0, 0), (38, .invokevirtual 44, 3, [], 22, 0), (41, .lor, 1, [], 0, 0), (42, .lstore_n 3, 1, [], 0, 0), (43, .iload_n 2, 1, [], 0, 0), (44, .ifCond .le 14, 3, [], 0, 0), (47, .lload_n 3, 1, [], 0, 0), (48, .aload_n 0, 1, [], 0, 0), (49, .iload_n 1, 1, [], 0, 0), (50, .iload_n 2, 1, [], 0, 0), (51, .iconst 1, 1, [], 0, 0), (52, .isub, 1, [], 0, 0), (53, .invokevirtual 44, 3, [], 22, 0), (56, .lor, 1, [], 0, 0), (57, .lstore_n 3, 1, [], 0, 0), (58, .iload_n 2, 1, [], 0, 0), (59, .iconst 1, 1, [], 0, 0), (60, .iadd, 1, [], 0, 0), (61, .aload_n 0, 1, [], 0, 0), (62, .getfield 27, 3, [], 4, 0), (65, .if_icmp .ge 14, 3, [], 0, 0), (68, .lload_n 3, 1, [], 0, 0), (69, .aload_n 0, 1, [], 0, 0), (70, .iload_n 1, 1, [], 0, 0), (71, .iload_n 2, 1, [], 0, 0), (72, .iconst 1, 1, [], 0, 0), (73, .iadd, 1, [], 0, 0), (74, .invokevirtual 44, 3, [], 22, 0), (77, .lor, 1, [], 0, 0), (78, .lstore_n 3, 1, [], 0, 0), (79, .aload_n 0, 1, [false, true, true], 0, 0), (80, .dup, 1, [], 0, 0), (81, .getfield 30, 3, [], 5, 0), (84, .lload_n 3, 1, [], 0, 0), (85, .lxor, 1, [], 0, 0), (86, .putfield 30, 3, [], 5, 0), (89, .return_, 1, [], 0, 0)])
def d_27 : MD := (⟨"LightsOutSolver", "press", "(II)Z"⟩, prog_1_method_5_code, 3, some .boolean, 3, 2, 0, 2, 32, [(0, .aload_n 0, 1, [], 0, 0), (1, .iload_n 1, 1, [], 0, 0), (2, .iload_n 2, 1, [], 0, 0), (3, .invokevirtual 40, 3, [], 21, 0), (6, .ifCond .ne 5, 3, [], 0, 0), (9, .iconst 0, 1, [], 0, 0), (10, .ireturn, 1, [], 0, 0), (11, .aload_n 0, 1, [], 0, 0), (12, .getfield 34, 3, [], 6, 0), (15, .bipush 64, 2, [], 0, 0), (17, .if_icmp .lt 5, 3, [], 0, 0), (20, .iconst 0, 1, [], 0, 0), (21, .ireturn, 1, [], 0, 0), (22, .aload_n 0, 1, [], 0, 0), (23, .iload_n 1, 1, [], 0, 0), (24, .iload_n 2, 1, [], 0, 0), (25, .invokevirtual 50, 3, [], 26, 0), (28, .aload_n 0, 1, [], 0, 0), (29, .getfield 7, 3, [], 0, 0), (32, .aload_n 0, 1, [], 0, 0), (33, .getfield 34, 3, [], 6, 0), (36, .iload_n 1, 1, [], 0, 0), (37, .aload_n 0, 1, [], 0, 0), (38, .getfield 27, 3, [], 4, 0), (41, .imul, 1, [], 0, 0), (42, .iload_n 2, 1, [], 0, 0), (43, .iadd, 1, [], 0, 0), (44, .iastore, 1, [], 0, 0), (45, .aload_n 0, 1, [], 0, 0), (46, .dup, 1, [], 0, 0), (47, .getfield 34, 3, [], 6, 0), (50, .iconst 1, 1, [], 0, 0), (51, .iadd, 1, [], 0, 0), (52, .putfield 34, 3, [], 6, 0), (55, .iconst 1, 1, [], 0, 0), (56, .ireturn, 1, [], 0, 0)])
def d_28 : MD := (⟨"LightsOutSolver", "clear", "()V"⟩, prog_1_method_17_code, 1, none, 3, 0, 0, 1, 12, [(0, .aload_n 0, 1, [], 0, 0), (1, .lconst 0, 1, [], 0, 0), (2, .putfield 30, 3, [], 5, 0), (5, .aload_n 0, 1, [], 0, 0), (6, .iconst 0, 1, [], 0, 0), (7, .putfield 34, 3, [], 6, 0), (10, .aload_n 0, 1, [], 0, 0), (11, .invokevirtual 37, 3, [], 3, 0), (14, .return_, 1, [], 0, 0)])
def own_P : PD := ([("LightsOutSolver", 11, [("log", "[I", (.array .int), false), ("cur", "[I", (.array .int), false), ("prs", "[I", (.array .int), false), ("nRows", "I", .int, false), ("nCols", "I", .int, false), ("lights", "J", .long, false), ("logLen", "I", .int, false), ("status", "I", .int, false), ("solSet", "J", .long, false), ("solSize", "I", .int, false), ("solCount", "I", .int, false)])], [d_0, d_1, d_2, d_3, d_4, d_5, d_6, d_7, d_8, d_9, d_10, d_11, d_12, d_13, d_14, d_15, d_16, d_17, d_18, d_19, d_20, d_21, d_22, d_23, d_24, d_25, d_26, d_27, d_28], 1)
theorem hm_0 : own_P.mth[0]? = some d_0 := rfl
theorem hm_1 : own_P.mth[1]? = some d_1 := rfl
theorem hm_2 : own_P.mth[2]? = some d_2 := rfl
theorem hm_3 : own_P.mth[3]? = some d_3 := rfl
theorem hm_4 : own_P.mth[4]? = some d_4 := rfl
theorem hm_5 : own_P.mth[5]? = some d_5 := rfl
theorem hm_6 : own_P.mth[6]? = some d_6 := rfl
theorem hm_7 : own_P.mth[7]? = some d_7 := rfl
theorem hm_8 : own_P.mth[8]? = some d_8 := rfl
theorem hm_9 : own_P.mth[9]? = some d_9 := rfl
theorem hm_10 : own_P.mth[10]? = some d_10 := rfl
theorem hm_11 : own_P.mth[11]? = some d_11 := rfl
theorem hm_12 : own_P.mth[12]? = some d_12 := rfl
theorem hm_13 : own_P.mth[13]? = some d_13 := rfl
theorem hm_14 : own_P.mth[14]? = some d_14 := rfl
theorem hm_15 : own_P.mth[15]? = some d_15 := rfl
theorem hm_16 : own_P.mth[16]? = some d_16 := rfl
theorem hm_17 : own_P.mth[17]? = some d_17 := rfl
theorem hm_18 : own_P.mth[18]? = some d_18 := rfl
theorem hm_19 : own_P.mth[19]? = some d_19 := rfl
theorem hm_20 : own_P.mth[20]? = some d_20 := rfl
theorem hm_21 : own_P.mth[21]? = some d_21 := rfl
theorem hm_22 : own_P.mth[22]? = some d_22 := rfl
theorem hm_23 : own_P.mth[23]? = some d_23 := rfl
theorem hm_24 : own_P.mth[24]? = some d_24 := rfl
theorem hm_25 : own_P.mth[25]? = some d_25 := rfl
theorem hm_26 : own_P.mth[26]? = some d_26 := rfl
theorem hm_27 : own_P.mth[27]? = some d_27 := rfl
theorem hm_28 : own_P.mth[28]? = some d_28 := rfl
set_option maxRecDepth 100000 in
theorem own_chk : chk own_P = true := by decide +kernel
def own_ix : List Nat := [1, 2, 11, 13, 15, 20, 22, 24, 26, 32, 34, 36, 38, 5, 2, 4, 18, 2, 17, 30, 2, 28, 29, 43, 2, 40, 42, 41, 47, 46, 45, 52, 2, 49, 51, 50, 57, 2, 54, 56, 55, 62, 2, 59, 61, 60, 65, 46, 64, 70, 2, 67, 69, 68, 75, 2, 72, 74, 73, 80, 2, 77, 79, 78, 85, 2, 82, 84, 83, 90, 2, 87, 89, 88, 94, 2, 92, 93, 98, 2, 96, 97, 102, 2, 100, 101, 106, 2, 104, 105, 110, 2, 108, 109, 113, 2, 112, 117, 2, 115, 116, 121, 2, 119, 120, 126, 2, 123, 125, 124, 131, 2, 128, 130, 129, 134, 2, 133, 139, 2, 137, 138, 144, 2, 141, 143, 142, 149, 2, 146, 148, 147, 0, 3, 122, 39, 86, 127, 145, 140, 44, 6, 7, 8, 9, 10, 9, 12, 9, 14, 16, 19, 16, 21, 23, 25, 27, 31, 33, 35, 37, 25, 25, 25, 10, 25, 21, 21, 136, 48, 53, 58, 63, 71, 76, 81, 31, 31, 35, 31, 37, 66, 31, 114, 33, 118, 19, 21, 25, 21, 91, 107, 111, 132, 31, 33, 35, 37, 31, 33, 35, 37, 31, 95, 19, 14, 103, 12, 12, 19, 99, 19, 12, 23, 21, 21, 99, 12, 12, 19, 12, 19, 14, 21, 19, 21, 21, 114, 118, 23, 150, 23, 23, 23, 31, 25, 35, 19, 21, 33, 25, 21, 21, 136, 10, 25, 25, 25, 135, 135, 118, 118, 19, 118, 118, 21, 118, 23, 23, 114, 25, 136, 10, 25, 21, 25, 25, 23, 25, 27]
set_option maxRecDepth 100000 in
theorem own_words : (wordsOf own_P).map some = own_ix.map fun k => tables_1[k]? := rfl
theorem own_in : ∀ d ∈ wordsOf own_P, d ∈ tables_1 := fun d hd => by
  have h1 : some d ∈ (wordsOf own_P).map some := List.mem_map.mpr ⟨d, hd, rfl⟩
  rw [own_words] at h1
  obtain ⟨k, -, hk⟩ := List.mem_map.mp h1
  exact List.mem_of_getElem? hk
abbrev bk0 (s_log : List Int32) (s_cur : List Int32) (s_prs : List Int32) (s_nRows : Int32) (s_nCols : Int32) (s_lights : Int64) (s_logLen : Int32) (s_status : Int32) (s_solSet : Int64) (s_solSize : Int32) (s_solCount : Int32) (po : List ACell) : List ACell := .inl (0, [.ref 2, .ref 3, .ref 4, .int s_nRows, .int s_nCols, .long s_lights, .int s_logLen, .int s_status, .long s_solSet, .int s_solSize, .int s_solCount]) :: .inr (.inl (false, s_log)) :: .inr (.inl (false, s_cur)) :: .inr (.inl (false, s_prs)) :: po
def f_clamp (v0 : Int32) : Option (Int32) :=
  some (if v0 < (1 : Int32) then (1 : Int32) else (if (8 : Int32) < v0 then (8 : Int32) else v0))
def f_forgetResult (o_status : Int32) (o_solSet : Int64) (o_solSize : Int32) (o_solCount : Int32) : Option (Int32 × Int64 × Int32 × Int32) :=
  some ((0 : Int32), (0 : Int64), (0 : Int32), (0 : Int32))
def f_init (v1 : Int32) (v2 : Int32) : Option (List Int32 × List Int32 × List Int32 × Int32 × Int32 × Int64 × Int32 × Int32 × Int64 × Int32 × Int32) :=
  (f_clamp v1).bind fun r1 =>
  (f_clamp v2).bind fun r2 =>
  (f_forgetResult (0 : Int32) (0 : Int64) (0 : Int32) (0 : Int32)).bind fun (s3, s4, s5, s6) =>
  some ((List.replicate 64 0), (List.replicate 8 0), (List.replicate 8 0), r1, r2, (0 : Int64), (0 : Int32), s3, s4, s5, s6)
def f_onBoard (o_nRows : Int32) (o_nCols : Int32) (v1 : Int32) (v2 : Int32) : Option (Int32) :=
  some (if v1 < (0 : Int32) then (0 : Int32) else (if v1 < o_nRows then (if v2 < (0 : Int32) then (0 : Int32) else (if v2 < o_nCols then (1 : Int32) else (0 : Int32))) else (0 : Int32)))
def f_bit (o_nCols : Int32) (v1 : Int32) (v2 : Int32) : Option (Int64) :=
  some ((1 : Int64) <<< (((v1 * o_nCols) + v2).toInt64 &&& 63))
def f_setLight (o_nRows : Int32) (o_nCols : Int32) (o_lights : Int64) (v1 : Int32) (v2 : Int32) (v3 : Int32) : Option (Int32 × Int64) :=
  (f_onBoard o_nRows o_nCols v1 v2).bind fun r7 =>
  if r7 = (0 : Int32) then
    some ((0 : Int32), o_lights)
  else
    (f_bit o_nCols v1 v2).bind fun r8 =>
    some ((1 : Int32), (if v3 = (0 : Int32) then (o_lights &&& (r8 ^^^ (-1 : Int64))) else (o_lights ||| r8)))
def f_toggleCell_79 (o_nRows : Int32) (o_nCols : Int32) (o_lights : Int64) (v3 : Int64) : Option (Int64) :=
  some (o_lights ^^^ v3)
def f_toggleCell_58 (o_nRows : Int32) (o_nCols : Int32) (o_lights : Int64) (v1 : Int32) (v2 : Int32) (v3 : Int64) : Option (Int64) :=
  if (v2 + (1 : Int32)) < o_nCols then
    (f_bit o_nCols v1 (v2 + (1 : Int32))).bind fun r13 =>
    f_toggleCell_79 o_nRows o_nCols o_lights (v3 ||| r13)
  else
    f_toggleCell_79 o_nRows o_nCols o_lights v3
def f_toggleCell_43 (o_nRows : Int32) (o_nCols : Int32) (o_lights : Int64) (v1 : Int32) (v2 : Int32) (v3 : Int64) : Option (Int64) :=
  if (0 : Int32) < v2 then
    (f_bit o_nCols v1 (v2 - (1 : Int32))).bind fun r12 =>
    f_toggleCell_58 o_nRows o_nCols o_lights v1 v2 (v3 ||| r12)
  else
    f_toggleCell_58 o_nRows o_nCols o_lights v1 v2 v3
def f_toggleCell_22 (o_nRows : Int32) (o_nCols : Int32) (o_lights : Int64) (v1 : Int32) (v2 : Int32) (v3 : Int64) : Option (Int64) :=
  if (v1 + (1 : Int32)) < o_nRows then
    (f_bit o_nCols (v1 + (1 : Int32)) v2).bind fun r11 =>
    f_toggleCell_43 o_nRows o_nCols o_lights v1 v2 (v3 ||| r11)
  else
    f_toggleCell_43 o_nRows o_nCols o_lights v1 v2 v3
def f_toggleCell (o_nRows : Int32) (o_nCols : Int32) (o_lights : Int64) (v1 : Int32) (v2 : Int32) : Option (Int64) :=
  (f_bit o_nCols v1 v2).bind fun r9 =>
  if (0 : Int32) < v1 then
    (f_bit o_nCols (v1 - (1 : Int32)) v2).bind fun r10 =>
    f_toggleCell_22 o_nRows o_nCols o_lights v1 v2 (r9 ||| r10)
  else
    f_toggleCell_22 o_nRows o_nCols o_lights v1 v2 r9
def f_undo (o_log : List Int32) (o_nRows : Int32) (o_nCols : Int32) (o_lights : Int64) (o_logLen : Int32) : Option (Int32 × Int64 × Int32) :=
  if (0 : Int32) < o_logLen then
    (rdA o_log (o_logLen - (1 : Int32))).bind fun x14 =>
    if o_nCols = 0 then none else
    if o_nCols = 0 then none else
    (f_toggleCell o_nRows o_nCols o_lights (x14 / o_nCols) (x14 % o_nCols)).bind fun s15 =>
    some ((1 : Int32), s15, (o_logLen - (1 : Int32)))
  else
    some ((0 : Int32), o_lights, o_logLen)
def f_rowMask (o_nCols : Int32) : Option (Int32) :=
  some (((1 : Int32) <<< (o_nCols &&& 31)) - (1 : Int32))
def f_loadRows_8 (o_nRows : Int32) (o_nCols : Int32) (o_lights : Int64) : Nat → List Int32 → Int64 → Int32 → Option (List Int32)
  | 0, _, _, _ => none
  | n + 1, o_cur, v1, v3 =>
    if v3 < o_nRows then
      (wrA o_cur v3 ((XT.ushrL o_lights (v3 * o_nCols)) &&& v1).toInt32).bind fun A17 =>
      f_loadRows_8 o_nRows o_nCols o_lights n A17 v1 (v3 + (1 : Int32))
    else
      some o_cur
def f_loadRows (o_nRows : Int32) (o_nCols : Int32) (o_lights : Int64) (o_cur : List Int32) : Option (List Int32) :=
  (f_rowMask o_nCols).bind fun r16 =>
  f_loadRows_8 o_nRows o_nCols o_lights 100000 o_cur r16.toInt64 (0 : Int32)
def f_applyRowPress_41 (o_nRows : Int32) (o_nCols : Int32) (o_cur : List Int32) (v1 : Int32) (v2 : Int32) : Option (List Int32) :=
  if (v1 + (1 : Int32)) < o_nRows then
    (rdA o_cur (v1 + (1 : Int32))).bind fun x23 =>
    (wrA o_cur (v1 + (1 : Int32)) (x23 ^^^ v2)).bind fun A24 =>
    some A24
  else
    some o_cur
def f_applyRowPress (o_nRows : Int32) (o_nCols : Int32) (o_cur : List Int32) (v1 : Int32) (v2 : Int32) : Option (List Int32) :=
  (f_rowMask o_nCols).bind fun r18 =>
  (rdA o_cur v1).bind fun x19 =>
  (wrA o_cur v1 (x19 ^^^ (((v2 ^^^ (v2 <<< ((1 : Int32) &&& 31))) ^^^ (XT.ushr v2 (1 : Int32))) &&& r18))).bind fun A20 =>
  if (0 : Int32) < v1 then
    (rdA A20 (v1 - (1 : Int32))).bind fun x21 =>
    (wrA A20 (v1 - (1 : Int32)) (x21 ^^^ v2)).bind fun A22 =>
    f_applyRowPress_41 o_nRows o_nCols A22 v1 v2
  else
    f_applyRowPress_41 o_nRows o_nCols A20 v1 v2
def f_chase_42 (o_nRows : Int32) (o_nCols : Int32) (o_lights : Int64) (o_cur : List Int32) (o_prs : List Int32) : Option (Int32 × List Int32 × List Int32) :=
  (rdA o_cur (o_nRows - (1 : Int32))).bind fun x29 =>
  some ((if x29 = (0 : Int32) then (1 : Int32) else (0 : Int32)), o_cur, o_prs)
def f_chase_8 (k42 : List Int32 → List Int32 → Option (Int32 × List Int32 × List Int32)) (o_nRows : Int32) (o_nCols : Int32) (o_lights : Int64) : Nat → List Int32 → List Int32 → Int32 → Int32 → Option (Int32 × List Int32 × List Int32)
  | 0, _, _, _, _ => none
  | n + 1, o_cur, o_prs, v2, v3 =>
    if v3 < o_nRows then
      (wrA o_prs v3 v2).bind fun A26 =>
      (f_applyRowPress o_nRows o_nCols o_cur v3 v2).bind fun s27 =>
      (rdA s27 v3).bind fun x28 =>
      f_chase_8 k42 o_nRows o_nCols o_lights n s27 A26 x28 (v3 + (1 : Int32))
    else
      k42 o_cur o_prs
def f_chase (o_nRows : Int32) (o_nCols : Int32) (o_lights : Int64) (o_cur : List Int32) (o_prs : List Int32) (v1 : Int32) : Option (Int32 × List Int32 × List Int32) :=
  (f_loadRows o_nRows o_nCols o_lights o_cur).bind fun s25 =>
  f_chase_8 (f_chase_42 o_nRows o_nCols o_lights) o_nRows o_nCols o_lights 100000 s25 o_prs v1 (0 : Int32)
def f_packPresses_4 (o_prs : List Int32) (o_nRows : Int32) (o_nCols : Int32) : Nat → Int64 → Int32 → Option (Int64)
  | 0, _, _ => none
  | n + 1, v1, v3 =>
    if v3 < o_nRows then
      (rdA o_prs v3).bind fun x30 =>
      f_packPresses_4 o_prs o_nRows o_nCols n (v1 ||| (x30.toInt64 <<< ((v3 * o_nCols).toInt64 &&& 63))) (v3 + (1 : Int32))
    else
      some v1
def f_packPresses (o_prs : List Int32) (o_nRows : Int32) (o_nCols : Int32) : Option (Int64) :=
  f_packPresses_4 o_prs o_nRows o_nCols 100000 (0 : Int64) (0 : Int32)
def f_popCount_7 : Nat → Int32 → Int64 → Int32 → Option (Int32)
  | 0, _, _, _ => none
  | n + 1, v2, v3, v5 =>
    if v5 < (64 : Int32) then
      if v3 = (0 : Int64) then
        some v2
      else
        f_popCount_7 n (v2 + (1 : Int32)) (v3 &&& (v3 - (1 : Int64))) (v5 + (1 : Int32))
    else
      some v2
def f_popCount (v0 : Int64) : Option (Int32) :=
  f_popCount_7 100000 (0 : Int32) v0 (0 : Int32)
def f_unsignedLess (v0 : Int64) (v2 : Int64) : Option (Int32) :=
  some (if (v0 ^^^ (-9223372036854775808 : Int64)) < (v2 ^^^ (-9223372036854775808 : Int64)) then (1 : Int32) else (0 : Int32))
def f_solve_86 (o_nRows : Int32) (o_nCols : Int32) (o_lights : Int64) (o_cur : List Int32) (o_prs : List Int32) (o_status : Int32) (o_solSet : Int64) (o_solSize : Int32) (o_solCount : Int32) (v1 : Int32) (v2 : Int32) (v3 : Int64) : Option (Int32 × List Int32 × List Int32 × Int32 × Int64 × Int32 × Int32) :=
  some ((if v1 = (0 : Int32) then (2 : Int32) else (1 : Int32)), o_cur, o_prs, (if v1 = (0 : Int32) then (2 : Int32) else (1 : Int32)), (if v1 = (0 : Int32) then (0 : Int64) else v3), (if v1 = (0 : Int32) then (0 : Int32) else v2), (if v1 = (0 : Int32) then (0 : Int32) else v1))
def f_solve_18 (k86 : List Int32 → List Int32 → Int32 → Int64 → Int32 → Int32 → Int32 → Int32 → Int64 → Option (Int32 × List Int32 × List Int32 × Int32 × Int64 × Int32 × Int32)) (o_nRows : Int32) (o_nCols : Int32) (o_lights : Int64) : Nat → List Int32 → List Int32 → Int32 → Int64 → Int32 → Int32 → Int32 → Int32 → Int64 → Int32 → Int32 → Option (Int32 × List Int32 × List Int32 × Int32 × Int64 × Int32 × Int32)
  | 0, _, _, _, _, _, _, _, _, _, _, _ => none
  | n + 1, o_cur, o_prs, o_status, o_solSet, o_solSize, o_solCount, v1, v2, v3, v5, v6 =>
    if v6 < v5 then
      (f_chase o_nRows o_nCols o_lights o_cur o_prs v6).bind fun (r31, s32, s33) =>
      if r31 = (0 : Int32) then
        f_solve_18 k86 o_nRows o_nCols o_lights n s32 s33 o_status o_solSet o_solSize o_solCount v1 v2 v3 v5 (v6 + (1 : Int32))
      else
        (f_packPresses s33 o_nRows o_nCols).bind fun r34 =>
        (f_popCount r34).bind fun r35 =>
        if r35 < v2 then
          f_solve_18 k86 o_nRows o_nCols o_lights n s32 s33 o_status o_solSet o_solSize o_solCount (v1 + (1 : Int32)) r35 r34 v5 (v6 + (1 : Int32))
        else
          if r35 = v2 then
            (f_unsignedLess r34 v3).bind fun r36 =>
            f_solve_18 k86 o_nRows o_nCols o_lights n s32 s33 o_status o_solSet o_solSize o_solCount (v1 + (1 : Int32)) (if r36 = (0 : Int32) then v2 else r35) (if r36 = (0 : Int32) then v3 else r34) v5 (v6 + (1 : Int32))
          else
            f_solve_18 k86 o_nRows o_nCols o_lights n s32 s33 o_status o_solSet o_solSize o_solCount (v1 + (1 : Int32)) v2 v3 v5 (v6 + (1 : Int32))
    else
      k86 o_cur o_prs o_status o_solSet o_solSize o_solCount v1 v2 v3
def f_solve (o_nRows : Int32) (o_nCols : Int32) (o_lights : Int64) (o_cur : List Int32) (o_prs : List Int32) (o_status : Int32) (o_solSet : Int64) (o_solSize : Int32) (o_solCount : Int32) : Option (Int32 × List Int32 × List Int32 × Int32 × Int64 × Int32 × Int32) :=
  f_solve_18 (f_solve_86 o_nRows o_nCols o_lights) o_nRows o_nCols o_lights 100000 o_cur o_prs o_status o_solSet o_solSize o_solCount (0 : Int32) (65 : Int32) (0 : Int64) ((1 : Int32) <<< (o_nCols &&& 31)) (0 : Int32)
def f_applySolution_38 (o_nRows : Int32) (o_nCols : Int32) (o_status : Int32) (o_solSet : Int64) (o_solSize : Int32) : Nat → List Int32 → Int64 → Int32 → Int32 → Int32 → Option (Int32 × List Int32 × Int64 × Int32)
  | 0, _, _, _, _, _ => none
  | n + 1, o_log, o_lights, o_logLen, v1, v2 =>
    if v2 < v1 then
      if ((XT.ushrL o_solSet v2) &&& (1 : Int64)) = (0 : Int64) then
        f_applySolution_38 o_nRows o_nCols o_status o_solSet o_solSize n o_log o_lights o_logLen v1 (v2 + (1 : Int32))
      else
        if o_logLen < (64 : Int32) then
          if o_nCols = 0 then none else
          if o_nCols = 0 then none else
          (f_toggleCell o_nRows o_nCols o_lights (v2 / o_nCols) (v2 % o_nCols)).bind fun s37 =>
          (wrA o_log o_logLen v2).bind fun A38 =>
          f_applySolution_38 o_nRows o_nCols o_status o_solSet o_solSize n A38 s37 (o_logLen + (1 : Int32)) v1 (v2 + (1 : Int32))
        else
          some ((1 : Int32), o_log, o_lights, o_logLen)
    else
      some ((1 : Int32), o_log, o_lights, o_logLen)
def f_applySolution (o_nRows : Int32) (o_nCols : Int32) (o_status : Int32) (o_solSet : Int64) (o_solSize : Int32) (o_log : List Int32) (o_lights : Int64) (o_logLen : Int32) : Option (Int32 × List Int32 × Int64 × Int32) :=
  if o_status = (1 : Int32) then
    if (64 : Int32) < (o_logLen + o_solSize) then
      some ((0 : Int32), o_log, o_lights, o_logLen)
    else
      f_applySolution_38 o_nRows o_nCols o_status o_solSet o_solSize 100000 o_log o_lights o_logLen (o_nRows * o_nCols) (0 : Int32)
  else
    some ((0 : Int32), o_log, o_lights, o_logLen)
def f_clear (o_lights : Int64) (o_logLen : Int32) (o_status : Int32) (o_solSet : Int64) (o_solSize : Int32) (o_solCount : Int32) : Option (Int64 × Int32 × Int32 × Int64 × Int32 × Int32) :=
  (f_forgetResult o_status o_solSet o_solSize o_solCount).bind fun (s39, s40, s41, s42) =>
  some ((0 : Int64), (0 : Int32), s39, s40, s41, s42)
def f_press (o_nRows : Int32) (o_nCols : Int32) (o_log : List Int32) (o_lights : Int64) (o_logLen : Int32) (v1 : Int32) (v2 : Int32) : Option (Int32 × List Int32 × Int64 × Int32) :=
  (f_onBoard o_nRows o_nCols v1 v2).bind fun r43 =>
  if r43 = (0 : Int32) then
    some ((0 : Int32), o_log, o_lights, o_logLen)
  else
    if o_logLen < (64 : Int32) then
      (f_toggleCell o_nRows o_nCols o_lights v1 v2).bind fun s44 =>
      (wrA o_log o_logLen ((v1 * o_nCols) + v2)).bind fun A45 =>
      some ((1 : Int32), A45, s44, (o_logLen + (1 : Int32)))
    else
      some ((0 : Int32), o_log, o_lights, o_logLen)
def f_status (o_status : Int32) : Option (Int32) :=
  some o_status
def f_solutionSize (o_status : Int32) (o_solSize : Int32) : Option (Int32) :=
  some (if o_status = (1 : Int32) then o_solSize else (-1 : Int32))
def f_solutionCount (o_status : Int32) (o_solCount : Int32) : Option (Int32) :=
  some (if o_status = (1 : Int32) then o_solCount else (0 : Int32))
def f_inSolution (o_nRows : Int32) (o_nCols : Int32) (o_status : Int32) (o_solSet : Int64) (v1 : Int32) (v2 : Int32) : Option (Int32) :=
  if o_status = (1 : Int32) then
    (f_onBoard o_nRows o_nCols v1 v2).bind fun r46 =>
    if r46 = (0 : Int32) then
      some (0 : Int32)
    else
      (f_bit o_nCols v1 v2).bind fun r47 =>
      some (if (o_solSet &&& r47) = (0 : Int64) then (0 : Int32) else (1 : Int32))
  else
    some (0 : Int32)
def f_L_countIn_12 (k4 : Int32 → Int32 → Option (Int32)) (p0_nRows : Int32) (p0_nCols : Int32) (p0_status : Int32) (p0_solSet : Int64) : Nat → Int32 → Int32 → Int32 → Option (Int32)
  | 0, _, _, _ => none
  | n + 1, v1, v2, v3 =>
    if v3 < (8 : Int32) then
      (f_inSolution p0_nRows p0_nCols p0_status p0_solSet v2 v3).bind fun r48 =>
      f_L_countIn_12 k4 p0_nRows p0_nCols p0_status p0_solSet n (if r48 = (0 : Int32) then v1 else (v1 + (1 : Int32))) v2 (v3 + (1 : Int32))
    else
      k4 v1 (v2 + (1 : Int32))
def f_L_countIn_4 (p0_nRows : Int32) (p0_nCols : Int32) (p0_status : Int32) (p0_solSet : Int64) : Nat → Int32 → Int32 → Option (Int32)
  | 0, _, _ => none
  | n + 1, v1, v2 =>
    if v2 < (8 : Int32) then
      f_L_countIn_12 (f_L_countIn_4 p0_nRows p0_nCols p0_status p0_solSet n) p0_nRows p0_nCols p0_status p0_solSet 100000 v1 v2 (0 : Int32)
    else
      some v1
def f_L_countIn (p0_nRows : Int32) (p0_nCols : Int32) (p0_status : Int32) (p0_solSet : Int64) : Option (Int32) :=
  f_L_countIn_4 p0_nRows p0_nCols p0_status p0_solSet 100000 (0 : Int32) (0 : Int32)
def f_rows (o_nRows : Int32) : Option (Int32) :=
  some o_nRows
def f_cols (o_nCols : Int32) : Option (Int32) :=
  some o_nCols
def f_logSize (o_logLen : Int32) : Option (Int32) :=
  some o_logLen
def f_L_ok_112 (p0_nRows : Int32) (p0_nCols : Int32) (p0_logLen : Int32) (p0_status : Int32) (p0_solSet : Int64) (p0_solSize : Int32) (p0_solCount : Int32) (v2 : Int32) (v3 : Int32) (v4 : Int32) : Option (Int32) :=
  some (if v2 = (-1 : Int32) then (if v3 = (0 : Int32) then (if v4 = (0 : Int32) then (1 : Int32) else (0 : Int32)) else (0 : Int32)) else (0 : Int32))
def f_L_ok (p0_nRows : Int32) (p0_nCols : Int32) (p0_logLen : Int32) (p0_status : Int32) (p0_solSet : Int64) (p0_solSize : Int32) (p0_solCount : Int32) : Option (Int32) :=
  (f_status p0_status).bind fun r49 =>
  (f_solutionSize p0_status p0_solSize).bind fun r50 =>
  (f_solutionCount p0_status p0_solCount).bind fun r51 =>
  (f_L_countIn p0_nRows p0_nCols p0_status p0_solSet).bind fun r52 =>
  (f_rows p0_nRows).bind fun r53 =>
  (f_cols p0_nCols).bind fun r54 =>
  (f_logSize p0_logLen).bind fun r55 =>
  if r55 < (0 : Int32) then
    some (0 : Int32)
  else
    if (64 : Int32) < r55 then
      some (0 : Int32)
    else
      if r49 = (1 : Int32) then
        some (if r50 < (0 : Int32) then (0 : Int32) else (if (r53 * r54) < r50 then (0 : Int32) else (if r51 < (1 : Int32) then (0 : Int32) else (if (256 : Int32) < r51 then (0 : Int32) else (if (r51 &&& (r51 - (1 : Int32))) = (0 : Int32) then (if r52 = r50 then (1 : Int32) else (0 : Int32)) else (0 : Int32))))))
      else
        if r49 = (0 : Int32) then
          f_L_ok_112 p0_nRows p0_nCols p0_logLen p0_status p0_solSet p0_solSize p0_solCount r50 r51 r52
        else
          if r49 = (2 : Int32) then
            f_L_ok_112 p0_nRows p0_nCols p0_logLen p0_status p0_solSet p0_solSize p0_solCount r50 r51 r52
          else
            some (0 : Int32)
def f_L_law_165 (kb : List Int32 → List Int32 → List Int32 → Int32 → Int32 → Int64 → Int32 → Int32 → Int64 → Int32 → Int32 → Int32 → Option (Int32)) (scr : List Int32) (n0_log : List Int32) (n0_cur : List Int32) (n0_prs : List Int32) (n0_nRows : Int32) (n0_nCols : Int32) (n0_lights : Int64) (n0_logLen : Int32) (n0_status : Int32) (n0_solSet : Int64) (n0_solSize : Int32) (n0_solCount : Int32) (v4 : Int32) : Option (Int32) :=
  (f_L_ok n0_nRows n0_nCols n0_logLen n0_status n0_solSet n0_solSize n0_solCount).bind fun r99 =>
  if r99 = (0 : Int32) then
    some (0 : Int32)
  else
    kb n0_log n0_cur n0_prs n0_nRows n0_nCols n0_lights n0_logLen n0_status n0_solSet n0_solSize n0_solCount (v4 + (4 : Int32))
def f_L_law_40 (scr : List Int32) : Nat → List Int32 → List Int32 → List Int32 → Int32 → Int32 → Int64 → Int32 → Int32 → Int64 → Int32 → Int32 → Int32 → Option (Int32)
  | 0, _, _, _, _, _, _, _, _, _, _, _, _ => none
  | n + 1, n0_log, n0_cur, n0_prs, n0_nRows, n0_nCols, n0_lights, n0_logLen, n0_status, n0_solSet, n0_solSize, n0_solCount, v4 =>
    if scr.length.toInt32 < (v4 + (4 : Int32)) then
      some (1 : Int32)
    else
      (rdA scr v4).bind fun x69 =>
      (rdA scr (v4 + (1 : Int32))).bind fun x70 =>
      (rdA scr (v4 + (2 : Int32))).bind fun x71 =>
      (rdA scr (v4 + (3 : Int32))).bind fun x72 =>
      if (x69 &&& (7 : Int32)) = (0 : Int32) then
        (f_setLight n0_nRows n0_nCols n0_lights x70 x71 x72).bind fun (r97, s98) =>
        f_L_law_165 (f_L_law_40 scr n) scr n0_log n0_cur n0_prs n0_nRows n0_nCols s98 n0_logLen n0_status n0_solSet n0_solSize n0_solCount v4
      else
        if (x69 &&& (7 : Int32)) = (1 : Int32) then
          (f_undo n0_log n0_nRows n0_nCols n0_lights n0_logLen).bind fun (r94, s95, s96) =>
          f_L_law_165 (f_L_law_40 scr n) scr n0_log n0_cur n0_prs n0_nRows n0_nCols s95 s96 n0_status n0_solSet n0_solSize n0_solCount v4
        else
          if (x69 &&& (7 : Int32)) = (2 : Int32) then
            (f_solve n0_nRows n0_nCols n0_lights n0_cur n0_prs n0_status n0_solSet n0_solSize n0_solCount).bind fun (r87, s88, s89, s90, s91, s92, s93) =>
            f_L_law_165 (f_L_law_40 scr n) scr n0_log s88 s89 n0_nRows n0_nCols n0_lights n0_logLen s90 s91 s92 s93 v4
          else
            if (x69 &&& (7 : Int32)) = (3 : Int32) then
              (f_applySolution n0_nRows n0_nCols n0_status n0_solSet n0_solSize n0_log n0_lights n0_logLen).bind fun (r83, s84, s85, s86) =>
              f_L_law_165 (f_L_law_40 scr n) scr s84 n0_cur n0_prs n0_nRows n0_nCols s85 s86 n0_status n0_solSet n0_solSize n0_solCount v4
            else
              if (x69 &&& (7 : Int32)) = (4 : Int32) then
                (f_clear n0_lights n0_logLen n0_status n0_solSet n0_solSize n0_solCount).bind fun (s77, s78, s79, s80, s81, s82) =>
                f_L_law_165 (f_L_law_40 scr n) scr n0_log n0_cur n0_prs n0_nRows n0_nCols s77 s78 s79 s80 s81 s82 v4
              else
                (f_press n0_nRows n0_nCols n0_log n0_lights n0_logLen x70 x71).bind fun (r73, s74, s75, s76) =>
                f_L_law_165 (f_L_law_40 scr n) scr s74 n0_cur n0_prs n0_nRows n0_nCols s75 s76 n0_status n0_solSet n0_solSize n0_solCount v4
def f_L_law_26 (scr : List Int32) (v1 : Int32) (t0 : Int32) : Option (Int32) :=
  (f_init v1 t0).bind fun (s58, s59, s60, s61, s62, s63, s64, s65, s66, s67, s68) =>
  f_L_law_40 scr 100000 s58 s59 s60 s61 s62 s63 s64 s65 s66 s67 s68 (2 : Int32)
def f_L_law_12 (scr : List Int32) (t0 : Int32) : Option (Int32) :=
  if (1 : Int32) < scr.length.toInt32 then
    (rdA scr (1 : Int32)).bind fun x57 =>
    f_L_law_26 scr t0 x57
  else
    f_L_law_26 scr t0 (1 : Int32)
def f_L_law (scr : List Int32) : Option (Int32) :=
  if (0 : Int32) < scr.length.toInt32 then
    (rdA scr (0 : Int32)).bind fun x56 =>
    f_L_law_12 scr x56
  else
    f_L_law_12 scr (1 : Int32)
set_option maxHeartbeats 4000000
set_option maxRecDepth 10000
theorem ok_clamp {c0 : ACell} {po : List ACell} {v0 : Int32} {res : Int32} (h : f_clamp v0 = some res) : OEnds own_P 2 0 [.val (.int v0)] [] (c0 :: po) (some (.int res), (c0 :: po), 0, 0) := by
  unfold f_clamp at h
  refine OEnds.adv hm_2 2 (pc' := 2) (L' := [.val (.int v0)]) (S' := [.int 1, .int v0]) (H' := (c0 :: po)) rfl ?_
  by_cases hc1 : v0 < (1 : Int32)
  · simp only [if_pos hc1] at h
    refine OEnds.icmpF hm_2 rfl ((tlt hc1).2.1) ?_
    refine OEnds.adv hm_2 1 (pc' := 6) (L' := [.val (.int v0)]) (S' := [.int 1]) (H' := (c0 :: po)) rfl ?_
    cases h
    exact OEnds.iret hm_2 rfl rfl
  · simp only [if_neg hc1] at h
    refine OEnds.icmpT hm_2 rfl (q := 7) rfl ((flt hc1).2.1) ?_
    refine OEnds.adv hm_2 2 (pc' := 10) (L' := [.val (.int v0)]) (S' := [.int 8, .int v0]) (H' := (c0 :: po)) rfl ?_
    by_cases hc2 : (8 : Int32) < v0
    · simp only [if_pos hc2] at h
      refine OEnds.icmpF hm_2 rfl ((tlt hc2).2.2.2) ?_
      refine OEnds.adv hm_2 1 (pc' := 15) (L' := [.val (.int v0)]) (S' := [.int 8]) (H' := (c0 :: po)) rfl ?_
      cases h
      exact OEnds.iret hm_2 rfl rfl
    · simp only [if_neg hc2] at h
      refine OEnds.icmpT hm_2 rfl (q := 16) rfl ((flt hc2).2.2.2) ?_
      refine OEnds.adv hm_2 1 (pc' := 17) (L' := [.val (.int v0)]) (S' := [.int v0]) (H' := (c0 :: po)) rfl ?_
      cases h
      exact OEnds.iret hm_2 rfl rfl
theorem ok_forgetResult {o_log : List Int32} {o_cur : List Int32} {o_prs : List Int32} {o_nRows : Int32} {o_nCols : Int32} {o_lights : Int64} {o_logLen : Int32} {c0 : ACell} {po : List ACell} {o_status : Int32} {o_solSet : Int64} {o_solSize : Int32} {o_solCount : Int32} {w_o_status : Int32} {w_o_solSet : Int64} {w_o_solSize : Int32} {w_o_solCount : Int32} (h : f_forgetResult o_status o_solSet o_solSize o_solCount = some (w_o_status, w_o_solSet, w_o_solSize, w_o_solCount)) : OEnds own_P 3 0 [.val (.ref 1)] [] (c0 :: bk0 o_log o_cur o_prs o_nRows o_nCols o_lights o_logLen o_status o_solSet o_solSize o_solCount po) (none, (c0 :: bk0 o_log o_cur o_prs o_nRows o_nCols o_lights o_logLen w_o_status w_o_solSet w_o_solSize w_o_solCount po), 0, 0) := by
  unfold f_forgetResult at h
  refine OEnds.adv hm_3 12 (pc' := 20) (L' := [.val (.ref 1)]) (S' := []) (H' := (c0 :: bk0 o_log o_cur o_prs o_nRows o_nCols o_lights o_logLen 0 0 0 0 po)) rfl ?_
  cases h
  exact OEnds.vret hm_3 rfl rfl
theorem ok_init {c0 : ACell} {v1 : Int32} {v2 : Int32} {w_o_log : List Int32} {w_o_cur : List Int32} {w_o_prs : List Int32} {w_o_nRows : Int32} {w_o_nCols : Int32} {w_o_lights : Int64} {w_o_logLen : Int32} {w_o_status : Int32} {w_o_solSet : Int64} {w_o_solSize : Int32} {w_o_solCount : Int32} (h : f_init v1 v2 = some (w_o_log, w_o_cur, w_o_prs, w_o_nRows, w_o_nCols, w_o_lights, w_o_logLen, w_o_status, w_o_solSet, w_o_solSize, w_o_solCount)) : OEnds own_P 1 0 [.val (.ref 1), .val (.int v1), .val (.int v2)] [] (c0 :: (.inl (0, [.null, .null, .null, .int 0, .int 0, .long 0, .int 0, .int 0, .long 0, .int 0, .int 0]) : ACell) :: []) (none, (c0 :: bk0 w_o_log w_o_cur w_o_prs w_o_nRows w_o_nCols w_o_lights w_o_logLen w_o_status w_o_solSet w_o_solSize w_o_solCount []), 3, 80) := by
  unfold f_init at h
  refine OEnds.adv hm_1 1 (pc' := 1) (L' := [.val (.ref 1), .val (.int v1), .val (.int v2)]) (S' := [.ref 1]) (H' := (c0 :: (.inl (0, [.null, .null, .null, .int 0, .int 0, .long 0, .int 0, .int 0, .long 0, .int 0, .int 0]) : ACell) :: [])) rfl ?_
  refine OEnds.oinit hm_1 rfl ⟨Nat.le_of_ble_eq_true rfl, Nat.le_of_ble_eq_true rfl⟩ ?_
  refine OEnds.adv hm_1 2 (pc' := 7) (L' := [.val (.ref 1), .val (.int v1), .val (.int v2)]) (S' := [.int 64, .ref 1]) (H' := (c0 :: (.inl (0, [.null, .null, .null, .int 0, .int 0, .long 0, .int 0, .int 0, .long 0, .int 0, .int 0]) : ACell) :: [])) rfl ?_
  refine OEnds.made1 hm_1 rfl rfl (ks := 64) rfl rfl ?_
  refine OEnds.adv hm_1 3 (pc' := 15) (L' := [.val (.ref 1), .val (.int v1), .val (.int v2)]) (S' := [.int 8, .ref 1]) (H' := (c0 :: (.inl (0, [.ref 2, .null, .null, .int 0, .int 0, .long 0, .int 0, .int 0, .long 0, .int 0, .int 0]) : ACell) :: .inr (.inl (false, (List.replicate 64 0))) :: [])) rfl ?_
  refine OEnds.made1 hm_1 rfl rfl (ks := 8) rfl rfl ?_
  refine OEnds.adv hm_1 3 (pc' := 23) (L' := [.val (.ref 1), .val (.int v1), .val (.int v2)]) (S' := [.int 8, .ref 1]) (H' := (c0 :: (.inl (0, [.ref 2, .ref 3, .null, .int 0, .int 0, .long 0, .int 0, .int 0, .long 0, .int 0, .int 0]) : ACell) :: .inr (.inl (false, (List.replicate 64 0))) :: .inr (.inl (false, (List.replicate 8 0))) :: [])) rfl ?_
  refine OEnds.made1 hm_1 rfl rfl (ks := 8) rfl rfl ?_
  refine OEnds.adv hm_1 3 (pc' := 30) (L' := [.val (.ref 1), .val (.int v1), .val (.int v2)]) (S' := [.int v1, .ref 1]) (H' := (c0 :: bk0 (List.replicate 64 0) (List.replicate 8 0) (List.replicate 8 0) 0 0 0 0 0 0 0 0 [])) rfl ?_
  obtain ⟨r1, hq3, h⟩ := bnd h
  refine OEnds.call0 hm_1 rfl rfl (by decide) rfl (as := [.int v1]) (rest := [.ref 1]) rfl rfl (ok_clamp hq3) ?_
  refine OEnds.adv hm_1 3 (pc' := 38) (L' := [.val (.ref 1), .val (.int v1), .val (.int v2)]) (S' := [.int v2, .ref 1]) (H' := (c0 :: bk0 (List.replicate 64 0) (List.replicate 8 0) (List.replicate 8 0) r1 0 0 0 0 0 0 0 [])) rfl ?_
  obtain ⟨r2, hq4, h⟩ := bnd h
  refine OEnds.call0 hm_1 rfl rfl (by decide) rfl (as := [.int v2]) (rest := [.ref 1]) rfl rfl (ok_clamp hq4) ?_
  refine OEnds.adv hm_1 8 (pc' := 55) (L' := [.val (.ref 1), .val (.int v1), .val (.int v2)]) (S' := [.ref 1]) (H' := (c0 :: bk0 (List.replicate 64 0) (List.replicate 8 0) (List.replicate 8 0) r1 r2 0 0 0 0 0 0 [])) rfl ?_
  obtain ⟨⟨s3, s4, s5, s6⟩, hq5, h⟩ := bnd h
  refine OEnds.call0 hm_1 rfl rfl (by decide) rfl (as := [.ref 1]) (rest := []) rfl rfl (ok_forgetResult hq5) ?_
  show OEnds own_P 1 58 [.val (.ref 1), .val (.int v1), .val (.int v2)] [] (c0 :: bk0 (List.replicate 64 0) (List.replicate 8 0) (List.replicate 8 0) r1 r2 0 0 s3 s4 s5 s6 []) _
  cases h
  exact OEnds.vret hm_1 rfl rfl
theorem ok_onBoard {o_log : List Int32} {o_cur : List Int32} {o_prs : List Int32} {o_nRows : Int32} {o_nCols : Int32} {o_lights : Int64} {o_logLen : Int32} {o_status : Int32} {o_solSet : Int64} {o_solSize : Int32} {o_solCount : Int32} {c0 : ACell} {po : List ACell} {v1 : Int32} {v2 : Int32} {res : Int32} (h : f_onBoard o_nRows o_nCols v1 v2 = some res) : OEnds own_P 21 0 [.val (.ref 1), .val (.int v1), .val (.int v2)] [] (c0 :: bk0 o_log o_cur o_prs o_nRows o_nCols o_lights o_logLen o_status o_solSet o_solSize o_solCount po) (some (.int res), (c0 :: bk0 o_log o_cur o_prs o_nRows o_nCols o_lights o_logLen o_status o_solSet o_solSize o_solCount po), 0, 0) := by
  unfold f_onBoard at h
  refine OEnds.adv hm_21 1 (pc' := 1) (L' := [.val (.ref 1), .val (.int v1), .val (.int v2)]) (S' := [.int v1]) (H' := (c0 :: bk0 o_log o_cur o_prs o_nRows o_nCols o_lights o_logLen o_status o_solSet o_solSize o_solCount po)) rfl ?_
  by_cases hc6 : v1 < (0 : Int32)
  · simp only [if_pos hc6] at h
    refine OEnds.ifT hm_21 rfl (q := 28) rfl ((tlt hc6).1) ?_
    refine OEnds.adv hm_21 1 (pc' := 29) (L' := [.val (.ref 1), .val (.int v1), .val (.int v2)]) (S' := [.int 0]) (H' := (c0 :: bk0 o_log o_cur o_prs o_nRows o_nCols o_lights o_logLen o_status o_solSet o_solSize o_solCount po)) rfl ?_
    cases h
    exact OEnds.iret hm_21 rfl rfl
  · simp only [if_neg hc6] at h
    refine OEnds.ifF hm_21 rfl ((flt hc6).1) ?_
    refine OEnds.adv hm_21 3 (pc' := 9) (L' := [.val (.ref 1), .val (.int v1), .val (.int v2)]) (S' := [.int o_nRows, .int v1]) (H' := (c0 :: bk0 o_log o_cur o_prs o_nRows o_nCols o_lights o_logLen o_status o_solSet o_solSize o_solCount po)) rfl ?_
    by_cases hc7 : v1 < o_nRows
    · simp only [if_pos hc7] at h
      refine OEnds.icmpF hm_21 rfl ((tlt hc7).2.1) ?_
      refine OEnds.adv hm_21 1 (pc' := 13) (L' := [.val (.ref 1), .val (.int v1), .val (.int v2)]) (S' := [.int v2]) (H' := (c0 :: bk0 o_log o_cur o_prs o_nRows o_nCols o_lights o_logLen o_status o_solSet o_solSize o_solCount po)) rfl ?_
      by_cases hc8 : v2 < (0 : Int32)
      · simp only [if_pos hc8] at h
        refine OEnds.ifT hm_21 rfl (q := 28) rfl ((tlt hc8).1) ?_
        refine OEnds.adv hm_21 1 (pc' := 29) (L' := [.val (.ref 1), .val (.int v1), .val (.int v2)]) (S' := [.int 0]) (H' := (c0 :: bk0 o_log o_cur o_prs o_nRows o_nCols o_lights o_logLen o_status o_solSet o_solSize o_solCount po)) rfl ?_
        cases h
        exact OEnds.iret hm_21 rfl rfl
      · simp only [if_neg hc8] at h
        refine OEnds.ifF hm_21 rfl ((flt hc8).1) ?_
        refine OEnds.adv hm_21 3 (pc' := 21) (L' := [.val (.ref 1), .val (.int v1), .val (.int v2)]) (S' := [.int o_nCols, .int v2]) (H' := (c0 :: bk0 o_log o_cur o_prs o_nRows o_nCols o_lights o_logLen o_status o_solSet o_solSize o_solCount po)) rfl ?_
        by_cases hc9 : v2 < o_nCols
        · simp only [if_pos hc9] at h
          refine OEnds.icmpF hm_21 rfl ((tlt hc9).2.1) ?_
          refine OEnds.adv hm_21 2 (pc' := 29) (L' := [.val (.ref 1), .val (.int v1), .val (.int v2)]) (S' := [.int 1]) (H' := (c0 :: bk0 o_log o_cur o_prs o_nRows o_nCols o_lights o_logLen o_status o_solSet o_solSize o_solCount po)) rfl ?_
          cases h
          exact OEnds.iret hm_21 rfl rfl
        · simp only [if_neg hc9] at h
          refine OEnds.icmpT hm_21 rfl (q := 28) rfl ((flt hc9).2.1) ?_
          refine OEnds.adv hm_21 1 (pc' := 29) (L' := [.val (.ref 1), .val (.int v1), .val (.int v2)]) (S' := [.int 0]) (H' := (c0 :: bk0 o_log o_cur o_prs o_nRows o_nCols o_lights o_logLen o_status o_solSet o_solSize o_solCount po)) rfl ?_
          cases h
          exact OEnds.iret hm_21 rfl rfl
    · simp only [if_neg hc7] at h
      refine OEnds.icmpT hm_21 rfl (q := 28) rfl ((flt hc7).2.1) ?_
      refine OEnds.adv hm_21 1 (pc' := 29) (L' := [.val (.ref 1), .val (.int v1), .val (.int v2)]) (S' := [.int 0]) (H' := (c0 :: bk0 o_log o_cur o_prs o_nRows o_nCols o_lights o_logLen o_status o_solSet o_solSize o_solCount po)) rfl ?_
      cases h
      exact OEnds.iret hm_21 rfl rfl
theorem ok_bit {o_log : List Int32} {o_cur : List Int32} {o_prs : List Int32} {o_nRows : Int32} {o_nCols : Int32} {o_lights : Int64} {o_logLen : Int32} {o_status : Int32} {o_solSet : Int64} {o_solSize : Int32} {o_solCount : Int32} {c0 : ACell} {po : List ACell} {v1 : Int32} {v2 : Int32} {res : Int64} (h : f_bit o_nCols v1 v2 = some res) : OEnds own_P 22 0 [.val (.ref 1), .val (.int v1), .val (.int v2)] [] (c0 :: bk0 o_log o_cur o_prs o_nRows o_nCols o_lights o_logLen o_status o_solSet o_solSize o_solCount po) (some (.long res), (c0 :: bk0 o_log o_cur o_prs o_nRows o_nCols o_lights o_logLen o_status o_solSet o_solSize o_solCount po), 0, 0) := by
  unfold f_bit at h
  refine OEnds.adv hm_22 8 (pc' := 10) (L' := [.val (.ref 1), .val (.int v1), .val (.int v2)]) (S' := [.long ((1 : Int64) <<< (((v1 * o_nCols) + v2).toInt64 &&& 63))]) (H' := (c0 :: bk0 o_log o_cur o_prs o_nRows o_nCols o_lights o_logLen o_status o_solSet o_solSize o_solCount po)) rfl ?_
  cases h
  exact OEnds.lret hm_22 rfl rfl
theorem ok_setLight {o_log : List Int32} {o_cur : List Int32} {o_prs : List Int32} {o_nRows : Int32} {o_nCols : Int32} {o_logLen : Int32} {o_status : Int32} {o_solSet : Int64} {o_solSize : Int32} {o_solCount : Int32} {c0 : ACell} {po : List ACell} {o_lights : Int64} {v1 : Int32} {v2 : Int32} {v3 : Int32} {res : Int32} {w_o_lights : Int64} (h : f_setLight o_nRows o_nCols o_lights v1 v2 v3 = some (res, w_o_lights)) : OEnds own_P 23 0 [.val (.ref 1), .val (.int v1), .val (.int v2), .val (.int v3), .unset, .unset] [] (c0 :: bk0 o_log o_cur o_prs o_nRows o_nCols o_lights o_logLen o_status o_solSet o_solSize o_solCount po) (some (.int res), (c0 :: bk0 o_log o_cur o_prs o_nRows o_nCols w_o_lights o_logLen o_status o_solSet o_solSize o_solCount po), 0, 0) := by
  unfold f_setLight at h
  refine OEnds.adv hm_23 3 (pc' := 3) (L' := [.val (.ref 1), .val (.int v1), .val (.int v2), .val (.int v3), .unset, .unset]) (S' := [.int v2, .int v1, .ref 1]) (H' := (c0 :: bk0 o_log o_cur o_prs o_nRows o_nCols o_lights o_logLen o_status o_solSet o_solSize o_solCount po)) rfl ?_
  obtain ⟨r7, hq10, h⟩ := bnd h
  refine OEnds.call0 hm_23 rfl rfl (by decide) rfl (as := [.ref 1, .int v1, .int v2]) (rest := []) rfl rfl (ok_onBoard hq10) ?_
  show OEnds own_P 23 6 [.val (.ref 1), .val (.int v1), .val (.int v2), .val (.int v3), .unset, .unset] [.int r7] (c0 :: bk0 o_log o_cur o_prs o_nRows o_nCols o_lights o_logLen o_status o_solSet o_solSize o_solCount po) _
  by_cases hc11 : r7 = (0 : Int32)
  · simp only [if_pos hc11] at h
    refine OEnds.ifF hm_23 rfl ((teq hc11).2) ?_
    refine OEnds.adv hm_23 1 (pc' := 10) (L' := [.val (.ref 1), .val (.int v1), .val (.int v2), .val (.int v3), .unset, .unset]) (S' := [.int 0]) (H' := (c0 :: bk0 o_log o_cur o_prs o_nRows o_nCols o_lights o_logLen o_status o_solSet o_solSize o_solCount po)) rfl ?_
    cases h
    exact OEnds.iret hm_23 rfl rfl
  · simp only [if_neg hc11] at h
    refine OEnds.ifT hm_23 rfl (q := 11) rfl ((feq hc11).2) ?_
    refine OEnds.adv hm_23 3 (pc' := 14) (L' := [.val (.ref 1), .val (.int v1), .val (.int v2), .val (.int v3), .unset, .unset]) (S' := [.int v2, .int v1, .ref 1]) (H' := (c0 :: bk0 o_log o_cur o_prs o_nRows o_nCols o_lights o_logLen o_status o_solSet o_solSize o_solCount po)) rfl ?_
    obtain ⟨r8, hq12, h⟩ := bnd h
    refine OEnds.call0 hm_23 rfl rfl (by decide) rfl (as := [.ref 1, .int v1, .int v2]) (rest := []) rfl rfl (ok_bit hq12) ?_
    refine OEnds.adv hm_23 2 (pc' := 20) (L' := [.val (.ref 1), .val (.int v1), .val (.int v2), .val (.int v3), .val (.long r8), .second]) (S' := [.int v3]) (H' := (c0 :: bk0 o_log o_cur o_prs o_nRows o_nCols o_lights o_logLen o_status o_solSet o_solSize o_solCount po)) rfl ?_
    by_cases hc13 : v3 = (0 : Int32)
    · simp only [if_pos hc13] at h
      refine OEnds.ifF hm_23 rfl ((teq hc13).2) ?_
      refine OEnds.adv hm_23 10 (pc' := 53) (L' := [.val (.ref 1), .val (.int v1), .val (.int v2), .val (.int v3), .val (.long r8), .second]) (S' := [.int 1]) (H' := (c0 :: bk0 o_log o_cur o_prs o_nRows o_nCols (o_lights &&& (r8 ^^^ (-1 : Int64))) o_logLen o_status o_solSet o_solSize o_solCount po)) rfl ?_
      cases h
      exact OEnds.iret hm_23 rfl rfl
    · simp only [if_neg hc13] at h
      refine OEnds.ifT hm_23 rfl (q := 41) rfl ((feq hc13).2) ?_
      refine OEnds.adv hm_23 7 (pc' := 53) (L' := [.val (.ref 1), .val (.int v1), .val (.int v2), .val (.int v3), .val (.long r8), .second]) (S' := [.int 1]) (H' := (c0 :: bk0 o_log o_cur o_prs o_nRows o_nCols (o_lights ||| r8) o_logLen o_status o_solSet o_solSize o_solCount po)) rfl ?_
      cases h
      exact OEnds.iret hm_23 rfl rfl
theorem ok_toggleCell_79 {o_log : List Int32} {o_cur : List Int32} {o_prs : List Int32} {o_nRows : Int32} {o_nCols : Int32} {o_logLen : Int32} {o_status : Int32} {o_solSet : Int64} {o_solSize : Int32} {o_solCount : Int32} {c0 : ACell} {po : List ACell} : ∀ {o_lights : Int64} {v3 : Int64} {d1 d2 : Slot} {w_o_lights : Int64}, f_toggleCell_79 o_nRows o_nCols o_lights v3 = some w_o_lights → OEnds own_P 26 79 [.val (.ref 1), d1, d2, .val (.long v3), .second] [] (c0 :: bk0 o_log o_cur o_prs o_nRows o_nCols o_lights o_logLen o_status o_solSet o_solSize o_solCount po) (none, (c0 :: bk0 o_log o_cur o_prs o_nRows o_nCols w_o_lights o_logLen o_status o_solSet o_solSize o_solCount po), 0, 0) := by
  intro o_lights v3 d1 d2 w_o_lights h
  unfold f_toggleCell_79 at h
  refine OEnds.adv hm_26 6 (pc' := 89) (L' := [.val (.ref 1), .unset, .unset, .val (.long v3), .second]) (S' := []) (H' := (c0 :: bk0 o_log o_cur o_prs o_nRows o_nCols (o_lights ^^^ v3) o_logLen o_status o_solSet o_solSize o_solCount po)) rfl ?_
  cases h
  exact OEnds.vret hm_26 rfl rfl
theorem ok_toggleCell_58 {o_log : List Int32} {o_cur : List Int32} {o_prs : List Int32} {o_nRows : Int32} {o_nCols : Int32} {o_logLen : Int32} {o_status : Int32} {o_solSet : Int64} {o_solSize : Int32} {o_solCount : Int32} {c0 : ACell} {po : List ACell} : ∀ {o_lights : Int64} {v1 : Int32} {v2 : Int32} {v3 : Int64} {w_o_lights : Int64}, f_toggleCell_58 o_nRows o_nCols o_lights v1 v2 v3 = some w_o_lights → OEnds own_P 26 58 [.val (.ref 1), .val (.int v1), .val (.int v2), .val (.long v3), .second] [] (c0 :: bk0 o_log o_cur o_prs o_nRows o_nCols o_lights o_logLen o_status o_solSet o_solSize o_solCount po) (none, (c0 :: bk0 o_log o_cur o_prs o_nRows o_nCols w_o_lights o_logLen o_status o_solSet o_solSize o_solCount po), 0, 0) := by
  intro o_lights v1 v2 v3 w_o_lights h
  unfold f_toggleCell_58 at h
  refine OEnds.adv hm_26 5 (pc' := 65) (L' := [.val (.ref 1), .val (.int v1), .val (.int v2), .val (.long v3), .second]) (S' := [.int o_nCols, .int (v2 + (1 : Int32))]) (H' := (c0 :: bk0 o_log o_cur o_prs o_nRows o_nCols o_lights o_logLen o_status o_solSet o_solSize o_solCount po)) rfl ?_
  by_cases hc14 : (v2 + (1 : Int32)) < o_nCols
  · simp only [if_pos hc14] at h
    refine OEnds.icmpF hm_26 rfl ((tlt hc14).2.1) ?_
    refine OEnds.adv hm_26 6 (pc' := 74) (L' := [.val (.ref 1), .val (.int v1), .val (.int v2), .val (.long v3), .second]) (S' := [.int (v2 + (1 : Int32)), .int v1, .ref 1, .long v3]) (H' := (c0 :: bk0 o_log o_cur o_prs o_nRows o_nCols o_lights o_logLen o_status o_solSet o_solSize o_solCount po)) rfl ?_
    obtain ⟨r13, hq15, h⟩ := bnd h
    refine OEnds.call0 hm_26 rfl rfl (by decide) rfl (as := [.ref 1, .int v1, .int (v2 + (1 : Int32))]) (rest := [.long v3]) rfl rfl (ok_bit hq15) ?_
    refine OEnds.adv hm_26 2 (pc' := 79) (L' := [.val (.ref 1), .val (.int v1), .val (.int v2), .val (.long (v3 ||| r13)), .second]) (S' := []) (H' := (c0 :: bk0 o_log o_cur o_prs o_nRows o_nCols o_lights o_logLen o_status o_solSet o_solSize o_solCount po)) rfl ?_
    exact ok_toggleCell_79 h
  · simp only [if_neg hc14] at h
    refine OEnds.icmpT hm_26 rfl (q := 79) rfl ((flt hc14).2.1) ?_
    show OEnds own_P 26 79 [.val (.ref 1), .val (.int v1), .val (.int v2), .val (.long v3), .second] [] (c0 :: bk0 o_log o_cur o_prs o_nRows o_nCols o_lights o_logLen o_status o_solSet o_solSize o_solCount po) _
    exact ok_toggleCell_79 h
theorem ok_toggleCell_43 {o_log : List Int32} {o_cur : List Int32} {o_prs : List Int32} {o_nRows : Int32} {o_nCols : Int32} {o_logLen : Int32} {o_status : Int32} {o_solSet : Int64} {o_solSize : Int32} {o_solCount : Int32} {c0 : ACell} {po : List ACell} : ∀ {o_lights : Int64} {v1 : Int32} {v2 : Int32} {v3 : Int64} {w_o_lights : Int64}, f_toggleCell_43 o_nRows o_nCols o_lights v1 v2 v3 = some w_o_lights → OEnds own_P 26 43 [.val (.ref 1), .val (.int v1), .val (.int v2), .val (.long v3), .second] [] (c0 :: bk0 o_log o_cur o_prs o_nRows o_nCols o_lights o_logLen o_status o_solSet o_solSize o_solCount po) (none, (c0 :: bk0 o_log o_cur o_prs o_nRows o_nCols w_o_lights o_logLen o_status o_solSet o_solSize o_solCount po), 0, 0) := by
  intro o_lights v1 v2 v3 w_o_lights h
  unfold f_toggleCell_43 at h
  refine OEnds.adv hm_26 1 (pc' := 44) (L' := [.val (.ref 1), .val (.int v1), .val (.int v2), .val (.long v3), .second]) (S' := [.int v2]) (H' := (c0 :: bk0 o_log o_cur o_prs o_nRows o_nCols o_lights o_logLen o_status o_solSet o_solSize o_solCount po)) rfl ?_
  by_cases hc16 : (0 : Int32) < v2
  · simp only [if_pos hc16] at h
    refine OEnds.ifF hm_26 rfl ((tlt hc16).2.2.2) ?_
    refine OEnds.adv hm_26 6 (pc' := 53) (L' := [.val (.ref 1), .val (.int v1), .val (.int v2), .val (.long v3), .second]) (S' := [.int (v2 - (1 : Int32)), .int v1, .ref 1, .long v3]) (H' := (c0 :: bk0 o_log o_cur o_prs o_nRows o_nCols o_lights o_logLen o_status o_solSet o_solSize o_solCount po)) rfl ?_
    obtain ⟨r12, hq17, h⟩ := bnd h
    refine OEnds.call0 hm_26 rfl rfl (by decide) rfl (as := [.ref 1, .int v1, .int (v2 - (1 : Int32))]) (rest := [.long v3]) rfl rfl (ok_bit hq17) ?_
    refine OEnds.adv hm_26 2 (pc' := 58) (L' := [.val (.ref 1), .val (.int v1), .val (.int v2), .val (.long (v3 ||| r12)), .second]) (S' := []) (H' := (c0 :: bk0 o_log o_cur o_prs o_nRows o_nCols o_lights o_logLen o_status o_solSet o_solSize o_solCount po)) rfl ?_
    exact ok_toggleCell_58 h
  · simp only [if_neg hc16] at h
    refine OEnds.ifT hm_26 rfl (q := 58) rfl ((flt hc16).2.2.2) ?_
    show OEnds own_P 26 58 [.val (.ref 1), .val (.int v1), .val (.int v2), .val (.long v3), .second] [] (c0 :: bk0 o_log o_cur o_prs o_nRows o_nCols o_lights o_logLen o_status o_solSet o_solSize o_solCount po) _
    exact ok_toggleCell_58 h
theorem ok_toggleCell_22 {o_log : List Int32} {o_cur : List Int32} {o_prs : List Int32} {o_nRows : Int32} {o_nCols : Int32} {o_logLen : Int32} {o_status : Int32} {o_solSet : Int64} {o_solSize : Int32} {o_solCount : Int32} {c0 : ACell} {po : List ACell} : ∀ {o_lights : Int64} {v1 : Int32} {v2 : Int32} {v3 : Int64} {w_o_lights : Int64}, f_toggleCell_22 o_nRows o_nCols o_lights v1 v2 v3 = some w_o_lights → OEnds own_P 26 22 [.val (.ref 1), .val (.int v1), .val (.int v2), .val (.long v3), .second] [] (c0 :: bk0 o_log o_cur o_prs o_nRows o_nCols o_lights o_logLen o_status o_solSet o_solSize o_solCount po) (none, (c0 :: bk0 o_log o_cur o_prs o_nRows o_nCols w_o_lights o_logLen o_status o_solSet o_solSize o_solCount po), 0, 0) := by
  intro o_lights v1 v2 v3 w_o_lights h
  unfold f_toggleCell_22 at h
  refine OEnds.adv hm_26 5 (pc' := 29) (L' := [.val (.ref 1), .val (.int v1), .val (.int v2), .val (.long v3), .second]) (S' := [.int o_nRows, .int (v1 + (1 : Int32))]) (H' := (c0 :: bk0 o_log o_cur o_prs o_nRows o_nCols o_lights o_logLen o_status o_solSet o_solSize o_solCount po)) rfl ?_
  by_cases hc18 : (v1 + (1 : Int32)) < o_nRows
  · simp only [if_pos hc18] at h
    refine OEnds.icmpF hm_26 rfl ((tlt hc18).2.1) ?_
    refine OEnds.adv hm_26 6 (pc' := 38) (L' := [.val (.ref 1), .val (.int v1), .val (.int v2), .val (.long v3), .second]) (S' := [.int v2, .int (v1 + (1 : Int32)), .ref 1, .long v3]) (H' := (c0 :: bk0 o_log o_cur o_prs o_nRows o_nCols o_lights o_logLen o_status o_solSet o_solSize o_solCount po)) rfl ?_
    obtain ⟨r11, hq19, h⟩ := bnd h
    refine OEnds.call0 hm_26 rfl rfl (by decide) rfl (as := [.ref 1, .int (v1 + (1 : Int32)), .int v2]) (rest := [.long v3]) rfl rfl (ok_bit hq19) ?_
    refine OEnds.adv hm_26 2 (pc' := 43) (L' := [.val (.ref 1), .val (.int v1), .val (.int v2), .val (.long (v3 ||| r11)), .second]) (S' := []) (H' := (c0 :: bk0 o_log o_cur o_prs o_nRows o_nCols o_lights o_logLen o_status o_solSet o_solSize o_solCount po)) rfl ?_
    exact ok_toggleCell_43 h
  · simp only [if_neg hc18] at h
    refine OEnds.icmpT hm_26 rfl (q := 43) rfl ((flt hc18).2.1) ?_
    show OEnds own_P 26 43 [.val (.ref 1), .val (.int v1), .val (.int v2), .val (.long v3), .second] [] (c0 :: bk0 o_log o_cur o_prs o_nRows o_nCols o_lights o_logLen o_status o_solSet o_solSize o_solCount po) _
    exact ok_toggleCell_43 h
theorem ok_toggleCell {o_log : List Int32} {o_cur : List Int32} {o_prs : List Int32} {o_nRows : Int32} {o_nCols : Int32} {o_logLen : Int32} {o_status : Int32} {o_solSet : Int64} {o_solSize : Int32} {o_solCount : Int32} {c0 : ACell} {po : List ACell} {o_lights : Int64} {v1 : Int32} {v2 : Int32} {w_o_lights : Int64} (h : f_toggleCell o_nRows o_nCols o_lights v1 v2 = some w_o_lights) : OEnds own_P 26 0 [.val (.ref 1), .val (.int v1), .val (.int v2), .unset, .unset] [] (c0 :: bk0 o_log o_cur o_prs o_nRows o_nCols o_lights o_logLen o_status o_solSet o_solSize o_solCount po) (none, (c0 :: bk0 o_log o_cur o_prs o_nRows o_nCols w_o_lights o_logLen o_status o_solSet o_solSize o_solCount po), 0, 0) := by
  unfold f_toggleCell at h
  refine OEnds.adv hm_26 3 (pc' := 3) (L' := [.val (.ref 1), .val (.int v1), .val (.int v2), .unset, .unset]) (S' := [.int v2, .int v1, .ref 1]) (H' := (c0 :: bk0 o_log o_cur o_prs o_nRows o_nCols o_lights o_logLen o_status o_solSet o_solSize o_solCount po)) rfl ?_
  obtain ⟨r9, hq20, h⟩ := bnd h
  refine OEnds.call0 hm_26 rfl rfl (by decide) rfl (as := [.ref 1, .int v1, .int v2]) (rest := []) rfl rfl (ok_bit hq20) ?_
  refine OEnds.adv hm_26 2 (pc' := 8) (L' := [.val (.ref 1), .val (.int v1), .val (.int v2), .val (.long r9), .second]) (S' := [.int v1]) (H' := (c0 :: bk0 o_log o_cur o_prs o_nRows o_nCols o_lights o_logLen o_status o_solSet o_solSize o_solCount po)) rfl ?_
  by_cases hc21 : (0 : Int32) < v1
  · simp only [if_pos hc21] at h
    refine OEnds.ifF hm_26 rfl ((tlt hc21).2.2.2) ?_
    refine OEnds.adv hm_26 6 (pc' := 17) (L' := [.val (.ref 1), .val (.int v1), .val (.int v2), .val (.long r9), .second]) (S' := [.int v2, .int (v1 - (1 : Int32)), .ref 1, .long r9]) (H' := (c0 :: bk0 o_log o_cur o_prs o_nRows o_nCols o_lights o_logLen o_status o_solSet o_solSize o_solCount po)) rfl ?_
    obtain ⟨r10, hq22, h⟩ := bnd h
    refine OEnds.call0 hm_26 rfl rfl (by decide) rfl (as := [.ref 1, .int (v1 - (1 : Int32)), .int v2]) (rest := [.long r9]) rfl rfl (ok_bit hq22) ?_
    refine OEnds.adv hm_26 2 (pc' := 22) (L' := [.val (.ref 1), .val (.int v1), .val (.int v2), .val (.long (r9 ||| r10)), .second]) (S' := []) (H' := (c0 :: bk0 o_log o_cur o_prs o_nRows o_nCols o_lights o_logLen o_status o_solSet o_solSize o_solCount po)) rfl ?_
    exact ok_toggleCell_22 h
  · simp only [if_neg hc21] at h
    refine OEnds.ifT hm_26 rfl (q := 22) rfl ((flt hc21).2.2.2) ?_
    show OEnds own_P 26 22 [.val (.ref 1), .val (.int v1), .val (.int v2), .val (.long r9), .second] [] (c0 :: bk0 o_log o_cur o_prs o_nRows o_nCols o_lights o_logLen o_status o_solSet o_solSize o_solCount po) _
    exact ok_toggleCell_22 h
theorem ok_undo {o_log : List Int32} {o_cur : List Int32} {o_prs : List Int32} {o_nRows : Int32} {o_nCols : Int32} {o_status : Int32} {o_solSet : Int64} {o_solSize : Int32} {o_solCount : Int32} {c0 : ACell} {po : List ACell} {o_lights : Int64} {o_logLen : Int32} {res : Int32} {w_o_lights : Int64} {w_o_logLen : Int32} (h : f_undo o_log o_nRows o_nCols o_lights o_logLen = some (res, w_o_lights, w_o_logLen)) : OEnds own_P 4 0 [.val (.ref 1), .unset] [] (c0 :: bk0 o_log o_cur o_prs o_nRows o_nCols o_lights o_logLen o_status o_solSet o_solSize o_solCount po) (some (.int res), (c0 :: bk0 o_log o_cur o_prs o_nRows o_nCols w_o_lights w_o_logLen o_status o_solSet o_solSize o_solCount po), 0, 0) := by
  unfold f_undo at h
  refine OEnds.adv hm_4 2 (pc' := 4) (L' := [.val (.ref 1), .unset]) (S' := [.int o_logLen]) (H' := (c0 :: bk0 o_log o_cur o_prs o_nRows o_nCols o_lights o_logLen o_status o_solSet o_solSize o_solCount po)) rfl ?_
  by_cases hc23 : (0 : Int32) < o_logLen
  · simp only [if_pos hc23] at h
    refine OEnds.ifT hm_4 rfl (q := 9) rfl ((tlt hc23).2.2.1) ?_
    refine OEnds.adv hm_4 10 (pc' := 27) (L' := [.val (.ref 1), .unset]) (S' := [.int (o_logLen - (1 : Int32)), .ref 2]) (H' := (c0 :: bk0 o_log o_cur o_prs o_nRows o_nCols o_lights (o_logLen - (1 : Int32)) o_status o_solSet o_solSize o_solCount po)) rfl ?_
    obtain ⟨x14, hx14, h⟩ := bnd h
    refine OEnds.plain hm_4 rfl rfl (x_iaload rfl hx14) ?_
    refine OEnds.adv hm_4 5 (pc' := 35) (L' := [.val (.ref 1), .val (.int x14)]) (S' := [.int o_nCols, .int x14, .ref 1]) (H' := (c0 :: bk0 o_log o_cur o_prs o_nRows o_nCols o_lights (o_logLen - (1 : Int32)) o_status o_solSet o_solSize o_solCount po)) rfl ?_
    by_cases hz24 : o_nCols = 0
    · simp only [if_pos hz24] at h
      cases h
    simp only [if_neg hz24] at h
    refine OEnds.plain hm_4 rfl rfl (x_idiv hz24) ?_
    refine OEnds.adv hm_4 3 (pc' := 41) (L' := [.val (.ref 1), .val (.int x14)]) (S' := [.int o_nCols, .int x14, .int (x14 / o_nCols), .ref 1]) (H' := (c0 :: bk0 o_log o_cur o_prs o_nRows o_nCols o_lights (o_logLen - (1 : Int32)) o_status o_solSet o_solSize o_solCount po)) rfl ?_
    refine OEnds.plain hm_4 rfl rfl (x_irem hz24) ?_
    show OEnds own_P 4 42 [.val (.ref 1), .val (.int x14)] [.int (x14 % o_nCols), .int (x14 / o_nCols), .ref 1] (c0 :: bk0 o_log o_cur o_prs o_nRows o_nCols o_lights (o_logLen - (1 : Int32)) o_status o_solSet o_solSize o_solCount po) _
    obtain ⟨s15, hq25, h⟩ := bnd h
    refine OEnds.call0 hm_4 rfl rfl (by decide) rfl (as := [.ref 1, .int (x14 / o_nCols), .int (x14 % o_nCols)]) (rest := []) rfl rfl (ok_toggleCell hq25) ?_
    refine OEnds.adv hm_4 1 (pc' := 46) (L' := [.val (.ref 1), .val (.int x14)]) (S' := [.int 1]) (H' := (c0 :: bk0 o_log o_cur o_prs o_nRows o_nCols s15 (o_logLen - (1 : Int32)) o_status o_solSet o_solSize o_solCount po)) rfl ?_
    cases h
    exact OEnds.iret hm_4 rfl rfl
  · simp only [if_neg hc23] at h
    refine OEnds.ifF hm_4 rfl ((flt hc23).2.2.1) ?_
    refine OEnds.adv hm_4 1 (pc' := 8) (L' := [.val (.ref 1), .unset]) (S' := [.int 0]) (H' := (c0 :: bk0 o_log o_cur o_prs o_nRows o_nCols o_lights o_logLen o_status o_solSet o_solSize o_solCount po)) rfl ?_
    cases h
    exact OEnds.iret hm_4 rfl rfl
theorem ok_rowMask {o_log : List Int32} {o_cur : List Int32} {o_prs : List Int32} {o_nRows : Int32} {o_nCols : Int32} {o_lights : Int64} {o_logLen : Int32} {o_status : Int32} {o_solSet : Int64} {o_solSize : Int32} {o_solCount : Int32} {c0 : ACell} {po : List ACell} {res : Int32} (h : f_rowMask o_nCols = some res) : OEnds own_P 17 0 [.val (.ref 1)] [] (c0 :: bk0 o_log o_cur o_prs o_nRows o_nCols o_lights o_logLen o_status o_solSet o_solSize o_solCount po) (some (.int res), (c0 :: bk0 o_log o_cur o_prs o_nRows o_nCols o_lights o_logLen o_status o_solSet o_solSize o_solCount po), 0, 0) := by
  unfold f_rowMask at h
  refine OEnds.adv hm_17 6 (pc' := 8) (L' := [.val (.ref 1)]) (S' := [.int (((1 : Int32) <<< (o_nCols &&& 31)) - (1 : Int32))]) (H' := (c0 :: bk0 o_log o_cur o_prs o_nRows o_nCols o_lights o_logLen o_status o_solSet o_solSize o_solCount po)) rfl ?_
  cases h
  exact OEnds.iret hm_17 rfl rfl
theorem ok_loadRows_8 {o_log : List Int32} {o_prs : List Int32} {o_nRows : Int32} {o_nCols : Int32} {o_lights : Int64} {o_logLen : Int32} {o_status : Int32} {o_solSet : Int64} {o_solSize : Int32} {o_solCount : Int32} {c0 : ACell} {po : List ACell} : ∀ (n : Nat), ∀ {o_cur : List Int32} {v1 : Int64} {v3 : Int32} {w_o_cur : List Int32}, f_loadRows_8 o_nRows o_nCols o_lights n o_cur v1 v3 = some w_o_cur → OEnds own_P 16 8 [.val (.ref 1), .val (.long v1), .second, .val (.int v3)] [] (c0 :: bk0 o_log o_cur o_prs o_nRows o_nCols o_lights o_logLen o_status o_solSet o_solSize o_solCount po) (none, (c0 :: bk0 o_log w_o_cur o_prs o_nRows o_nCols o_lights o_logLen o_status o_solSet o_solSize o_solCount po), 0, 0) := by
  intro n
  induction n with
  | zero => intro o_cur v1 v3 w_o_cur h; cases h
  | succ n ih =>
    intro o_cur v1 v3 w_o_cur h
    unfold f_loadRows_8 at h
    refine OEnds.adv hm_16 3 (pc' := 13) (L' := [.val (.ref 1), .val (.long v1), .second, .val (.int v3)]) (S' := [.int o_nRows, .int v3]) (H' := (c0 :: bk0 o_log o_cur o_prs o_nRows o_nCols o_lights o_logLen o_status o_solSet o_solSize o_solCount po)) rfl ?_
    by_cases hc26 : v3 < o_nRows
    · simp only [if_pos hc26] at h
      refine OEnds.icmpF hm_16 rfl ((tlt hc26).2.1) ?_
      refine OEnds.adv hm_16 13 (pc' := 35) (L' := [.val (.ref 1), .val (.long v1), .second, .val (.int v3)]) (S' := [.int ((XT.ushrL o_lights (v3 * o_nCols)) &&& v1).toInt32, .int v3, .ref 3]) (H' := (c0 :: bk0 o_log o_cur o_prs o_nRows o_nCols o_lights o_logLen o_status o_solSet o_solSize o_solCount po)) rfl ?_
      obtain ⟨A17, hA17, h⟩ := bnd h
      refine OEnds.plain hm_16 rfl rfl (x_iastore rfl (Nat.le_of_ble_eq_true rfl) hA17) ?_
      refine OEnds.adv hm_16 2 (pc' := 8) (L' := [.val (.ref 1), .val (.long v1), .second, .val (.int (v3 + (1 : Int32)))]) (S' := []) (H' := (c0 :: bk0 o_log A17 o_prs o_nRows o_nCols o_lights o_logLen o_status o_solSet o_solSize o_solCount po)) rfl ?_
      exact ih h
    · simp only [if_neg hc26] at h
      refine OEnds.icmpT hm_16 rfl (q := 42) rfl ((flt hc26).2.1) ?_
      show OEnds own_P 16 42 [.val (.ref 1), .val (.long v1), .second, .val (.int v3)] [] (c0 :: bk0 o_log o_cur o_prs o_nRows o_nCols o_lights o_logLen o_status o_solSet o_solSize o_solCount po) _
      cases h
      exact OEnds.vret hm_16 rfl rfl
theorem ok_loadRows {o_log : List Int32} {o_prs : List Int32} {o_nRows : Int32} {o_nCols : Int32} {o_lights : Int64} {o_logLen : Int32} {o_status : Int32} {o_solSet : Int64} {o_solSize : Int32} {o_solCount : Int32} {c0 : ACell} {po : List ACell} {o_cur : List Int32} {w_o_cur : List Int32} (h : f_loadRows o_nRows o_nCols o_lights o_cur = some w_o_cur) : OEnds own_P 16 0 [.val (.ref 1), .unset, .unset, .unset] [] (c0 :: bk0 o_log o_cur o_prs o_nRows o_nCols o_lights o_logLen o_status o_solSet o_solSize o_solCount po) (none, (c0 :: bk0 o_log w_o_cur o_prs o_nRows o_nCols o_lights o_logLen o_status o_solSet o_solSize o_solCount po), 0, 0) := by
  unfold f_loadRows at h
  refine OEnds.adv hm_16 1 (pc' := 1) (L' := [.val (.ref 1), .unset, .unset, .unset]) (S' := [.ref 1]) (H' := (c0 :: bk0 o_log o_cur o_prs o_nRows o_nCols o_lights o_logLen o_status o_solSet o_solSize o_solCount po)) rfl ?_
  obtain ⟨r16, hq27, h⟩ := bnd h
  refine OEnds.call0 hm_16 rfl rfl (by decide) rfl (as := [.ref 1]) (rest := []) rfl rfl (ok_rowMask hq27) ?_
  refine OEnds.adv hm_16 4 (pc' := 8) (L' := [.val (.ref 1), .val (.long r16.toInt64), .second, .val (.int 0)]) (S' := []) (H' := (c0 :: bk0 o_log o_cur o_prs o_nRows o_nCols o_lights o_logLen o_status o_solSet o_solSize o_solCount po)) rfl ?_
  exact ok_loadRows_8 100000 h
theorem ok_applyRowPress_41 {o_log : List Int32} {o_prs : List Int32} {o_nRows : Int32} {o_nCols : Int32} {o_lights : Int64} {o_logLen : Int32} {o_status : Int32} {o_solSet : Int64} {o_solSize : Int32} {o_solCount : Int32} {c0 : ACell} {po : List ACell} : ∀ {o_cur : List Int32} {v1 : Int32} {v2 : Int32} {d3 : Slot} {w_o_cur : List Int32}, f_applyRowPress_41 o_nRows o_nCols o_cur v1 v2 = some w_o_cur → OEnds own_P 18 41 [.val (.ref 1), .val (.int v1), .val (.int v2), d3] [] (c0 :: bk0 o_log o_cur o_prs o_nRows o_nCols o_lights o_logLen o_status o_solSet o_solSize o_solCount po) (none, (c0 :: bk0 o_log w_o_cur o_prs o_nRows o_nCols o_lights o_logLen o_status o_solSet o_solSize o_solCount po), 0, 0) := by
  intro o_cur v1 v2 d3 w_o_cur h
  unfold f_applyRowPress_41 at h
  refine OEnds.adv hm_18 5 (pc' := 48) (L' := [.val (.ref 1), .val (.int v1), .val (.int v2), .unset]) (S' := [.int o_nRows, .int (v1 + (1 : Int32))]) (H' := (c0 :: bk0 o_log o_cur o_prs o_nRows o_nCols o_lights o_logLen o_status o_solSet o_solSize o_solCount po)) rfl ?_
  by_cases hc28 : (v1 + (1 : Int32)) < o_nRows
  · simp only [if_pos hc28] at h
    refine OEnds.icmpF hm_18 rfl ((tlt hc28).2.1) ?_
    refine OEnds.adv hm_18 6 (pc' := 59) (L' := [.val (.ref 1), .val (.int v1), .val (.int v2), .unset]) (S' := [.int (v1 + (1 : Int32)), .ref 3, .int (v1 + (1 : Int32)), .ref 3]) (H' := (c0 :: bk0 o_log o_cur o_prs o_nRows o_nCols o_lights o_logLen o_status o_solSet o_solSize o_solCount po)) rfl ?_
    obtain ⟨x23, hx23, h⟩ := bnd h
    refine OEnds.plain hm_18 rfl rfl (x_iaload rfl hx23) ?_
    refine OEnds.adv hm_18 2 (pc' := 62) (L' := [.val (.ref 1), .val (.int v1), .val (.int v2), .unset]) (S' := [.int (x23 ^^^ v2), .int (v1 + (1 : Int32)), .ref 3]) (H' := (c0 :: bk0 o_log o_cur o_prs o_nRows o_nCols o_lights o_logLen o_status o_solSet o_solSize o_solCount po)) rfl ?_
    obtain ⟨A24, hA24, h⟩ := bnd h
    refine OEnds.plain hm_18 rfl rfl (x_iastore rfl (Nat.le_of_ble_eq_true rfl) hA24) ?_
    show OEnds own_P 18 63 [.val (.ref 1), .val (.int v1), .val (.int v2), .unset] [] (c0 :: bk0 o_log A24 o_prs o_nRows o_nCols o_lights o_logLen o_status o_solSet o_solSize o_solCount po) _
    cases h
    exact OEnds.vret hm_18 rfl rfl
  · simp only [if_neg hc28] at h
    refine OEnds.icmpT hm_18 rfl (q := 63) rfl ((flt hc28).2.1) ?_
    show OEnds own_P 18 63 [.val (.ref 1), .val (.int v1), .val (.int v2), .unset] [] (c0 :: bk0 o_log o_cur o_prs o_nRows o_nCols o_lights o_logLen o_status o_solSet o_solSize o_solCount po) _
    cases h
    exact OEnds.vret hm_18 rfl rfl
theorem ok_applyRowPress {o_log : List Int32} {o_prs : List Int32} {o_nRows : Int32} {o_nCols : Int32} {o_lights : Int64} {o_logLen : Int32} {o_status : Int32} {o_solSet : Int64} {o_solSize : Int32} {o_solCount : Int32} {c0 : ACell} {po : List ACell} {o_cur : List Int32} {v1 : Int32} {v2 : Int32} {w_o_cur : List Int32} (h : f_applyRowPress o_nRows o_nCols o_cur v1 v2 = some w_o_cur) : OEnds own_P 18 0 [.val (.ref 1), .val (.int v1), .val (.int v2), .unset] [] (c0 :: bk0 o_log o_cur o_prs o_nRows o_nCols o_lights o_logLen o_status o_solSet o_solSize o_solCount po) (none, (c0 :: bk0 o_log w_o_cur o_prs o_nRows o_nCols o_lights o_logLen o_status o_solSet o_solSize o_solCount po), 0, 0) := by
  unfold f_applyRowPress at h
  refine OEnds.adv hm_18 1 (pc' := 1) (L' := [.val (.ref 1), .val (.int v1), .val (.int v2), .unset]) (S' := [.ref 1]) (H' := (c0 :: bk0 o_log o_cur o_prs o_nRows o_nCols o_lights o_logLen o_status o_solSet o_solSize o_solCount po)) rfl ?_
  obtain ⟨r18, hq29, h⟩ := bnd h
  refine OEnds.call0 hm_18 rfl rfl (by decide) rfl (as := [.ref 1]) (rest := []) rfl rfl (ok_rowMask hq29) ?_
  refine OEnds.adv hm_18 5 (pc' := 11) (L' := [.val (.ref 1), .val (.int v1), .val (.int v2), .val (.int r18)]) (S' := [.int v1, .ref 3, .int v1, .ref 3]) (H' := (c0 :: bk0 o_log o_cur o_prs o_nRows o_nCols o_lights o_logLen o_status o_solSet o_solSize o_solCount po)) rfl ?_
  obtain ⟨x19, hx19, h⟩ := bnd h
  refine OEnds.plain hm_18 rfl rfl (x_iaload rfl hx19) ?_
  refine OEnds.adv hm_18 12 (pc' := 24) (L' := [.val (.ref 1), .val (.int v1), .val (.int v2), .val (.int r18)]) (S' := [.int (x19 ^^^ (((v2 ^^^ (v2 <<< ((1 : Int32) &&& 31))) ^^^ (XT.ushr v2 (1 : Int32))) &&& r18)), .int v1, .ref 3]) (H' := (c0 :: bk0 o_log o_cur o_prs o_nRows o_nCols o_lights o_logLen o_status o_solSet o_solSize o_solCount po)) rfl ?_
  obtain ⟨A20, hA20, h⟩ := bnd h
  refine OEnds.plain hm_18 rfl rfl (x_iastore rfl (Nat.le_of_ble_eq_true rfl) hA20) ?_
  refine OEnds.adv hm_18 1 (pc' := 26) (L' := [.val (.ref 1), .val (.int v1), .val (.int v2), .val (.int r18)]) (S' := [.int v1]) (H' := (c0 :: bk0 o_log A20 o_prs o_nRows o_nCols o_lights o_logLen o_status o_solSet o_solSize o_solCount po)) rfl ?_
  by_cases hc30 : (0 : Int32) < v1
  · simp only [if_pos hc30] at h
    refine OEnds.ifF hm_18 rfl ((tlt hc30).2.2.2) ?_
    refine OEnds.adv hm_18 6 (pc' := 37) (L' := [.val (.ref 1), .val (.int v1), .val (.int v2), .val (.int r18)]) (S' := [.int (v1 - (1 : Int32)), .ref 3, .int (v1 - (1 : Int32)), .ref 3]) (H' := (c0 :: bk0 o_log A20 o_prs o_nRows o_nCols o_lights o_logLen o_status o_solSet o_solSize o_solCount po)) rfl ?_
    obtain ⟨x21, hx21, h⟩ := bnd h
    refine OEnds.plain hm_18 rfl rfl (x_iaload rfl hx21) ?_
    refine OEnds.adv hm_18 2 (pc' := 40) (L' := [.val (.ref 1), .val (.int v1), .val (.int v2), .val (.int r18)]) (S' := [.int (x21 ^^^ v2), .int (v1 - (1 : Int32)), .ref 3]) (H' := (c0 :: bk0 o_log A20 o_prs o_nRows o_nCols o_lights o_logLen o_status o_solSet o_solSize o_solCount po)) rfl ?_
    obtain ⟨A22, hA22, h⟩ := bnd h
    refine OEnds.plain hm_18 rfl rfl (x_iastore rfl (Nat.le_of_ble_eq_true rfl) hA22) ?_
    show OEnds own_P 18 41 [.val (.ref 1), .val (.int v1), .val (.int v2), .val (.int r18)] [] (c0 :: bk0 o_log A22 o_prs o_nRows o_nCols o_lights o_logLen o_status o_solSet o_solSize o_solCount po) _
    exact ok_applyRowPress_41 h
  · simp only [if_neg hc30] at h
    refine OEnds.ifT hm_18 rfl (q := 41) rfl ((flt hc30).2.2.2) ?_
    show OEnds own_P 18 41 [.val (.ref 1), .val (.int v1), .val (.int v2), .val (.int r18)] [] (c0 :: bk0 o_log A20 o_prs o_nRows o_nCols o_lights o_logLen o_status o_solSet o_solSize o_solCount po) _
    exact ok_applyRowPress_41 h
theorem ok_chase_42 {o_log : List Int32} {o_nRows : Int32} {o_nCols : Int32} {o_lights : Int64} {o_logLen : Int32} {o_status : Int32} {o_solSet : Int64} {o_solSize : Int32} {o_solCount : Int32} {c0 : ACell} {po : List ACell} : ∀ {o_cur : List Int32} {o_prs : List Int32} {d1 d2 d3 : Slot} {res : Int32} {w_o_cur : List Int32} {w_o_prs : List Int32}, f_chase_42 o_nRows o_nCols o_lights o_cur o_prs = some (res, w_o_cur, w_o_prs) → OEnds own_P 15 42 [.val (.ref 1), d1, d2, d3] [] (c0 :: bk0 o_log o_cur o_prs o_nRows o_nCols o_lights o_logLen o_status o_solSet o_solSize o_solCount po) (some (.int res), (c0 :: bk0 o_log w_o_cur w_o_prs o_nRows o_nCols o_lights o_logLen o_status o_solSet o_solSize o_solCount po), 0, 0) := by
  intro o_cur o_prs d1 d2 d3 res w_o_cur w_o_prs h
  unfold f_chase_42 at h
  refine OEnds.adv hm_15 6 (pc' := 52) (L' := [.val (.ref 1), .unset, .unset, .unset]) (S' := [.int (o_nRows - (1 : Int32)), .ref 3]) (H' := (c0 :: bk0 o_log o_cur o_prs o_nRows o_nCols o_lights o_logLen o_status o_solSet o_solSize o_solCount po)) rfl ?_
  obtain ⟨x29, hx29, h⟩ := bnd h
  refine OEnds.plain hm_15 rfl rfl (x_iaload rfl hx29) ?_
  show OEnds own_P 15 53 [.val (.ref 1), .unset, .unset, .unset] [.int x29] (c0 :: bk0 o_log o_cur o_prs o_nRows o_nCols o_lights o_logLen o_status o_solSet o_solSize o_solCount po) _
  by_cases hc31 : x29 = (0 : Int32)
  · simp only [if_pos hc31] at h
    refine OEnds.ifF hm_15 rfl ((teq hc31).2) ?_
    refine OEnds.adv hm_15 2 (pc' := 61) (L' := [.val (.ref 1), .unset, .unset, .unset]) (S' := [.int 1]) (H' := (c0 :: bk0 o_log o_cur o_prs o_nRows o_nCols o_lights o_logLen o_status o_solSet o_solSize o_solCount po)) rfl ?_
    cases h
    exact OEnds.iret hm_15 rfl rfl
  · simp only [if_neg hc31] at h
    refine OEnds.ifT hm_15 rfl (q := 60) rfl ((feq hc31).2) ?_
    refine OEnds.adv hm_15 1 (pc' := 61) (L' := [.val (.ref 1), .unset, .unset, .unset]) (S' := [.int 0]) (H' := (c0 :: bk0 o_log o_cur o_prs o_nRows o_nCols o_lights o_logLen o_status o_solSet o_solSize o_solCount po)) rfl ?_
    cases h
    exact OEnds.iret hm_15 rfl rfl
theorem ok_chase_8 {o_log : List Int32} {o_nRows : Int32} {o_nCols : Int32} {o_lights : Int64} {o_logLen : Int32} {o_status : Int32} {o_solSet : Int64} {o_solSize : Int32} {o_solCount : Int32} {c0 : ACell} {po : List ACell} {k42 : List Int32 → List Int32 → Option (Int32 × List Int32 × List Int32)} (hk42 : ∀ {o_cur : List Int32} {o_prs : List Int32} {d1 d2 d3 : Slot} {res : Int32} {w_o_cur : List Int32} {w_o_prs : List Int32}, k42 o_cur o_prs = some (res, w_o_cur, w_o_prs) → OEnds own_P 15 42 [.val (.ref 1), d1, d2, d3] [] (c0 :: bk0 o_log o_cur o_prs o_nRows o_nCols o_lights o_logLen o_status o_solSet o_solSize o_solCount po) (some (.int res), (c0 :: bk0 o_log w_o_cur w_o_prs o_nRows o_nCols o_lights o_logLen o_status o_solSet o_solSize o_solCount po), 0, 0)) : ∀ (n : Nat), ∀ {o_cur : List Int32} {o_prs : List Int32} {v2 : Int32} {v3 : Int32} {d1 : Slot} {res : Int32} {w_o_cur : List Int32} {w_o_prs : List Int32}, f_chase_8 k42 o_nRows o_nCols o_lights n o_cur o_prs v2 v3 = some (res, w_o_cur, w_o_prs) → OEnds own_P 15 8 [.val (.ref 1), d1, .val (.int v2), .val (.int v3)] [] (c0 :: bk0 o_log o_cur o_prs o_nRows o_nCols o_lights o_logLen o_status o_solSet o_solSize o_solCount po) (some (.int res), (c0 :: bk0 o_log w_o_cur w_o_prs o_nRows o_nCols o_lights o_logLen o_status o_solSet o_solSize o_solCount po), 0, 0) := by
  intro n
  induction n with
  | zero => intro o_cur o_prs v2 v3 d1 res w_o_cur w_o_prs h; cases h
  | succ n ih =>
    intro o_cur o_prs v2 v3 d1 res w_o_cur w_o_prs h
    unfold f_chase_8 at h
    refine OEnds.adv hm_15 3 (pc' := 13) (L' := [.val (.ref 1), .unset, .val (.int v2), .val (.int v3)]) (S' := [.int o_nRows, .int v3]) (H' := (c0 :: bk0 o_log o_cur o_prs o_nRows o_nCols o_lights o_logLen o_status o_solSet o_solSize o_solCount po)) rfl ?_
    by_cases hc32 : v3 < o_nRows
    · simp only [if_pos hc32] at h
      refine OEnds.icmpF hm_15 rfl ((tlt hc32).2.1) ?_
      refine OEnds.adv hm_15 4 (pc' := 22) (L' := [.val (.ref 1), .unset, .val (.int v2), .val (.int v3)]) (S' := [.int v2, .int v3, .ref 4]) (H' := (c0 :: bk0 o_log o_cur o_prs o_nRows o_nCols o_lights o_logLen o_status o_solSet o_solSize o_solCount po)) rfl ?_
      obtain ⟨A26, hA26, h⟩ := bnd h
      refine OEnds.plain hm_15 rfl rfl (x_iastore rfl (Nat.le_of_ble_eq_true rfl) hA26) ?_
      refine OEnds.adv hm_15 3 (pc' := 26) (L' := [.val (.ref 1), .unset, .val (.int v2), .val (.int v3)]) (S' := [.int v2, .int v3, .ref 1]) (H' := (c0 :: bk0 o_log o_cur A26 o_nRows o_nCols o_lights o_logLen o_status o_solSet o_solSize o_solCount po)) rfl ?_
      obtain ⟨s27, hq33, h⟩ := bnd h
      refine OEnds.call0 hm_15 rfl rfl (by decide) rfl (as := [.ref 1, .int v3, .int v2]) (rest := []) rfl rfl (ok_applyRowPress hq33) ?_
      refine OEnds.adv hm_15 3 (pc' := 34) (L' := [.val (.ref 1), .unset, .val (.int v2), .val (.int v3)]) (S' := [.int v3, .ref 3]) (H' := (c0 :: bk0 o_log s27 A26 o_nRows o_nCols o_lights o_logLen o_status o_solSet o_solSize o_solCount po)) rfl ?_
      obtain ⟨x28, hx28, h⟩ := bnd h
      refine OEnds.plain hm_15 rfl rfl (x_iaload rfl hx28) ?_
      refine OEnds.adv hm_15 3 (pc' := 8) (L' := [.val (.ref 1), .unset, .val (.int x28), .val (.int (v3 + (1 : Int32)))]) (S' := []) (H' := (c0 :: bk0 o_log s27 A26 o_nRows o_nCols o_lights o_logLen o_status o_solSet o_solSize o_solCount po)) rfl ?_
      exact ih h
    · simp only [if_neg hc32] at h
      refine OEnds.icmpT hm_15 rfl (q := 42) rfl ((flt hc32).2.1) ?_
      show OEnds own_P 15 42 [.val (.ref 1), .unset, .val (.int v2), .val (.int v3)] [] (c0 :: bk0 o_log o_cur o_prs o_nRows o_nCols o_lights o_logLen o_status o_solSet o_solSize o_solCount po) _
      exact hk42 h
theorem ok_chase {o_log : List Int32} {o_nRows : Int32} {o_nCols : Int32} {o_lights : Int64} {o_logLen : Int32} {o_status : Int32} {o_solSet : Int64} {o_solSize : Int32} {o_solCount : Int32} {c0 : ACell} {po : List ACell} {o_cur : List Int32} {o_prs : List Int32} {v1 : Int32} {res : Int32} {w_o_cur : List Int32} {w_o_prs : List Int32} (h : f_chase o_nRows o_nCols o_lights o_cur o_prs v1 = some (res, w_o_cur, w_o_prs)) : OEnds own_P 15 0 [.val (.ref 1), .val (.int v1), .unset, .unset] [] (c0 :: bk0 o_log o_cur o_prs o_nRows o_nCols o_lights o_logLen o_status o_solSet o_solSize o_solCount po) (some (.int res), (c0 :: bk0 o_log w_o_cur w_o_prs o_nRows o_nCols o_lights o_logLen o_status o_solSet o_solSize o_solCount po), 0, 0) := by
  unfold f_chase at h
  refine OEnds.adv hm_15 1 (pc' := 1) (L' := [.val (.ref 1), .val (.int v1), .unset, .unset]) (S' := [.ref 1]) (H' := (c0 :: bk0 o_log o_cur o_prs o_nRows o_nCols o_lights o_logLen o_status o_solSet o_solSize o_solCount po)) rfl ?_
  obtain ⟨s25, hq34, h⟩ := bnd h
  refine OEnds.call0 hm_15 rfl rfl (by decide) rfl (as := [.ref 1]) (rest := []) rfl rfl (ok_loadRows hq34) ?_
  refine OEnds.adv hm_15 4 (pc' := 8) (L' := [.val (.ref 1), .val (.int v1), .val (.int v1), .val (.int 0)]) (S' := []) (H' := (c0 :: bk0 o_log s25 o_prs o_nRows o_nCols o_lights o_logLen o_status o_solSet o_solSize o_solCount po)) rfl ?_
  exact ok_chase_8 (k42 := f_chase_42 o_nRows o_nCols o_lights) ok_chase_42 100000 h
theorem ok_packPresses_4 {o_log : List Int32} {o_cur : List Int32} {o_prs : List Int32} {o_nRows : Int32} {o_nCols : Int32} {o_lights : Int64} {o_logLen : Int32} {o_status : Int32} {o_solSet : Int64} {o_solSize : Int32} {o_solCount : Int32} {c0 : ACell} {po : List ACell} : ∀ (n : Nat), ∀ {v1 : Int64} {v3 : Int32} {res : Int64}, f_packPresses_4 o_prs o_nRows o_nCols n v1 v3 = some res → OEnds own_P 19 4 [.val (.ref 1), .val (.long v1), .second, .val (.int v3)] [] (c0 :: bk0 o_log o_cur o_prs o_nRows o_nCols o_lights o_logLen o_status o_solSet o_solSize o_solCount po) (some (.long res), (c0 :: bk0 o_log o_cur o_prs o_nRows o_nCols o_lights o_logLen o_status o_solSet o_solSize o_solCount po), 0, 0) := by
  intro n
  induction n with
  | zero => intro v1 v3 res h; cases h
  | succ n ih =>
    intro v1 v3 res h
    unfold f_packPresses_4 at h
    refine OEnds.adv hm_19 3 (pc' := 9) (L' := [.val (.ref 1), .val (.long v1), .second, .val (.int v3)]) (S' := [.int o_nRows, .int v3]) (H' := (c0 :: bk0 o_log o_cur o_prs o_nRows o_nCols o_lights o_logLen o_status o_solSet o_solSize o_solCount po)) rfl ?_
    by_cases hc35 : v3 < o_nRows
    · simp only [if_pos hc35] at h
      refine OEnds.icmpF hm_19 rfl ((tlt hc35).2.1) ?_
      refine OEnds.adv hm_19 4 (pc' := 18) (L' := [.val (.ref 1), .val (.long v1), .second, .val (.int v3)]) (S' := [.int v3, .ref 4, .long v1]) (H' := (c0 :: bk0 o_log o_cur o_prs o_nRows o_nCols o_lights o_logLen o_status o_solSet o_solSize o_solCount po)) rfl ?_
      obtain ⟨x30, hx30, h⟩ := bnd h
      refine OEnds.plain hm_19 rfl rfl (x_iaload rfl hx30) ?_
      refine OEnds.adv hm_19 10 (pc' := 4) (L' := [.val (.ref 1), .val (.long (v1 ||| (x30.toInt64 <<< ((v3 * o_nCols).toInt64 &&& 63)))), .second, .val (.int (v3 + (1 : Int32)))]) (S' := []) (H' := (c0 :: bk0 o_log o_cur o_prs o_nRows o_nCols o_lights o_logLen o_status o_solSet o_solSize o_solCount po)) rfl ?_
      exact ih h
    · simp only [if_neg hc35] at h
      refine OEnds.icmpT hm_19 rfl (q := 35) rfl ((flt hc35).2.1) ?_
      refine OEnds.adv hm_19 1 (pc' := 36) (L' := [.val (.ref 1), .val (.long v1), .second, .val (.int v3)]) (S' := [.long v1]) (H' := (c0 :: bk0 o_log o_cur o_prs o_nRows o_nCols o_lights o_logLen o_status o_solSet o_solSize o_solCount po)) rfl ?_
      cases h
      exact OEnds.lret hm_19 rfl rfl
theorem ok_packPresses {o_log : List Int32} {o_cur : List Int32} {o_prs : List Int32} {o_nRows : Int32} {o_nCols : Int32} {o_lights : Int64} {o_logLen : Int32} {o_status : Int32} {o_solSet : Int64} {o_solSize : Int32} {o_solCount : Int32} {c0 : ACell} {po : List ACell} {res : Int64} (h : f_packPresses o_prs o_nRows o_nCols = some res) : OEnds own_P 19 0 [.val (.ref 1), .unset, .unset, .unset] [] (c0 :: bk0 o_log o_cur o_prs o_nRows o_nCols o_lights o_logLen o_status o_solSet o_solSize o_solCount po) (some (.long res), (c0 :: bk0 o_log o_cur o_prs o_nRows o_nCols o_lights o_logLen o_status o_solSet o_solSize o_solCount po), 0, 0) := by
  unfold f_packPresses at h
  refine OEnds.adv hm_19 4 (pc' := 4) (L' := [.val (.ref 1), .val (.long 0), .second, .val (.int 0)]) (S' := []) (H' := (c0 :: bk0 o_log o_cur o_prs o_nRows o_nCols o_lights o_logLen o_status o_solSet o_solSize o_solCount po)) rfl ?_
  exact ok_packPresses_4 100000 h
theorem ok_popCount_7 {c0 : ACell} {po : List ACell} : ∀ (n : Nat), ∀ {v2 : Int32} {v3 : Int64} {v5 : Int32} {d0 d1 : Slot} {res : Int32}, f_popCount_7 n v2 v3 v5 = some res → OEnds own_P 20 7 [d0, d1, .val (.int v2), .val (.long v3), .second, .val (.int v5)] [] (c0 :: po) (some (.int res), (c0 :: po), 0, 0) := by
  intro n
  induction n with
  | zero => intro v2 v3 v5 d0 d1 res h; cases h
  | succ n ih =>
    intro v2 v3 v5 d0 d1 res h
    unfold f_popCount_7 at h
    refine OEnds.adv hm_20 2 (pc' := 11) (L' := [.unset, .unset, .val (.int v2), .val (.long v3), .second, .val (.int v5)]) (S' := [.int 64, .int v5]) (H' := (c0 :: po)) rfl ?_
    by_cases hc36 : v5 < (64 : Int32)
    · simp only [if_pos hc36] at h
      refine OEnds.icmpF hm_20 rfl ((tlt hc36).2.1) ?_
      refine OEnds.adv hm_20 3 (pc' := 17) (L' := [.unset, .unset, .val (.int v2), .val (.long v3), .second, .val (.int v5)]) (S' := [.int (XT.cmpL v3 (0 : Int64))]) (H' := (c0 :: po)) rfl ?_
      by_cases hc37 : v3 = (0 : Int64)
      · simp only [if_pos hc37] at h
        refine OEnds.ifT hm_20 rfl (q := 35) rfl ((teq (c_eq.mpr hc37)).1) ?_
        refine OEnds.adv hm_20 1 (pc' := 36) (L' := [.unset, .unset, .val (.int v2), .val (.long v3), .second, .val (.int v5)]) (S' := [.int v2]) (H' := (c0 :: po)) rfl ?_
        cases h
        exact OEnds.iret hm_20 rfl rfl
      · simp only [if_neg hc37] at h
        refine OEnds.ifF hm_20 rfl ((feq (mt c_eq.mp hc37)).1) ?_
        refine OEnds.adv hm_20 9 (pc' := 7) (L' := [.unset, .unset, .val (.int (v2 + (1 : Int32))), .val (.long (v3 &&& (v3 - (1 : Int64)))), .second, .val (.int (v5 + (1 : Int32)))]) (S' := []) (H' := (c0 :: po)) rfl ?_
        exact ih h
    · simp only [if_neg hc36] at h
      refine OEnds.icmpT hm_20 rfl (q := 35) rfl ((flt hc36).2.1) ?_
      refine OEnds.adv hm_20 1 (pc' := 36) (L' := [.unset, .unset, .val (.int v2), .val (.long v3), .second, .val (.int v5)]) (S' := [.int v2]) (H' := (c0 :: po)) rfl ?_
      cases h
      exact OEnds.iret hm_20 rfl rfl
theorem ok_popCount {c0 : ACell} {po : List ACell} {v0 : Int64} {res : Int32} (h : f_popCount v0 = some res) : OEnds own_P 20 0 [.val (.long v0), .second, .unset, .unset, .unset, .unset] [] (c0 :: po) (some (.int res), (c0 :: po), 0, 0) := by
  unfold f_popCount at h
  refine OEnds.adv hm_20 6 (pc' := 7) (L' := [.val (.long v0), .second, .val (.int 0), .val (.long v0), .second, .val (.int 0)]) (S' := []) (H' := (c0 :: po)) rfl ?_
  exact ok_popCount_7 100000 h
theorem ok_unsignedLess {c0 : ACell} {po : List ACell} {v0 : Int64} {v2 : Int64} {res : Int32} (h : f_unsignedLess v0 v2 = some res) : OEnds own_P 25 0 [.val (.long v0), .second, .val (.long v2), .second] [] (c0 :: po) (some (.int res), (c0 :: po), 0, 0) := by
  unfold f_unsignedLess at h
  refine OEnds.adv hm_25 7 (pc' := 11) (L' := [.val (.long v0), .second, .val (.long v2), .second]) (S' := [.int (XT.cmpL (v0 ^^^ (-9223372036854775808 : Int64)) (v2 ^^^ (-9223372036854775808 : Int64)))]) (H' := (c0 :: po)) rfl ?_
  by_cases hc38 : (v0 ^^^ (-9223372036854775808 : Int64)) < (v2 ^^^ (-9223372036854775808 : Int64))
  · simp only [if_pos hc38] at h
    refine OEnds.ifF hm_25 rfl ((tlt (c_lt.mpr hc38)).2.1) ?_
    refine OEnds.adv hm_25 2 (pc' := 19) (L' := [.val (.long v0), .second, .val (.long v2), .second]) (S' := [.int 1]) (H' := (c0 :: po)) rfl ?_
    cases h
    exact OEnds.iret hm_25 rfl rfl
  · simp only [if_neg hc38] at h
    refine OEnds.ifT hm_25 rfl (q := 18) rfl ((flt (mt c_lt.mp hc38)).2.1) ?_
    refine OEnds.adv hm_25 1 (pc' := 19) (L' := [.val (.long v0), .second, .val (.long v2), .second]) (S' := [.int 0]) (H' := (c0 :: po)) rfl ?_
    cases h
    exact OEnds.iret hm_25 rfl rfl
theorem ok_solve_86 {o_log : List Int32} {o_nRows : Int32} {o_nCols : Int32} {o_lights : Int64} {o_logLen : Int32} {c0 : ACell} {po : List ACell} : ∀ {o_cur : List Int32} {o_prs : List Int32} {o_status : Int32} {o_solSet : Int64} {o_solSize : Int32} {o_solCount : Int32} {v1 : Int32} {v2 : Int32} {v3 : Int64} {d5 d6 d7 d8 d9 : Slot} {res : Int32} {w_o_cur : List Int32} {w_o_prs : List Int32} {w_o_status : Int32} {w_o_solSet : Int64} {w_o_solSize : Int32} {w_o_solCount : Int32}, f_solve_86 o_nRows o_nCols o_lights o_cur o_prs o_status o_solSet o_solSize o_solCount v1 v2 v3 = some (res, w_o_cur, w_o_prs, w_o_status, w_o_solSet, w_o_solSize, w_o_solCount) → OEnds own_P 14 86 [.val (.ref 1), .val (.int v1), .val (.int v2), .val (.long v3), .second, d5, d6, d7, d8, d9] [] (c0 :: bk0 o_log o_cur o_prs o_nRows o_nCols o_lights o_logLen o_status o_solSet o_solSize o_solCount po) (some (.int res), (c0 :: bk0 o_log w_o_cur w_o_prs o_nRows o_nCols o_lights o_logLen w_o_status w_o_solSet w_o_solSize w_o_solCount po), 0, 0) := by
  intro o_cur o_prs o_status o_solSet o_solSize o_solCount v1 v2 v3 d5 d6 d7 d8 d9 res w_o_cur w_o_prs w_o_status w_o_solSet w_o_solSize w_o_solCount h
  unfold f_solve_86 at h
  refine OEnds.adv hm_14 1 (pc' := 87) (L' := [.val (.ref 1), .val (.int v1), .val (.int v2), .val (.long v3), .second, .unset, .unset, .unset, .unset, .unset]) (S' := [.int v1]) (H' := (c0 :: bk0 o_log o_cur o_prs o_nRows o_nCols o_lights o_logLen o_status o_solSet o_solSize o_solCount po)) rfl ?_
  by_cases hc39 : v1 = (0 : Int32)
  · simp only [if_pos hc39] at h
    refine OEnds.ifF hm_14 rfl ((teq hc39).2) ?_
    refine OEnds.adv hm_14 15 (pc' := 137) (L' := [.val (.ref 1), .val (.int v1), .val (.int v2), .val (.long v3), .second, .unset, .unset, .unset, .unset, .unset]) (S' := [.int 2]) (H' := (c0 :: bk0 o_log o_cur o_prs o_nRows o_nCols o_lights o_logLen 2 0 0 0 po)) rfl ?_
    cases h
    exact OEnds.iret hm_14 rfl rfl
  · simp only [if_neg hc39] at h
    refine OEnds.ifT hm_14 rfl (q := 113) rfl ((feq hc39).2) ?_
    refine OEnds.adv hm_14 14 (pc' := 137) (L' := [.val (.ref 1), .val (.int v1), .val (.int v2), .val (.long v3), .second, .unset, .unset, .unset, .unset, .unset]) (S' := [.int 1]) (H' := (c0 :: bk0 o_log o_cur o_prs o_nRows o_nCols o_lights o_logLen 1 v3 v2 v1 po)) rfl ?_
    cases h
    exact OEnds.iret hm_14 rfl rfl
theorem ok_solve_18 {o_log : List Int32} {o_nRows : Int32} {o_nCols : Int32} {o_lights : Int64} {o_logLen : Int32} {c0 : ACell} {po : List ACell} {k86 : List Int32 → List Int32 → Int32 → Int64 → Int32 → Int32 → Int32 → Int32 → Int64 → Option (Int32 × List Int32 × List Int32 × Int32 × Int64 × Int32 × Int32)} (hk86 : ∀ {o_cur : List Int32} {o_prs : List Int32} {o_status : Int32} {o_solSet : Int64} {o_solSize : Int32} {o_solCount : Int32} {v1 : Int32} {v2 : Int32} {v3 : Int64} {d5 d6 d7 d8 d9 : Slot} {res : Int32} {w_o_cur : List Int32} {w_o_prs : List Int32} {w_o_status : Int32} {w_o_solSet : Int64} {w_o_solSize : Int32} {w_o_solCount : Int32}, k86 o_cur o_prs o_status o_solSet o_solSize o_solCount v1 v2 v3 = some (res, w_o_cur, w_o_prs, w_o_status, w_o_solSet, w_o_solSize, w_o_solCount) → OEnds own_P 14 86 [.val (.ref 1), .val (.int v1), .val (.int v2), .val (.long v3), .second, d5, d6, d7, d8, d9] [] (c0 :: bk0 o_log o_cur o_prs o_nRows o_nCols o_lights o_logLen o_status o_solSet o_solSize o_solCount po) (some (.int res), (c0 :: bk0 o_log w_o_cur w_o_prs o_nRows o_nCols o_lights o_logLen w_o_status w_o_solSet w_o_solSize w_o_solCount po), 0, 0)) : ∀ (n : Nat), ∀ {o_cur : List Int32} {o_prs : List Int32} {o_status : Int32} {o_solSet : Int64} {o_solSize : Int32} {o_solCount : Int32} {v1 : Int32} {v2 : Int32} {v3 : Int64} {v5 : Int32} {v6 : Int32} {d7 d8 d9 : Slot} {res : Int32} {w_o_cur : List Int32} {w_o_prs : List Int32} {w_o_status : Int32} {w_o_solSet : Int64} {w_o_solSize : Int32} {w_o_solCount : Int32}, f_solve_18 k86 o_nRows o_nCols o_lights n o_cur o_prs o_status o_solSet o_solSize o_solCount v1 v2 v3 v5 v6 = some (res, w_o_cur, w_o_prs, w_o_status, w_o_solSet, w_o_solSize, w_o_solCount) → OEnds own_P 14 18 [.val (.ref 1), .val (.int v1), .val (.int v2), .val (.long v3), .second, .val (.int v5), .val (.int v6), d7, d8, d9] [] (c0 :: bk0 o_log o_cur o_prs o_nRows o_nCols o_lights o_logLen o_status o_solSet o_solSize o_solCount po) (some (.int res), (c0 :: bk0 o_log w_o_cur w_o_prs o_nRows o_nCols o_lights o_logLen w_o_status w_o_solSet w_o_solSize w_o_solCount po), 0, 0) := by
  intro n
  induction n with
  | zero => intro o_cur o_prs o_status o_solSet o_solSize o_solCount v1 v2 v3 v5 v6 d7 d8 d9 res w_o_cur w_o_prs w_o_status w_o_solSet w_o_solSize w_o_solCount h; cases h
  | succ n ih =>
    intro o_cur o_prs o_status o_solSet o_solSize o_solCount v1 v2 v3 v5 v6 d7 d8 d9 res w_o_cur w_o_prs w_o_status w_o_solSet w_o_solSize w_o_solCount h
    unfold f_solve_18 at h
    refine OEnds.adv hm_14 2 (pc' := 22) (L' := [.val (.ref 1), .val (.int v1), .val (.int v2), .val (.long v3), .second, .val (.int v5), .val (.int v6), .unset, .unset, .unset]) (S' := [.int v5, .int v6]) (H' := (c0 :: bk0 o_log o_cur o_prs o_nRows o_nCols o_lights o_logLen o_status o_solSet o_solSize o_solCount po)) rfl ?_
    by_cases hc40 : v6 < v5
    · simp only [if_pos hc40] at h
      refine OEnds.icmpF hm_14 rfl ((tlt hc40).2.1) ?_
      refine OEnds.adv hm_14 2 (pc' := 28) (L' := [.val (.ref 1), .val (.int v1), .val (.int v2), .val (.long v3), .second, .val (.int v5), .val (.int v6), .unset, .unset, .unset]) (S' := [.int v6, .ref 1]) (H' := (c0 :: bk0 o_log o_cur o_prs o_nRows o_nCols o_lights o_logLen o_status o_solSet o_solSize o_solCount po)) rfl ?_
      obtain ⟨⟨r31, s32, s33⟩, hq41, h⟩ := bnd h
      refine OEnds.call0 hm_14 rfl rfl (by decide) rfl (as := [.ref 1, .int v6]) (rest := []) rfl rfl (ok_chase hq41) ?_
      show OEnds own_P 14 31 [.val (.ref 1), .val (.int v1), .val (.int v2), .val (.long v3), .second, .val (.int v5), .val (.int v6), .unset, .unset, .unset] [.int r31] (c0 :: bk0 o_log s32 s33 o_nRows o_nCols o_lights o_logLen o_status o_solSet o_solSize o_solCount po) _
      by_cases hc42 : r31 = (0 : Int32)
      · simp only [if_pos hc42] at h
        refine OEnds.ifF hm_14 rfl ((teq hc42).2) ?_
        refine OEnds.adv hm_14 3 (pc' := 18) (L' := [.val (.ref 1), .val (.int v1), .val (.int v2), .val (.long v3), .second, .val (.int v5), .val (.int (v6 + (1 : Int32))), .unset, .unset, .unset]) (S' := []) (H' := (c0 :: bk0 o_log s32 s33 o_nRows o_nCols o_lights o_logLen o_status o_solSet o_solSize o_solCount po)) rfl ?_
        exact ih h
      · simp only [if_neg hc42] at h
        refine OEnds.ifT hm_14 rfl (q := 37) rfl ((feq hc42).2) ?_
        refine OEnds.adv hm_14 2 (pc' := 41) (L' := [.val (.ref 1), .val (.int (v1 + (1 : Int32))), .val (.int v2), .val (.long v3), .second, .val (.int v5), .val (.int v6), .unset, .unset, .unset]) (S' := [.ref 1]) (H' := (c0 :: bk0 o_log s32 s33 o_nRows o_nCols o_lights o_logLen o_status o_solSet o_solSize o_solCount po)) rfl ?_
        obtain ⟨r34, hq43, h⟩ := bnd h
        refine OEnds.call0 hm_14 rfl rfl (by decide) rfl (as := [.ref 1]) (rest := []) rfl rfl (ok_packPresses hq43) ?_
        refine OEnds.adv hm_14 2 (pc' := 48) (L' := [.val (.ref 1), .val (.int (v1 + (1 : Int32))), .val (.int v2), .val (.long v3), .second, .val (.int v5), .val (.int v6), .val (.long r34), .second, .unset]) (S' := [.long r34]) (H' := (c0 :: bk0 o_log s32 s33 o_nRows o_nCols o_lights o_logLen o_status o_solSet o_solSize o_solCount po)) rfl ?_
        obtain ⟨r35, hq44, h⟩ := bnd h
        refine OEnds.call0 hm_14 rfl rfl (by decide) rfl (as := [.long r34]) (rest := []) rfl rfl (ok_popCount hq44) ?_
        refine OEnds.adv hm_14 3 (pc' := 56) (L' := [.val (.ref 1), .val (.int (v1 + (1 : Int32))), .val (.int v2), .val (.long v3), .second, .val (.int v5), .val (.int v6), .val (.long r34), .second, .val (.int r35)]) (S' := [.int v2, .int r35]) (H' := (c0 :: bk0 o_log s32 s33 o_nRows o_nCols o_lights o_logLen o_status o_solSet o_solSize o_solCount po)) rfl ?_
        by_cases hc45 : r35 < v2
        · simp only [if_pos hc45] at h
          refine OEnds.icmpT hm_14 rfl (q := 74) rfl ((tlt hc45).1) ?_
          refine OEnds.adv hm_14 6 (pc' := 18) (L' := [.val (.ref 1), .val (.int (v1 + (1 : Int32))), .val (.int r35), .val (.long r34), .second, .val (.int v5), .val (.int (v6 + (1 : Int32))), .val (.long r34), .second, .val (.int r35)]) (S' := []) (H' := (c0 :: bk0 o_log s32 s33 o_nRows o_nCols o_lights o_logLen o_status o_solSet o_solSize o_solCount po)) rfl ?_
          exact ih h
        · simp only [if_neg hc45] at h
          refine OEnds.icmpF hm_14 rfl ((flt hc45).1) ?_
          refine OEnds.adv hm_14 2 (pc' := 62) (L' := [.val (.ref 1), .val (.int (v1 + (1 : Int32))), .val (.int v2), .val (.long v3), .second, .val (.int v5), .val (.int v6), .val (.long r34), .second, .val (.int r35)]) (S' := [.int v2, .int r35]) (H' := (c0 :: bk0 o_log s32 s33 o_nRows o_nCols o_lights o_logLen o_status o_solSet o_solSize o_solCount po)) rfl ?_
          by_cases hc46 : r35 = v2
          · simp only [if_pos hc46] at h
            refine OEnds.icmpF hm_14 rfl ((teq hc46).2) ?_
            refine OEnds.adv hm_14 2 (pc' := 68) (L' := [.val (.ref 1), .val (.int (v1 + (1 : Int32))), .val (.int v2), .val (.long v3), .second, .val (.int v5), .val (.int v6), .val (.long r34), .second, .val (.int r35)]) (S' := [.long v3, .long r34]) (H' := (c0 :: bk0 o_log s32 s33 o_nRows o_nCols o_lights o_logLen o_status o_solSet o_solSize o_solCount po)) rfl ?_
            obtain ⟨r36, hq47, h⟩ := bnd h
            refine OEnds.call0 hm_14 rfl rfl (by decide) rfl (as := [.long r34, .long v3]) (rest := []) rfl rfl (ok_unsignedLess hq47) ?_
            show OEnds own_P 14 71 [.val (.ref 1), .val (.int (v1 + (1 : Int32))), .val (.int v2), .val (.long v3), .second, .val (.int v5), .val (.int v6), .val (.long r34), .second, .val (.int r35)] [.int r36] (c0 :: bk0 o_log s32 s33 o_nRows o_nCols o_lights o_logLen o_status o_solSet o_solSize o_solCount po) _
            by_cases hc48 : r36 = (0 : Int32)
            · simp only [if_pos hc48] at h
              refine OEnds.ifT hm_14 rfl (q := 80) rfl ((teq hc48).1) ?_
              refine OEnds.adv hm_14 2 (pc' := 18) (L' := [.val (.ref 1), .val (.int (v1 + (1 : Int32))), .val (.int v2), .val (.long v3), .second, .val (.int v5), .val (.int (v6 + (1 : Int32))), .val (.long r34), .second, .val (.int r35)]) (S' := []) (H' := (c0 :: bk0 o_log s32 s33 o_nRows o_nCols o_lights o_logLen o_status o_solSet o_solSize o_solCount po)) rfl ?_
              exact ih h
            · simp only [if_neg hc48] at h
              refine OEnds.ifF hm_14 rfl ((feq hc48).1) ?_
              refine OEnds.adv hm_14 6 (pc' := 18) (L' := [.val (.ref 1), .val (.int (v1 + (1 : Int32))), .val (.int r35), .val (.long r34), .second, .val (.int v5), .val (.int (v6 + (1 : Int32))), .val (.long r34), .second, .val (.int r35)]) (S' := []) (H' := (c0 :: bk0 o_log s32 s33 o_nRows o_nCols o_lights o_logLen o_status o_solSet o_solSize o_solCount po)) rfl ?_
              exact ih h
          · simp only [if_neg hc46] at h
            refine OEnds.icmpT hm_14 rfl (q := 80) rfl ((feq hc46).2) ?_
            refine OEnds.adv hm_14 2 (pc' := 18) (L' := [.val (.ref 1), .val (.int (v1 + (1 : Int32))), .val (.int v2), .val (.long v3), .second, .val (.int v5), .val (.int (v6 + (1 : Int32))), .val (.long r34), .second, .val (.int r35)]) (S' := []) (H' := (c0 :: bk0 o_log s32 s33 o_nRows o_nCols o_lights o_logLen o_status o_solSet o_solSize o_solCount po)) rfl ?_
            exact ih h
    · simp only [if_neg hc40] at h
      refine OEnds.icmpT hm_14 rfl (q := 86) rfl ((flt hc40).2.1) ?_
      show OEnds own_P 14 86 [.val (.ref 1), .val (.int v1), .val (.int v2), .val (.long v3), .second, .val (.int v5), .val (.int v6), .unset, .unset, .unset] [] (c0 :: bk0 o_log o_cur o_prs o_nRows o_nCols o_lights o_logLen o_status o_solSet o_solSize o_solCount po) _
      exact hk86 h
theorem ok_solve {o_log : List Int32} {o_nRows : Int32} {o_nCols : Int32} {o_lights : Int64} {o_logLen : Int32} {c0 : ACell} {po : List ACell} {o_cur : List Int32} {o_prs : List Int32} {o_status : Int32} {o_solSet : Int64} {o_solSize : Int32} {o_solCount : Int32} {res : Int32} {w_o_cur : List Int32} {w_o_prs : List Int32} {w_o_status : Int32} {w_o_solSet : Int64} {w_o_solSize : Int32} {w_o_solCount : Int32} (h : f_solve o_nRows o_nCols o_lights o_cur o_prs o_status o_solSet o_solSize o_solCount = some (res, w_o_cur, w_o_prs, w_o_status, w_o_solSet, w_o_solSize, w_o_solCount)) : OEnds own_P 14 0 [.val (.ref 1), .unset, .unset, .unset, .unset, .unset, .unset, .unset, .unset, .unset] [] (c0 :: bk0 o_log o_cur o_prs o_nRows o_nCols o_lights o_logLen o_status o_solSet o_solSize o_solCount po) (some (.int res), (c0 :: bk0 o_log w_o_cur w_o_prs o_nRows o_nCols o_lights o_logLen w_o_status w_o_solSet w_o_solSize w_o_solCount po), 0, 0) := by
  unfold f_solve at h
  refine OEnds.adv hm_14 13 (pc' := 18) (L' := [.val (.ref 1), .val (.int 0), .val (.int 65), .val (.long 0), .second, .val (.int ((1 : Int32) <<< (o_nCols &&& 31))), .val (.int 0), .unset, .unset, .unset]) (S' := []) (H' := (c0 :: bk0 o_log o_cur o_prs o_nRows o_nCols o_lights o_logLen o_status o_solSet o_solSize o_solCount po)) rfl ?_
  exact ok_solve_18 (k86 := f_solve_86 o_nRows o_nCols o_lights) ok_solve_86 100000 h
theorem ok_applySolution_38 {o_cur : List Int32} {o_prs : List Int32} {o_nRows : Int32} {o_nCols : Int32} {o_status : Int32} {o_solSet : Int64} {o_solSize : Int32} {o_solCount : Int32} {c0 : ACell} {po : List ACell} : ∀ (n : Nat), ∀ {o_log : List Int32} {o_lights : Int64} {o_logLen : Int32} {v1 : Int32} {v2 : Int32} {res : Int32} {w_o_log : List Int32} {w_o_lights : Int64} {w_o_logLen : Int32}, f_applySolution_38 o_nRows o_nCols o_status o_solSet o_solSize n o_log o_lights o_logLen v1 v2 = some (res, w_o_log, w_o_lights, w_o_logLen) → OEnds own_P 24 38 [.val (.ref 1), .val (.int v1), .val (.int v2)] [] (c0 :: bk0 o_log o_cur o_prs o_nRows o_nCols o_lights o_logLen o_status o_solSet o_solSize o_solCount po) (some (.int res), (c0 :: bk0 w_o_log o_cur o_prs o_nRows o_nCols w_o_lights w_o_logLen o_status o_solSet o_solSize o_solCount po), 0, 0) := by
  intro n
  induction n with
  | zero => intro o_log o_lights o_logLen v1 v2 res w_o_log w_o_lights w_o_logLen h; cases h
  | succ n ih =>
    intro o_log o_lights o_logLen v1 v2 res w_o_log w_o_lights w_o_logLen h
    unfold f_applySolution_38 at h
    refine OEnds.adv hm_24 2 (pc' := 40) (L' := [.val (.ref 1), .val (.int v1), .val (.int v2)]) (S' := [.int v1, .int v2]) (H' := (c0 :: bk0 o_log o_cur o_prs o_nRows o_nCols o_lights o_logLen o_status o_solSet o_solSize o_solCount po)) rfl ?_
    by_cases hc49 : v2 < v1
    · simp only [if_pos hc49] at h
      refine OEnds.icmpF hm_24 rfl ((tlt hc49).2.1) ?_
      refine OEnds.adv hm_24 8 (pc' := 53) (L' := [.val (.ref 1), .val (.int v1), .val (.int v2)]) (S' := [.int (XT.cmpL ((XT.ushrL o_solSet v2) &&& (1 : Int64)) (0 : Int64))]) (H' := (c0 :: bk0 o_log o_cur o_prs o_nRows o_nCols o_lights o_logLen o_status o_solSet o_solSize o_solCount po)) rfl ?_
      by_cases hc50 : ((XT.ushrL o_solSet v2) &&& (1 : Int64)) = (0 : Int64)
      · simp only [if_pos hc50] at h
        refine OEnds.ifF hm_24 rfl ((teq (c_eq.mpr hc50)).2) ?_
        refine OEnds.adv hm_24 3 (pc' := 38) (L' := [.val (.ref 1), .val (.int v1), .val (.int (v2 + (1 : Int32)))]) (S' := []) (H' := (c0 :: bk0 o_log o_cur o_prs o_nRows o_nCols o_lights o_logLen o_status o_solSet o_solSize o_solCount po)) rfl ?_
        exact ih h
      · simp only [if_neg hc50] at h
        refine OEnds.ifT hm_24 rfl (q := 59) rfl ((feq (mt c_eq.mp hc50)).2) ?_
        refine OEnds.adv hm_24 3 (pc' := 65) (L' := [.val (.ref 1), .val (.int v1), .val (.int v2)]) (S' := [.int 64, .int o_logLen]) (H' := (c0 :: bk0 o_log o_cur o_prs o_nRows o_nCols o_lights o_logLen o_status o_solSet o_solSize o_solCount po)) rfl ?_
        by_cases hc51 : o_logLen < (64 : Int32)
        · simp only [if_pos hc51] at h
          refine OEnds.icmpT hm_24 rfl (q := 71) rfl ((tlt hc51).1) ?_
          refine OEnds.adv hm_24 4 (pc' := 77) (L' := [.val (.ref 1), .val (.int v1), .val (.int v2)]) (S' := [.int o_nCols, .int v2, .ref 1]) (H' := (c0 :: bk0 o_log o_cur o_prs o_nRows o_nCols o_lights o_logLen o_status o_solSet o_solSize o_solCount po)) rfl ?_
          by_cases hz52 : o_nCols = 0
          · simp only [if_pos hz52] at h
            cases h
          simp only [if_neg hz52] at h
          refine OEnds.plain hm_24 rfl rfl (x_idiv hz52) ?_
          refine OEnds.adv hm_24 3 (pc' := 83) (L' := [.val (.ref 1), .val (.int v1), .val (.int v2)]) (S' := [.int o_nCols, .int v2, .int (v2 / o_nCols), .ref 1]) (H' := (c0 :: bk0 o_log o_cur o_prs o_nRows o_nCols o_lights o_logLen o_status o_solSet o_solSize o_solCount po)) rfl ?_
          refine OEnds.plain hm_24 rfl rfl (x_irem hz52) ?_
          show OEnds own_P 24 84 [.val (.ref 1), .val (.int v1), .val (.int v2)] [.int (v2 % o_nCols), .int (v2 / o_nCols), .ref 1] (c0 :: bk0 o_log o_cur o_prs o_nRows o_nCols o_lights o_logLen o_status o_solSet o_solSize o_solCount po) _
          obtain ⟨s37, hq53, h⟩ := bnd h
          refine OEnds.call0 hm_24 rfl rfl (by decide) rfl (as := [.ref 1, .int (v2 / o_nCols), .int (v2 % o_nCols)]) (rest := []) rfl rfl (ok_toggleCell hq53) ?_
          refine OEnds.adv hm_24 5 (pc' := 96) (L' := [.val (.ref 1), .val (.int v1), .val (.int v2)]) (S' := [.int v2, .int o_logLen, .ref 2]) (H' := (c0 :: bk0 o_log o_cur o_prs o_nRows o_nCols s37 o_logLen o_status o_solSet o_solSize o_solCount po)) rfl ?_
          obtain ⟨A38, hA38, h⟩ := bnd h
          refine OEnds.plain hm_24 rfl rfl (x_iastore rfl (Nat.le_of_ble_eq_true rfl) hA38) ?_
          refine OEnds.adv hm_24 8 (pc' := 38) (L' := [.val (.ref 1), .val (.int v1), .val (.int (v2 + (1 : Int32)))]) (S' := []) (H' := (c0 :: bk0 A38 o_cur o_prs o_nRows o_nCols s37 (o_logLen + (1 : Int32)) o_status o_solSet o_solSize o_solCount po)) rfl ?_
          exact ih h
        · simp only [if_neg hc51] at h
          refine OEnds.icmpF hm_24 rfl ((flt hc51).1) ?_
          refine OEnds.adv hm_24 2 (pc' := 114) (L' := [.val (.ref 1), .val (.int v1), .val (.int v2)]) (S' := [.int 1]) (H' := (c0 :: bk0 o_log o_cur o_prs o_nRows o_nCols o_lights o_logLen o_status o_solSet o_solSize o_solCount po)) rfl ?_
          cases h
          exact OEnds.iret hm_24 rfl rfl
    · simp only [if_neg hc49] at h
      refine OEnds.icmpT hm_24 rfl (q := 113) rfl ((flt hc49).2.1) ?_
      refine OEnds.adv hm_24 1 (pc' := 114) (L' := [.val (.ref 1), .val (.int v1), .val (.int v2)]) (S' := [.int 1]) (H' := (c0 :: bk0 o_log o_cur o_prs o_nRows o_nCols o_lights o_logLen o_status o_solSet o_solSize o_solCount po)) rfl ?_
      cases h
      exact OEnds.iret hm_24 rfl rfl
theorem ok_applySolution {o_cur : List Int32} {o_prs : List Int32} {o_nRows : Int32} {o_nCols : Int32} {o_status : Int32} {o_solSet : Int64} {o_solSize : Int32} {o_solCount : Int32} {c0 : ACell} {po : List ACell} {o_log : List Int32} {o_lights : Int64} {o_logLen : Int32} {res : Int32} {w_o_log : List Int32} {w_o_lights : Int64} {w_o_logLen : Int32} (h : f_applySolution o_nRows o_nCols o_status o_solSet o_solSize o_log o_lights o_logLen = some (res, w_o_log, w_o_lights, w_o_logLen)) : OEnds own_P 24 0 [.val (.ref 1), .unset, .unset] [] (c0 :: bk0 o_log o_cur o_prs o_nRows o_nCols o_lights o_logLen o_status o_solSet o_solSize o_solCount po) (some (.int res), (c0 :: bk0 w_o_log o_cur o_prs o_nRows o_nCols w_o_lights w_o_logLen o_status o_solSet o_solSize o_solCount po), 0, 0) := by
  unfold f_applySolution at h
  refine OEnds.adv hm_24 3 (pc' := 5) (L' := [.val (.ref 1), .unset, .unset]) (S' := [.int 1, .int o_status]) (H' := (c0 :: bk0 o_log o_cur o_prs o_nRows o_nCols o_lights o_logLen o_status o_solSet o_solSize o_solCount po)) rfl ?_
  by_cases hc54 : o_status = (1 : Int32)
  · simp only [if_pos hc54] at h
    refine OEnds.icmpT hm_24 rfl (q := 10) rfl ((teq hc54).1) ?_
    refine OEnds.adv hm_24 6 (pc' := 21) (L' := [.val (.ref 1), .unset, .unset]) (S' := [.int 64, .int (o_logLen + o_solSize)]) (H' := (c0 :: bk0 o_log o_cur o_prs o_nRows o_nCols o_lights o_logLen o_status o_solSet o_solSize o_solCount po)) rfl ?_
    by_cases hc55 : (64 : Int32) < (o_logLen + o_solSize)
    · simp only [if_pos hc55] at h
      refine OEnds.icmpF hm_24 rfl ((tlt hc55).2.2.2) ?_
      refine OEnds.adv hm_24 1 (pc' := 25) (L' := [.val (.ref 1), .unset, .unset]) (S' := [.int 0]) (H' := (c0 :: bk0 o_log o_cur o_prs o_nRows o_nCols o_lights o_logLen o_status o_solSet o_solSize o_solCount po)) rfl ?_
      cases h
      exact OEnds.iret hm_24 rfl rfl
    · simp only [if_neg hc55] at h
      refine OEnds.icmpT hm_24 rfl (q := 26) rfl ((flt hc55).2.2.2) ?_
      refine OEnds.adv hm_24 8 (pc' := 38) (L' := [.val (.ref 1), .val (.int (o_nRows * o_nCols)), .val (.int 0)]) (S' := []) (H' := (c0 :: bk0 o_log o_cur o_prs o_nRows o_nCols o_lights o_logLen o_status o_solSet o_solSize o_solCount po)) rfl ?_
      exact ok_applySolution_38 100000 h
  · simp only [if_neg hc54] at h
    refine OEnds.icmpF hm_24 rfl ((feq hc54).1) ?_
    refine OEnds.adv hm_24 1 (pc' := 9) (L' := [.val (.ref 1), .unset, .unset]) (S' := [.int 0]) (H' := (c0 :: bk0 o_log o_cur o_prs o_nRows o_nCols o_lights o_logLen o_status o_solSet o_solSize o_solCount po)) rfl ?_
    cases h
    exact OEnds.iret hm_24 rfl rfl
theorem ok_clear {o_log : List Int32} {o_cur : List Int32} {o_prs : List Int32} {o_nRows : Int32} {o_nCols : Int32} {c0 : ACell} {po : List ACell} {o_lights : Int64} {o_logLen : Int32} {o_status : Int32} {o_solSet : Int64} {o_solSize : Int32} {o_solCount : Int32} {w_o_lights : Int64} {w_o_logLen : Int32} {w_o_status : Int32} {w_o_solSet : Int64} {w_o_solSize : Int32} {w_o_solCount : Int32} (h : f_clear o_lights o_logLen o_status o_solSet o_solSize o_solCount = some (w_o_lights, w_o_logLen, w_o_status, w_o_solSet, w_o_solSize, w_o_solCount)) : OEnds own_P 28 0 [.val (.ref 1)] [] (c0 :: bk0 o_log o_cur o_prs o_nRows o_nCols o_lights o_logLen o_status o_solSet o_solSize o_solCount po) (none, (c0 :: bk0 o_log o_cur o_prs o_nRows o_nCols w_o_lights w_o_logLen w_o_status w_o_solSet w_o_solSize w_o_solCount po), 0, 0) := by
  unfold f_clear at h
  refine OEnds.adv hm_28 7 (pc' := 11) (L' := [.val (.ref 1)]) (S' := [.ref 1]) (H' := (c0 :: bk0 o_log o_cur o_prs o_nRows o_nCols 0 0 o_status o_solSet o_solSize o_solCount po)) rfl ?_
  obtain ⟨⟨s39, s40, s41, s42⟩, hq56, h⟩ := bnd h
  refine OEnds.call0 hm_28 rfl rfl (by decide) rfl (as := [.ref 1]) (rest := []) rfl rfl (ok_forgetResult hq56) ?_
  show OEnds own_P 28 14 [.val (.ref 1)] [] (c0 :: bk0 o_log o_cur o_prs o_nRows o_nCols 0 0 s39 s40 s41 s42 po) _
  cases h
  exact OEnds.vret hm_28 rfl rfl
theorem ok_press {o_cur : List Int32} {o_prs : List Int32} {o_nRows : Int32} {o_nCols : Int32} {o_status : Int32} {o_solSet : Int64} {o_solSize : Int32} {o_solCount : Int32} {c0 : ACell} {po : List ACell} {o_log : List Int32} {o_lights : Int64} {o_logLen : Int32} {v1 : Int32} {v2 : Int32} {res : Int32} {w_o_log : List Int32} {w_o_lights : Int64} {w_o_logLen : Int32} (h : f_press o_nRows o_nCols o_log o_lights o_logLen v1 v2 = some (res, w_o_log, w_o_lights, w_o_logLen)) : OEnds own_P 27 0 [.val (.ref 1), .val (.int v1), .val (.int v2)] [] (c0 :: bk0 o_log o_cur o_prs o_nRows o_nCols o_lights o_logLen o_status o_solSet o_solSize o_solCount po) (some (.int res), (c0 :: bk0 w_o_log o_cur o_prs o_nRows o_nCols w_o_lights w_o_logLen o_status o_solSet o_solSize o_solCount po), 0, 0) := by
  unfold f_press at h
  refine OEnds.adv hm_27 3 (pc' := 3) (L' := [.val (.ref 1), .val (.int v1), .val (.int v2)]) (S' := [.int v2, .int v1, .ref 1]) (H' := (c0 :: bk0 o_log o_cur o_prs o_nRows o_nCols o_lights o_logLen o_status o_solSet o_solSize o_solCount po)) rfl ?_
  obtain ⟨r43, hq57, h⟩ := bnd h
  refine OEnds.call0 hm_27 rfl rfl (by decide) rfl (as := [.ref 1, .int v1, .int v2]) (rest := []) rfl rfl (ok_onBoard hq57) ?_
  show OEnds own_P 27 6 [.val (.ref 1), .val (.int v1), .val (.int v2)] [.int r43] (c0 :: bk0 o_log o_cur o_prs o_nRows o_nCols o_lights o_logLen o_status o_solSet o_solSize o_solCount po) _
  by_cases hc58 : r43 = (0 : Int32)
  · simp only [if_pos hc58] at h
    refine OEnds.ifF hm_27 rfl ((teq hc58).2) ?_
    refine OEnds.adv hm_27 1 (pc' := 10) (L' := [.val (.ref 1), .val (.int v1), .val (.int v2)]) (S' := [.int 0]) (H' := (c0 :: bk0 o_log o_cur o_prs o_nRows o_nCols o_lights o_logLen o_status o_solSet o_solSize o_solCount po)) rfl ?_
    cases h
    exact OEnds.iret hm_27 rfl rfl
  · simp only [if_neg hc58] at h
    refine OEnds.ifT hm_27 rfl (q := 11) rfl ((feq hc58).2) ?_
    refine OEnds.adv hm_27 3 (pc' := 17) (L' := [.val (.ref 1), .val (.int v1), .val (.int v2)]) (S' := [.int 64, .int o_logLen]) (H' := (c0 :: bk0 o_log o_cur o_prs o_nRows o_nCols o_lights o_logLen o_status o_solSet o_solSize o_solCount po)) rfl ?_
    by_cases hc59 : o_logLen < (64 : Int32)
    · simp only [if_pos hc59] at h
      refine OEnds.icmpT hm_27 rfl (q := 22) rfl ((tlt hc59).1) ?_
      refine OEnds.adv hm_27 3 (pc' := 25) (L' := [.val (.ref 1), .val (.int v1), .val (.int v2)]) (S' := [.int v2, .int v1, .ref 1]) (H' := (c0 :: bk0 o_log o_cur o_prs o_nRows o_nCols o_lights o_logLen o_status o_solSet o_solSize o_solCount po)) rfl ?_
      obtain ⟨s44, hq60, h⟩ := bnd h
      refine OEnds.call0 hm_27 rfl rfl (by decide) rfl (as := [.ref 1, .int v1, .int v2]) (rest := []) rfl rfl (ok_toggleCell hq60) ?_
      refine OEnds.adv hm_27 10 (pc' := 44) (L' := [.val (.ref 1), .val (.int v1), .val (.int v2)]) (S' := [.int ((v1 * o_nCols) + v2), .int o_logLen, .ref 2]) (H' := (c0 :: bk0 o_log o_cur o_prs o_nRows o_nCols s44 o_logLen o_status o_solSet o_solSize o_solCount po)) rfl ?_
      obtain ⟨A45, hA45, h⟩ := bnd h
      refine OEnds.plain hm_27 rfl rfl (x_iastore rfl (Nat.le_of_ble_eq_true rfl) hA45) ?_
      refine OEnds.adv hm_27 7 (pc' := 56) (L' := [.val (.ref 1), .val (.int v1), .val (.int v2)]) (S' := [.int 1]) (H' := (c0 :: bk0 A45 o_cur o_prs o_nRows o_nCols s44 (o_logLen + (1 : Int32)) o_status o_solSet o_solSize o_solCount po)) rfl ?_
      cases h
      exact OEnds.iret hm_27 rfl rfl
    · simp only [if_neg hc59] at h
      refine OEnds.icmpF hm_27 rfl ((flt hc59).1) ?_
      refine OEnds.adv hm_27 1 (pc' := 21) (L' := [.val (.ref 1), .val (.int v1), .val (.int v2)]) (S' := [.int 0]) (H' := (c0 :: bk0 o_log o_cur o_prs o_nRows o_nCols o_lights o_logLen o_status o_solSet o_solSize o_solCount po)) rfl ?_
      cases h
      exact OEnds.iret hm_27 rfl rfl
theorem ok_status {o_log : List Int32} {o_cur : List Int32} {o_prs : List Int32} {o_nRows : Int32} {o_nCols : Int32} {o_lights : Int64} {o_logLen : Int32} {o_status : Int32} {o_solSet : Int64} {o_solSize : Int32} {o_solCount : Int32} {c0 : ACell} {po : List ACell} {res : Int32} (h : f_status o_status = some res) : OEnds own_P 6 0 [.val (.ref 1)] [] (c0 :: bk0 o_log o_cur o_prs o_nRows o_nCols o_lights o_logLen o_status o_solSet o_solSize o_solCount po) (some (.int res), (c0 :: bk0 o_log o_cur o_prs o_nRows o_nCols o_lights o_logLen o_status o_solSet o_solSize o_solCount po), 0, 0) := by
  unfold f_status at h
  refine OEnds.adv hm_6 2 (pc' := 4) (L' := [.val (.ref 1)]) (S' := [.int o_status]) (H' := (c0 :: bk0 o_log o_cur o_prs o_nRows o_nCols o_lights o_logLen o_status o_solSet o_solSize o_solCount po)) rfl ?_
  cases h
  exact OEnds.iret hm_6 rfl rfl
theorem ok_solutionSize {o_log : List Int32} {o_cur : List Int32} {o_prs : List Int32} {o_nRows : Int32} {o_nCols : Int32} {o_lights : Int64} {o_logLen : Int32} {o_status : Int32} {o_solSet : Int64} {o_solSize : Int32} {o_solCount : Int32} {c0 : ACell} {po : List ACell} {res : Int32} (h : f_solutionSize o_status o_solSize = some res) : OEnds own_P 7 0 [.val (.ref 1)] [] (c0 :: bk0 o_log o_cur o_prs o_nRows o_nCols o_lights o_logLen o_status o_solSet o_solSize o_solCount po) (some (.int res), (c0 :: bk0 o_log o_cur o_prs o_nRows o_nCols o_lights o_logLen o_status o_solSet o_solSize o_solCount po), 0, 0) := by
  unfold f_solutionSize at h
  refine OEnds.adv hm_7 3 (pc' := 5) (L' := [.val (.ref 1)]) (S' := [.int 1, .int o_status]) (H' := (c0 :: bk0 o_log o_cur o_prs o_nRows o_nCols o_lights o_logLen o_status o_solSet o_solSize o_solCount po)) rfl ?_
  by_cases hc61 : o_status = (1 : Int32)
  · simp only [if_pos hc61] at h
    refine OEnds.icmpT hm_7 rfl (q := 10) rfl ((teq hc61).1) ?_
    refine OEnds.adv hm_7 2 (pc' := 14) (L' := [.val (.ref 1)]) (S' := [.int o_solSize]) (H' := (c0 :: bk0 o_log o_cur o_prs o_nRows o_nCols o_lights o_logLen o_status o_solSet o_solSize o_solCount po)) rfl ?_
    cases h
    exact OEnds.iret hm_7 rfl rfl
  · simp only [if_neg hc61] at h
    refine OEnds.icmpF hm_7 rfl ((feq hc61).1) ?_
    refine OEnds.adv hm_7 1 (pc' := 9) (L' := [.val (.ref 1)]) (S' := [.int (-1)]) (H' := (c0 :: bk0 o_log o_cur o_prs o_nRows o_nCols o_lights o_logLen o_status o_solSet o_solSize o_solCount po)) rfl ?_
    cases h
    exact OEnds.iret hm_7 rfl rfl
theorem ok_solutionCount {o_log : List Int32} {o_cur : List Int32} {o_prs : List Int32} {o_nRows : Int32} {o_nCols : Int32} {o_lights : Int64} {o_logLen : Int32} {o_status : Int32} {o_solSet : Int64} {o_solSize : Int32} {o_solCount : Int32} {c0 : ACell} {po : List ACell} {res : Int32} (h : f_solutionCount o_status o_solCount = some res) : OEnds own_P 8 0 [.val (.ref 1)] [] (c0 :: bk0 o_log o_cur o_prs o_nRows o_nCols o_lights o_logLen o_status o_solSet o_solSize o_solCount po) (some (.int res), (c0 :: bk0 o_log o_cur o_prs o_nRows o_nCols o_lights o_logLen o_status o_solSet o_solSize o_solCount po), 0, 0) := by
  unfold f_solutionCount at h
  refine OEnds.adv hm_8 3 (pc' := 5) (L' := [.val (.ref 1)]) (S' := [.int 1, .int o_status]) (H' := (c0 :: bk0 o_log o_cur o_prs o_nRows o_nCols o_lights o_logLen o_status o_solSet o_solSize o_solCount po)) rfl ?_
  by_cases hc62 : o_status = (1 : Int32)
  · simp only [if_pos hc62] at h
    refine OEnds.icmpT hm_8 rfl (q := 10) rfl ((teq hc62).1) ?_
    refine OEnds.adv hm_8 2 (pc' := 14) (L' := [.val (.ref 1)]) (S' := [.int o_solCount]) (H' := (c0 :: bk0 o_log o_cur o_prs o_nRows o_nCols o_lights o_logLen o_status o_solSet o_solSize o_solCount po)) rfl ?_
    cases h
    exact OEnds.iret hm_8 rfl rfl
  · simp only [if_neg hc62] at h
    refine OEnds.icmpF hm_8 rfl ((feq hc62).1) ?_
    refine OEnds.adv hm_8 1 (pc' := 9) (L' := [.val (.ref 1)]) (S' := [.int 0]) (H' := (c0 :: bk0 o_log o_cur o_prs o_nRows o_nCols o_lights o_logLen o_status o_solSet o_solSize o_solCount po)) rfl ?_
    cases h
    exact OEnds.iret hm_8 rfl rfl
theorem ok_inSolution {o_log : List Int32} {o_cur : List Int32} {o_prs : List Int32} {o_nRows : Int32} {o_nCols : Int32} {o_lights : Int64} {o_logLen : Int32} {o_status : Int32} {o_solSet : Int64} {o_solSize : Int32} {o_solCount : Int32} {c0 : ACell} {po : List ACell} {v1 : Int32} {v2 : Int32} {res : Int32} (h : f_inSolution o_nRows o_nCols o_status o_solSet v1 v2 = some res) : OEnds own_P 10 0 [.val (.ref 1), .val (.int v1), .val (.int v2)] [] (c0 :: bk0 o_log o_cur o_prs o_nRows o_nCols o_lights o_logLen o_status o_solSet o_solSize o_solCount po) (some (.int res), (c0 :: bk0 o_log o_cur o_prs o_nRows o_nCols o_lights o_logLen o_status o_solSet o_solSize o_solCount po), 0, 0) := by
  unfold f_inSolution at h
  refine OEnds.adv hm_10 3 (pc' := 5) (L' := [.val (.ref 1), .val (.int v1), .val (.int v2)]) (S' := [.int 1, .int o_status]) (H' := (c0 :: bk0 o_log o_cur o_prs o_nRows o_nCols o_lights o_logLen o_status o_solSet o_solSize o_solCount po)) rfl ?_
  by_cases hc63 : o_status = (1 : Int32)
  · simp only [if_pos hc63] at h
    refine OEnds.icmpF hm_10 rfl ((teq hc63).2) ?_
    refine OEnds.adv hm_10 3 (pc' := 11) (L' := [.val (.ref 1), .val (.int v1), .val (.int v2)]) (S' := [.int v2, .int v1, .ref 1]) (H' := (c0 :: bk0 o_log o_cur o_prs o_nRows o_nCols o_lights o_logLen o_status o_solSet o_solSize o_solCount po)) rfl ?_
    obtain ⟨r46, hq64, h⟩ := bnd h
    refine OEnds.call0 hm_10 rfl rfl (by decide) rfl (as := [.ref 1, .int v1, .int v2]) (rest := []) rfl rfl (ok_onBoard hq64) ?_
    show OEnds own_P 10 14 [.val (.ref 1), .val (.int v1), .val (.int v2)] [.int r46] (c0 :: bk0 o_log o_cur o_prs o_nRows o_nCols o_lights o_logLen o_status o_solSet o_solSize o_solCount po) _
    by_cases hc65 : r46 = (0 : Int32)
    · simp only [if_pos hc65] at h
      refine OEnds.ifF hm_10 rfl ((teq hc65).2) ?_
      refine OEnds.adv hm_10 1 (pc' := 18) (L' := [.val (.ref 1), .val (.int v1), .val (.int v2)]) (S' := [.int 0]) (H' := (c0 :: bk0 o_log o_cur o_prs o_nRows o_nCols o_lights o_logLen o_status o_solSet o_solSize o_solCount po)) rfl ?_
      cases h
      exact OEnds.iret hm_10 rfl rfl
    · simp only [if_neg hc65] at h
      refine OEnds.ifT hm_10 rfl (q := 19) rfl ((feq hc65).2) ?_
      refine OEnds.adv hm_10 5 (pc' := 26) (L' := [.val (.ref 1), .val (.int v1), .val (.int v2)]) (S' := [.int v2, .int v1, .ref 1, .long o_solSet]) (H' := (c0 :: bk0 o_log o_cur o_prs o_nRows o_nCols o_lights o_logLen o_status o_solSet o_solSize o_solCount po)) rfl ?_
      obtain ⟨r47, hq66, h⟩ := bnd h
      refine OEnds.call0 hm_10 rfl rfl (by decide) rfl (as := [.ref 1, .int v1, .int v2]) (rest := [.long o_solSet]) rfl rfl (ok_bit hq66) ?_
      refine OEnds.adv hm_10 3 (pc' := 32) (L' := [.val (.ref 1), .val (.int v1), .val (.int v2)]) (S' := [.int (XT.cmpL (o_solSet &&& r47) (0 : Int64))]) (H' := (c0 :: bk0 o_log o_cur o_prs o_nRows o_nCols o_lights o_logLen o_status o_solSet o_solSize o_solCount po)) rfl ?_
      by_cases hc67 : (o_solSet &&& r47) = (0 : Int64)
      · simp only [if_pos hc67] at h
        refine OEnds.ifT hm_10 rfl (q := 39) rfl ((teq (c_eq.mpr hc67)).1) ?_
        refine OEnds.adv hm_10 1 (pc' := 40) (L' := [.val (.ref 1), .val (.int v1), .val (.int v2)]) (S' := [.int 0]) (H' := (c0 :: bk0 o_log o_cur o_prs o_nRows o_nCols o_lights o_logLen o_status o_solSet o_solSize o_solCount po)) rfl ?_
        cases h
        exact OEnds.iret hm_10 rfl rfl
      · simp only [if_neg hc67] at h
        refine OEnds.ifF hm_10 rfl ((feq (mt c_eq.mp hc67)).1) ?_
        refine OEnds.adv hm_10 2 (pc' := 40) (L' := [.val (.ref 1), .val (.int v1), .val (.int v2)]) (S' := [.int 1]) (H' := (c0 :: bk0 o_log o_cur o_prs o_nRows o_nCols o_lights o_logLen o_status o_solSet o_solSize o_solCount po)) rfl ?_
        cases h
        exact OEnds.iret hm_10 rfl rfl
  · simp only [if_neg hc63] at h
    refine OEnds.icmpT hm_10 rfl (q := 17) rfl ((feq hc63).2) ?_
    refine OEnds.adv hm_10 1 (pc' := 18) (L' := [.val (.ref 1), .val (.int v1), .val (.int v2)]) (S' := [.int 0]) (H' := (c0 :: bk0 o_log o_cur o_prs o_nRows o_nCols o_lights o_logLen o_status o_solSet o_solSize o_solCount po)) rfl ?_
    cases h
    exact OEnds.iret hm_10 rfl rfl
theorem ok_L_countIn_12 {p0_log : List Int32} {p0_cur : List Int32} {p0_prs : List Int32} {p0_nRows : Int32} {p0_nCols : Int32} {p0_lights : Int64} {p0_logLen : Int32} {p0_status : Int32} {p0_solSet : Int64} {p0_solSize : Int32} {p0_solCount : Int32} {c0 : ACell} {po : List ACell} {k4 : Int32 → Int32 → Option (Int32)} (hk4 : ∀ {v1 : Int32} {v2 : Int32} {d3 : Slot} {res : Int32}, k4 v1 v2 = some res → OEnds own_P 9 4 [.val (.ref 1), .val (.int v1), .val (.int v2), d3] [] (c0 :: bk0 p0_log p0_cur p0_prs p0_nRows p0_nCols p0_lights p0_logLen p0_status p0_solSet p0_solSize p0_solCount po) (some (.int res), (c0 :: bk0 p0_log p0_cur p0_prs p0_nRows p0_nCols p0_lights p0_logLen p0_status p0_solSet p0_solSize p0_solCount po), 0, 0)) : ∀ (n : Nat), ∀ {v1 : Int32} {v2 : Int32} {v3 : Int32} {res : Int32}, f_L_countIn_12 k4 p0_nRows p0_nCols p0_status p0_solSet n v1 v2 v3 = some res → OEnds own_P 9 12 [.val (.ref 1), .val (.int v1), .val (.int v2), .val (.int v3)] [] (c0 :: bk0 p0_log p0_cur p0_prs p0_nRows p0_nCols p0_lights p0_logLen p0_status p0_solSet p0_solSize p0_solCount po) (some (.int res), (c0 :: bk0 p0_log p0_cur p0_prs p0_nRows p0_nCols p0_lights p0_logLen p0_status p0_solSet p0_solSize p0_solCount po), 0, 0) := by
  intro n
  induction n with
  | zero => intro v1 v2 v3 res h; cases h
  | succ n ih =>
    intro v1 v2 v3 res h
    unfold f_L_countIn_12 at h
    refine OEnds.adv hm_9 2 (pc' := 15) (L' := [.val (.ref 1), .val (.int v1), .val (.int v2), .val (.int v3)]) (S' := [.int 8, .int v3]) (H' := (c0 :: bk0 p0_log p0_cur p0_prs p0_nRows p0_nCols p0_lights p0_logLen p0_status p0_solSet p0_solSize p0_solCount po)) rfl ?_
    by_cases hc68 : v3 < (8 : Int32)
    · simp only [if_pos hc68] at h
      refine OEnds.icmpF hm_9 rfl ((tlt hc68).2.1) ?_
      refine OEnds.adv hm_9 3 (pc' := 21) (L' := [.val (.ref 1), .val (.int v1), .val (.int v2), .val (.int v3)]) (S' := [.int v3, .int v2, .ref 1]) (H' := (c0 :: bk0 p0_log p0_cur p0_prs p0_nRows p0_nCols p0_lights p0_logLen p0_status p0_solSet p0_solSize p0_solCount po)) rfl ?_
      obtain ⟨r48, hq69, h⟩ := bnd h
      refine OEnds.call0 hm_9 rfl rfl (by decide) rfl (as := [.ref 1, .int v2, .int v3]) (rest := []) rfl rfl (ok_inSolution hq69) ?_
      show OEnds own_P 9 24 [.val (.ref 1), .val (.int v1), .val (.int v2), .val (.int v3)] [.int r48] (c0 :: bk0 p0_log p0_cur p0_prs p0_nRows p0_nCols p0_lights p0_logLen p0_status p0_solSet p0_solSize p0_solCount po) _
      by_cases hc70 : r48 = (0 : Int32)
      · simp only [if_pos hc70] at h
        refine OEnds.ifT hm_9 rfl (q := 30) rfl ((teq hc70).1) ?_
        refine OEnds.adv hm_9 2 (pc' := 12) (L' := [.val (.ref 1), .val (.int v1), .val (.int v2), .val (.int (v3 + (1 : Int32)))]) (S' := []) (H' := (c0 :: bk0 p0_log p0_cur p0_prs p0_nRows p0_nCols p0_lights p0_logLen p0_status p0_solSet p0_solSize p0_solCount po)) rfl ?_
        exact ih h
      · simp only [if_neg hc70] at h
        refine OEnds.ifF hm_9 rfl ((feq hc70).1) ?_
        refine OEnds.adv hm_9 3 (pc' := 12) (L' := [.val (.ref 1), .val (.int (v1 + (1 : Int32))), .val (.int v2), .val (.int (v3 + (1 : Int32)))]) (S' := []) (H' := (c0 :: bk0 p0_log p0_cur p0_prs p0_nRows p0_nCols p0_lights p0_logLen p0_status p0_solSet p0_solSize p0_solCount po)) rfl ?_
        exact ih h
    · simp only [if_neg hc68] at h
      refine OEnds.icmpT hm_9 rfl (q := 36) rfl ((flt hc68).2.1) ?_
      refine OEnds.adv hm_9 2 (pc' := 4) (L' := [.val (.ref 1), .val (.int v1), .val (.int (v2 + (1 : Int32))), .val (.int v3)]) (S' := []) (H' := (c0 :: bk0 p0_log p0_cur p0_prs p0_nRows p0_nCols p0_lights p0_logLen p0_status p0_solSet p0_solSize p0_solCount po)) rfl ?_
      exact hk4 h
theorem ok_L_countIn_4 {p0_log : List Int32} {p0_cur : List Int32} {p0_prs : List Int32} {p0_nRows : Int32} {p0_nCols : Int32} {p0_lights : Int64} {p0_logLen : Int32} {p0_status : Int32} {p0_solSet : Int64} {p0_solSize : Int32} {p0_solCount : Int32} {c0 : ACell} {po : List ACell} : ∀ (n : Nat), ∀ {v1 : Int32} {v2 : Int32} {d3 : Slot} {res : Int32}, f_L_countIn_4 p0_nRows p0_nCols p0_status p0_solSet n v1 v2 = some res → OEnds own_P 9 4 [.val (.ref 1), .val (.int v1), .val (.int v2), d3] [] (c0 :: bk0 p0_log p0_cur p0_prs p0_nRows p0_nCols p0_lights p0_logLen p0_status p0_solSet p0_solSize p0_solCount po) (some (.int res), (c0 :: bk0 p0_log p0_cur p0_prs p0_nRows p0_nCols p0_lights p0_logLen p0_status p0_solSet p0_solSize p0_solCount po), 0, 0) := by
  intro n
  induction n with
  | zero => intro v1 v2 d3 res h; cases h
  | succ n ih =>
    intro v1 v2 d3 res h
    unfold f_L_countIn_4 at h
    refine OEnds.adv hm_9 2 (pc' := 7) (L' := [.val (.ref 1), .val (.int v1), .val (.int v2), .unset]) (S' := [.int 8, .int v2]) (H' := (c0 :: bk0 p0_log p0_cur p0_prs p0_nRows p0_nCols p0_lights p0_logLen p0_status p0_solSet p0_solSize p0_solCount po)) rfl ?_
    by_cases hc71 : v2 < (8 : Int32)
    · simp only [if_pos hc71] at h
      refine OEnds.icmpF hm_9 rfl ((tlt hc71).2.1) ?_
      refine OEnds.adv hm_9 2 (pc' := 12) (L' := [.val (.ref 1), .val (.int v1), .val (.int v2), .val (.int 0)]) (S' := []) (H' := (c0 :: bk0 p0_log p0_cur p0_prs p0_nRows p0_nCols p0_lights p0_logLen p0_status p0_solSet p0_solSize p0_solCount po)) rfl ?_
      exact ok_L_countIn_12 (k4 := f_L_countIn_4 p0_nRows p0_nCols p0_status p0_solSet n) ih 100000 h
    · simp only [if_neg hc71] at h
      refine OEnds.icmpT hm_9 rfl (q := 42) rfl ((flt hc71).2.1) ?_
      refine OEnds.adv hm_9 1 (pc' := 43) (L' := [.val (.ref 1), .val (.int v1), .val (.int v2), .unset]) (S' := [.int v1]) (H' := (c0 :: bk0 p0_log p0_cur p0_prs p0_nRows p0_nCols p0_lights p0_logLen p0_status p0_solSet p0_solSize p0_solCount po)) rfl ?_
      cases h
      exact OEnds.iret hm_9 rfl rfl
theorem ok_L_countIn {p0_log : List Int32} {p0_cur : List Int32} {p0_prs : List Int32} {p0_nRows : Int32} {p0_nCols : Int32} {p0_lights : Int64} {p0_logLen : Int32} {p0_status : Int32} {p0_solSet : Int64} {p0_solSize : Int32} {p0_solCount : Int32} {c0 : ACell} {po : List ACell} {res : Int32} (h : f_L_countIn p0_nRows p0_nCols p0_status p0_solSet = some res) : OEnds own_P 9 0 [.val (.ref 1), .unset, .unset, .unset] [] (c0 :: bk0 p0_log p0_cur p0_prs p0_nRows p0_nCols p0_lights p0_logLen p0_status p0_solSet p0_solSize p0_solCount po) (some (.int res), (c0 :: bk0 p0_log p0_cur p0_prs p0_nRows p0_nCols p0_lights p0_logLen p0_status p0_solSet p0_solSize p0_solCount po), 0, 0) := by
  unfold f_L_countIn at h
  refine OEnds.adv hm_9 4 (pc' := 4) (L' := [.val (.ref 1), .val (.int 0), .val (.int 0), .unset]) (S' := []) (H' := (c0 :: bk0 p0_log p0_cur p0_prs p0_nRows p0_nCols p0_lights p0_logLen p0_status p0_solSet p0_solSize p0_solCount po)) rfl ?_
  exact ok_L_countIn_4 100000 h
theorem ok_rows {o_log : List Int32} {o_cur : List Int32} {o_prs : List Int32} {o_nRows : Int32} {o_nCols : Int32} {o_lights : Int64} {o_logLen : Int32} {o_status : Int32} {o_solSet : Int64} {o_solSize : Int32} {o_solCount : Int32} {c0 : ACell} {po : List ACell} {res : Int32} (h : f_rows o_nRows = some res) : OEnds own_P 11 0 [.val (.ref 1)] [] (c0 :: bk0 o_log o_cur o_prs o_nRows o_nCols o_lights o_logLen o_status o_solSet o_solSize o_solCount po) (some (.int res), (c0 :: bk0 o_log o_cur o_prs o_nRows o_nCols o_lights o_logLen o_status o_solSet o_solSize o_solCount po), 0, 0) := by
  unfold f_rows at h
  refine OEnds.adv hm_11 2 (pc' := 4) (L' := [.val (.ref 1)]) (S' := [.int o_nRows]) (H' := (c0 :: bk0 o_log o_cur o_prs o_nRows o_nCols o_lights o_logLen o_status o_solSet o_solSize o_solCount po)) rfl ?_
  cases h
  exact OEnds.iret hm_11 rfl rfl
theorem ok_cols {o_log : List Int32} {o_cur : List Int32} {o_prs : List Int32} {o_nRows : Int32} {o_nCols : Int32} {o_lights : Int64} {o_logLen : Int32} {o_status : Int32} {o_solSet : Int64} {o_solSize : Int32} {o_solCount : Int32} {c0 : ACell} {po : List ACell} {res : Int32} (h : f_cols o_nCols = some res) : OEnds own_P 12 0 [.val (.ref 1)] [] (c0 :: bk0 o_log o_cur o_prs o_nRows o_nCols o_lights o_logLen o_status o_solSet o_solSize o_solCount po) (some (.int res), (c0 :: bk0 o_log o_cur o_prs o_nRows o_nCols o_lights o_logLen o_status o_solSet o_solSize o_solCount po), 0, 0) := by
  unfold f_cols at h
  refine OEnds.adv hm_12 2 (pc' := 4) (L' := [.val (.ref 1)]) (S' := [.int o_nCols]) (H' := (c0 :: bk0 o_log o_cur o_prs o_nRows o_nCols o_lights o_logLen o_status o_solSet o_solSize o_solCount po)) rfl ?_
  cases h
  exact OEnds.iret hm_12 rfl rfl
theorem ok_logSize {o_log : List Int32} {o_cur : List Int32} {o_prs : List Int32} {o_nRows : Int32} {o_nCols : Int32} {o_lights : Int64} {o_logLen : Int32} {o_status : Int32} {o_solSet : Int64} {o_solSize : Int32} {o_solCount : Int32} {c0 : ACell} {po : List ACell} {res : Int32} (h : f_logSize o_logLen = some res) : OEnds own_P 13 0 [.val (.ref 1)] [] (c0 :: bk0 o_log o_cur o_prs o_nRows o_nCols o_lights o_logLen o_status o_solSet o_solSize o_solCount po) (some (.int res), (c0 :: bk0 o_log o_cur o_prs o_nRows o_nCols o_lights o_logLen o_status o_solSet o_solSize o_solCount po), 0, 0) := by
  unfold f_logSize at h
  refine OEnds.adv hm_13 2 (pc' := 4) (L' := [.val (.ref 1)]) (S' := [.int o_logLen]) (H' := (c0 :: bk0 o_log o_cur o_prs o_nRows o_nCols o_lights o_logLen o_status o_solSet o_solSize o_solCount po)) rfl ?_
  cases h
  exact OEnds.iret hm_13 rfl rfl
theorem ok_L_ok_112 {p0_log : List Int32} {p0_cur : List Int32} {p0_prs : List Int32} {p0_nRows : Int32} {p0_nCols : Int32} {p0_lights : Int64} {p0_logLen : Int32} {p0_status : Int32} {p0_solSet : Int64} {p0_solSize : Int32} {p0_solCount : Int32} {c0 : ACell} {po : List ACell} : ∀ {v2 : Int32} {v3 : Int32} {v4 : Int32} {d0 d1 d5 d6 d7 : Slot} {res : Int32}, f_L_ok_112 p0_nRows p0_nCols p0_logLen p0_status p0_solSet p0_solSize p0_solCount v2 v3 v4 = some res → OEnds own_P 5 112 [d0, d1, .val (.int v2), .val (.int v3), .val (.int v4), d5, d6, d7] [] (c0 :: bk0 p0_log p0_cur p0_prs p0_nRows p0_nCols p0_lights p0_logLen p0_status p0_solSet p0_solSize p0_solCount po) (some (.int res), (c0 :: bk0 p0_log p0_cur p0_prs p0_nRows p0_nCols p0_lights p0_logLen p0_status p0_solSet p0_solSize p0_solCount po), 0, 0) := by
  intro v2 v3 v4 d0 d1 d5 d6 d7 res h
  unfold f_L_ok_112 at h
  refine OEnds.adv hm_5 2 (pc' := 114) (L' := [.unset, .unset, .val (.int v2), .val (.int v3), .val (.int v4), .unset, .unset, .unset]) (S' := [.int (-1), .int v2]) (H' := (c0 :: bk0 p0_log p0_cur p0_prs p0_nRows p0_nCols p0_lights p0_logLen p0_status p0_solSet p0_solSize p0_solCount po)) rfl ?_
  by_cases hc72 : v2 = (-1 : Int32)
  · simp only [if_pos hc72] at h
    refine OEnds.icmpF hm_5 rfl ((teq hc72).2) ?_
    refine OEnds.adv hm_5 1 (pc' := 118) (L' := [.unset, .unset, .val (.int v2), .val (.int v3), .val (.int v4), .unset, .unset, .unset]) (S' := [.int v3]) (H' := (c0 :: bk0 p0_log p0_cur p0_prs p0_nRows p0_nCols p0_lights p0_logLen p0_status p0_solSet p0_solSize p0_solCount po)) rfl ?_
    by_cases hc73 : v3 = (0 : Int32)
    · simp only [if_pos hc73] at h
      refine OEnds.ifF hm_5 rfl ((teq hc73).2) ?_
      refine OEnds.adv hm_5 1 (pc' := 123) (L' := [.unset, .unset, .val (.int v2), .val (.int v3), .val (.int v4), .unset, .unset, .unset]) (S' := [.int v4]) (H' := (c0 :: bk0 p0_log p0_cur p0_prs p0_nRows p0_nCols p0_lights p0_logLen p0_status p0_solSet p0_solSize p0_solCount po)) rfl ?_
      by_cases hc74 : v4 = (0 : Int32)
      · simp only [if_pos hc74] at h
        refine OEnds.ifF hm_5 rfl ((teq hc74).2) ?_
        refine OEnds.adv hm_5 2 (pc' := 131) (L' := [.unset, .unset, .val (.int v2), .val (.int v3), .val (.int v4), .unset, .unset, .unset]) (S' := [.int 1]) (H' := (c0 :: bk0 p0_log p0_cur p0_prs p0_nRows p0_nCols p0_lights p0_logLen p0_status p0_solSet p0_solSize p0_solCount po)) rfl ?_
        cases h
        exact OEnds.iret hm_5 rfl rfl
      · simp only [if_neg hc74] at h
        refine OEnds.ifT hm_5 rfl (q := 130) rfl ((feq hc74).2) ?_
        refine OEnds.adv hm_5 1 (pc' := 131) (L' := [.unset, .unset, .val (.int v2), .val (.int v3), .val (.int v4), .unset, .unset, .unset]) (S' := [.int 0]) (H' := (c0 :: bk0 p0_log p0_cur p0_prs p0_nRows p0_nCols p0_lights p0_logLen p0_status p0_solSet p0_solSize p0_solCount po)) rfl ?_
        cases h
        exact OEnds.iret hm_5 rfl rfl
    · simp only [if_neg hc73] at h
      refine OEnds.ifT hm_5 rfl (q := 130) rfl ((feq hc73).2) ?_
      refine OEnds.adv hm_5 1 (pc' := 131) (L' := [.unset, .unset, .val (.int v2), .val (.int v3), .val (.int v4), .unset, .unset, .unset]) (S' := [.int 0]) (H' := (c0 :: bk0 p0_log p0_cur p0_prs p0_nRows p0_nCols p0_lights p0_logLen p0_status p0_solSet p0_solSize p0_solCount po)) rfl ?_
      cases h
      exact OEnds.iret hm_5 rfl rfl
  · simp only [if_neg hc72] at h
    refine OEnds.icmpT hm_5 rfl (q := 130) rfl ((feq hc72).2) ?_
    refine OEnds.adv hm_5 1 (pc' := 131) (L' := [.unset, .unset, .val (.int v2), .val (.int v3), .val (.int v4), .unset, .unset, .unset]) (S' := [.int 0]) (H' := (c0 :: bk0 p0_log p0_cur p0_prs p0_nRows p0_nCols p0_lights p0_logLen p0_status p0_solSet p0_solSize p0_solCount po)) rfl ?_
    cases h
    exact OEnds.iret hm_5 rfl rfl
theorem ok_L_ok {p0_log : List Int32} {p0_cur : List Int32} {p0_prs : List Int32} {p0_nRows : Int32} {p0_nCols : Int32} {p0_lights : Int64} {p0_logLen : Int32} {p0_status : Int32} {p0_solSet : Int64} {p0_solSize : Int32} {p0_solCount : Int32} {c0 : ACell} {po : List ACell} {res : Int32} (h : f_L_ok p0_nRows p0_nCols p0_logLen p0_status p0_solSet p0_solSize p0_solCount = some res) : OEnds own_P 5 0 [.val (.ref 1), .unset, .unset, .unset, .unset, .unset, .unset, .unset] [] (c0 :: bk0 p0_log p0_cur p0_prs p0_nRows p0_nCols p0_lights p0_logLen p0_status p0_solSet p0_solSize p0_solCount po) (some (.int res), (c0 :: bk0 p0_log p0_cur p0_prs p0_nRows p0_nCols p0_lights p0_logLen p0_status p0_solSet p0_solSize p0_solCount po), 0, 0) := by
  unfold f_L_ok at h
  refine OEnds.adv hm_5 1 (pc' := 1) (L' := [.val (.ref 1), .unset, .unset, .unset, .unset, .unset, .unset, .unset]) (S' := [.ref 1]) (H' := (c0 :: bk0 p0_log p0_cur p0_prs p0_nRows p0_nCols p0_lights p0_logLen p0_status p0_solSet p0_solSize p0_solCount po)) rfl ?_
  obtain ⟨r49, hq75, h⟩ := bnd h
  refine OEnds.call0 hm_5 rfl rfl (by decide) rfl (as := [.ref 1]) (rest := []) rfl rfl (ok_status hq75) ?_
  refine OEnds.adv hm_5 2 (pc' := 6) (L' := [.val (.ref 1), .val (.int r49), .unset, .unset, .unset, .unset, .unset, .unset]) (S' := [.ref 1]) (H' := (c0 :: bk0 p0_log p0_cur p0_prs p0_nRows p0_nCols p0_lights p0_logLen p0_status p0_solSet p0_solSize p0_solCount po)) rfl ?_
  obtain ⟨r50, hq76, h⟩ := bnd h
  refine OEnds.call0 hm_5 rfl rfl (by decide) rfl (as := [.ref 1]) (rest := []) rfl rfl (ok_solutionSize hq76) ?_
  refine OEnds.adv hm_5 2 (pc' := 11) (L' := [.val (.ref 1), .val (.int r49), .val (.int r50), .unset, .unset, .unset, .unset, .unset]) (S' := [.ref 1]) (H' := (c0 :: bk0 p0_log p0_cur p0_prs p0_nRows p0_nCols p0_lights p0_logLen p0_status p0_solSet p0_solSize p0_solCount po)) rfl ?_
  obtain ⟨r51, hq77, h⟩ := bnd h
  refine OEnds.call0 hm_5 rfl rfl (by decide) rfl (as := [.ref 1]) (rest := []) rfl rfl (ok_solutionCount hq77) ?_
  refine OEnds.adv hm_5 2 (pc' := 16) (L' := [.val (.ref 1), .val (.int r49), .val (.int r50), .val (.int r51), .unset, .unset, .unset, .unset]) (S' := [.ref 1]) (H' := (c0 :: bk0 p0_log p0_cur p0_prs p0_nRows p0_nCols p0_lights p0_logLen p0_status p0_solSet p0_solSize p0_solCount po)) rfl ?_
  obtain ⟨r52, hq78, h⟩ := bnd h
  refine OEnds.call0 hm_5 rfl rfl (by decide) rfl (as := [.ref 1]) (rest := []) rfl rfl (ok_L_countIn hq78) ?_
  refine OEnds.adv hm_5 2 (pc' := 22) (L' := [.val (.ref 1), .val (.int r49), .val (.int r50), .val (.int r51), .val (.int r52), .unset, .unset, .unset]) (S' := [.ref 1]) (H' := (c0 :: bk0 p0_log p0_cur p0_prs p0_nRows p0_nCols p0_lights p0_logLen p0_status p0_solSet p0_solSize p0_solCount po)) rfl ?_
  obtain ⟨r53, hq79, h⟩ := bnd h
  refine OEnds.call0 hm_5 rfl rfl (by decide) rfl (as := [.ref 1]) (rest := []) rfl rfl (ok_rows hq79) ?_
  refine OEnds.adv hm_5 2 (pc' := 28) (L' := [.val (.ref 1), .val (.int r49), .val (.int r50), .val (.int r51), .val (.int r52), .val (.int r53), .unset, .unset]) (S' := [.ref 1]) (H' := (c0 :: bk0 p0_log p0_cur p0_prs p0_nRows p0_nCols p0_lights p0_logLen p0_status p0_solSet p0_solSize p0_solCount po)) rfl ?_
  obtain ⟨r54, hq80, h⟩ := bnd h
  refine OEnds.call0 hm_5 rfl rfl (by decide) rfl (as := [.ref 1]) (rest := []) rfl rfl (ok_cols hq80) ?_
  refine OEnds.adv hm_5 2 (pc' := 34) (L' := [.val (.ref 1), .val (.int r49), .val (.int r50), .val (.int r51), .val (.int r52), .val (.int r53), .val (.int r54), .unset]) (S' := [.ref 1]) (H' := (c0 :: bk0 p0_log p0_cur p0_prs p0_nRows p0_nCols p0_lights p0_logLen p0_status p0_solSet p0_solSize p0_solCount po)) rfl ?_
  obtain ⟨r55, hq81, h⟩ := bnd h
  refine OEnds.call0 hm_5 rfl rfl (by decide) rfl (as := [.ref 1]) (rest := []) rfl rfl (ok_logSize hq81) ?_
  refine OEnds.adv hm_5 2 (pc' := 41) (L' := [.val (.ref 1), .val (.int r49), .val (.int r50), .val (.int r51), .val (.int r52), .val (.int r53), .val (.int r54), .val (.int r55)]) (S' := [.int r55]) (H' := (c0 :: bk0 p0_log p0_cur p0_prs p0_nRows p0_nCols p0_lights p0_logLen p0_status p0_solSet p0_solSize p0_solCount po)) rfl ?_
  by_cases hc82 : r55 < (0 : Int32)
  · simp only [if_pos hc82] at h
    refine OEnds.ifT hm_5 rfl (q := 51) rfl ((tlt hc82).1) ?_
    refine OEnds.adv hm_5 1 (pc' := 52) (L' := [.val (.ref 1), .val (.int r49), .val (.int r50), .val (.int r51), .val (.int r52), .val (.int r53), .val (.int r54), .val (.int r55)]) (S' := [.int 0]) (H' := (c0 :: bk0 p0_log p0_cur p0_prs p0_nRows p0_nCols p0_lights p0_logLen p0_status p0_solSet p0_solSize p0_solCount po)) rfl ?_
    cases h
    exact OEnds.iret hm_5 rfl rfl
  · simp only [if_neg hc82] at h
    refine OEnds.ifF hm_5 rfl ((flt hc82).1) ?_
    refine OEnds.adv hm_5 2 (pc' := 48) (L' := [.val (.ref 1), .val (.int r49), .val (.int r50), .val (.int r51), .val (.int r52), .val (.int r53), .val (.int r54), .val (.int r55)]) (S' := [.int 64, .int r55]) (H' := (c0 :: bk0 p0_log p0_cur p0_prs p0_nRows p0_nCols p0_lights p0_logLen p0_status p0_solSet p0_solSize p0_solCount po)) rfl ?_
    by_cases hc83 : (64 : Int32) < r55
    · simp only [if_pos hc83] at h
      refine OEnds.icmpF hm_5 rfl ((tlt hc83).2.2.2) ?_
      refine OEnds.adv hm_5 1 (pc' := 52) (L' := [.val (.ref 1), .val (.int r49), .val (.int r50), .val (.int r51), .val (.int r52), .val (.int r53), .val (.int r54), .val (.int r55)]) (S' := [.int 0]) (H' := (c0 :: bk0 p0_log p0_cur p0_prs p0_nRows p0_nCols p0_lights p0_logLen p0_status p0_solSet p0_solSize p0_solCount po)) rfl ?_
      cases h
      exact OEnds.iret hm_5 rfl rfl
    · simp only [if_neg hc83] at h
      refine OEnds.icmpT hm_5 rfl (q := 53) rfl ((flt hc83).2.2.2) ?_
      refine OEnds.adv hm_5 2 (pc' := 55) (L' := [.val (.ref 1), .val (.int r49), .val (.int r50), .val (.int r51), .val (.int r52), .val (.int r53), .val (.int r54), .val (.int r55)]) (S' := [.int 1, .int r49]) (H' := (c0 :: bk0 p0_log p0_cur p0_prs p0_nRows p0_nCols p0_lights p0_logLen p0_status p0_solSet p0_solSize p0_solCount po)) rfl ?_
      by_cases hc84 : r49 = (1 : Int32)
      · simp only [if_pos hc84] at h
        refine OEnds.icmpF hm_5 rfl ((teq hc84).2) ?_
        refine OEnds.adv hm_5 1 (pc' := 59) (L' := [.val (.ref 1), .val (.int r49), .val (.int r50), .val (.int r51), .val (.int r52), .val (.int r53), .val (.int r54), .val (.int r55)]) (S' := [.int r50]) (H' := (c0 :: bk0 p0_log p0_cur p0_prs p0_nRows p0_nCols p0_lights p0_logLen p0_status p0_solSet p0_solSize p0_solCount po)) rfl ?_
        by_cases hc85 : r50 < (0 : Int32)
        · simp only [if_pos hc85] at h
          refine OEnds.ifT hm_5 rfl (q := 101) rfl ((tlt hc85).1) ?_
          refine OEnds.adv hm_5 1 (pc' := 102) (L' := [.val (.ref 1), .val (.int r49), .val (.int r50), .val (.int r51), .val (.int r52), .val (.int r53), .val (.int r54), .val (.int r55)]) (S' := [.int 0]) (H' := (c0 :: bk0 p0_log p0_cur p0_prs p0_nRows p0_nCols p0_lights p0_logLen p0_status p0_solSet p0_solSize p0_solCount po)) rfl ?_
          cases h
          exact OEnds.iret hm_5 rfl rfl
        · simp only [if_neg hc85] at h
          refine OEnds.ifF hm_5 rfl ((flt hc85).1) ?_
          refine OEnds.adv hm_5 4 (pc' := 68) (L' := [.val (.ref 1), .val (.int r49), .val (.int r50), .val (.int r51), .val (.int r52), .val (.int r53), .val (.int r54), .val (.int r55)]) (S' := [.int (r53 * r54), .int r50]) (H' := (c0 :: bk0 p0_log p0_cur p0_prs p0_nRows p0_nCols p0_lights p0_logLen p0_status p0_solSet p0_solSize p0_solCount po)) rfl ?_
          by_cases hc86 : (r53 * r54) < r50
          · simp only [if_pos hc86] at h
            refine OEnds.icmpT hm_5 rfl (q := 101) rfl ((tlt hc86).2.2.1) ?_
            refine OEnds.adv hm_5 1 (pc' := 102) (L' := [.val (.ref 1), .val (.int r49), .val (.int r50), .val (.int r51), .val (.int r52), .val (.int r53), .val (.int r54), .val (.int r55)]) (S' := [.int 0]) (H' := (c0 :: bk0 p0_log p0_cur p0_prs p0_nRows p0_nCols p0_lights p0_logLen p0_status p0_solSet p0_solSize p0_solCount po)) rfl ?_
            cases h
            exact OEnds.iret hm_5 rfl rfl
          · simp only [if_neg hc86] at h
            refine OEnds.icmpF hm_5 rfl ((flt hc86).2.2.1) ?_
            refine OEnds.adv hm_5 2 (pc' := 73) (L' := [.val (.ref 1), .val (.int r49), .val (.int r50), .val (.int r51), .val (.int r52), .val (.int r53), .val (.int r54), .val (.int r55)]) (S' := [.int 1, .int r51]) (H' := (c0 :: bk0 p0_log p0_cur p0_prs p0_nRows p0_nCols p0_lights p0_logLen p0_status p0_solSet p0_solSize p0_solCount po)) rfl ?_
            by_cases hc87 : r51 < (1 : Int32)
            · simp only [if_pos hc87] at h
              refine OEnds.icmpT hm_5 rfl (q := 101) rfl ((tlt hc87).1) ?_
              refine OEnds.adv hm_5 1 (pc' := 102) (L' := [.val (.ref 1), .val (.int r49), .val (.int r50), .val (.int r51), .val (.int r52), .val (.int r53), .val (.int r54), .val (.int r55)]) (S' := [.int 0]) (H' := (c0 :: bk0 p0_log p0_cur p0_prs p0_nRows p0_nCols p0_lights p0_logLen p0_status p0_solSet p0_solSize p0_solCount po)) rfl ?_
              cases h
              exact OEnds.iret hm_5 rfl rfl
            · simp only [if_neg hc87] at h
              refine OEnds.icmpF hm_5 rfl ((flt hc87).1) ?_
              refine OEnds.adv hm_5 2 (pc' := 80) (L' := [.val (.ref 1), .val (.int r49), .val (.int r50), .val (.int r51), .val (.int r52), .val (.int r53), .val (.int r54), .val (.int r55)]) (S' := [.int 256, .int r51]) (H' := (c0 :: bk0 p0_log p0_cur p0_prs p0_nRows p0_nCols p0_lights p0_logLen p0_status p0_solSet p0_solSize p0_solCount po)) rfl ?_
              by_cases hc88 : (256 : Int32) < r51
              · simp only [if_pos hc88] at h
                refine OEnds.icmpT hm_5 rfl (q := 101) rfl ((tlt hc88).2.2.1) ?_
                refine OEnds.adv hm_5 1 (pc' := 102) (L' := [.val (.ref 1), .val (.int r49), .val (.int r50), .val (.int r51), .val (.int r52), .val (.int r53), .val (.int r54), .val (.int r55)]) (S' := [.int 0]) (H' := (c0 :: bk0 p0_log p0_cur p0_prs p0_nRows p0_nCols p0_lights p0_logLen p0_status p0_solSet p0_solSize p0_solCount po)) rfl ?_
                cases h
                exact OEnds.iret hm_5 rfl rfl
              · simp only [if_neg hc88] at h
                refine OEnds.icmpF hm_5 rfl ((flt hc88).2.2.1) ?_
                refine OEnds.adv hm_5 5 (pc' := 88) (L' := [.val (.ref 1), .val (.int r49), .val (.int r50), .val (.int r51), .val (.int r52), .val (.int r53), .val (.int r54), .val (.int r55)]) (S' := [.int (r51 &&& (r51 - (1 : Int32)))]) (H' := (c0 :: bk0 p0_log p0_cur p0_prs p0_nRows p0_nCols p0_lights p0_logLen p0_status p0_solSet p0_solSize p0_solCount po)) rfl ?_
                by_cases hc89 : (r51 &&& (r51 - (1 : Int32))) = (0 : Int32)
                · simp only [if_pos hc89] at h
                  refine OEnds.ifF hm_5 rfl ((teq hc89).2) ?_
                  refine OEnds.adv hm_5 2 (pc' := 94) (L' := [.val (.ref 1), .val (.int r49), .val (.int r50), .val (.int r51), .val (.int r52), .val (.int r53), .val (.int r54), .val (.int r55)]) (S' := [.int r50, .int r52]) (H' := (c0 :: bk0 p0_log p0_cur p0_prs p0_nRows p0_nCols p0_lights p0_logLen p0_status p0_solSet p0_solSize p0_solCount po)) rfl ?_
                  by_cases hc90 : r52 = r50
                  · simp only [if_pos hc90] at h
                    refine OEnds.icmpF hm_5 rfl ((teq hc90).2) ?_
                    refine OEnds.adv hm_5 2 (pc' := 102) (L' := [.val (.ref 1), .val (.int r49), .val (.int r50), .val (.int r51), .val (.int r52), .val (.int r53), .val (.int r54), .val (.int r55)]) (S' := [.int 1]) (H' := (c0 :: bk0 p0_log p0_cur p0_prs p0_nRows p0_nCols p0_lights p0_logLen p0_status p0_solSet p0_solSize p0_solCount po)) rfl ?_
                    cases h
                    exact OEnds.iret hm_5 rfl rfl
                  · simp only [if_neg hc90] at h
                    refine OEnds.icmpT hm_5 rfl (q := 101) rfl ((feq hc90).2) ?_
                    refine OEnds.adv hm_5 1 (pc' := 102) (L' := [.val (.ref 1), .val (.int r49), .val (.int r50), .val (.int r51), .val (.int r52), .val (.int r53), .val (.int r54), .val (.int r55)]) (S' := [.int 0]) (H' := (c0 :: bk0 p0_log p0_cur p0_prs p0_nRows p0_nCols p0_lights p0_logLen p0_status p0_solSet p0_solSize p0_solCount po)) rfl ?_
                    cases h
                    exact OEnds.iret hm_5 rfl rfl
                · simp only [if_neg hc89] at h
                  refine OEnds.ifT hm_5 rfl (q := 101) rfl ((feq hc89).2) ?_
                  refine OEnds.adv hm_5 1 (pc' := 102) (L' := [.val (.ref 1), .val (.int r49), .val (.int r50), .val (.int r51), .val (.int r52), .val (.int r53), .val (.int r54), .val (.int r55)]) (S' := [.int 0]) (H' := (c0 :: bk0 p0_log p0_cur p0_prs p0_nRows p0_nCols p0_lights p0_logLen p0_status p0_solSet p0_solSize p0_solCount po)) rfl ?_
                  cases h
                  exact OEnds.iret hm_5 rfl rfl
      · simp only [if_neg hc84] at h
        refine OEnds.icmpT hm_5 rfl (q := 103) rfl ((feq hc84).2) ?_
        refine OEnds.adv hm_5 1 (pc' := 104) (L' := [.val (.ref 1), .val (.int r49), .val (.int r50), .val (.int r51), .val (.int r52), .val (.int r53), .val (.int r54), .val (.int r55)]) (S' := [.int r49]) (H' := (c0 :: bk0 p0_log p0_cur p0_prs p0_nRows p0_nCols p0_lights p0_logLen p0_status p0_solSet p0_solSize p0_solCount po)) rfl ?_
        by_cases hc91 : r49 = (0 : Int32)
        · simp only [if_pos hc91] at h
          refine OEnds.ifT hm_5 rfl (q := 112) rfl ((teq hc91).1) ?_
          show OEnds own_P 5 112 [.val (.ref 1), .val (.int r49), .val (.int r50), .val (.int r51), .val (.int r52), .val (.int r53), .val (.int r54), .val (.int r55)] [] (c0 :: bk0 p0_log p0_cur p0_prs p0_nRows p0_nCols p0_lights p0_logLen p0_status p0_solSet p0_solSize p0_solCount po) _
          exact ok_L_ok_112 h
        · simp only [if_neg hc91] at h
          refine OEnds.ifF hm_5 rfl ((feq hc91).1) ?_
          refine OEnds.adv hm_5 2 (pc' := 109) (L' := [.val (.ref 1), .val (.int r49), .val (.int r50), .val (.int r51), .val (.int r52), .val (.int r53), .val (.int r54), .val (.int r55)]) (S' := [.int 2, .int r49]) (H' := (c0 :: bk0 p0_log p0_cur p0_prs p0_nRows p0_nCols p0_lights p0_logLen p0_status p0_solSet p0_solSize p0_solCount po)) rfl ?_
          by_cases hc92 : r49 = (2 : Int32)
          · simp only [if_pos hc92] at h
            refine OEnds.icmpF hm_5 rfl ((teq hc92).2) ?_
            show OEnds own_P 5 112 [.val (.ref 1), .val (.int r49), .val (.int r50), .val (.int r51), .val (.int r52), .val (.int r53), .val (.int r54), .val (.int r55)] [] (c0 :: bk0 p0_log p0_cur p0_prs p0_nRows p0_nCols p0_lights p0_logLen p0_status p0_solSet p0_solSize p0_solCount po) _
            exact ok_L_ok_112 h
          · simp only [if_neg hc92] at h
            refine OEnds.icmpT hm_5 rfl (q := 130) rfl ((feq hc92).2) ?_
            refine OEnds.adv hm_5 1 (pc' := 131) (L' := [.val (.ref 1), .val (.int r49), .val (.int r50), .val (.int r51), .val (.int r52), .val (.int r53), .val (.int r54), .val (.int r55)]) (S' := [.int 0]) (H' := (c0 :: bk0 p0_log p0_cur p0_prs p0_nRows p0_nCols p0_lights p0_logLen p0_status p0_solSet p0_solSize p0_solCount po)) rfl ?_
            cases h
            exact OEnds.iret hm_5 rfl rfl
theorem ok_L_law_165 {scr : List Int32} {kb : List Int32 → List Int32 → List Int32 → Int32 → Int32 → Int64 → Int32 → Int32 → Int64 → Int32 → Int32 → Int32 → Option (Int32)} (hkb : ∀ {n0_log : List Int32} {n0_cur : List Int32} {n0_prs : List Int32} {n0_nRows : Int32} {n0_nCols : Int32} {n0_lights : Int64} {n0_logLen : Int32} {n0_status : Int32} {n0_solSet : Int64} {n0_solSize : Int32} {n0_solCount : Int32} {v4 : Int32} {d1 d2 d5 d6 d7 d8 : Slot} {res : Int32}, kb n0_log n0_cur n0_prs n0_nRows n0_nCols n0_lights n0_logLen n0_status n0_solSet n0_solSize n0_solCount v4 = some res → OEndsQ own_P 0 40 [.val (.ref 0), d1, d2, .val (.ref 1), .val (.int v4), d5, d6, d7, d8] [] ((.inr (.inl (false, scr)) : ACell) :: bk0 n0_log n0_cur n0_prs n0_nRows n0_nCols n0_lights n0_logLen n0_status n0_solSet n0_solSize n0_solCount []) (LawQ res 0 0)) : ∀ {n0_log : List Int32} {n0_cur : List Int32} {n0_prs : List Int32} {n0_nRows : Int32} {n0_nCols : Int32} {n0_lights : Int64} {n0_logLen : Int32} {n0_status : Int32} {n0_solSet : Int64} {n0_solSize : Int32} {n0_solCount : Int32} {v4 : Int32} {d1 d2 d5 d6 d7 d8 : Slot} {res : Int32}, f_L_law_165 kb scr n0_log n0_cur n0_prs n0_nRows n0_nCols n0_lights n0_logLen n0_status n0_solSet n0_solSize n0_solCount v4 = some res → OEndsQ own_P 0 165 [.val (.ref 0), d1, d2, .val (.ref 1), .val (.int v4), d5, d6, d7, d8] [] ((.inr (.inl (false, scr)) : ACell) :: bk0 n0_log n0_cur n0_prs n0_nRows n0_nCols n0_lights n0_logLen n0_status n0_solSet n0_solSize n0_solCount []) (LawQ res 0 0) := by
  intro n0_log n0_cur n0_prs n0_nRows n0_nCols n0_lights n0_logLen n0_status n0_solSet n0_solSize n0_solCount v4 d1 d2 d5 d6 d7 d8 res h
  unfold f_L_law_165 at h
  refine OEndsQ.adv hm_0 1 (pc' := 166) (L' := [.val (.ref 0), .unset, .unset, .val (.ref 1), .val (.int v4), .unset, .unset, .unset, .unset]) (S' := [.ref 1]) (H' := ((.inr (.inl (false, scr)) : ACell) :: bk0 n0_log n0_cur n0_prs n0_nRows n0_nCols n0_lights n0_logLen n0_status n0_solSet n0_solSize n0_solCount [])) rfl ?_
  obtain ⟨r99, hq93, h⟩ := bnd h
  refine OEndsQ.call0 hm_0 rfl rfl (by decide) rfl (as := [.ref 1]) (rest := []) rfl rfl (ok_L_ok hq93) ?_
  show OEndsQ own_P 0 169 [.val (.ref 0), .unset, .unset, .val (.ref 1), .val (.int v4), .unset, .unset, .unset, .unset] [.int r99] ((.inr (.inl (false, scr)) : ACell) :: bk0 n0_log n0_cur n0_prs n0_nRows n0_nCols n0_lights n0_logLen n0_status n0_solSet n0_solSize n0_solCount []) _
  by_cases hc94 : r99 = (0 : Int32)
  · simp only [if_pos hc94] at h
    refine OEndsQ.ifF hm_0 rfl ((teq hc94).2) ?_
    refine OEndsQ.adv hm_0 1 (pc' := 173) (L' := [.val (.ref 0), .unset, .unset, .val (.ref 1), .val (.int v4), .unset, .unset, .unset, .unset]) (S' := [.int 0]) (H' := ((.inr (.inl (false, scr)) : ACell) :: bk0 n0_log n0_cur n0_prs n0_nRows n0_nCols n0_lights n0_logLen n0_status n0_solSet n0_solSize n0_solCount [])) rfl ?_
    cases h
    exact OEndsQ.iret hm_0 rfl rfl
  · simp only [if_neg hc94] at h
    refine OEndsQ.ifT hm_0 rfl (q := 174) rfl ((feq hc94).2) ?_
    refine OEndsQ.adv hm_0 2 (pc' := 40) (L' := [.val (.ref 0), .unset, .unset, .val (.ref 1), .val (.int (v4 + (4 : Int32))), .unset, .unset, .unset, .unset]) (S' := []) (H' := ((.inr (.inl (false, scr)) : ACell) :: bk0 n0_log n0_cur n0_prs n0_nRows n0_nCols n0_lights n0_logLen n0_status n0_solSet n0_solSize n0_solCount [])) rfl ?_
    exact hkb h
theorem ok_L_law_40 {scr : List Int32} : ∀ (n : Nat), ∀ {n0_log : List Int32} {n0_cur : List Int32} {n0_prs : List Int32} {n0_nRows : Int32} {n0_nCols : Int32} {n0_lights : Int64} {n0_logLen : Int32} {n0_status : Int32} {n0_solSet : Int64} {n0_solSize : Int32} {n0_solCount : Int32} {v4 : Int32} {d1 d2 d5 d6 d7 d8 : Slot} {res : Int32}, f_L_law_40 scr n n0_log n0_cur n0_prs n0_nRows n0_nCols n0_lights n0_logLen n0_status n0_solSet n0_solSize n0_solCount v4 = some res → OEndsQ own_P 0 40 [.val (.ref 0), d1, d2, .val (.ref 1), .val (.int v4), d5, d6, d7, d8] [] ((.inr (.inl (false, scr)) : ACell) :: bk0 n0_log n0_cur n0_prs n0_nRows n0_nCols n0_lights n0_logLen n0_status n0_solSet n0_solSize n0_solCount []) (LawQ res 0 0) := by
  intro n
  induction n with
  | zero => intro n0_log n0_cur n0_prs n0_nRows n0_nCols n0_lights n0_logLen n0_status n0_solSet n0_solSize n0_solCount v4 d1 d2 d5 d6 d7 d8 res h; cases h
  | succ n ih =>
    intro n0_log n0_cur n0_prs n0_nRows n0_nCols n0_lights n0_logLen n0_status n0_solSet n0_solSize n0_solCount v4 d1 d2 d5 d6 d7 d8 res h
    unfold f_L_law_40 at h
    refine OEndsQ.adv hm_0 5 (pc' := 46) (L' := [.val (.ref 0), .unset, .unset, .val (.ref 1), .val (.int v4), .unset, .unset, .unset, .unset]) (S' := [.int scr.length.toInt32, .int (v4 + (4 : Int32))]) (H' := ((.inr (.inl (false, scr)) : ACell) :: bk0 n0_log n0_cur n0_prs n0_nRows n0_nCols n0_lights n0_logLen n0_status n0_solSet n0_solSize n0_solCount [])) rfl ?_
    by_cases hc95 : scr.length.toInt32 < (v4 + (4 : Int32))
    · simp only [if_pos hc95] at h
      refine OEndsQ.icmpT hm_0 rfl (q := 180) rfl ((tlt hc95).2.2.1) ?_
      refine OEndsQ.adv hm_0 1 (pc' := 181) (L' := [.val (.ref 0), .unset, .unset, .val (.ref 1), .val (.int v4), .unset, .unset, .unset, .unset]) (S' := [.int 1]) (H' := ((.inr (.inl (false, scr)) : ACell) :: bk0 n0_log n0_cur n0_prs n0_nRows n0_nCols n0_lights n0_logLen n0_status n0_solSet n0_solSize n0_solCount [])) rfl ?_
      cases h
      exact OEndsQ.iret hm_0 rfl rfl
    · simp only [if_neg hc95] at h
      refine OEndsQ.icmpF hm_0 rfl ((flt hc95).2.2.1) ?_
      refine OEndsQ.adv hm_0 2 (pc' := 52) (L' := [.val (.ref 0), .unset, .unset, .val (.ref 1), .val (.int v4), .unset, .unset, .unset, .unset]) (S' := [.int v4, .ref 0]) (H' := ((.inr (.inl (false, scr)) : ACell) :: bk0 n0_log n0_cur n0_prs n0_nRows n0_nCols n0_lights n0_logLen n0_status n0_solSet n0_solSize n0_solCount [])) rfl ?_
      obtain ⟨x69, hx69, h⟩ := bnd h
      refine OEndsQ.plain hm_0 rfl rfl (x_iaload rfl hx69) ?_
      refine OEndsQ.adv hm_0 7 (pc' := 63) (L' := [.val (.ref 0), .unset, .unset, .val (.ref 1), .val (.int v4), .val (.int (x69 &&& (7 : Int32))), .unset, .unset, .unset]) (S' := [.int (v4 + (1 : Int32)), .ref 0]) (H' := ((.inr (.inl (false, scr)) : ACell) :: bk0 n0_log n0_cur n0_prs n0_nRows n0_nCols n0_lights n0_logLen n0_status n0_solSet n0_solSize n0_solCount [])) rfl ?_
      obtain ⟨x70, hx70, h⟩ := bnd h
      refine OEndsQ.plain hm_0 rfl rfl (x_iaload rfl hx70) ?_
      refine OEndsQ.adv hm_0 5 (pc' := 71) (L' := [.val (.ref 0), .unset, .unset, .val (.ref 1), .val (.int v4), .val (.int (x69 &&& (7 : Int32))), .val (.int x70), .unset, .unset]) (S' := [.int (v4 + (2 : Int32)), .ref 0]) (H' := ((.inr (.inl (false, scr)) : ACell) :: bk0 n0_log n0_cur n0_prs n0_nRows n0_nCols n0_lights n0_logLen n0_status n0_solSet n0_solSize n0_solCount [])) rfl ?_
      obtain ⟨x71, hx71, h⟩ := bnd h
      refine OEndsQ.plain hm_0 rfl rfl (x_iaload rfl hx71) ?_
      refine OEndsQ.adv hm_0 5 (pc' := 79) (L' := [.val (.ref 0), .unset, .unset, .val (.ref 1), .val (.int v4), .val (.int (x69 &&& (7 : Int32))), .val (.int x70), .val (.int x71), .unset]) (S' := [.int (v4 + (3 : Int32)), .ref 0]) (H' := ((.inr (.inl (false, scr)) : ACell) :: bk0 n0_log n0_cur n0_prs n0_nRows n0_nCols n0_lights n0_logLen n0_status n0_solSet n0_solSize n0_solCount [])) rfl ?_
      obtain ⟨x72, hx72, h⟩ := bnd h
      refine OEndsQ.plain hm_0 rfl rfl (x_iaload rfl hx72) ?_
      refine OEndsQ.adv hm_0 2 (pc' := 84) (L' := [.val (.ref 0), .unset, .unset, .val (.ref 1), .val (.int v4), .val (.int (x69 &&& (7 : Int32))), .val (.int x70), .val (.int x71), .val (.int x72)]) (S' := [.int (x69 &&& (7 : Int32))]) (H' := ((.inr (.inl (false, scr)) : ACell) :: bk0 n0_log n0_cur n0_prs n0_nRows n0_nCols n0_lights n0_logLen n0_status n0_solSet n0_solSize n0_solCount [])) rfl ?_
      by_cases hc96 : (x69 &&& (7 : Int32)) = (0 : Int32)
      · simp only [if_pos hc96] at h
        refine OEndsQ.ifF hm_0 rfl ((teq hc96).2) ?_
        refine OEndsQ.adv hm_0 4 (pc' := 94) (L' := [.val (.ref 0), .unset, .unset, .val (.ref 1), .val (.int v4), .val (.int (x69 &&& (7 : Int32))), .val (.int x70), .val (.int x71), .val (.int x72)]) (S' := [.int x72, .int x71, .int x70, .ref 1]) (H' := ((.inr (.inl (false, scr)) : ACell) :: bk0 n0_log n0_cur n0_prs n0_nRows n0_nCols n0_lights n0_logLen n0_status n0_solSet n0_solSize n0_solCount [])) rfl ?_
        obtain ⟨⟨r97, s98⟩, hq97, h⟩ := bnd h
        refine OEndsQ.call0 hm_0 rfl rfl (by decide) rfl (as := [.ref 1, .int x70, .int x71, .int x72]) (rest := []) rfl rfl (ok_setLight hq97) ?_
        refine OEndsQ.adv hm_0 2 (pc' := 165) (L' := [.val (.ref 0), .unset, .unset, .val (.ref 1), .val (.int v4), .val (.int (x69 &&& (7 : Int32))), .val (.int x70), .val (.int x71), .val (.int x72)]) (S' := []) (H' := ((.inr (.inl (false, scr)) : ACell) :: bk0 n0_log n0_cur n0_prs n0_nRows n0_nCols s98 n0_logLen n0_status n0_solSet n0_solSize n0_solCount [])) rfl ?_
        exact ok_L_law_165 ih h
      · simp only [if_neg hc96] at h
        refine OEndsQ.ifT hm_0 rfl (q := 101) rfl ((feq hc96).2) ?_
        refine OEndsQ.adv hm_0 2 (pc' := 104) (L' := [.val (.ref 0), .unset, .unset, .val (.ref 1), .val (.int v4), .val (.int (x69 &&& (7 : Int32))), .val (.int x70), .val (.int x71), .val (.int x72)]) (S' := [.int 1, .int (x69 &&& (7 : Int32))]) (H' := ((.inr (.inl (false, scr)) : ACell) :: bk0 n0_log n0_cur n0_prs n0_nRows n0_nCols n0_lights n0_logLen n0_status n0_solSet n0_solSize n0_solCount [])) rfl ?_
        by_cases hc98 : (x69 &&& (7 : Int32)) = (1 : Int32)
        · simp only [if_pos hc98] at h
          refine OEndsQ.icmpF hm_0 rfl ((teq hc98).2) ?_
          refine OEndsQ.adv hm_0 1 (pc' := 108) (L' := [.val (.ref 0), .unset, .unset, .val (.ref 1), .val (.int v4), .val (.int (x69 &&& (7 : Int32))), .val (.int x70), .val (.int x71), .val (.int x72)]) (S' := [.ref 1]) (H' := ((.inr (.inl (false, scr)) : ACell) :: bk0 n0_log n0_cur n0_prs n0_nRows n0_nCols n0_lights n0_logLen n0_status n0_solSet n0_solSize n0_solCount [])) rfl ?_
          obtain ⟨⟨r94, s95, s96⟩, hq99, h⟩ := bnd h
          refine OEndsQ.call0 hm_0 rfl rfl (by decide) rfl (as := [.ref 1]) (rest := []) rfl rfl (ok_undo hq99) ?_
          refine OEndsQ.adv hm_0 2 (pc' := 165) (L' := [.val (.ref 0), .unset, .unset, .val (.ref 1), .val (.int v4), .val (.int (x69 &&& (7 : Int32))), .val (.int x70), .val (.int x71), .val (.int x72)]) (S' := []) (H' := ((.inr (.inl (false, scr)) : ACell) :: bk0 n0_log n0_cur n0_prs n0_nRows n0_nCols s95 s96 n0_status n0_solSet n0_solSize n0_solCount [])) rfl ?_
          exact ok_L_law_165 ih h
        · simp only [if_neg hc98] at h
          refine OEndsQ.icmpT hm_0 rfl (q := 115) rfl ((feq hc98).2) ?_
          refine OEndsQ.adv hm_0 2 (pc' := 118) (L' := [.val (.ref 0), .unset, .unset, .val (.ref 1), .val (.int v4), .val (.int (x69 &&& (7 : Int32))), .val (.int x70), .val (.int x71), .val (.int x72)]) (S' := [.int 2, .int (x69 &&& (7 : Int32))]) (H' := ((.inr (.inl (false, scr)) : ACell) :: bk0 n0_log n0_cur n0_prs n0_nRows n0_nCols n0_lights n0_logLen n0_status n0_solSet n0_solSize n0_solCount [])) rfl ?_
          by_cases hc100 : (x69 &&& (7 : Int32)) = (2 : Int32)
          · simp only [if_pos hc100] at h
            refine OEndsQ.icmpF hm_0 rfl ((teq hc100).2) ?_
            refine OEndsQ.adv hm_0 1 (pc' := 122) (L' := [.val (.ref 0), .unset, .unset, .val (.ref 1), .val (.int v4), .val (.int (x69 &&& (7 : Int32))), .val (.int x70), .val (.int x71), .val (.int x72)]) (S' := [.ref 1]) (H' := ((.inr (.inl (false, scr)) : ACell) :: bk0 n0_log n0_cur n0_prs n0_nRows n0_nCols n0_lights n0_logLen n0_status n0_solSet n0_solSize n0_solCount [])) rfl ?_
            obtain ⟨⟨r87, s88, s89, s90, s91, s92, s93⟩, hq101, h⟩ := bnd h
            refine OEndsQ.call0 hm_0 rfl rfl (by decide) rfl (as := [.ref 1]) (rest := []) rfl rfl (ok_solve hq101) ?_
            refine OEndsQ.adv hm_0 2 (pc' := 165) (L' := [.val (.ref 0), .unset, .unset, .val (.ref 1), .val (.int v4), .val (.int (x69 &&& (7 : Int32))), .val (.int x70), .val (.int x71), .val (.int x72)]) (S' := []) (H' := ((.inr (.inl (false, scr)) : ACell) :: bk0 n0_log s88 s89 n0_nRows n0_nCols n0_lights n0_logLen s90 s91 s92 s93 [])) rfl ?_
            exact ok_L_law_165 ih h
          · simp only [if_neg hc100] at h
            refine OEndsQ.icmpT hm_0 rfl (q := 129) rfl ((feq hc100).2) ?_
            refine OEndsQ.adv hm_0 2 (pc' := 132) (L' := [.val (.ref 0), .unset, .unset, .val (.ref 1), .val (.int v4), .val (.int (x69 &&& (7 : Int32))), .val (.int x70), .val (.int x71), .val (.int x72)]) (S' := [.int 3, .int (x69 &&& (7 : Int32))]) (H' := ((.inr (.inl (false, scr)) : ACell) :: bk0 n0_log n0_cur n0_prs n0_nRows n0_nCols n0_lights n0_logLen n0_status n0_solSet n0_solSize n0_solCount [])) rfl ?_
            by_cases hc102 : (x69 &&& (7 : Int32)) = (3 : Int32)
            · simp only [if_pos hc102] at h
              refine OEndsQ.icmpF hm_0 rfl ((teq hc102).2) ?_
              refine OEndsQ.adv hm_0 1 (pc' := 136) (L' := [.val (.ref 0), .unset, .unset, .val (.ref 1), .val (.int v4), .val (.int (x69 &&& (7 : Int32))), .val (.int x70), .val (.int x71), .val (.int x72)]) (S' := [.ref 1]) (H' := ((.inr (.inl (false, scr)) : ACell) :: bk0 n0_log n0_cur n0_prs n0_nRows n0_nCols n0_lights n0_logLen n0_status n0_solSet n0_solSize n0_solCount [])) rfl ?_
              obtain ⟨⟨r83, s84, s85, s86⟩, hq103, h⟩ := bnd h
              refine OEndsQ.call0 hm_0 rfl rfl (by decide) rfl (as := [.ref 1]) (rest := []) rfl rfl (ok_applySolution hq103) ?_
              refine OEndsQ.adv hm_0 2 (pc' := 165) (L' := [.val (.ref 0), .unset, .unset, .val (.ref 1), .val (.int v4), .val (.int (x69 &&& (7 : Int32))), .val (.int x70), .val (.int x71), .val (.int x72)]) (S' := []) (H' := ((.inr (.inl (false, scr)) : ACell) :: bk0 s84 n0_cur n0_prs n0_nRows n0_nCols s85 s86 n0_status n0_solSet n0_solSize n0_solCount [])) rfl ?_
              exact ok_L_law_165 ih h
            · simp only [if_neg hc102] at h
              refine OEndsQ.icmpT hm_0 rfl (q := 143) rfl ((feq hc102).2) ?_
              refine OEndsQ.adv hm_0 2 (pc' := 146) (L' := [.val (.ref 0), .unset, .unset, .val (.ref 1), .val (.int v4), .val (.int (x69 &&& (7 : Int32))), .val (.int x70), .val (.int x71), .val (.int x72)]) (S' := [.int 4, .int (x69 &&& (7 : Int32))]) (H' := ((.inr (.inl (false, scr)) : ACell) :: bk0 n0_log n0_cur n0_prs n0_nRows n0_nCols n0_lights n0_logLen n0_status n0_solSet n0_solSize n0_solCount [])) rfl ?_
              by_cases hc104 : (x69 &&& (7 : Int32)) = (4 : Int32)
              · simp only [if_pos hc104] at h
                refine OEndsQ.icmpF hm_0 rfl ((teq hc104).2) ?_
                refine OEndsQ.adv hm_0 1 (pc' := 150) (L' := [.val (.ref 0), .unset, .unset, .val (.ref 1), .val (.int v4), .val (.int (x69 &&& (7 : Int32))), .val (.int x70), .val (.int x71), .val (.int x72)]) (S' := [.ref 1]) (H' := ((.inr (.inl (false, scr)) : ACell) :: bk0 n0_log n0_cur n0_prs n0_nRows n0_nCols n0_lights n0_logLen n0_status n0_solSet n0_solSize n0_solCount [])) rfl ?_
                obtain ⟨⟨s77, s78, s79, s80, s81, s82⟩, hq105, h⟩ := bnd h
                refine OEndsQ.call0 hm_0 rfl rfl (by decide) rfl (as := [.ref 1]) (rest := []) rfl rfl (ok_clear hq105) ?_
                refine OEndsQ.adv hm_0 1 (pc' := 165) (L' := [.val (.ref 0), .unset, .unset, .val (.ref 1), .val (.int v4), .val (.int (x69 &&& (7 : Int32))), .val (.int x70), .val (.int x71), .val (.int x72)]) (S' := []) (H' := ((.inr (.inl (false, scr)) : ACell) :: bk0 n0_log n0_cur n0_prs n0_nRows n0_nCols s77 s78 s79 s80 s81 s82 [])) rfl ?_
                exact ok_L_law_165 ih h
              · simp only [if_neg hc104] at h
                refine OEndsQ.icmpT hm_0 rfl (q := 156) rfl ((feq hc104).2) ?_
                refine OEndsQ.adv hm_0 3 (pc' := 161) (L' := [.val (.ref 0), .unset, .unset, .val (.ref 1), .val (.int v4), .val (.int (x69 &&& (7 : Int32))), .val (.int x70), .val (.int x71), .val (.int x72)]) (S' := [.int x71, .int x70, .ref 1]) (H' := ((.inr (.inl (false, scr)) : ACell) :: bk0 n0_log n0_cur n0_prs n0_nRows n0_nCols n0_lights n0_logLen n0_status n0_solSet n0_solSize n0_solCount [])) rfl ?_
                obtain ⟨⟨r73, s74, s75, s76⟩, hq106, h⟩ := bnd h
                refine OEndsQ.call0 hm_0 rfl rfl (by decide) rfl (as := [.ref 1, .int x70, .int x71]) (rest := []) rfl rfl (ok_press hq106) ?_
                refine OEndsQ.adv hm_0 1 (pc' := 165) (L' := [.val (.ref 0), .unset, .unset, .val (.ref 1), .val (.int v4), .val (.int (x69 &&& (7 : Int32))), .val (.int x70), .val (.int x71), .val (.int x72)]) (S' := []) (H' := ((.inr (.inl (false, scr)) : ACell) :: bk0 s74 n0_cur n0_prs n0_nRows n0_nCols s75 s76 n0_status n0_solSet n0_solSize n0_solCount [])) rfl ?_
                exact ok_L_law_165 ih h
theorem ok_L_law_26 {scr : List Int32} : ∀ {v1 : Int32} {t0 : Int32} {d2 d3 d4 d5 d6 d7 d8 : Slot} {res : Int32}, f_L_law_26 scr v1 t0 = some res → OEndsQ own_P 0 26 [.val (.ref 0), .val (.int v1), d2, d3, d4, d5, d6, d7, d8] [.int t0] ((.inr (.inl (false, scr)) : ACell) :: []) (LawQ res 4 91) := by
  intro v1 t0 d2 d3 d4 d5 d6 d7 d8 res h
  unfold f_L_law_26 at h
  refine OEndsQ.adv hm_0 1 (pc' := 27) (L' := [.val (.ref 0), .val (.int v1), .val (.int t0), .unset, .unset, .unset, .unset, .unset, .unset]) (S' := []) (H' := ((.inr (.inl (false, scr)) : ACell) :: [])) rfl ?_
  refine OEndsQ.made hm_0 rfl rfl (ks := 11) (c0 := 3) (s0 := 80) rfl (Nat.le_of_ble_eq_true rfl) (Nat.le_of_ble_eq_true rfl) ?_
  refine OEndsQ.adv hm_0 3 (pc' := 33) (L' := [.val (.ref 0), .val (.int v1), .val (.int t0), .unset, .unset, .unset, .unset, .unset, .unset]) (S' := [.int t0, .int v1, .ref 1, .ref 1]) (H' := ((.inr (.inl (false, scr)) : ACell) :: (.inl (0, [.null, .null, .null, .int 0, .int 0, .long 0, .int 0, .int 0, .long 0, .int 0, .int 0]) : ACell) :: [])) rfl ?_
  obtain ⟨⟨s58, s59, s60, s61, s62, s63, s64, s65, s66, s67, s68⟩, hq107, h⟩ := bnd h
  refine OEndsQ.callN hm_0 rfl rfl (by decide) rfl (as := [.ref 1, .int v1, .int t0]) (rest := [.ref 1]) rfl rfl (c0 := 0) (s0 := 0) (ok_init hq107) (Nat.le_of_ble_eq_true rfl) (Nat.le_of_ble_eq_true rfl) ?_
  refine OEndsQ.adv hm_0 3 (pc' := 40) (L' := [.val (.ref 0), .val (.int v1), .val (.int t0), .val (.ref 1), .val (.int 2), .unset, .unset, .unset, .unset]) (S' := []) (H' := ((.inr (.inl (false, scr)) : ACell) :: bk0 s58 s59 s60 s61 s62 s63 s64 s65 s66 s67 s68 [])) rfl ?_
  exact ok_L_law_40 100000 h
theorem ok_L_law_12 {scr : List Int32} : ∀ {t0 : Int32} {d1 d2 d3 d4 d5 d6 d7 d8 : Slot} {res : Int32}, f_L_law_12 scr t0 = some res → OEndsQ own_P 0 12 [.val (.ref 0), d1, d2, d3, d4, d5, d6, d7, d8] [.int t0] ((.inr (.inl (false, scr)) : ACell) :: []) (LawQ res 4 91) := by
  intro t0 d1 d2 d3 d4 d5 d6 d7 d8 res h
  unfold f_L_law_12 at h
  refine OEndsQ.adv hm_0 4 (pc' := 16) (L' := [.val (.ref 0), .val (.int t0), .unset, .unset, .unset, .unset, .unset, .unset, .unset]) (S' := [.int 1, .int scr.length.toInt32]) (H' := ((.inr (.inl (false, scr)) : ACell) :: [])) rfl ?_
  by_cases hc108 : (1 : Int32) < scr.length.toInt32
  · simp only [if_pos hc108] at h
    refine OEndsQ.icmpF hm_0 rfl ((tlt hc108).2.2.2) ?_
    refine OEndsQ.adv hm_0 2 (pc' := 21) (L' := [.val (.ref 0), .val (.int t0), .unset, .unset, .unset, .unset, .unset, .unset, .unset]) (S' := [.int 1, .ref 0]) (H' := ((.inr (.inl (false, scr)) : ACell) :: [])) rfl ?_
    obtain ⟨x57, hx57, h⟩ := bnd h
    refine OEndsQ.plain hm_0 rfl rfl (x_iaload rfl hx57) ?_
    refine OEndsQ.adv hm_0 1 (pc' := 26) (L' := [.val (.ref 0), .val (.int t0), .unset, .unset, .unset, .unset, .unset, .unset, .unset]) (S' := [.int x57]) (H' := ((.inr (.inl (false, scr)) : ACell) :: [])) rfl ?_
    exact ok_L_law_26 h
  · simp only [if_neg hc108] at h
    refine OEndsQ.icmpT hm_0 rfl (q := 25) rfl ((flt hc108).2.2.2) ?_
    refine OEndsQ.adv hm_0 1 (pc' := 26) (L' := [.val (.ref 0), .val (.int t0), .unset, .unset, .unset, .unset, .unset, .unset, .unset]) (S' := [.int 1]) (H' := ((.inr (.inl (false, scr)) : ACell) :: [])) rfl ?_
    exact ok_L_law_26 h
theorem ok_L_law {scr : List Int32} {res : Int32} (h : f_L_law scr = some res) : OEndsQ own_P 0 0 [.val (.ref 0), .unset, .unset, .unset, .unset, .unset, .unset, .unset, .unset] [] ((.inr (.inl (false, scr)) : ACell) :: []) (LawQ res 4 91) := by
  unfold f_L_law at h
  refine OEndsQ.adv hm_0 2 (pc' := 2) (L' := [.val (.ref 0), .unset, .unset, .unset, .unset, .unset, .unset, .unset, .unset]) (S' := [.int scr.length.toInt32]) (H' := ((.inr (.inl (false, scr)) : ACell) :: [])) rfl ?_
  by_cases hc109 : (0 : Int32) < scr.length.toInt32
  · simp only [if_pos hc109] at h
    refine OEndsQ.ifF hm_0 rfl ((tlt hc109).2.2.2) ?_
    refine OEndsQ.adv hm_0 2 (pc' := 7) (L' := [.val (.ref 0), .unset, .unset, .unset, .unset, .unset, .unset, .unset, .unset]) (S' := [.int 0, .ref 0]) (H' := ((.inr (.inl (false, scr)) : ACell) :: [])) rfl ?_
    obtain ⟨x56, hx56, h⟩ := bnd h
    refine OEndsQ.plain hm_0 rfl rfl (x_iaload rfl hx56) ?_
    refine OEndsQ.adv hm_0 1 (pc' := 12) (L' := [.val (.ref 0), .unset, .unset, .unset, .unset, .unset, .unset, .unset, .unset]) (S' := [.int x56]) (H' := ((.inr (.inl (false, scr)) : ACell) :: [])) rfl ?_
    exact ok_L_law_12 h
  · simp only [if_neg hc109] at h
    refine OEndsQ.ifT hm_0 rfl (q := 11) rfl ((flt hc109).2.2.2) ?_
    refine OEndsQ.adv hm_0 1 (pc' := 12) (L' := [.val (.ref 0), .unset, .unset, .unset, .unset, .unset, .unset, .unset, .unset]) (S' := [.int 1]) (H' := ((.inr (.inl (false, scr)) : ACell) :: [])) rfl ?_
    exact ok_L_law_12 h
/-! The board -/
theorem own_tog (R C a b : Int32) : ∃ m : Int64, ∀ L : Int64, f_toggleCell R C L a b = some (L ^^^ m) := by
  by_cases c1 : (0 : Int32) < a <;> by_cases c2 : a + 1 < R <;> by_cases c3 : (0 : Int32) < b <;> by_cases c4 : b + 1 < C <;>
    (simp only [f_toggleCell, f_bit, f_toggleCell_22, f_toggleCell_43, f_toggleCell_58, f_toggleCell_79, Option.bind_some, c1, c2, c3, c4, if_true, if_false]; exact ⟨_, fun L => rfl⟩)
theorem own_pop7 : ∀ (n : Nat) (a : Int32) (v : Int64) (i : Int32), 0 ≤ i.toInt → i.toInt ≤ 64 → 64 - i.toInt < n → ∃ r, f_popCount_7 n a v i = some r := by
  intro n
  induction n with
  | zero => intro a v i h0 h1 h2; exfalso; omega
  | succ n ih =>
    intro a v i h0 h1 h2
    unfold f_popCount_7
    by_cases g : i < 64
    · have g' : i.toInt < 64 := ilt.mp g
      have ei : (i + 1).toInt = i.toInt + 1 := by clear ih; ((try simp only [ilt, ile, ieq, iadd_e, isub_e, imul_e, Int32.reduceToInt] at *) <;> omega)
      rw [if_pos g]
      by_cases g2 : v = 0
      · rw [if_pos g2]; exact ⟨_, rfl⟩
      · rw [if_neg g2]
        exact ih _ _ _ (by omega) (by omega) (by omega)
    · rw [if_neg g]; exact ⟨_, rfl⟩
theorem own_pop (v : Int64) : ∃ r, f_popCount v = some r := own_pop7 100000 0 v 0 (by decide) (by decide) (by decide)
abbrev own_dim (R C : Int32) : Prop := (1 ≤ R.toInt) ∧ (R.toInt ≤ 8) ∧ (1 ≤ C.toInt) ∧ (C.toInt ≤ 8)
theorem own_dim.a {R C : Int32} (self : own_dim R C) : 1 ≤ R.toInt := self.1
theorem own_dim.b {R C : Int32} (self : own_dim R C) : R.toInt ≤ 8 := self.2.1
theorem own_dim.c {R C : Int32} (self : own_dim R C) : 1 ≤ C.toInt := self.2.2.1
theorem own_dim.d {R C : Int32} (self : own_dim R C) : C.toInt ≤ 8 := self.2.2.2
theorem own_ne {R C : Int32} (h : own_dim R C) : ¬ C = 0 := by
  have e0 : (0 : Int32).toInt = 0 := rfl
  rw [ieq]
  have := h.c
  omega
theorem own_ld8 {R C : Int32} (hd : own_dim R C) (L m : Int64) : ∀ (n : Nat) (cur : List Int32) (i : Int32), cur.length = 8 → 0 ≤ i.toInt → i.toInt ≤ 8 → 8 - i.toInt < n → Tot (f_loadRows_8 R C L n cur m i) (fun r => r.length = 8) := by
  have hb := hd.b
  intro n
  induction n with
  | zero => intro cur i h0 h1 h2 h3; exfalso; omega
  | succ n ih =>
    intro cur i h0 h1 h2 h3
    unfold f_loadRows_8
    refine Tot.ite (fun g => ?_) (fun g => Tot.mk h0)
    have g' := ilt.mp g
    have ei : (i + 1).toInt = i.toInt + 1 := by clear ih; ((try simp only [ilt, ile, ieq, iadd_e, isub_e, imul_e, Int32.reduceToInt] at *) <;> omega)
    refine Tot.wr h1 (by omega) (fun A q1 q2 => ?_)
    exact ih A (i + 1) (by omega) (by omega) (by omega) (by omega)
theorem own_arp {R C : Int32} (hd : own_dim R C) (cur : List Int32) (i v : Int32) (hc : cur.length = 8) (h0 : 0 ≤ i.toInt) (h1 : i.toInt < R.toInt) : Tot (f_applyRowPress R C cur i v) (fun r => r.length = 8) := by
  have hb := hd.b
  have ei : (i + 1).toInt = i.toInt + 1 := by ((try simp only [ilt, ile, ieq, iadd_e, isub_e, imul_e, Int32.reduceToInt] at *) <;> omega)
  have e41 : ∀ A : List Int32, A.length = 8 → Tot (f_applyRowPress_41 R C A i v) (fun r => r.length = 8) := by
    intro A hA
    unfold f_applyRowPress_41
    refine Tot.ite (fun g => ?_) (fun g => Tot.mk hA)
    have g' := ilt.mp g
    refine Tot.rdI (by omega) (by omega) (Tot.wr (by omega) (by omega) (fun B q1 q2 => Tot.mk (by omega)))
  unfold f_applyRowPress f_rowMask
  rw [Option.bind_some]
  refine Tot.rdI h0 (by omega) (Tot.wr h0 (by omega) (fun A q1 q2 => Tot.ite (fun g => ?_) (fun g => e41 A (by omega))))
  have g' : 0 < i.toInt := ilt.mp g
  have em : (i - 1).toInt = i.toInt - 1 := by clear e41 q1; ((try simp only [ilt, ile, ieq, iadd_e, isub_e, imul_e, Int32.reduceToInt] at *) <;> omega)
  exact Tot.rdI (by omega) (by omega) (Tot.wr (by omega) (by omega) (fun B q3 q4 => e41 B (by omega)))
theorem own_ch8 {R C : Int32} (hd : own_dim R C) (L : Int64) : ∀ (n : Nat) (cur prs : List Int32) (v i : Int32), cur.length = 8 → prs.length = 8 → 0 ≤ i.toInt → i.toInt ≤ 8 → 8 - i.toInt < n → Tot (f_chase_8 (f_chase_42 R C L) R C L n cur prs v i) (fun r => r.2.1.length = 8 ∧ r.2.2.length = 8) := by
  have ha := hd.a
  have hb := hd.b
  intro n
  induction n with
  | zero => intro cur prs v i h0 h1 h2 h3 h4; exfalso; omega
  | succ n ih =>
    intro cur prs v i h0 h1 h2 h3 h4
    unfold f_chase_8
    refine Tot.ite (fun g => ?_) (fun g => ?_)
    · have g' := ilt.mp g
      have ei : (i + 1).toInt = i.toInt + 1 := by clear ih; ((try simp only [ilt, ile, ieq, iadd_e, isub_e, imul_e, Int32.reduceToInt] at *) <;> omega)
      refine Tot.wr h2 (by omega) (fun A q1 q2 => Tot.bind (own_arp hd cur i v h0 h2 g') (fun B hB => Tot.rdI h2 (by omega) ?_))
      exact ih B A _ (i + 1) hB (by omega) (by omega) (by omega) (by omega)
    · unfold f_chase_42
      have er : (R - 1).toInt = R.toInt - 1 := by clear ih; ((try simp only [ilt, ile, ieq, iadd_e, isub_e, imul_e, Int32.reduceToInt] at *) <;> omega)
      exact Tot.rdI (by omega) (by omega) (Tot.mk ⟨h0, h1⟩)
theorem own_chase {R C : Int32} (hd : own_dim R C) (L : Int64) (cur prs : List Int32) (v : Int32) (h0 : cur.length = 8) (h1 : prs.length = 8) : Tot (f_chase R C L cur prs v) (fun r => r.2.1.length = 8 ∧ r.2.2.length = 8) := by
  unfold f_chase f_loadRows f_rowMask
  rw [Option.bind_some]
  exact Tot.bind (own_ld8 hd L _ 100000 cur 0 h0 (by decide) (by decide) (by decide)) (fun A hA => own_ch8 hd L 100000 A prs v 0 hA h1 (by decide) (by decide) (by decide))
theorem own_pk4 {R C : Int32} (hd : own_dim R C) (prs : List Int32) (hp : prs.length = 8) : ∀ (n : Nat) (v : Int64) (i : Int32), 0 ≤ i.toInt → i.toInt ≤ 8 → 8 - i.toInt < n → Tot (f_packPresses_4 prs R C n v i) (fun _ => True) := by
  have hb := hd.b
  intro n
  induction n with
  | zero => intro v i h0 h1 h2; exfalso; omega
  | succ n ih =>
    intro v i h0 h1 h2
    unfold f_packPresses_4
    refine Tot.ite (fun g => ?_) (fun g => Tot.mk trivial)
    have g' := ilt.mp g
    have ei : (i + 1).toInt = i.toInt + 1 := by clear ih; ((try simp only [ilt, ile, ieq, iadd_e, isub_e, imul_e, Int32.reduceToInt] at *) <;> omega)
    exact Tot.rdI h0 (by omega) (ih _ (i + 1) (by omega) (by omega) (by omega))
theorem own_so18 {R C : Int32} (hd : own_dim R C) (L : Int64) (w : Int32) (hw : w.toInt ≤ 256) : ∀ (n : Nat) (cur prs : List Int32) (st : Int32) (ss : Int64) (sz sc v1 v2 : Int32) (v3 : Int64) (i : Int32), cur.length = 8 → prs.length = 8 → 0 ≤ i.toInt → i.toInt ≤ 256 → 256 - i.toInt < n →
    Tot (f_solve_18 (f_solve_86 R C L) R C L n cur prs st ss sz sc v1 v2 v3 w i) (fun r => r.2.1.length = 8 ∧ r.2.2.1.length = 8) := by
  intro n
  induction n with
  | zero => intro cur prs st ss sz sc v1 v2 v3 i h0 h1 h2 h3 h4; exfalso; omega
  | succ n ih =>
    intro cur prs st ss sz sc v1 v2 v3 i h0 h1 h2 h3 h4
    unfold f_solve_18
    refine Tot.ite (fun g => ?_) (fun g => ?_)
    · have g' := ilt.mp g
      have ei : (i + 1).toInt = i.toInt + 1 := by clear ih; ((try simp only [ilt, ile, ieq, iadd_e, isub_e, imul_e, Int32.reduceToInt] at *) <;> omega)
      refine Tot.bind (own_chase hd L cur prs i h0 h1) ?_
      rintro ⟨r, A, B⟩ ⟨hA, hB⟩
      refine Tot.ite (fun g2 => ?_) (fun g2 => ?_)
      · exact ih A B st ss sz sc _ _ _ (i + 1) hA hB (by omega) (by omega) (by omega)
      · unfold f_packPresses
        refine Tot.bind (own_pk4 hd B hB 100000 0 0 (by decide) (by decide) (by decide)) (fun x _ => ?_)
        obtain ⟨y, ey⟩ := own_pop x
        rw [ey, Option.bind_some]
        refine Tot.ite (fun g3 => ?_) (fun g3 => Tot.ite (fun g4 => ?_) (fun g4 => ?_))
        · exact ih A B st ss sz sc _ _ _ (i + 1) hA hB (by omega) (by omega) (by omega)
        · unfold f_unsignedLess
          rw [Option.bind_some]
          exact ih A B st ss sz sc _ _ _ (i + 1) hA hB (by omega) (by omega) (by omega)
        · exact ih A B st ss sz sc _ _ _ (i + 1) hA hB (by omega) (by omega) (by omega)
    · unfold f_solve_86
      exact Tot.mk ⟨h0, h1⟩
theorem own_cols {R C : Int32} (hd : own_dim R C) : ((1 : Int32) <<< (C &&& 31)).toInt ≤ 256 := by
  have hc := hd.c
  have hb := hd.d
  have k : C = 1 ∨ C = 2 ∨ C = 3 ∨ C = 4 ∨ C = 5 ∨ C = 6 ∨ C = 7 ∨ C = 8 := by
    simp only [ieq, Int32.reduceToInt]
    omega
  rcases k with rfl | rfl | rfl | rfl | rfl | rfl | rfl | rfl <;> decide
theorem own_solve {R C : Int32} (hd : own_dim R C) (L : Int64) (cur prs : List Int32) (st : Int32) (ss : Int64) (sz sc : Int32) (h0 : cur.length = 8) (h1 : prs.length = 8) : Tot (f_solve R C L cur prs st ss sz sc) (fun r => r.2.1.length = 8 ∧ r.2.2.1.length = 8) := by
  unfold f_solve
  exact own_so18 hd L _ (own_cols hd) 100000 cur prs st ss sz sc 0 65 0 0 h0 h1 (by decide) (by decide) (by decide)
theorem own_ap38 {R C : Int32} (hd : own_dim R C) (st : Int32) (ss : Int64) (sz w : Int32) (hw : w.toInt ≤ 64) : ∀ (n : Nat) (log : List Int32) (L : Int64) (ll i : Int32), log.length = 64 → 0 ≤ ll.toInt → ll.toInt ≤ 64 → 0 ≤ i.toInt → i.toInt ≤ 64 → 64 - i.toInt < n →
    Tot (f_applySolution_38 R C st ss sz n log L ll w i) (fun r => r.2.1.length = 64 ∧ 0 ≤ r.2.2.2.toInt ∧ r.2.2.2.toInt ≤ 64) := by
  have nc := own_ne hd
  intro n
  induction n with
  | zero => intro log L ll i h0 h1 h2 h3 h4 h5; exfalso; omega
  | succ n ih =>
    intro log L ll i h0 h1 h2 h3 h4 h5
    unfold f_applySolution_38
    refine Tot.ite (fun g => ?_) (fun g => Tot.mk ⟨h0, h1, h2⟩)
    have g' := ilt.mp g
    have ei : (i + 1).toInt = i.toInt + 1 := by clear ih; ((try simp only [ilt, ile, ieq, iadd_e, isub_e, imul_e, Int32.reduceToInt] at *) <;> omega)
    refine Tot.ite (fun g2 => ?_) (fun g2 => Tot.ite (fun g3 => ?_) (fun g3 => Tot.mk ⟨h0, h1, h2⟩))
    · exact ih log L ll (i + 1) h0 h1 h2 (by omega) (by omega) (by omega)
    · have g3' : ll.toInt < 64 := ilt.mp g3
      have el : (ll + 1).toInt = ll.toInt + 1 := by clear ih; ((try simp only [ilt, ile, ieq, iadd_e, isub_e, imul_e, Int32.reduceToInt] at *) <;> omega)
      obtain ⟨m, hm⟩ := own_tog R C (i / C) (i % C)
      rw [if_neg nc, if_neg nc, hm, Option.bind_some]
      refine Tot.wr h1 (by omega) (fun A q1 q2 => ?_)
      exact ih A _ (ll + 1) (i + 1) (by omega) (by omega) (by omega) (by omega) (by omega) (by omega)
theorem own_area {R C : Int32} (hd : own_dim R C) : (R * C).toInt = R.toInt * C.toInt ∧ 1 ≤ (R * C).toInt ∧ (R * C).toInt ≤ 64 := by
  have m := mulb (M := 8) (a := R.toInt) (b := C.toInt) (by have := hd.a; omega) hd.b (by have := hd.c; omega) hd.d
  have e : (R * C).toInt = R.toInt * C.toInt := imul_i (by omega) (by omega)
  have l : 1 * 1 ≤ R.toInt * C.toInt := Int.mul_le_mul hd.a hd.c (by omega) (by have := hd.a; omega)
  exact ⟨e, by omega, by omega⟩
theorem own_apply {R C : Int32} (hd : own_dim R C) (st : Int32) (ss : Int64) (sz : Int32) (log : List Int32) (L : Int64) (ll : Int32) (h0 : log.length = 64) (h1 : 0 ≤ ll.toInt) (h2 : ll.toInt ≤ 64) :
    Tot (f_applySolution R C st ss sz log L ll) (fun r => r.2.1.length = 64 ∧ 0 ≤ r.2.2.2.toInt ∧ r.2.2.2.toInt ≤ 64) := by
  unfold f_applySolution
  refine Tot.ite (fun g => Tot.ite (fun g2 => Tot.mk ⟨h0, h1, h2⟩) (fun g2 => ?_)) (fun g => Tot.mk ⟨h0, h1, h2⟩)
  exact own_ap38 hd st ss sz (R * C) (own_area hd).2.2 100000 log L ll 0 h0 h1 h2 (by decide) (by decide) (by decide)
theorem own_press {R C : Int32} (log : List Int32) (L : Int64) (ll a b : Int32) (h0 : log.length = 64) (h1 : 0 ≤ ll.toInt) (h2 : ll.toInt ≤ 64) :
    Tot (f_press R C log L ll a b) (fun r => r.2.1.length = 64 ∧ 0 ≤ r.2.2.2.toInt ∧ r.2.2.2.toInt ≤ 64) := by
  unfold f_press f_onBoard
  rw [Option.bind_some]
  refine Tot.ite (fun g => Tot.mk ⟨h0, h1, h2⟩) (fun g => Tot.ite (fun g2 => ?_) (fun g2 => Tot.mk ⟨h0, h1, h2⟩))
  have g' : ll.toInt < 64 := ilt.mp g2
  have el : (ll + 1).toInt = ll.toInt + 1 := by clear g; ((try simp only [ilt, ile, ieq, iadd_e, isub_e, imul_e, Int32.reduceToInt] at *) <;> omega)
  obtain ⟨m, hm⟩ := own_tog R C a b
  rw [hm, Option.bind_some]
  exact Tot.wr h1 (by omega) (fun A q1 q2 => Tot.mk ⟨by show A.length = 64; omega, by show 0 ≤ (ll + 1).toInt; omega, by show (ll + 1).toInt ≤ 64; omega⟩)
theorem own_undo {R C : Int32} (hd : own_dim R C) (log : List Int32) (L : Int64) (ll : Int32) (h0 : log.length = 64) (h1 : 0 ≤ ll.toInt) (h2 : ll.toInt ≤ 64) :
    Tot (f_undo log R C L ll) (fun r => 0 ≤ r.2.2.toInt ∧ r.2.2.toInt ≤ 64) := by
  have nc := own_ne hd
  unfold f_undo
  refine Tot.ite (fun g => ?_) (fun g => Tot.mk ⟨h1, h2⟩)
  have g' : 0 < ll.toInt := ilt.mp g
  have el : (ll - 1).toInt = ll.toInt - 1 := by ((try simp only [ilt, ile, ieq, iadd_e, isub_e, imul_e, Int32.reduceToInt] at *) <;> omega)
  refine Tot.rdI (by omega) (by omega) ?_
  obtain ⟨m, hm⟩ := own_tog R C (gI log (ll - 1) / C) (gI log (ll - 1) % C)
  rw [if_neg nc, if_neg nc, hm, Option.bind_some]
  exact Tot.mk ⟨by show 0 ≤ (ll - 1).toInt; omega, by show (ll - 1).toInt ≤ 64; omega⟩
def own_cl (v : Int32) : Int32 := if v < (1 : Int32) then (1 : Int32) else (if (8 : Int32) < v then (8 : Int32) else v)
theorem own_cl_rng (v : Int32) : 1 ≤ (own_cl v).toInt ∧ (own_cl v).toInt ≤ 8 := by
  unfold own_cl
  have e1 : (1 : Int32).toInt = 1 := rfl
  have e8 : (8 : Int32).toInt = 8 := rfl
  split
  · decide
  · rename_i g
    split
    · decide
    · rename_i g2
      rw [ilt] at g g2
      omega
theorem own_init (a b : Int32) : f_init a b = some (List.replicate 64 0, List.replicate 8 0, List.replicate 8 0, own_cl a, own_cl b, 0, 0, 0, 0, 0, 0) := rfl
/-! Bits of longs, counting -/
def own_cnt (p : Nat → Bool) : Nat → Nat
  | 0 => 0
  | n + 1 => own_cnt p n + (if p n then 1 else 0)
theorem own_cnt_le (p : Nat → Bool) : ∀ n, own_cnt p n ≤ n := by
  intro n
  induction n with
  | zero => exact Nat.le_refl 0
  | succ n ih => rw [own_cnt]; split <;> omega
theorem own_cnt_same {p q : Nat → Bool} : ∀ n, (∀ j, j < n → p j = q j) → own_cnt p n = own_cnt q n := by
  intro n
  induction n with
  | zero => intro _; rw [own_cnt, own_cnt]
  | succ n ih => intro h; rw [own_cnt, own_cnt, ih (fun j hj => h j (by omega)), h n (by omega)]
theorem own_cnt_app (p : Nat → Bool) (m : Nat) : ∀ n, own_cnt p (m + n) = own_cnt p m + own_cnt (fun j => p (m + j)) n := by
  intro n
  induction n with
  | zero => rw [Nat.add_zero, own_cnt]; rfl
  | succ n ih => rw [← Nat.add_assoc, own_cnt, own_cnt, ih]; omega
theorem own_cnt_z {p : Nat → Bool} {m : Nat} (h : ∀ j, m ≤ j → p j = false) : ∀ n, own_cnt p (m + n) = own_cnt p m := by
  intro n
  induction n with
  | zero => rfl
  | succ n ih => rw [← Nat.add_assoc, own_cnt, ih, h (m + n) (by omega)]; rfl
theorem own_cnt_ex {p : Nat → Bool} : ∀ n, 1 ≤ own_cnt p n → ∃ j, j < n ∧ p j = true := by
  intro n
  induction n with
  | zero => intro h; rw [own_cnt] at h; omega
  | succ n ih =>
    intro h
    rw [own_cnt] at h
    by_cases g : p n = true
    · exact ⟨n, by omega, g⟩
    · rw [if_neg g] at h
      obtain ⟨j, hj, hp⟩ := ih (by omega)
      exact ⟨j, by omega, hp⟩
/-- xor with a number below 2^k turns the numbers below 2^k about -/
theorem own_xlt {x y k : Nat} (hx : x < 2 ^ k) (hy : y < 2 ^ k) : x ^^^ y < 2 ^ k := Nat.xor_lt_two_pow hx hy
theorem own_xhi {x y k : Nat} (hx : x < 2 ^ k) (hy : y < 2 ^ k) : (2 ^ k + x) ^^^ y = 2 ^ k + (x ^^^ y) ∧ x ^^^ (2 ^ k + y) = 2 ^ k + (x ^^^ y) ∧ (2 ^ k + x) ^^^ (2 ^ k + y) = x ^^^ y := by
  have hxy := own_xlt hx hy
  have e : ∀ z : Nat, 2 ^ k + z = 2 ^ k * 1 + z := fun z => by rw [Nat.mul_one]
  refine ⟨?_, ?_, ?_⟩
  · apply Nat.eq_of_testBit_eq
    intro i
    rw [Nat.testBit_xor, e x, e (x ^^^ y), Nat.testBit_two_pow_mul_add 1 hx, Nat.testBit_two_pow_mul_add 1 hxy, Nat.testBit_xor]
    by_cases h : i < k
    · rw [if_pos h, if_pos h]
    · rw [if_neg h, if_neg h, Nat.testBit_lt_two_pow (Nat.lt_of_lt_of_le hy (Nat.pow_le_pow_right (by omega) (by omega))), Bool.xor_false]
  · apply Nat.eq_of_testBit_eq
    intro i
    rw [Nat.testBit_xor, e y, e (x ^^^ y), Nat.testBit_two_pow_mul_add 1 hy, Nat.testBit_two_pow_mul_add 1 hxy, Nat.testBit_xor]
    by_cases h : i < k
    · rw [if_pos h, if_pos h]
    · rw [if_neg h, if_neg h, Nat.testBit_lt_two_pow (Nat.lt_of_lt_of_le hx (Nat.pow_le_pow_right (by omega) (by omega))), Bool.false_xor]
  · apply Nat.eq_of_testBit_eq
    intro i
    rw [Nat.testBit_xor, e x, e y, Nat.testBit_two_pow_mul_add 1 hx, Nat.testBit_two_pow_mul_add 1 hy, Nat.testBit_xor]
    by_cases h : i < k
    · rw [if_pos h, if_pos h]
    · rw [if_neg h, if_neg h, Bool.xor_self, Nat.testBit_lt_two_pow (Nat.lt_of_lt_of_le hx (Nat.pow_le_pow_right (by omega) (by omega))), Nat.testBit_lt_two_pow (Nat.lt_of_lt_of_le hy (Nat.pow_le_pow_right (by omega) (by omega)))]
      rfl
theorem own_cnt_x : ∀ (k : Nat) (p : Nat → Bool) (y : Nat), y < 2 ^ k → own_cnt (fun x => p (x ^^^ y)) (2 ^ k) = own_cnt p (2 ^ k) := by
  intro k
  induction k with
  | zero =>
    intro p y hy
    have : y = 0 := by omega
    subst this
    rfl
  | succ k ih =>
    intro p y hy
    have e : 2 ^ (k + 1) = 2 ^ k + 2 ^ k := by rw [Nat.pow_succ]; omega
    rw [e, own_cnt_app, own_cnt_app]
    by_cases h : y < 2 ^ k
    · have a := ih p y h
      have b := ih (fun j => p (2 ^ k + j)) y h
      rw [own_cnt_same (p := fun j => p (2 ^ k + j ^^^ y)) (q := fun j => p (2 ^ k + (j ^^^ y))) (2 ^ k) (fun j hj => by show p _ = p _; rw [(own_xhi hj h).1]), a, b]
    · obtain ⟨z, hz⟩ : ∃ z, y = 2 ^ k + z := ⟨y - 2 ^ k, by omega⟩
      subst hz
      have hz : z < 2 ^ k := by omega
      have a := ih (fun j => p (2 ^ k + j)) z hz
      have b := ih p z hz
      rw [own_cnt_same (p := fun x => p (x ^^^ (2 ^ k + z))) (q := fun j => p (2 ^ k + (j ^^^ z))) (2 ^ k) (fun j hj => by show p _ = p _; rw [(own_xhi hj hz).2.1]),
        own_cnt_same (p := fun j => p (2 ^ k + j ^^^ (2 ^ k + z))) (q := fun j => p (j ^^^ z)) (2 ^ k) (fun j hj => by show p _ = p _; rw [(own_xhi hj hz).2.2]), a, b]
      omega
def own_g (v : Int64) (n : Nat) : Bool := v.toBitVec.getLsbD n
/-- clearing the lowest bit takes one away -/
theorem own_kern : ∀ (n w : Nat), w < 2 ^ n → w ≠ 0 → own_cnt (fun i => (w &&& (w - 1)).testBit i) n + 1 = own_cnt (fun i => w.testBit i) n := by
  have sh : ∀ (p : Nat → Bool) (n : Nat), own_cnt p (n + 1) = (if p 0 then 1 else 0) + own_cnt (fun i => p (i + 1)) n := by
    intro p n
    rw [Nat.add_comm n 1, own_cnt_app]
    have : own_cnt p 1 = (if p 0 then 1 else 0) := by rw [own_cnt, own_cnt]; omega
    rw [this]
    congr 1
    exact own_cnt_same n (fun j _ => by rw [Nat.add_comm])
  intro n
  induction n with
  | zero => intro w h0 h1; omega
  | succ n ih =>
    intro w h0 h1
    rw [sh, sh]
    by_cases hodd : w % 2 = 1
    · have e : w &&& (w - 1) = w - 1 := by
        apply Nat.eq_of_testBit_eq
        intro i
        rw [Nat.testBit_and]
        cases i with
        | zero =>
          rw [Nat.testBit_zero, Nat.testBit_zero, decide_eq_true hodd, Bool.true_and]
        | succ i =>
          rw [Nat.testBit_succ, Nat.testBit_succ, show (w - 1) / 2 = w / 2 by omega, Bool.and_self]
      rw [e]
      have a0 : (w - 1).testBit 0 = false := by rw [Nat.testBit_zero]; exact decide_eq_false (by omega)
      have b0 : w.testBit 0 = true := by rw [Nat.testBit_zero]; exact decide_eq_true hodd
      rw [a0, b0, own_cnt_same (p := fun i => (w - 1).testBit (i + 1)) (q := fun i => w.testBit (i + 1)) n (fun j _ => by show Nat.testBit _ _ = Nat.testBit _ _; rw [Nat.testBit_succ, Nat.testBit_succ, show (w - 1) / 2 = w / 2 by omega])]
      simp
      omega
    · have hw : w / 2 ≠ 0 := by omega
      have i := ih (w / 2) (by rw [Nat.pow_succ] at h0; omega) hw
      have a0 : (w &&& (w - 1)).testBit 0 = false := by
        rw [Nat.testBit_and, Nat.testBit_zero, decide_eq_false (by omega : ¬ w % 2 = 1), Bool.false_and]
      have b0 : w.testBit 0 = false := by rw [Nat.testBit_zero]; exact decide_eq_false hodd
      rw [a0, b0, own_cnt_same (p := fun i => (w &&& (w - 1)).testBit (i + 1)) (q := fun i => (w / 2 &&& (w / 2 - 1)).testBit i) n (fun j _ => by
          show Nat.testBit _ _ = Nat.testBit _ _
          rw [Nat.testBit_and, Nat.testBit_and, Nat.testBit_succ, Nat.testBit_succ, show (w - 1) / 2 = w / 2 - 1 by omega]),
        own_cnt_same (p := fun i => w.testBit (i + 1)) (q := fun i => (w / 2).testBit i) n (fun j _ => by show Nat.testBit _ _ = Nat.testBit _ _; rw [Nat.testBit_succ]), if_neg (show ¬ false = true by decide)]
      omega
theorem own_popX (v : Int64) : f_popCount v = some (Int32.ofNat (own_cnt (own_g v) 64)) := by
  have e64 : (64 : Int32).toInt = 64 := rfl
  have e1 : (1 : Int32).toInt = 1 := rfl
  have key : ∀ (f i : Nat) (a : Int32) (w : Int64) (v5 : Int32), v5.toInt = i → i ≤ 64 → 64 - i < f → own_cnt (own_g w) 64 + i ≤ 64 → a.toInt = i → f_popCount_7 f a w v5 = some (Int32.ofNat (own_cnt (own_g w) 64 + i)) := by
    intro f
    induction f with
    | zero => intro i a w v5 h1 h2 h3; omega
    | succ f ih =>
      intro i a w v5 h1 h2 h3 h4 h5
      unfold f_popCount_7
      have hw : w.toBitVec.toNat < 2 ^ 64 := w.toBitVec.isLt
      have ai : Int32.ofNat i = a := by rw [ieq, Int32.toInt_ofNat_of_lt (by omega)]; omega
      by_cases z : w = 0
      · have c0 : own_cnt (own_g w) 64 = 0 := by rw [z]; decide
        rw [if_pos z, c0, Nat.zero_add, ai]
        split <;> rfl
      · have nz : w.toBitVec.toNat ≠ 0 := by
          intro h
          apply z
          apply Int64.toBitVec_inj.mp
          apply BitVec.eq_of_toNat_eq
          exact h
        have k := own_kern 64 w.toBitVec.toNat hw nz
        have en : (w &&& (w - 1)).toBitVec.toNat = w.toBitVec.toNat &&& (w.toBitVec.toNat - 1) := by
          rw [Int64.toBitVec_and, BitVec.toNat_and, Int64.toBitVec_sub, BitVec.toNat_sub]
          congr 1
          have o : (1 : Int64).toBitVec.toNat = 1 := rfl
          rw [o]
          omega
        have k' : own_cnt (own_g (w &&& (w - 1))) 64 + 1 = own_cnt (own_g w) 64 := by
          have q : ∀ u : Int64, own_cnt (own_g u) 64 = own_cnt (fun i => u.toBitVec.toNat.testBit i) 64 := fun u => own_cnt_same 64 (fun j _ => rfl)
          rw [q, q, en]
          exact k
        have lt : v5 < 64 := by rw [ilt]; omega
        have p5 : (v5 + 1).toInt = v5.toInt + 1 := by rw [iadd_i (by omega) (by omega), e1]
        have pa : (a + 1).toInt = a.toInt + 1 := by rw [iadd_i (by omega) (by omega), e1]
        rw [if_pos lt, if_neg z, ih (i + 1) (a + 1) _ (v5 + 1) (by omega) (by omega) (by omega) (by omega) (by omega)]
        congr 2
        omega
  exact key 100000 0 0 v 0 rfl (by omega) (by omega) (by have := own_cnt_le (own_g v) 64; omega) rfl
theorem own_pow2 : ∀ (k : Nat) (p : Nat → Bool), p 0 = true → (∀ x y, x < 2 ^ k → y < 2 ^ k → p x = true → p y = true → p (x ^^^ y) = true) → ∃ j, j ≤ k ∧ own_cnt p (2 ^ k) = 2 ^ j := by
  intro k
  induction k with
  | zero =>
    intro p h0 _
    refine ⟨0, by omega, ?_⟩
    show own_cnt p 1 = 1
    rw [own_cnt, own_cnt, h0]
    rfl
  | succ k ih =>
    intro p h0 hx
    have e : 2 ^ (k + 1) = 2 ^ k + 2 ^ k := by rw [Nat.pow_succ]; omega
    obtain ⟨j, hj, hc⟩ := ih p h0 (fun x y a b => hx x y (by omega) (by omega))
    rw [e, own_cnt_app]
    by_cases ex : 1 ≤ own_cnt (fun i => p (2 ^ k + i)) (2 ^ k)
    · obtain ⟨z, hz, pz⟩ := own_cnt_ex (2 ^ k) ex
      refine ⟨j + 1, by omega, ?_⟩
      have s : own_cnt (fun i => p (2 ^ k + i)) (2 ^ k) = own_cnt p (2 ^ k) := by
        rw [← own_cnt_x k p z hz]
        apply own_cnt_same
        intro i hi
        show p (2 ^ k + i) = p (i ^^^ z)
        have hiz := own_xlt hi hz
        have q := own_xhi hi hz
        rw [Bool.eq_iff_iff]
        constructor
        · intro h
          have := hx (2 ^ k + i) (2 ^ k + z) (by omega) (by omega) h pz
          rw [q.2.2] at this
          exact this
        · intro h
          have := hx (i ^^^ z) (2 ^ k + z) (by omega) (by omega) h pz
          rw [(own_xhi hiz hz).2.1, Nat.xor_assoc, Nat.xor_self, Nat.xor_zero] at this
          exact this
      rw [s, hc, Nat.pow_succ]
      omega
    · refine ⟨j, by omega, ?_⟩
      rw [hc]
      omega
/-! The chase -/
def own_T (m p : Int32) : Int32 := ((p ^^^ (p <<< ((1 : Int32) &&& 31))) ^^^ (XT.ushr p 1)) &&& m
theorem own_T_b (m p : Int32) {i : Nat} (hi : i < 32) : (own_T m p).toBitVec.getLsbD i = (((p.toBitVec.getLsbD i ^^ (!decide (i < 1) && p.toBitVec.getLsbD (i - 1))) ^^ p.toBitVec.getLsbD (1 + i)) && m.toBitVec.getLsbD i) := by
  have k1 : (((1 : Int32) &&& 31).toBitVec.smod 32).toNat = 1 := by decide
  have k2 : (((1 : Int32) &&& 31).toBitVec % 32#32).toNat = 1 := by decide
  have e1 : (XT.ushr p 1).toBitVec = p.toBitVec >>> 1 := by
    show p.toBitVec >>> (((1 : Int32) &&& 31).toBitVec % 32#32) = _
    rw [BitVec.ushiftRight_eq', k2]
  unfold own_T
  rw [Int32.toBitVec_and, Int32.toBitVec_xor, Int32.toBitVec_xor, e1, Int32.toBitVec_shiftLeft, BitVec.shiftLeft_eq', k1, BitVec.getLsbD_and, BitVec.getLsbD_xor, BitVec.getLsbD_xor, BitVec.getLsbD_shiftLeft, BitVec.getLsbD_ushiftRight, decide_eq_true hi, Bool.true_and]
theorem own_T_x (m a b : Int32) : own_T m (a ^^^ b) = own_T m a ^^^ own_T m b := by
  apply Int32.toBitVec_inj.mp
  apply BitVec.eq_of_getLsbD_eq
  intro i hi
  rw [Int32.toBitVec_xor, BitVec.getLsbD_xor, own_T_b _ _ hi, own_T_b _ _ hi, own_T_b _ _ hi, Int32.toBitVec_xor, BitVec.getLsbD_xor, BitVec.getLsbD_xor, BitVec.getLsbD_xor]
  cases a.toBitVec.getLsbD i <;> cases b.toBitVec.getLsbD i <;> cases a.toBitVec.getLsbD (i - 1) <;> cases b.toBitVec.getLsbD (i - 1) <;> cases a.toBitVec.getLsbD (1 + i) <;> cases b.toBitVec.getLsbD (1 + i) <;> cases m.toBitVec.getLsbD i <;> cases (!decide (i < 1)) <;> rfl
/-- the presses of the row before and of this row -/
def own_pr (m : Int32) (rw : Nat → Int32) (x : Int32) : Nat → Int32 × Int32
  | 0 => (0, x)
  | r + 1 => ((own_pr m rw x r).2, (rw r ^^^ (own_pr m rw x r).1) ^^^ own_T m (own_pr m rw x r).2)
theorem own_P_lin (m : Int32) (rw : Nat → Int32) (x : Int32) : ∀ r, (own_pr m rw x r).1 = (own_pr m rw 0 r).1 ^^^ (own_pr m (fun _ => 0) x r).1 ∧ (own_pr m rw x r).2 = (own_pr m rw 0 r).2 ^^^ (own_pr m (fun _ => 0) x r).2 := by
  intro r
  induction r with
  | zero => exact ⟨(Int32.xor_zero).symm, (Int32.zero_xor).symm⟩
  | succ r ih =>
    obtain ⟨h1, h2⟩ := ih
    refine ⟨h2, ?_⟩
    show (rw r ^^^ (own_pr m rw x r).1) ^^^ own_T m (own_pr m rw x r).2 = ((rw r ^^^ (own_pr m rw 0 r).1) ^^^ own_T m (own_pr m rw 0 r).2) ^^^ ((0 ^^^ (own_pr m (fun _ => 0) x r).1) ^^^ own_T m (own_pr m (fun _ => 0) x r).2)
    rw [h1, h2, own_T_x, Int32.zero_xor]
    ac_rfl
theorem own_B_x (m : Int32) (x y : Int32) : ∀ r, (own_pr m (fun _ => 0) (x ^^^ y) r).1 = (own_pr m (fun _ => 0) x r).1 ^^^ (own_pr m (fun _ => 0) y r).1 ∧ (own_pr m (fun _ => 0) (x ^^^ y) r).2 = (own_pr m (fun _ => 0) x r).2 ^^^ (own_pr m (fun _ => 0) y r).2 := by
  intro r
  induction r with
  | zero => exact ⟨(Int32.xor_zero).symm, rfl⟩
  | succ r ih =>
    obtain ⟨h1, h2⟩ := ih
    refine ⟨h2, ?_⟩
    show (0 ^^^ (own_pr m (fun _ => 0) (x ^^^ y) r).1) ^^^ own_T m (own_pr m (fun _ => 0) (x ^^^ y) r).2 = ((0 ^^^ (own_pr m (fun _ => 0) x r).1) ^^^ own_T m (own_pr m (fun _ => 0) x r).2) ^^^ ((0 ^^^ (own_pr m (fun _ => 0) y r).1) ^^^ own_T m (own_pr m (fun _ => 0) y r).2)
    rw [h1, h2, own_T_x, Int32.zero_xor, Int32.zero_xor, Int32.zero_xor]
    ac_rfl
theorem own_onx {x y : Nat} (hx : x < 256) (hy : y < 256) : Int32.ofNat (x ^^^ y) = Int32.ofNat x ^^^ Int32.ofNat y := by
  have h : x ^^^ y < 2 ^ 8 := own_xlt (k := 8) hx hy
  apply Int32.toBitVec_inj.mp
  apply BitVec.eq_of_toNat_eq
  rw [Int32.toBitVec_xor, BitVec.toNat_xor]
  show (x ^^^ y) % 4294967296 = (x % 4294967296) ^^^ (y % 4294967296)
  rw [Nat.mod_eq_of_lt (by omega), Nat.mod_eq_of_lt (by omega), Nat.mod_eq_of_lt (by omega)]
/-- how many first rows solve the board -/
theorem own_sols (m : Int32) (rw : Nat → Int32) (R k : Nat) (hk : k ≤ 8) : own_cnt (fun x => decide ((own_pr m rw (Int32.ofNat x) R).2 = 0)) (2 ^ k) = 0 ∨ ∃ j, j ≤ 8 ∧ own_cnt (fun x => decide ((own_pr m rw (Int32.ofNat x) R).2 = 0)) (2 ^ k) = 2 ^ j := by
  have h256 : 2 ^ k ≤ 2 ^ 8 := Nat.pow_le_pow_right (by omega) hk
  by_cases ex : 1 ≤ own_cnt (fun x => decide ((own_pr m rw (Int32.ofNat x) R).2 = 0)) (2 ^ k)
  · right
    obtain ⟨x0, hx0, h0⟩ := own_cnt_ex _ ex
    have h0' : (own_pr m rw (Int32.ofNat x0) R).2 = 0 := of_decide_eq_true h0
    obtain ⟨j, hj, hc⟩ := own_pow2 k (fun x => decide ((own_pr m (fun _ => 0) (Int32.ofNat x) R).2 = 0)) (by
      apply decide_eq_true
      have z : ∀ r, own_pr m (fun _ => 0) 0 r = (0, 0) := by
        intro r
        induction r with
        | zero => rfl
        | succ r ih =>
          have t0 : own_T m 0 = 0 := by
            have := own_T_x m 0 0
            rw [Int32.xor_self, Int32.xor_self] at this
            exact this
          rw [own_pr, ih]
          show ((0 : Int32), ((0 : Int32) ^^^ 0) ^^^ own_T m 0) = (0, 0)
          rw [t0]
          rfl
      show (own_pr m (fun _ => 0) 0 R).2 = 0
      rw [z R]) (by
      intro x y hx hy px py
      have px' : (own_pr m (fun _ => 0) (Int32.ofNat x) R).2 = 0 := of_decide_eq_true px
      have py' : (own_pr m (fun _ => 0) (Int32.ofNat y) R).2 = 0 := of_decide_eq_true py
      apply decide_eq_true
      rw [own_onx (by omega) (by omega), (own_B_x m _ _ R).2, px', py']
      rfl)
    refine ⟨j, by omega, ?_⟩
    rw [← hc, ← own_cnt_x k (fun x => decide ((own_pr m (fun _ => 0) (Int32.ofNat x) R).2 = 0)) x0 hx0]
    apply own_cnt_same
    intro x hx
    show decide _ = decide _
    rw [(own_P_lin m rw (Int32.ofNat x) R).2, own_onx (by omega) (by omega), (own_B_x m _ _ R).2]
    rw [(own_P_lin m rw (Int32.ofNat x0) R).2] at h0'
    generalize (own_pr m rw 0 R).2 = A at *
    generalize (own_pr m (fun _ => 0) (Int32.ofNat x) R).2 = b at *
    generalize (own_pr m (fun _ => 0) (Int32.ofNat x0) R).2 = c at *
    have eA : A = c := by
      have := congrArg (fun t => t ^^^ c) h0'
      simp only [Int32.zero_xor] at this
      rw [Int32.xor_assoc, Int32.xor_self, Int32.xor_zero] at this
      exact this
    rw [eA, Int32.xor_comm c b]
  · left
    omega
/-! The chase, exactly -/
def own_m (C : Int32) : Int32 := ((1 : Int32) <<< (C &&& 31)) - (1 : Int32)
def own_row (L : Int64) (C : Int32) (n : Nat) : Int32 := ((XT.ushrL L (Int32.ofNat n * C)) &&& (own_m C).toInt64).toInt32
theorem own_of {q : Int32} (h0 : 0 ≤ q.toInt) : Int32.ofNat q.toInt.toNat = q := by
  have := irng q
  rw [ieq, Int32.toInt_ofNat_of_lt (by omega)]
  omega
theorem own_ldX {R C : Int32} (hd : own_dim R C) (L M : Int64) : ∀ (n : Nat) (cur : List Int32) (i : Int32), cur.length = 8 → 0 ≤ i.toInt → i.toInt ≤ 8 → 8 - i.toInt < n → Tot (f_loadRows_8 R C L n cur M i) (fun r => r.length = 8 ∧ ∀ j : Int32, 0 ≤ j.toInt → j.toInt < R.toInt → gI r j = if j.toInt < i.toInt then gI cur j else ((XT.ushrL L (j * C)) &&& M).toInt32) := by
  have hb := hd.b
  intro n
  induction n with
  | zero => intro cur i h0 h1 h2 h3; exfalso; omega
  | succ n ih =>
    intro cur i h0 h1 h2 h3
    unfold f_loadRows_8
    refine Tot.ite (fun g => ?_) (fun g => Tot.mk ⟨h0, fun j j0 j1 => ?_⟩)
    · have g' := ilt.mp g
      have ei : (i + 1).toInt = i.toInt + 1 := by clear ih; ((try simp only [ilt, ile, ieq, iadd_e, isub_e, imul_e, Int32.reduceToInt] at *) <;> omega)
      refine Tot.wr h1 (by omega) (fun A q1 q2 => ?_)
      refine Tot.mono (ih A (i + 1) (by omega) (by omega) (by omega) (by omega)) ?_
      rintro r ⟨r1, r2⟩
      refine ⟨r1, fun j j0 j1 => ?_⟩
      rw [r2 j j0 j1, q1, gset h1 (by omega) j0]
      by_cases e : i = j
      · subst e
        rw [if_pos (by omega), if_pos rfl, if_neg (by omega)]
      · have e' : ¬ i.toInt = j.toInt := fun h => e (ieq.mpr h)
        rw [if_neg e]
        by_cases l : j.toInt < i.toInt
        · rw [if_pos (by omega), if_pos l]
        · rw [if_neg (by omega), if_neg l]
    · rw [ilt] at g
      rw [if_pos (by omega)]
theorem own_arpX {R C : Int32} (hd : own_dim R C) (cur : List Int32) (i v : Int32) (hc : cur.length = 8) (h0 : 0 ≤ i.toInt) (h1 : i.toInt < R.toInt) : Tot (f_applyRowPress R C cur i v) (fun r => r.length = 8 ∧ gI r i = gI cur i ^^^ own_T (own_m C) v ∧ ∀ j : Int32, i.toInt < j.toInt → j.toInt < R.toInt → gI r j = if j.toInt = i.toInt + 1 then gI cur j ^^^ v else gI cur j) := by
  have hb := hd.b
  have ei : (i + 1).toInt = i.toInt + 1 := by ((try simp only [ilt, ile, ieq, iadd_e, isub_e, imul_e, Int32.reduceToInt] at *) <;> omega)
  have e41 : ∀ A : List Int32, A.length = 8 → Tot (f_applyRowPress_41 R C A i v) (fun r => r.length = 8 ∧ gI r i = gI A i ∧ ∀ j : Int32, i.toInt < j.toInt → j.toInt < R.toInt → gI r j = if j.toInt = i.toInt + 1 then gI A j ^^^ v else gI A j) := by
    intro A hA
    unfold f_applyRowPress_41
    refine Tot.ite (fun g => ?_) (fun g => Tot.mk ⟨hA, rfl, fun j j0 j1 => ?_⟩)
    · have g' := ilt.mp g
      refine Tot.rdI (by omega) (by omega) (Tot.wr (by omega) (by omega) (fun B q1 q2 => Tot.mk ⟨by omega, ?_, fun j j0 j1 => ?_⟩))
      · rw [q1, gset (by omega) (by omega) h0, if_neg (by rw [ieq]; omega)]
      · rw [q1, gset (by omega) (by omega) (by omega)]
        by_cases e : i + 1 = j
        · rw [if_pos e, if_pos (by rw [← e]; omega), e]
        · rw [if_neg e, if_neg (by rw [ieq] at e; omega)]
    · rw [ilt] at g
      rw [if_neg (by omega)]
  have hx41 : ∀ A : List Int32, A.length = 8 → gI A i = gI cur i ^^^ own_T (own_m C) v → (∀ j : Int32, i.toInt < j.toInt → j.toInt < R.toInt → gI A j = gI cur j) → Tot (f_applyRowPress_41 R C A i v) (fun r => r.length = 8 ∧ gI r i = gI cur i ^^^ own_T (own_m C) v ∧ ∀ j : Int32, i.toInt < j.toInt → j.toInt < R.toInt → gI r j = if j.toInt = i.toInt + 1 then gI cur j ^^^ v else gI cur j) := by
    intro A a1 a2 a3
    refine Tot.mono (e41 A a1) ?_
    rintro r ⟨r1, r2, r3⟩
    refine ⟨r1, by rw [r2, a2], fun j j0 j1 => ?_⟩
    rw [r3 j j0 j1, a3 j j0 j1]
  unfold f_applyRowPress f_rowMask
  rw [Option.bind_some]
  refine Tot.rdI h0 (by omega) (Tot.wr h0 (by omega) (fun A q1 q2 => ?_))
  have a2 : gI A i = gI cur i ^^^ own_T (own_m C) v := by rw [q1, gset h0 (by omega) h0, if_pos rfl]; rfl
  have a3 : ∀ j : Int32, i.toInt < j.toInt → j.toInt < R.toInt → gI A j = gI cur j := by
    intro j j0 j1
    rw [q1, gset h0 (by omega) (by omega), if_neg (by rw [ieq]; omega)]
  refine Tot.ite (fun g => ?_) (fun g => hx41 A (by omega) a2 a3)
  have g' : 0 < i.toInt := ilt.mp g
  have em : (i - 1).toInt = i.toInt - 1 := by clear e41 hx41 a2 a3 q1; ((try simp only [ilt, ile, ieq, iadd_e, isub_e, imul_e, Int32.reduceToInt] at *) <;> omega)
  refine Tot.rdI (by omega) (by omega) (Tot.wr (by omega) (by omega) (fun B q3 q4 => hx41 B (by omega) ?_ (fun j j0 j1 => ?_)))
  · rw [q3, gset (by omega) (by omega) h0, if_neg (by rw [ieq]; omega), a2]
  · rw [q3, gset (by omega) (by omega) (by omega), if_neg (by rw [ieq]; omega), a3 j j0 j1]
theorem own_chX {R C : Int32} (hd : own_dim R C) (L : Int64) (rw : Nat → Int32) (x : Int32) : ∀ (n : Nat) (cur prs : List Int32) (v i : Int32) (r : Nat), cur.length = 8 → prs.length = 8 → i.toInt = r → r ≤ R.toInt.toNat → 8 - r < n →
    v = (own_pr (own_m C) rw x r).2 → (i.toInt < R.toInt → gI cur i = rw r ^^^ (own_pr (own_m C) rw x r).1) → (∀ j : Int32, i.toInt < j.toInt → j.toInt < R.toInt → gI cur j = rw j.toInt.toNat) → (0 < i.toInt → gI cur (i - 1) = v) → (∀ j : Int32, 0 ≤ j.toInt → j.toInt < i.toInt → gI prs j = (own_pr (own_m C) rw x j.toInt.toNat).2) →
    Tot (f_chase_8 (f_chase_42 R C L) R C L n cur prs v i) (fun t => t.2.1.length = 8 ∧ t.2.2.length = 8 ∧ t.1 = (if (own_pr (own_m C) rw x R.toInt.toNat).2 = 0 then 1 else 0) ∧ ∀ j : Int32, 0 ≤ j.toInt → j.toInt < R.toInt → gI t.2.2 j = (own_pr (own_m C) rw x j.toInt.toNat).2) := by
  have ha := hd.a
  have hb := hd.b
  intro n
  induction n with
  | zero => intro cur prs v i r h0 h1 h2 h3 h4; exfalso; omega
  | succ n ih =>
    intro cur prs v i r h0 h1 h2 h3 h4 hv hc hr hl hp
    unfold f_chase_8
    refine Tot.ite (fun g => ?_) (fun g => ?_)
    · have g' := ilt.mp g
      have ei : (i + 1).toInt = i.toInt + 1 := by clear ih hc hr hl hp hv; ((try simp only [ilt, ile, ieq, iadd_e, isub_e, imul_e, Int32.reduceToInt] at *) <;> omega)
      refine Tot.wr (by omega) (by omega) (fun A q1 q2 => Tot.bind (own_arpX hd cur i v h0 (by omega) g') (fun B hB => Tot.rdI (by omega) (by omega) ?_))
      obtain ⟨b1, b2, b3⟩ := hB
      have es : i + 1 - 1 = i := by clear ih hc hr hl hp hv b2 b3 q1; ((try simp only [ilt, ile, ieq, iadd_e, isub_e, imul_e, Int32.reduceToInt] at *) <;> omega)
      have nx : gI B i = (own_pr (own_m C) rw x (r + 1)).2 := by
        rw [b2, hc g', hv]
        rfl
      refine ih B A _ (i + 1) (r + 1) b1 (by omega) (by omega) (by omega) (by omega) nx (fun l => ?_) (fun j j0 j1 => ?_) (fun _ => ?_) (fun j j0 j1 => ?_)
      · rw [b3 (i + 1) (by omega) l, if_pos (by omega), hr (i + 1) (by omega) l, hv, show (i + 1).toInt.toNat = r + 1 by omega]
        rfl
      · rw [b3 j (by omega) j1, if_neg (by omega), hr j (by omega) j1]
      · rw [es]
      · rw [q1, gset (by omega) (by omega) j0]
        by_cases e : i = j
        · rw [if_pos e, hv, ← e, h2]
          rfl
        · rw [if_neg e]
          exact hp j j0 (by rw [ieq] at e; omega)
    · rw [ilt] at g
      unfold f_chase_42
      have er : (R - 1).toInt = R.toInt - 1 := by clear ih hc hr hl hp hv; ((try simp only [ilt, ile, ieq, iadd_e, isub_e, imul_e, Int32.reduceToInt] at *) <;> omega)
      have eR : i = R := by rw [ieq]; omega
      refine Tot.rdI (by omega) (by omega) (Tot.mk ⟨h0, h1, ?_, fun j j0 j1 => hp j j0 (by omega)⟩)
      have := hl (by omega)
      rw [eR] at this
      show (if gI cur (R - 1) = 0 then (1 : Int32) else 0) = _
      rw [this, hv, show r = R.toInt.toNat by omega]
theorem own_chaseX {R C : Int32} (hd : own_dim R C) (L : Int64) (cur prs : List Int32) (x : Int32) (h0 : cur.length = 8) (h1 : prs.length = 8) : Tot (f_chase R C L cur prs x) (fun t => t.2.1.length = 8 ∧ t.2.2.length = 8 ∧ t.1 = (if (own_pr (own_m C) (own_row L C) x R.toInt.toNat).2 = 0 then 1 else 0) ∧ ∀ j : Int32, 0 ≤ j.toInt → j.toInt < R.toInt → gI t.2.2 j = (own_pr (own_m C) (own_row L C) x j.toInt.toNat).2) := by
  have ha := hd.a
  have hb := hd.b
  unfold f_chase f_loadRows f_rowMask
  rw [Option.bind_some]
  refine Tot.bind (own_ldX hd L _ 100000 cur 0 h0 (by decide) (by decide) (by decide)) (fun A hA => ?_)
  obtain ⟨a1, a2⟩ := hA
  have rows : ∀ j : Int32, 0 ≤ j.toInt → j.toInt < R.toInt → gI A j = own_row L C j.toInt.toNat := by
    intro j j0 j1
    rw [a2 j j0 j1, if_neg (by have : (0 : Int32).toInt = 0 := rfl; omega)]
    unfold own_row
    rw [own_of j0]
    rfl
  have z : (0 : Int32).toInt = 0 := rfl
  refine own_chX hd L (own_row L C) x 100000 A prs x 0 0 a1 h1 rfl (by omega) (by omega) rfl (fun _ => ?_) (fun j j0 j1 => rows j (by omega) j1) (fun h => by omega) (fun j j0 j1 => by omega)
  rw [rows 0 (by omega) (by omega)]
  exact (Int32.xor_zero).symm
/-! no bits beyond the row -/
theorem own_mm {R C : Int32} (hd : own_dim R C) : 0 ≤ (own_m C).toInt ∧ (own_m C).toInt = 2 ^ C.toInt.toNat - 1 ∧ ((1 : Int32) <<< (C &&& 31)).toInt = 2 ^ C.toInt.toNat := by
  have hc := hd.c
  have hb := hd.d
  have k : C = 1 ∨ C = 2 ∨ C = 3 ∨ C = 4 ∨ C = 5 ∨ C = 6 ∨ C = 7 ∨ C = 8 := by
    simp only [ieq, Int32.reduceToInt]
    omega
  rcases k with rfl | rfl | rfl | rfl | rfl | rfl | rfl | rfl <;> decide
theorem own_ax (a b m : Int32) : (a ^^^ b) &&& m = (a &&& m) ^^^ (b &&& m) := by
  apply Int32.toBitVec_inj.mp
  apply BitVec.eq_of_getLsbD_eq
  intro i hi
  rw [Int32.toBitVec_xor, BitVec.getLsbD_xor, Int32.toBitVec_and, Int32.toBitVec_and, Int32.toBitVec_and, Int32.toBitVec_xor, BitVec.getLsbD_and, BitVec.getLsbD_and, BitVec.getLsbD_and, BitVec.getLsbD_xor]
  cases a.toBitVec.getLsbD i <;> cases b.toBitVec.getLsbD i <;> cases m.toBitVec.getLsbD i <;> rfl
theorem own_aa (a m : Int32) : (a &&& m) &&& m = a &&& m := by rw [Int32.and_assoc, Int32.and_self]
theorem own_row_m (L : Int64) (C : Int32) (n : Nat) : own_row L C n &&& own_m C = own_row L C n := by
  have e : ∀ m : Int32, m.toInt64.toInt32 = m := fun m => Int32.toInt32_toInt64 m
  unfold own_row
  rw [Int64.toInt32_and, e, own_aa]
theorem own_P_m (C : Int32) (L : Int64) (x : Int32) (hx : x &&& own_m C = x) : ∀ r, (own_pr (own_m C) (own_row L C) x r).1 &&& own_m C = (own_pr (own_m C) (own_row L C) x r).1 ∧ (own_pr (own_m C) (own_row L C) x r).2 &&& own_m C = (own_pr (own_m C) (own_row L C) x r).2 := by
  intro r
  induction r with
  | zero => exact ⟨Int32.zero_and, hx⟩
  | succ r ih =>
    refine ⟨ih.2, ?_⟩
    show ((own_row L C r ^^^ (own_pr (own_m C) (own_row L C) x r).1) ^^^ own_T (own_m C) (own_pr (own_m C) (own_row L C) x r).2) &&& own_m C = _
    rw [own_ax, own_ax, own_row_m, ih.1]
    have t : own_T (own_m C) (own_pr (own_m C) (own_row L C) x r).2 &&& own_m C = own_T (own_m C) (own_pr (own_m C) (own_row L C) x r).2 := own_aa _ _
    rw [t]
    rfl
theorem own_xm : ∀ k : Fin 9, 1 ≤ k.val → ∀ x : Fin 256, x.val < 2 ^ k.val → Int32.ofNat x.val &&& own_m (Int32.ofNat k.val) = Int32.ofNat x.val := by decide +kernel
theorem own_sh63 : ∀ k : Fin 64, (((Int32.ofNat k.val).toInt64 &&& 63).toBitVec.smod 64).toNat = k.val := by decide +kernel
theorem own_g_shl (p : Int64) (s : Int32) (h0 : 0 ≤ s.toInt) (h1 : s.toInt < 64) (n : Nat) : own_g (p <<< (s.toInt64 &&& 63)) n = (decide (n < 64) && !decide (n < s.toInt.toNat) && own_g p (n - s.toInt.toNat)) := by
  have k := own_sh63 ⟨s.toInt.toNat, by omega⟩
  simp only [own_of h0] at k
  unfold own_g
  rw [Int64.toBitVec_shiftLeft, BitVec.shiftLeft_eq', k, BitVec.getLsbD_shiftLeft]
theorem own_g_out (v : Int64) {n : Nat} (h : 64 ≤ n) : own_g v n = false := BitVec.getLsbD_of_ge _ _ h
theorem own_g_or (a b : Int64) (n : Nat) : own_g (a ||| b) n = (own_g a n || own_g b n) := by
  unfold own_g
  rw [Int64.toBitVec_or, BitVec.getLsbD_or]
theorem own_g_low {R C : Int32} (hd : own_dim R C) (p : Int32) (hp : p &&& own_m C = p) {n : Nat} (hn : C.toInt.toNat ≤ n) : own_g p.toInt64 n = false := by
  obtain ⟨m0, m1, _⟩ := own_mm hd
  have hr := iand_rng p (own_m C) m0
  rw [hp, m1] at hr
  have e : p.toInt64.toBitVec.toNat = p.toInt.toNat := by
    have q : p.toInt64.toInt = p.toInt := Int32.toInt_toInt64 p
    have q2 : p.toInt64.toInt = p.toInt64.toBitVec.toInt := rfl
    have h := irng p
    rw [q2, BitVec.toInt_eq_toNat_cond] at q
    have hl : p.toInt64.toBitVec.toNat < 2 ^ 64 := p.toInt64.toBitVec.isLt
    split at q <;> omega
  unfold own_g
  show Nat.testBit _ _ = _
  rw [e]
  apply Nat.testBit_lt_two_pow
  have : 2 ^ C.toInt.toNat ≤ 2 ^ n := Nat.pow_le_pow_right (by omega) hn
  have c : ((2 ^ C.toInt.toNat : Nat) : Int) = 2 ^ C.toInt.toNat := by rw [Int.natCast_pow]; rfl
  omega
theorem own_pkX {R C : Int32} (hd : own_dim R C) (prs : List Int32) (hp : prs.length = 8) (hm : ∀ j : Int32, 0 ≤ j.toInt → j.toInt < R.toInt → gI prs j &&& own_m C = gI prs j) : ∀ (n : Nat) (v : Int64) (i : Int32), 0 ≤ i.toInt → i.toInt ≤ R.toInt → 8 - i.toInt < n → (∀ b, (i.toInt * C.toInt).toNat ≤ b → own_g v b = false) → Tot (f_packPresses_4 prs R C n v i) (fun w => ∀ b, (R.toInt * C.toInt).toNat ≤ b → own_g w b = false) := by
  have hb := hd.b
  have hc := hd.c
  have hc8 := hd.d
  intro n
  induction n with
  | zero => intro v i h0 h1 h2; exfalso; omega
  | succ n ih =>
    intro v i h0 h1 h2 h3
    unfold f_packPresses_4
    refine Tot.ite (fun g => ?_) (fun g => Tot.mk ?_)
    · have g' := ilt.mp g
      have ei : (i + 1).toInt = i.toInt + 1 := by clear ih h3 hm; ((try simp only [ilt, ile, ieq, iadd_e, isub_e, imul_e, Int32.reduceToInt] at *) <;> omega)
      have mb := mulb (M := 7) (a := i.toInt) (b := C.toInt - 1) (by omega) (by omega) (by omega) (by omega)
      have mb2 := Int.mul_sub i.toInt C.toInt 1
      have em : (i * C).toInt = i.toInt * C.toInt := imul_i (by omega) (by omega)
      have ea : (i.toInt + 1) * C.toInt = i.toInt * C.toInt + C.toInt := by rw [Int.add_mul, Int.one_mul]
      have nn : 0 ≤ i.toInt * C.toInt := Int.mul_nonneg (by omega) (by omega)
      refine Tot.rdI h0 (by omega) (ih _ (i + 1) (by omega) (by omega) (by omega) (fun b hb' => ?_))
      rw [ei, ea] at hb'
      rw [own_g_or, h3 b (by omega), own_g_shl _ _ (by omega) (by omega), em, own_g_low hd _ (hm i h0 g') (show C.toInt.toNat ≤ b - (i.toInt * C.toInt).toNat by omega)]
      simp
    · rw [ilt] at g
      have : i.toInt = R.toInt := by omega
      rw [this] at h3
      exact h3
/-! solve, exactly enough -/
abbrev own_S (R C st : Int32) (ss : Int64) (sz sc : Int32) : Prop := (sz = Int32.ofNat (own_cnt (own_g ss) 64)) ∧ (∀ n, (R.toInt * C.toInt).toNat ≤ n → own_g ss n = false) ∧ (∃ j, j ≤ 8 ∧ sc = Int32.ofNat (2 ^ j))
theorem own_S.a {R C st : Int32} {ss : Int64} {sz sc : Int32} (self : own_S R C st ss sz sc) : sz = Int32.ofNat (own_cnt (own_g ss) 64) := self.1
theorem own_S.b {R C st : Int32} {ss : Int64} {sz sc : Int32} (self : own_S R C st ss sz sc) : ∀ n, (R.toInt * C.toInt).toNat ≤ n → own_g ss n = false := self.2.1
theorem own_S.c {R C st : Int32} {ss : Int64} {sz sc : Int32} (self : own_S R C st ss sz sc) : ∃ j, j ≤ 8 ∧ sc = Int32.ofNat (2 ^ j) := self.2.2
def own_succ (R C : Int32) (L : Int64) (x : Nat) : Bool := decide ((own_pr (own_m C) (own_row L C) (Int32.ofNat x) R.toInt.toNat).2 = 0)
theorem own_so18X {R C : Int32} (hd : own_dim R C) (L : Int64) (w : Int32) (hw : w.toInt = 2 ^ C.toInt.toNat) (hw2 : w.toInt ≤ 256) : ∀ (n : Nat) (cur prs : List Int32) (st : Int32) (ss : Int64) (sz sc v1 v2 : Int32) (v3 : Int64) (i : Int32) (k : Nat), cur.length = 8 → prs.length = 8 → i.toInt = k → i.toInt ≤ w.toInt → 256 - k < n →
    v1 = Int32.ofNat (own_cnt (own_succ R C L) k) →
    ((own_cnt (own_succ R C L) k = 0 ∧ v2 = 65) ∨ (1 ≤ own_cnt (own_succ R C L) k ∧ v2 = Int32.ofNat (own_cnt (own_g v3) 64) ∧ ∀ b, (R.toInt * C.toInt).toNat ≤ b → own_g v3 b = false)) →
    Tot (f_solve_18 (f_solve_86 R C L) R C L n cur prs st ss sz sc v1 v2 v3 w i) (fun r => r.2.1.length = 8 ∧ r.2.2.1.length = 8 ∧ (r.2.2.2.1 = 2 ∨ (r.2.2.2.1 = 1 ∧ own_S R C r.2.2.2.1 r.2.2.2.2.1 r.2.2.2.2.2.1 r.2.2.2.2.2.2))) := by
  have hc1 := hd.c
  have hc8 := hd.d
  have hr1 := hd.a
  intro n
  induction n with
  | zero => intro cur prs st ss sz sc v1 v2 v3 i k h0 h1 h2 h3 h4; exfalso; omega
  | succ n ih =>
    intro cur prs st ss sz sc v1 v2 v3 i k h0 h1 h2 h3 h4 hv hx
    have ck := own_cnt_le (own_succ R C L) k
    unfold f_solve_18
    refine Tot.ite (fun g => ?_) (fun g => ?_)
    · have g' := ilt.mp g
      have ei : (i + 1).toInt = i.toInt + 1 := by clear ih hv hx; ((try simp only [ilt, ile, ieq, iadd_e, isub_e, imul_e, Int32.reduceToInt] at *) <;> omega)
      have eo : Int32.ofNat k = i := by rw [← own_of (show 0 ≤ i.toInt by omega), h2]; rfl
      have e1 : own_cnt (own_succ R C L) (k + 1) = own_cnt (own_succ R C L) k + (if own_succ R C L k then 1 else 0) := rfl
      have ev1 : Int32.ofNat (own_cnt (own_succ R C L) k) + 1 = Int32.ofNat (own_cnt (own_succ R C L) k + 1) := by
        rw [ieq, iadd_e, Int32.toInt_ofNat_of_lt (by omega), Int32.toInt_ofNat_of_lt (by omega)]
        have : (1 : Int32).toInt = 1 := rfl
        omega
      refine Tot.bind (own_chaseX hd L cur prs i h0 h1) ?_
      rintro ⟨r, A, B⟩ ⟨hA, hB, hr, hp⟩
      simp only at hA hB hr hp
      have hr' : r = if own_succ R C L k then 1 else 0 := by
        rw [hr]
        unfold own_succ
        rw [eo]
        by_cases z : (own_pr (own_m C) (own_row L C) i R.toInt.toNat).2 = 0
        · rw [if_pos z, decide_eq_true z]; rfl
        · rw [if_neg z, decide_eq_false z]; rfl
      refine Tot.ite (fun g2 => ?_) (fun g2 => ?_)
      · have s0 : own_succ R C L k = false := by
          cases q : own_succ R C L k with
          | false => rfl
          | true => exfalso; rw [q] at hr'; rw [hr'] at g2; exact absurd g2 (by decide)
        have e2 : own_cnt (own_succ R C L) (k + 1) = own_cnt (own_succ R C L) k := by rw [e1, s0]; rfl
        exact ih A B st ss sz sc _ _ _ (i + 1) (k + 1) hA hB (by omega) (by omega) (by omega) (by rw [e2]; exact hv) (by rw [e2]; exact hx)
      · have s1 : own_succ R C L k = true := by
          cases q : own_succ R C L k with
          | true => rfl
          | false => exfalso; rw [q] at hr'; exact g2 hr'
        have e2 : own_cnt (own_succ R C L) (k + 1) = own_cnt (own_succ R C L) k + 1 := by rw [e1, s1]; rfl
        have hxm : i &&& own_m C = i := by
          have := own_xm ⟨C.toInt.toNat, by omega⟩ (by show 1 ≤ C.toInt.toNat; omega) ⟨k, by omega⟩ (by
            show k < 2 ^ C.toInt.toNat
            have c : ((2 ^ C.toInt.toNat : Nat) : Int) = 2 ^ C.toInt.toNat := by rw [Int.natCast_pow]; rfl
            omega)
          simp only [own_of (show 0 ≤ C.toInt by omega)] at this
          rw [eo] at this
          exact this
        unfold f_packPresses
        refine Tot.bind (own_pkX hd B hB (fun j j0 j1 => by rw [hp j j0 j1]; exact (own_P_m C L i hxm _).2) 100000 0 0 (by decide) (by have : (0 : Int32).toInt = 0 := rfl; omega) (by decide) (fun b _ => by unfold own_g; exact BitVec.getLsbD_zero)) (fun x hxx => ?_)
        rw [own_popX, Option.bind_some]
        have cx := own_cnt_le (own_g x) 64
        have tx : (Int32.ofNat (own_cnt (own_g x) 64)).toInt = own_cnt (own_g x) 64 := Int32.toInt_ofNat_of_lt (by omega)
        have hv' : v1 + 1 = Int32.ofNat (own_cnt (own_succ R C L) (k + 1)) := by rw [e2, hv, ev1]
        have e65 : (65 : Int32).toInt = 65 := rfl
        refine Tot.ite (fun g3 => ?_) (fun g3 => ?_)
        · exact ih A B st ss sz sc _ _ _ (i + 1) (k + 1) hA hB (by omega) (by omega) (by omega) hv' (Or.inr ⟨by omega, rfl, hxx⟩)
        · have keep : 1 ≤ own_cnt (own_succ R C L) k ∧ v2 = Int32.ofNat (own_cnt (own_g v3) 64) ∧ ∀ b, (R.toInt * C.toInt).toNat ≤ b → own_g v3 b = false := by
            rcases hx with ⟨_, q⟩ | q
            · exfalso
              rw [q, ilt] at g3
              omega
            · exact q
          refine Tot.ite (fun g4 => ?_) (fun g4 => ?_)
          · unfold f_unsignedLess
            rw [Option.bind_some]
            generalize (if (x ^^^ (-9223372036854775808 : Int64)) < (v3 ^^^ (-9223372036854775808 : Int64)) then (1 : Int32) else (0 : Int32)) = u
            by_cases hu : u = 0
            · rw [if_pos hu, if_pos hu]
              exact ih A B st ss sz sc _ _ _ (i + 1) (k + 1) hA hB (by omega) (by omega) (by omega) hv' (Or.inr ⟨by omega, keep.2⟩)
            · rw [if_neg hu, if_neg hu]
              exact ih A B st ss sz sc _ _ _ (i + 1) (k + 1) hA hB (by omega) (by omega) (by omega) hv' (Or.inr ⟨by omega, rfl, hxx⟩)
          · exact ih A B st ss sz sc _ _ _ (i + 1) (k + 1) hA hB (by omega) (by omega) (by omega) hv' (Or.inr ⟨by omega, keep.2⟩)
    · rw [ilt] at g
      have ek : k = 2 ^ C.toInt.toNat := by
        have c : ((2 ^ C.toInt.toNat : Nat) : Int) = 2 ^ C.toInt.toNat := by rw [Int.natCast_pow]; rfl
        omega
      unfold f_solve_86
      have cs := own_sols (own_m C) (own_row L C) R.toInt.toNat C.toInt.toNat (by omega)
      rw [← ek] at cs
      have tz : (Int32.ofNat (own_cnt (own_succ R C L) k)).toInt = own_cnt (own_succ R C L) k := Int32.toInt_ofNat_of_lt (by omega)
      have z : (0 : Int32).toInt = 0 := rfl
      refine Tot.mk ⟨h0, h1, ?_⟩
      by_cases v0 : v1 = 0
      · left
        show (if v1 = 0 then (2 : Int32) else 1) = 2
        rw [if_pos v0]
      · right
        show (if v1 = 0 then (2 : Int32) else 1) = 1 ∧ own_S R C (if v1 = 0 then (2 : Int32) else 1) (if v1 = 0 then (0 : Int64) else v3) (if v1 = 0 then (0 : Int32) else v2) (if v1 = 0 then (0 : Int32) else v1)
        rw [if_neg v0, if_neg v0, if_neg v0, if_neg v0]
        rcases hx with ⟨q, _⟩ | ⟨q1, q2, q3⟩
        · exfalso
          apply v0
          rw [hv, q]
          rfl
        · refine ⟨rfl, q2, q3, ?_⟩
          rcases cs with q | ⟨j, hj, q⟩
          · exfalso
            have : own_cnt (own_succ R C L) k = 0 := q
            omega
          · exact ⟨j, hj, by rw [hv]; exact congrArg Int32.ofNat q⟩
theorem own_solveX {R C : Int32} (hd : own_dim R C) (L : Int64) (cur prs : List Int32) (st : Int32) (ss : Int64) (sz sc : Int32) (h0 : cur.length = 8) (h1 : prs.length = 8) : Tot (f_solve R C L cur prs st ss sz sc) (fun r => r.2.1.length = 8 ∧ r.2.2.1.length = 8 ∧ (r.2.2.2.1 = 2 ∨ (r.2.2.2.1 = 1 ∧ own_S R C r.2.2.2.1 r.2.2.2.2.1 r.2.2.2.2.2.1 r.2.2.2.2.2.2))) := by
  unfold f_solve
  obtain ⟨m0, m1, m2⟩ := own_mm hd
  have z : (0 : Int32).toInt = 0 := rfl
  exact own_so18X hd L _ m2 (own_cols hd) 100000 cur prs st ss sz sc 0 65 0 0 0 h0 h1 rfl (by rw [m2, z]; exact Int.le_of_lt (Int.pow_pos (by decide))) (by omega) rfl (Or.inl ⟨rfl, rfl⟩)
/-! what the law counts -/
theorem own_g_and (a b : Int64) (n : Nat) : own_g (a &&& b) n = (own_g a n && own_g b n) := by
  unfold own_g
  rw [Int64.toBitVec_and, BitVec.getLsbD_and]
theorem own_g_z {a : Int64} (h : ∀ n, own_g a n = false) : a = 0 := by
  apply Int64.toBitVec_inj.mp
  apply BitVec.eq_of_getLsbD_eq
  intro i hi
  have := h i
  unfold own_g at this
  rw [this]
  exact BitVec.getLsbD_zero.symm
theorem own_g_1 (n : Nat) : own_g 1 n = decide (n = 0) := by
  unfold own_g
  show (1#64).getLsbD n = _
  rw [BitVec.getLsbD_one]
  simp
theorem own_tst (ss : Int64) (s : Int32) (h0 : 0 ≤ s.toInt) (h1 : s.toInt < 64) : ((ss &&& ((1 : Int64) <<< (s.toInt64 &&& 63))) = 0) ↔ own_g ss s.toInt.toNat = false := by
  constructor
  · intro h
    have := congrArg (fun t => own_g t s.toInt.toNat) h
    simp only [own_g_and, own_g_shl _ _ h0 h1, own_g_1] at this
    have z : own_g 0 s.toInt.toNat = false := by unfold own_g; exact BitVec.getLsbD_zero
    rw [z] at this
    have l : s.toInt.toNat < 64 := by omega
    rw [decide_eq_true l, Nat.sub_self, decide_eq_false (Nat.lt_irrefl _), decide_eq_true rfl] at this
    rw [← this]
    cases own_g ss s.toInt.toNat <;> rfl
  · intro h
    apply own_g_z
    intro n
    rw [own_g_and, own_g_shl _ _ h0 h1, own_g_1]
    by_cases e : n = s.toInt.toNat
    · rw [e, h, Bool.false_and]
    · by_cases l : n < s.toInt.toNat
      · rw [decide_eq_true l, Bool.not_true, Bool.and_false, Bool.false_and, Bool.and_false]
      · have : ¬ (n - s.toInt.toNat = 0) := by omega
        rw [decide_eq_false this, Bool.and_false, Bool.and_false]
theorem own_i12 {R C : Int32} (hd : own_dim R C) (ss : Int64) (k4 : Int32 → Int32 → Option Int32) (v2 : Int32) (h0 : 0 ≤ v2.toInt) (h1 : v2.toInt < R.toInt) : ∀ (n : Nat) (v1 v3 : Int32) (c : Nat), v3.toInt = c → c ≤ 8 → 8 - c < n → v1 = Int32.ofNat (own_cnt (own_g ss) ((v2.toInt * C.toInt).toNat + min c C.toInt.toNat)) → f_L_countIn_12 k4 R C 1 ss n v1 v2 v3 = k4 (Int32.ofNat (own_cnt (own_g ss) ((v2.toInt * C.toInt).toNat + C.toInt.toNat))) (v2 + 1) := by
  have hb := hd.b
  have hc := hd.c
  have hc8 := hd.d
  have z : (0 : Int32).toInt = 0 := rfl
  have e8 : (8 : Int32).toInt = 8 := rfl
  have mb := mulb (M := 7) (a := v2.toInt) (b := C.toInt - 1) (by omega) (by omega) (by omega) (by omega)
  have mb2 := Int.mul_sub v2.toInt C.toInt 1
  have em : (v2 * C).toInt = v2.toInt * C.toInt := imul_i (by omega) (by omega)
  have nn : 0 ≤ v2.toInt * C.toInt := Int.mul_nonneg (by omega) (by omega)
  intro n
  induction n with
  | zero => intro v1 v3 c h2 h3 h4; exfalso; omega
  | succ n ih =>
    intro v1 v3 c h2 h3 h4 hv
    unfold f_L_countIn_12
    by_cases g : v3 < 8
    · have g' := ilt.mp g
      have ei : (v3 + 1).toInt = v3.toInt + 1 := by clear ih hv mb mb2 em nn; ((try simp only [ilt, ile, ieq, iadd_e, isub_e, imul_e, Int32.reduceToInt] at *) <;> omega)
      rw [if_pos g]
      by_cases l : c < C.toInt.toNat
      · have ob : f_onBoard R C v2 v3 = some 1 := by
          unfold f_onBoard
          rw [if_neg (by rw [ilt]; omega), if_pos (by rw [ilt]; omega), if_neg (by rw [ilt]; omega), if_pos (by rw [ilt]; omega)]
        have es : (v2 * C + v3).toInt = v2.toInt * C.toInt + v3.toInt := by rw [iadd_i (by omega) (by omega), em]
        have q : f_inSolution R C 1 ss v2 v3 = some (if own_g ss ((v2.toInt * C.toInt).toNat + c) then 1 else 0) := by
          unfold f_inSolution f_bit
          rw [if_pos rfl, ob, Option.bind_some, if_neg (by decide), Option.bind_some]
          have t := own_tst ss (v2 * C + v3) (by omega) (by omega)
          rw [show (v2 * C + v3).toInt.toNat = (v2.toInt * C.toInt).toNat + c by omega] at t
          cases q : own_g ss ((v2.toInt * C.toInt).toNat + c) with
          | false => rw [if_pos (t.mpr q)]; rfl
          | true => rw [if_neg (fun h => by rw [t.mp h] at q; cases q)]; rfl
        rw [q, Option.bind_some]
        refine ih _ _ (c + 1) (by omega) (by omega) (by omega) ?_
        rw [show min (c + 1) C.toInt.toNat = c + 1 by omega, ← Nat.add_assoc, own_cnt, hv, show min c C.toInt.toNat = c by omega]
        have cl := own_cnt_le (own_g ss) ((v2.toInt * C.toInt).toNat + c)
        cases own_g ss ((v2.toInt * C.toInt).toNat + c) with
        | false => rfl
        | true =>
          rw [if_pos rfl, if_pos rfl, if_neg (by decide), ieq, iadd_e, Int32.toInt_ofNat_of_lt (by omega), Int32.toInt_ofNat_of_lt (by omega)]
          have : (1 : Int32).toInt = 1 := rfl
          omega
      · have ob : f_onBoard R C v2 v3 = some 0 := by
          unfold f_onBoard
          rw [if_neg (by rw [ilt]; omega), if_pos (by rw [ilt]; omega), if_neg (by rw [ilt]; omega), if_neg (by rw [ilt]; omega)]
        have q : f_inSolution R C 1 ss v2 v3 = some 0 := by
          unfold f_inSolution
          rw [if_pos rfl, ob, Option.bind_some, if_pos rfl]
        rw [q, Option.bind_some, if_pos rfl]
        refine ih _ _ (c + 1) (by omega) (by omega) (by omega) ?_
        rw [hv, show min (c + 1) C.toInt.toNat = min c C.toInt.toNat by omega]
    · rw [ilt] at g
      rw [if_neg (by rw [ilt]; omega), hv, show min c C.toInt.toNat = C.toInt.toNat by omega]
theorem own_i12z {R C st : Int32} (ss : Int64) (k4 : Int32 → Int32 → Option Int32) (v1 v2 : Int32) (h : ¬ st = 1 ∨ R.toInt ≤ v2.toInt) : ∀ (n : Nat) (v3 : Int32), 0 ≤ v3.toInt → v3.toInt ≤ 8 → 8 - v3.toInt < n → f_L_countIn_12 k4 R C st ss n v1 v2 v3 = k4 v1 (v2 + 1) := by
  have e8 : (8 : Int32).toInt = 8 := rfl
  have q : ∀ v3, f_inSolution R C st ss v2 v3 = some 0 := by
    intro v3
    unfold f_inSolution
    by_cases s : st = 1
    · have ob : f_onBoard R C v2 v3 = some 0 := by
        unfold f_onBoard
        by_cases n0 : v2 < 0
        · rw [if_pos n0]
        · rw [if_neg n0, if_neg (by rw [ilt]; rcases h with h | h; exact absurd s h; omega)]
      rw [if_pos s, ob, Option.bind_some, if_pos rfl]
    · rw [if_neg s]
  intro n
  induction n with
  | zero => intro v3 h0 h1 h2; exfalso; omega
  | succ n ih =>
    intro v3 h0 h1 h2
    unfold f_L_countIn_12
    by_cases g : v3 < 8
    · have g' := ilt.mp g
      have ei : (v3 + 1).toInt = v3.toInt + 1 := by clear ih q h; ((try simp only [ilt, ile, ieq, iadd_e, isub_e, imul_e, Int32.reduceToInt] at *) <;> omega)
      rw [if_pos g, q, Option.bind_some, if_pos rfl]
      exact ih _ (by omega) (by omega) (by omega)
    · rw [if_neg g]
theorem own_cin {R C : Int32} (hd : own_dim R C) (ss : Int64) : ∀ (n : Nat) (v1 v2 : Int32) (r : Nat), v2.toInt = r → r ≤ 8 → 8 - r < n → v1 = Int32.ofNat (own_cnt (own_g ss) (min r R.toInt.toNat * C.toInt.toNat)) → f_L_countIn_4 R C 1 ss n v1 v2 = some (Int32.ofNat (own_cnt (own_g ss) (R.toInt.toNat * C.toInt.toNat))) := by
  have ha := hd.a
  have hb := hd.b
  have hc := hd.c
  have hc8 := hd.d
  have e8 : (8 : Int32).toInt = 8 := rfl
  intro n
  induction n with
  | zero => intro v1 v2 r h2 h3 h4; exfalso; omega
  | succ n ih =>
    intro v1 v2 r h2 h3 h4 hv
    unfold f_L_countIn_4
    by_cases g : v2 < 8
    · have g' := ilt.mp g
      have ei : (v2 + 1).toInt = v2.toInt + 1 := by clear ih hv; ((try simp only [ilt, ile, ieq, iadd_e, isub_e, imul_e, Int32.reduceToInt] at *) <;> omega)
      rw [if_pos g]
      by_cases l : r < R.toInt.toNat
      · have et : (v2.toInt * C.toInt).toNat = r * C.toInt.toNat := by
          have : v2.toInt * C.toInt = ((r * C.toInt.toNat : Nat) : Int) := by rw [Int.natCast_mul, h2]; congr 1; omega
          omega
        rw [own_i12 hd ss _ v2 (by omega) (by omega) 100000 v1 0 0 rfl (by omega) (by omega) (by rw [hv, et, show min r R.toInt.toNat = r by omega, show min 0 C.toInt.toNat = 0 by omega, Nat.add_zero])]
        refine ih _ _ (r + 1) (by omega) (by omega) (by omega) ?_
        rw [et, show min (r + 1) R.toInt.toNat = r + 1 by omega, Nat.add_mul, Nat.one_mul]
      · rw [own_i12z ss _ v1 v2 (Or.inr (by omega)) 100000 0 (by decide) (by decide) (by decide)]
        refine ih _ _ (r + 1) (by omega) (by omega) (by omega) ?_
        rw [hv, show min (r + 1) R.toInt.toNat = min r R.toInt.toNat by omega]
    · rw [if_neg g, hv]
      rw [ilt] at g
      rw [show min r R.toInt.toNat = R.toInt.toNat by omega]
theorem own_cinz {R C st : Int32} (ss : Int64) (h : ¬ st = 1) : ∀ (n : Nat) (v1 v2 : Int32), 0 ≤ v2.toInt → v2.toInt ≤ 8 → 8 - v2.toInt < n → f_L_countIn_4 R C st ss n v1 v2 = some v1 := by
  intro n
  induction n with
  | zero => intro v1 v2 h0 h1 h2; exfalso; omega
  | succ n ih =>
    intro v1 v2 h0 h1 h2
    unfold f_L_countIn_4
    by_cases g : v2 < 8
    · have g' : v2.toInt < 8 := ilt.mp g
      have ei : (v2 + 1).toInt = v2.toInt + 1 := by clear ih h; ((try simp only [ilt, ile, ieq, iadd_e, isub_e, imul_e, Int32.reduceToInt] at *) <;> omega)
      rw [if_pos g, own_i12z ss _ v1 v2 (Or.inl h) 100000 0 (by decide) (by decide) (by decide)]
      exact ih _ _ (by omega) (by omega) (by omega)
    · rw [if_neg g]
theorem own_pw : ∀ j : Fin 9, ¬ Int32.ofNat (2 ^ j.val) < 1 ∧ ¬ (256 : Int32) < Int32.ofNat (2 ^ j.val) ∧ Int32.ofNat (2 ^ j.val) &&& (Int32.ofNat (2 ^ j.val) - 1) = 0 := by decide +kernel
theorem own_ok {R C : Int32} (hd : own_dim R C) (ll st : Int32) (ss : Int64) (sz sc : Int32) (h0 : 0 ≤ ll.toInt) (h1 : ll.toInt ≤ 64) (hs : st = 0 ∨ st = 2 ∨ (st = 1 ∧ own_S R C st ss sz sc)) : f_L_ok R C ll st ss sz sc = some 1 := by
  have z : (0 : Int32).toInt = 0 := rfl
  have e64 : (64 : Int32).toInt = 64 := rfl
  have n1 : ¬ ll < 0 := by rw [ilt]; omega
  have n2 : ¬ 64 < ll := by rw [ilt]; omega
  by_cases s : st = 1
  · subst s
    have hS : own_S R C 1 ss sz sc := by
      rcases hs with q | q | ⟨_, q⟩
      · exact absurd q (by decide)
      · exact absurd q (by decide)
      · exact q
    obtain ⟨S1, S2, S3⟩ := hS
    obtain ⟨j, hj, ej⟩ := S3
    obtain ⟨p1, p2, p3⟩ := own_pw ⟨j, by omega⟩
    simp only at p1 p2 p3
    rw [← ej] at p1 p2 p3
    obtain ⟨a1, a2, a3⟩ := own_area hd
    have rc : (R.toInt * C.toInt).toNat = R.toInt.toNat * C.toInt.toNat := Int.toNat_mul (by have := hd.a; omega) (by have := hd.c; omega)
    have cz : own_cnt (own_g ss) 64 = own_cnt (own_g ss) (R.toInt.toNat * C.toInt.toNat) := by
      have := own_cnt_z S2 (64 - (R.toInt * C.toInt).toNat)
      rw [show (R.toInt * C.toInt).toNat + (64 - (R.toInt * C.toInt).toNat) = 64 by omega, rc] at this
      exact this
    have cl := own_cnt_le (own_g ss) (R.toInt.toNat * C.toInt.toNat)
    have ci : f_L_countIn R C 1 ss = some sz := by
      unfold f_L_countIn
      rw [own_cin hd ss 100000 0 0 0 rfl (by omega) (by omega) (by rw [Nat.zero_min, Nat.zero_mul]; rfl), S1, cz]
    have tz : sz.toInt = own_cnt (own_g ss) (R.toInt.toNat * C.toInt.toNat) := by
      rw [S1, cz]
      exact Int32.toInt_ofNat_of_lt (by omega)
    have n3 : ¬ sz < 0 := by rw [ilt]; omega
    have n4 : ¬ R * C < sz := by rw [ilt]; omega
    unfold f_L_ok f_status f_solutionSize f_solutionCount f_rows f_cols f_logSize
    rw [ci]
    simp only [Option.bind_some, if_true]
    rw [if_neg n1, if_neg n2, if_neg n3, if_neg n4, if_neg p1, if_neg p2, if_pos p3]
  · have ci : f_L_countIn R C st ss = some 0 := by
      unfold f_L_countIn
      exact own_cinz ss s 100000 0 0 (by decide) (by decide) (by decide)
    have st02 : st = 0 ∨ st = 2 := by
      rcases hs with q | q | ⟨q, _⟩
      · exact Or.inl q
      · exact Or.inr q
      · exact absurd q s
    unfold f_L_ok f_status f_solutionSize f_solutionCount f_rows f_cols f_logSize f_L_ok_112
    rw [ci]
    simp only [Option.bind_some, if_neg s, if_neg n1, if_neg n2, if_true]
    rcases st02 with q | q
    · rw [if_pos q]
    · rw [if_neg (by rw [q]; decide), if_pos q]
theorem own_165 {R C : Int32} (hd : own_dim R C) (kb : List Int32 → List Int32 → List Int32 → Int32 → Int32 → Int64 → Int32 → Int32 → Int64 → Int32 → Int32 → Int32 → Option (Int32)) (scr log cur prs : List Int32) (L : Int64) (ll st : Int32) (ss : Int64) (sz sc v : Int32) (h0 : 0 ≤ ll.toInt) (h1 : ll.toInt ≤ 64) (hs : st = 0 ∨ st = 2 ∨ (st = 1 ∧ own_S R C st ss sz sc)) : f_L_law_165 kb scr log cur prs R C L ll st ss sz sc v = kb log cur prs R C L ll st ss sz sc (v + 4) := by
  unfold f_L_law_165
  rw [own_ok hd ll st ss sz sc h0 h1 hs, Option.bind_some, if_neg (by decide)]
theorem own_40 (scr : List Int32) (hl : scr.length ≤ 260) {R C : Int32} (hd : own_dim R C) : ∀ (n : Nat) (log cur prs : List Int32) (L : Int64) (ll st : Int32) (ss : Int64) (sz sc v : Int32), log.length = 64 → cur.length = 8 → prs.length = 8 → 0 ≤ ll.toInt → ll.toInt ≤ 64 → (st = 0 ∨ st = 2 ∨ (st = 1 ∧ own_S R C st ss sz sc)) → 0 ≤ v.toInt → v.toInt ≤ 264 → 264 - v.toInt < n → Tot (f_L_law_40 scr n log cur prs R C L ll st ss sz sc v) (fun r => r = 1) := by
  have el := iscr hl
  intro n
  induction n with
  | zero => intro log cur prs L ll st ss sz sc v h0 h1 h2 h3 h4 hs h5 h6 h7; exfalso; omega
  | succ n ih =>
    intro log cur prs L ll st ss sz sc v h0 h1 h2 h3 h4 hs h5 h6 h7
    have p1 : (v + 1).toInt = v.toInt + 1 := by clear ih hs; ((try simp only [ilt, ile, ieq, iadd_e, isub_e, imul_e, Int32.reduceToInt] at *) <;> omega)
    have p2 : (v + 2).toInt = v.toInt + 2 := by clear ih hs; ((try simp only [ilt, ile, ieq, iadd_e, isub_e, imul_e, Int32.reduceToInt] at *) <;> omega)
    have p3 : (v + 3).toInt = v.toInt + 3 := by clear ih hs; ((try simp only [ilt, ile, ieq, iadd_e, isub_e, imul_e, Int32.reduceToInt] at *) <;> omega)
    have p4 : (v + 4).toInt = v.toInt + 4 := by clear ih hs; ((try simp only [ilt, ile, ieq, iadd_e, isub_e, imul_e, Int32.reduceToInt] at *) <;> omega)
    unfold f_L_law_40
    refine Tot.ite (fun g => Tot.mk rfl) (fun g => ?_)
    rw [ilt] at g
    refine Tot.rdI (by omega) (by omega) (Tot.rdI (by omega) (by omega) (Tot.rdI (by omega) (by omega) (Tot.rdI (by omega) (by omega) ?_)))
    generalize gI scr v = o
    generalize gI scr (v + 1) = x
    generalize gI scr (v + 2) = y
    generalize gI scr (v + 3) = z
    have nx : ∀ (log cur prs : List Int32) (L : Int64) (ll st : Int32) (ss : Int64) (sz sc : Int32), log.length = 64 → cur.length = 8 → prs.length = 8 → 0 ≤ ll.toInt → ll.toInt ≤ 64 → (st = 0 ∨ st = 2 ∨ (st = 1 ∧ own_S R C st ss sz sc)) → Tot (f_L_law_165 (f_L_law_40 scr n) scr log cur prs R C L ll st ss sz sc v) (fun r => r = 1) := by
      intro log cur prs L ll st ss sz sc a0 a1 a2 a3 a4 as
      rw [own_165 hd _ scr log cur prs L ll st ss sz sc v a3 a4 as]
      exact ih log cur prs L ll st ss sz sc (v + 4) a0 a1 a2 a3 a4 as (by omega) (by omega) (by omega)
    refine Tot.ite (fun _ => ?_) (fun _ => Tot.ite (fun _ => ?_) (fun _ => Tot.ite (fun _ => ?_) (fun _ => Tot.ite (fun _ => ?_) (fun _ => Tot.ite (fun _ => ?_) (fun _ => ?_)))))
    · unfold f_setLight f_onBoard f_bit
      rw [Option.bind_some]
      refine Tot.bind (P := fun _ => True) (Tot.ite (fun _ => Tot.mk trivial) (fun _ => Tot.mk trivial)) ?_
      rintro ⟨r, L'⟩ -
      exact nx log cur prs L' ll st ss sz sc h0 h1 h2 h3 h4 hs
    · refine Tot.bind (own_undo hd log L ll h0 h3 h4) ?_
      rintro ⟨r, L', l'⟩ ⟨q1, q2⟩
      exact nx log cur prs L' l' st ss sz sc h0 h1 h2 q1 q2 hs
    · refine Tot.bind (own_solveX hd L cur prs st ss sz sc h1 h2) ?_
      rintro ⟨r, c', p', s1, s2, s3, s4⟩ ⟨q1, q2, q3⟩
      exact nx log c' p' L ll s1 s2 s3 s4 h0 q1 q2 h3 h4 (Or.inr q3)
    · refine Tot.bind (own_apply hd st ss sz log L ll h0 h3 h4) ?_
      rintro ⟨r, lg, L', l'⟩ ⟨q1, q2, q3⟩
      exact nx lg cur prs L' l' st ss sz sc q1 h1 h2 q2 q3 hs
    · unfold f_clear f_forgetResult
      rw [Option.bind_some, Option.bind_some]
      exact nx log cur prs 0 0 0 0 0 0 h0 h1 h2 (by decide) (by decide) (Or.inl rfl)
    · refine Tot.bind (own_press log L ll x y h0 h3 h4) ?_
      rintro ⟨r, lg, L', l'⟩ ⟨q1, q2, q3⟩
      exact nx lg cur prs L' l' st ss sz sc q1 h1 h2 q2 q3 hs
theorem own_26 (scr : List Int32) (hl : scr.length ≤ 260) (a b : Int32) : f_L_law_26 scr a b = some 1 := by
  unfold f_L_law_26
  rw [own_init, Option.bind_some]
  have l64 : (List.replicate 64 (0 : Int32)).length = 64 := List.length_replicate
  have l8 : (List.replicate 8 (0 : Int32)).length = 8 := List.length_replicate
  generalize List.replicate 64 (0 : Int32) = lg at *
  generalize List.replicate 8 (0 : Int32) = lc at *
  have ra := own_cl_rng a
  have rb := own_cl_rng b
  exact Tot.eq (own_40 scr hl (R := own_cl a) (C := own_cl b) ⟨ra.1, ra.2, rb.1, rb.2⟩ 100000 lg lc lc 0 0 0 0 0 0 2 l64 l8 l8 (by decide) (by decide) (Or.inl rfl) (by decide) (by decide) (by decide))
theorem own_12 (scr : List Int32) (hl : scr.length ≤ 260) (a : Int32) : f_L_law_12 scr a = some 1 := by
  have el := iscr hl
  have e1 : (1 : Int32).toInt = 1 := rfl
  unfold f_L_law_12
  by_cases g : (1 : Int32) < scr.length.toInt32
  · have g' := ilt.mp g
    rw [if_pos g, rdg (by omega) (by omega), Option.bind_some]
    exact own_26 scr hl _ _
  · rw [if_neg g]
    exact own_26 scr hl _ _
theorem own_true (scr : List Int32) (h : scr.length ≤ 260) : f_L_law scr = some 1 := by
  have el := iscr h
  have e0 : (0 : Int32).toInt = 0 := rfl
  unfold f_L_law
  by_cases g : (0 : Int32) < scr.length.toInt32
  · have g' := ilt.mp g
    rw [if_pos g, rdg (by omega) (by omega), Option.bind_some]
    exact own_12 scr h _
  · rw [if_neg g]
    exact own_12 scr h _
set_option maxRecDepth 65536 in
theorem comes_1 {Post : Tables → Env → Array Value → State → Outcome → State → Prop} (hpost : ∀ tb e args s v u, (limb_1_1.after args s (.returned v) u = true ∧ limb_1_2.after args s (.returned v) u = true ∧ True) → FrameEnd s (.returned v) u (Jvm.fieldLocs frame_1_writes args s ++ Jvm.arrayLocs frame_1_arrays args s ++ Jvm.staticLocs frame_1_statics s) 16 256 → Post tb e args s (.returned v) u) :
    ArmFor flags0 classFile x code maxLocals ret World_1 tables_1 room_1 Calls_1 rest_1 Pre_1 Post := by
  intro l hfl _ _ p e ha hc hk s m args below hf hA hF happ hP
  obtain ⟨hcalls, hrest, hpre⟩ := hP
  obtain ⟨-, -, -, hnamed, -, -, -, hat⟩ := (Spec.applies_iff hf).mp happ
  obtain ⟨hg, hn⟩ := and_e (Cond.before_iff.mp (show (Jvm.Cond.and given_1 narrow_1).before args s = true from hpre))
  obtain ⟨h1, h2⟩ := and_e hg
  have hw := fun d (hd : d ∈ tables_1) => atoms_spec (ws := Jvm.Cond.code x code maxLocals ret :: tables_1) hat d (List.mem_cons_of_mem _ hd)
  obtain ⟨w0, rfl⟩ : ∃ w0 : Value, args = #[w0] := by
    have hs : args.size = 1 := by simpa [Cond.value, given_1] using h1
    obtain ⟨L⟩ := args
    match L, hs with
    | [w0], _ => exact ⟨w0, rfl⟩
  have hfit : Fit s := fun {y c} hc i hi => by
    obtain ⟨ha, rfl⟩ := Array.getElem?_eq_some_iff.mp hc
    have q := List.all_eq_true.mp ((Array.all_eq_true_iff_forall_mem.mp hF) _ (Array.getElem_mem ha)) i (List.mem_range.mpr hi)
    simpa [Array.getElem?_eq_getElem hi] using q
  obtain ⟨hn1, hn2⟩ := and_e hn
  obtain ⟨ad, e0⟩ := arr_v hn1
  obtain ⟨cl, A⟩ := Arr.start e0 hn1
  obtain rfl : w0 = .ref ad := Option.some.inj e0
  obtain ⟨scr, hs1, hs2, hs3⟩ := script_of hfit A e0 hn2
  have E : OEndsQ own_P 0 0 (entL [.ref 0] d_0.maxL) [] [.inr (.inl (false, scr))] (LawQ 1 4 91) := ok_L_law (own_true scr hs2)
  have hS : SR [ad] [.ref 0] [.ref ad] := ⟨_, _, rfl, ⟨ad, rfl, rfl⟩, rfl⟩
  have hH : HR own_P s s.heap.size s.heap [ad] [.inr (.inl (false, scr))] := hr_script rfl A hs1 hs2 hs3
  have M := law_met (l := l) own_chk (fun w hw' => hw w (own_in w hw')) hm_0 E hS (Nat.le_of_ble_eq_true rfl) hH tables_1 room_1 (Nat.le_of_ble_eq_true rfl) (Nat.le_of_ble_eq_true rfl) (Nat.le_of_ble_eq_true rfl) (Nat.le_of_ble_eq_true rfl)
  obtain ⟨n, o, h1, h2, h3, L, rfl, N, hq⟩ := M p e ha hc hk s m _ below hf ((Spec.applies_iff_loose hf).mp happ).1 ⟨rfl, State.Warmed39.refl s, rfl⟩ trivial
  refine ⟨n, _, h1, h2, h3, hpost _ _ _ _ _ _ ⟨Cond.after_iff.mpr rfl, Cond.after_iff.mpr (eq_i res_at (Term.int_eval (1)) rfl), trivial⟩ ⟨hq.1, hq.2.1, (hq.2.2.sift fun y hy => Or.inr (N y hy)).mono (by decide) (by decide)⟩⟩
theorem main_1_1 : Claimed_1_1 := comes_1 fun _ _ _ _ _ _ h hF => ⟨h.1, hF⟩
theorem main_1_2 : Claimed_1_2 := comes_1 fun _ _ _ _ _ _ h hF => ⟨h.2.1, hF⟩
end Jvm.Pilot.@@N@@
namespace Jvm.Pilot.@@N@@
open Jvm Jvm.ClassFile Sem Op Lib Jvm.Free Jvm.Stand Jvm.Pilot.@@N@@.Jvm.D
/-! MADE BY PROGRAM (witnessworld.py) out of the Statement's table words and the real class files: 9 classes; the members and pool entries that the words name. The judged class is class 1, her method 3. -/
namespace start1
open Jvm.ClassFile
def u (s : String) : CpInfo := .utf8 (stringToUtf16 s)
/-- a pool by its gaps: so many unusable entries, then the entry; so many at the end -/
def gap : Nat → List CpInfo → List CpInfo
  | 0, r => r
  | n + 1, r => .unusable :: gap n r
def poolList (es : List (Nat × CpInfo)) (last : Nat) : List CpInfo := es.foldr (fun e r => gap e.1 (e.2 :: r)) (gap last [])
def pool (es : List (Nat × CpInfo)) (last : Nat) : Array CpInfo := ⟨poolList es last⟩
def fileOf (pool : Array CpInfo) (this : Nat) (attrs : Array Attribute := #[]) (ms : Array MethodInfo := #[]) (fl : Nat := 33) (sup : Nat := 0) (ifs : Array Nat := #[]) (fds : Array FieldInfo := #[]) : ClassFile where
  minorVersion := 0
  majorVersion := 65
  constantPool := pool
  accessFlags := fl
  thisClass := this
  superClass := sup
  interfaces := ifs
  fields := fds
  methods := ms
  attributes := attrs
def plain (name : String) (sup : Option ClassId) : Class where
  name := name
  kind := .ordinary
  loader := none
  accessFlags := 33
  super := sup
  interfaces := #[]
  cf := none
  fields := #[]
  methods := #[]
  instanceTypes := #[]
  staticTypes := #[]
  resolved := #[]
  callSites := []
  init := .initialized
  statics := none
  mirror := none

def pool0 : Array CpInfo := pool [(5, u "<init>"), (0, u "()V"), (1, .class_ 10), (1, u "java/lang/Object")] 113

def k0c0 : Code := { maxStack := 0, maxLocals := 1, code := object_method_1_code, exceptionTable := #[], attributes := #[] }
def k0m0 : Method := { name := "<init>", desc := "()V", sig := { parameters := [], returnType := none }, accessFlags := 1, code := some k0c0 }
/-- java/lang/Object -/
def k0 : Class := { plain "java/lang/Object" none with
  accessFlags := 33
  interfaces := #[]
  cf := some (fileOf pool0 8 #[] #[{ accessFlags := 1, nameIndex := 5, descriptorIndex := 6, attributes := #[] }] 33 0 #[] #[])
  fields := #[]
  methods := #[k0m0]
  instanceTypes := #[]
  staticTypes := #[]
  resolved := Array.replicate 124 none
  statics := none }

def pool1 : Array CpInfo := pool [(2, .class_ 4), (1, u "java/lang/Object"), (0, u "<init>"), (0, u "()V"), (0, .methodref 8 9), (0, .class_ 10), (0, .nameAndType 11 12), (0, u "LightsOutSolver"), (0, u "inSolution"), (0, u "(II)Z"), (0, .methodref 8 14), (0, .nameAndType 15 16), (0, u "status"), (0, u "()I"), (0, .methodref 8 18), (0, .nameAndType 19 16), (0, u "solutionSize"), (0, .methodref 8 21), (0, .nameAndType 22 16), (0, u "solutionCount"), (0, .methodref 24 25), (0, .class_ 26), (0, .nameAndType 27 28), (0, u "LightsOutSolverL4"), (0, u "countIn"), (0, u "(LLightsOutSolver;)I"), (0, .methodref 8 30), (0, .nameAndType 31 16), (0, u "rows"), (0, .methodref 8 33), (0, .nameAndType 34 16), (0, u "cols"), (0, .methodref 8 36), (0, .nameAndType 37 16), (0, u "logSize"), (0, .methodref 8 39), (0, .nameAndType 5 40), (0, u "(II)V"), (0, .methodref 8 42), (0, .nameAndType 43 44), (0, u "setLight"), (0, u "(III)Z"), (0, .methodref 8 46), (0, .nameAndType 47 48), (0, u "undo"), (0, u "()Z"), (0, .methodref 8 50), (0, .nameAndType 51 16), (0, u "solve"), (0, .methodref 8 53), (0, .nameAndType 54 48), (0, u "applySolution"), (0, .methodref 8 56), (0, .nameAndType 57 6), (0, u "clear"), (0, .methodref 8 59), (0, .nameAndType 60 12), (0, u "press"), (0, .methodref 24 62), (0, .nameAndType 63 64), (0, u "ok"), (0, u "(LLightsOutSolver;)Z"), (3, u "law"), (0, u "([I)Z")] 4

def k1m0 : Method := { name := "<init>", desc := "()V", sig := { parameters := [], returnType := none }, accessFlags := 1, code := none }
def k1c1 : Code := { maxStack := 3, maxLocals := 4, code := method_2_code, exceptionTable := #[], attributes := #[] }
def k1m1 : Method := { name := "countIn", desc := "(LLightsOutSolver;)I", sig := { parameters := [(.object "LightsOutSolver")], returnType := some .int }, accessFlags := 10, code := some k1c1 }
def k1c2 : Code := { maxStack := 3, maxLocals := 8, code := method_3_code, exceptionTable := #[], attributes := #[] }
def k1m2 : Method := { name := "ok", desc := "(LLightsOutSolver;)Z", sig := { parameters := [(.object "LightsOutSolver")], returnType := some .boolean }, accessFlags := 10, code := some k1c2 }
def k1c3 : Code := { maxStack := 4, maxLocals := 9, code := code, exceptionTable := #[], attributes := #[] }
def k1m3 : Method := { name := "law", desc := "([I)Z", sig := { parameters := [(.array .int)], returnType := some .boolean }, accessFlags := 9, code := some k1c3 }
/-- LightsOutSolverL4 -/
def k1 : Class := { plain "LightsOutSolverL4" (some 0) with
  accessFlags := 49
  interfaces := #[]
  cf := some (fileOf pool1 24 #[] #[{ accessFlags := 1, nameIndex := 5, descriptorIndex := 6, attributes := #[] }, { accessFlags := 10, nameIndex := 27, descriptorIndex := 28, attributes := #[] }, { accessFlags := 10, nameIndex := 63, descriptorIndex := 64, attributes := #[] }, { accessFlags := 9, nameIndex := 68, descriptorIndex := 69, attributes := #[] }] 49 2 #[] #[])
  fields := #[]
  methods := #[k1m0, k1m1, k1m2, k1m3]
  instanceTypes := #[]
  staticTypes := #[]
  resolved := Array.replicate 74 none
  statics := none }

def pool2 : Array CpInfo := pool [(1, .methodref 2 3), (0, .class_ 4), (0, .nameAndType 5 6), (0, u "java/lang/Object"), (0, u "<init>"), (0, u "()V"), (0, .fieldref 8 9), (0, .class_ 10), (0, .nameAndType 11 12), (0, u "LightsOutSolver"), (0, u "log"), (0, u "[I"), (0, .fieldref 8 14), (0, .nameAndType 15 12), (0, u "cur"), (0, .fieldref 8 17), (0, .nameAndType 18 12), (0, u "prs"), (0, .methodref 8 20), (0, .nameAndType 21 22), (0, u "clamp"), (0, u "(I)I"), (0, .fieldref 8 24), (0, .nameAndType 25 26), (0, u "nRows"), (0, u "I"), (0, .fieldref 8 28), (0, .nameAndType 29 26), (0, u "nCols"), (0, .fieldref 8 31), (0, .nameAndType 32 33), (0, u "lights"), (0, u "J"), (0, .fieldref 8 35), (0, .nameAndType 36 26), (0, u "logLen"), (0, .methodref 8 38), (0, .nameAndType 39 6), (0, u "forgetResult"), (0, .methodref 8 41), (0, .nameAndType 42 43), (0, u "onBoard"), (0, u "(II)Z"), (0, .methodref 8 45), (0, .nameAndType 46 47), (0, u "bit"), (0, u "(II)J"), (0, .long 18446744073709551615), (1, .methodref 8 51), (0, .nameAndType 52 53), (0, u "toggleCell"), (0, u "(II)V"), (0, .methodref 8 55), (0, .nameAndType 56 57), (0, u "popCount"), (0, u "(J)I"), (0, .methodref 8 59), (0, .nameAndType 60 61), (0, u "chase"), (0, u "(I)Z"), (0, .methodref 8 63), (0, .nameAndType 64 65), (0, u "packPresses"), (0, u "()J"), (0, .methodref 8 67), (0, .nameAndType 68 69), (0, u "unsignedLess"), (0, u "(JJ)Z"), (0, .fieldref 8 71), (0, .nameAndType 72 26), (0, u "status"), (0, .fieldref 8 74), (0, .nameAndType 75 33), (0, u "solSet"), (0, .fieldref 8 77), (0, .nameAndType 78 26), (0, u "solSize"), (0, .fieldref 8 80), (0, .nameAndType 81 26), (0, u "solCount"), (0, .methodref 8 83), (0, .nameAndType 84 85), (0, u "rowMask"), (0, u "()I"), (0, .methodref 8 87), (0, .nameAndType 88 6), (0, u "loadRows"), (0, .methodref 8 90), (0, .nameAndType 91 53), (0, u "applyRowPress"), (0, .long 9223372036854775808), (1, u "STATUS_NONE"), (2, u "STATUS_SOLVED"), (1, u "STATUS_UNSOLVABLE"), (1, u "LOG_CAPACITY"), (3, u "rows"), (0, u "cols"), (0, u "setLight"), (0, u "(III)Z"), (1, u "press"), (0, u "undo"), (0, u "()Z"), (0, u "logSize"), (3, u "solve"), (0, u "solutionSize"), (0, u "solutionCount"), (0, u "inSolution"), (0, u "applySolution"), (0, u "clear")] 2

def k2c0 : Code := { maxStack := 3, maxLocals := 3, code := prog_1_method_1_code, exceptionTable := #[], attributes := #[] }
def k2m0 : Method := { name := "<init>", desc := "(II)V", sig := { parameters := [.int, .int], returnType := none }, accessFlags := 1, code := some k2c0 }
def k2c1 : Code := { maxStack := 1, maxLocals := 1, code := prog_1_method_2_code, exceptionTable := #[], attributes := #[] }
def k2m1 : Method := { name := "rows", desc := "()I", sig := { parameters := [], returnType := some .int }, accessFlags := 1, code := some k2c1 }
def k2c2 : Code := { maxStack := 1, maxLocals := 1, code := prog_1_method_3_code, exceptionTable := #[], attributes := #[] }
def k2m2 : Method := { name := "cols", desc := "()I", sig := { parameters := [], returnType := some .int }, accessFlags := 1, code := some k2c2 }
def k2c3 : Code := { maxStack := 7, maxLocals := 6, code := prog_1_method_4_code, exceptionTable := #[], attributes := #[] }
def k2m3 : Method := { name := "setLight", desc := "(III)Z", sig := { parameters := [.int, .int, .int], returnType := some .boolean }, accessFlags := 1, code := some k2c3 }
def k2c4 : Code := { maxStack := 4, maxLocals := 3, code := prog_1_method_5_code, exceptionTable := #[], attributes := #[] }
def k2m4 : Method := { name := "press", desc := "(II)Z", sig := { parameters := [.int, .int], returnType := some .boolean }, accessFlags := 1, code := some k2c4 }
def k2c5 : Code := { maxStack := 4, maxLocals := 2, code := prog_1_method_6_code, exceptionTable := #[], attributes := #[] }
def k2m5 : Method := { name := "undo", desc := "()Z", sig := { parameters := [], returnType := some .boolean }, accessFlags := 1, code := some k2c5 }
def k2c6 : Code := { maxStack := 1, maxLocals := 1, code := prog_1_method_7_code, exceptionTable := #[], attributes := #[] }
def k2m6 : Method := { name := "logSize", desc := "()I", sig := { parameters := [], returnType := some .int }, accessFlags := 1, code := some k2c6 }
def k2c7 : Code := { maxStack := 4, maxLocals := 10, code := prog_1_method_11_code, exceptionTable := #[], attributes := #[] }
def k2m7 : Method := { name := "solve", desc := "()I", sig := { parameters := [], returnType := some .int }, accessFlags := 1, code := some k2c7 }
def k2c8 : Code := { maxStack := 1, maxLocals := 1, code := prog_1_method_12_code, exceptionTable := #[], attributes := #[] }
def k2m8 : Method := { name := "status", desc := "()I", sig := { parameters := [], returnType := some .int }, accessFlags := 1, code := some k2c8 }
def k2c9 : Code := { maxStack := 2, maxLocals := 1, code := prog_1_method_13_code, exceptionTable := #[], attributes := #[] }
def k2m9 : Method := { name := "solutionSize", desc := "()I", sig := { parameters := [], returnType := some .int }, accessFlags := 1, code := some k2c9 }
def k2c10 : Code := { maxStack := 2, maxLocals := 1, code := prog_1_method_14_code, exceptionTable := #[], attributes := #[] }
def k2m10 : Method := { name := "solutionCount", desc := "()I", sig := { parameters := [], returnType := some .int }, accessFlags := 1, code := some k2c10 }
def k2c11 : Code := { maxStack := 5, maxLocals := 3, code := prog_1_method_15_code, exceptionTable := #[], attributes := #[] }
def k2m11 : Method := { name := "inSolution", desc := "(II)Z", sig := { parameters := [.int, .int], returnType := some .boolean }, accessFlags := 1, code := some k2c11 }
def k2c12 : Code := { maxStack := 4, maxLocals := 3, code := prog_1_method_16_code, exceptionTable := #[], attributes := #[] }
def k2m12 : Method := { name := "applySolution", desc := "()Z", sig := { parameters := [], returnType := some .boolean }, accessFlags := 1, code := some k2c12 }
def k2c13 : Code := { maxStack := 3, maxLocals := 1, code := prog_1_method_17_code, exceptionTable := #[], attributes := #[] }
def k2m13 : Method := { name := "clear", desc := "()V", sig := { parameters := [], returnType := none }, accessFlags := 1, code := some k2c13 }
def k2c14 : Code := { maxStack := 2, maxLocals := 1, code := prog_1_method_18_code, exceptionTable := #[], attributes := #[] }
def k2m14 : Method := { name := "clamp", desc := "(I)I", sig := { parameters := [.int], returnType := some .int }, accessFlags := 10, code := some k2c14 }
def k2c15 : Code := { maxStack := 3, maxLocals := 1, code := prog_1_method_19_code, exceptionTable := #[], attributes := #[] }
def k2m15 : Method := { name := "forgetResult", desc := "()V", sig := { parameters := [], returnType := none }, accessFlags := 2, code := some k2c15 }
def k2c16 : Code := { maxStack := 2, maxLocals := 3, code := prog_1_method_20_code, exceptionTable := #[], attributes := #[] }
def k2m16 : Method := { name := "onBoard", desc := "(II)Z", sig := { parameters := [.int, .int], returnType := some .boolean }, accessFlags := 2, code := some k2c16 }
def k2c17 : Code := { maxStack := 4, maxLocals := 3, code := prog_1_method_21_code, exceptionTable := #[], attributes := #[] }
def k2m17 : Method := { name := "bit", desc := "(II)J", sig := { parameters := [.int, .int], returnType := some .long }, accessFlags := 2, code := some k2c17 }
def k2c18 : Code := { maxStack := 6, maxLocals := 5, code := prog_1_method_22_code, exceptionTable := #[], attributes := #[] }
def k2m18 : Method := { name := "toggleCell", desc := "(II)V", sig := { parameters := [.int, .int], returnType := none }, accessFlags := 2, code := some k2c18 }
def k2c19 : Code := { maxStack := 2, maxLocals := 1, code := prog_1_method_23_code, exceptionTable := #[], attributes := #[] }
def k2m19 : Method := { name := "rowMask", desc := "()I", sig := { parameters := [], returnType := some .int }, accessFlags := 2, code := some k2c19 }
def k2c20 : Code := { maxStack := 6, maxLocals := 4, code := prog_1_method_24_code, exceptionTable := #[], attributes := #[] }
def k2m20 : Method := { name := "loadRows", desc := "()V", sig := { parameters := [], returnType := none }, accessFlags := 2, code := some k2c20 }
def k2c21 : Code := { maxStack := 6, maxLocals := 4, code := prog_1_method_25_code, exceptionTable := #[], attributes := #[] }
def k2m21 : Method := { name := "applyRowPress", desc := "(II)V", sig := { parameters := [.int, .int], returnType := none }, accessFlags := 2, code := some k2c21 }
def k2c22 : Code := { maxStack := 3, maxLocals := 4, code := prog_1_method_26_code, exceptionTable := #[], attributes := #[] }
def k2m22 : Method := { name := "chase", desc := "(I)Z", sig := { parameters := [.int], returnType := some .boolean }, accessFlags := 2, code := some k2c22 }
def k2c23 : Code := { maxStack := 6, maxLocals := 4, code := prog_1_method_27_code, exceptionTable := #[], attributes := #[] }
def k2m23 : Method := { name := "packPresses", desc := "()J", sig := { parameters := [], returnType := some .long }, accessFlags := 2, code := some k2c23 }
def k2c24 : Code := { maxStack := 6, maxLocals := 6, code := prog_1_method_28_code, exceptionTable := #[], attributes := #[] }
def k2m24 : Method := { name := "popCount", desc := "(J)I", sig := { parameters := [.long], returnType := some .int }, accessFlags := 10, code := some k2c24 }
def k2c25 : Code := { maxStack := 6, maxLocals := 4, code := prog_1_method_29_code, exceptionTable := #[], attributes := #[] }
def k2m25 : Method := { name := "unsignedLess", desc := "(JJ)Z", sig := { parameters := [.long, .long], returnType := some .boolean }, accessFlags := 10, code := some k2c25 }
/-- LightsOutSolver -/
def k2 : Class := { plain "LightsOutSolver" (some 0) with
  accessFlags := 49
  interfaces := #[]
  cf := some (fileOf pool2 8 #[] #[{ accessFlags := 1, nameIndex := 5, descriptorIndex := 53, attributes := #[] }, { accessFlags := 1, nameIndex := 105, descriptorIndex := 85, attributes := #[] }, { accessFlags := 1, nameIndex := 106, descriptorIndex := 85, attributes := #[] }, { accessFlags := 1, nameIndex := 107, descriptorIndex := 108, attributes := #[] }, { accessFlags := 1, nameIndex := 110, descriptorIndex := 43, attributes := #[] }, { accessFlags := 1, nameIndex := 111, descriptorIndex := 112, attributes := #[] }, { accessFlags := 1, nameIndex := 113, descriptorIndex := 85, attributes := #[] }, { accessFlags := 1, nameIndex := 117, descriptorIndex := 85, attributes := #[] }, { accessFlags := 1, nameIndex := 72, descriptorIndex := 85, attributes := #[] }, { accessFlags := 1, nameIndex := 118, descriptorIndex := 85, attributes := #[] }, { accessFlags := 1, nameIndex := 119, descriptorIndex := 85, attributes := #[] }, { accessFlags := 1, nameIndex := 120, descriptorIndex := 43, attributes := #[] }, { accessFlags := 1, nameIndex := 121, descriptorIndex := 112, attributes := #[] }, { accessFlags := 1, nameIndex := 122, descriptorIndex := 6, attributes := #[] }, { accessFlags := 10, nameIndex := 21, descriptorIndex := 22, attributes := #[] }, { accessFlags := 2, nameIndex := 39, descriptorIndex := 6, attributes := #[] }, { accessFlags := 2, nameIndex := 42, descriptorIndex := 43, attributes := #[] }, { accessFlags := 2, nameIndex := 46, descriptorIndex := 47, attributes := #[] }, { accessFlags := 2, nameIndex := 52, descriptorIndex := 53, attributes := #[] }, { accessFlags := 2, nameIndex := 84, descriptorIndex := 85, attributes := #[] }, { accessFlags := 2, nameIndex := 88, descriptorIndex := 6, attributes := #[] }, { accessFlags := 2, nameIndex := 91, descriptorIndex := 53, attributes := #[] }, { accessFlags := 2, nameIndex := 60, descriptorIndex := 61, attributes := #[] }, { accessFlags := 2, nameIndex := 64, descriptorIndex := 65, attributes := #[] }, { accessFlags := 10, nameIndex := 56, descriptorIndex := 57, attributes := #[] }, { accessFlags := 10, nameIndex := 68, descriptorIndex := 69, attributes := #[] }] 49 2 #[] #[{ accessFlags := 25, nameIndex := 94, descriptorIndex := 26, attributes := #[] }, { accessFlags := 25, nameIndex := 97, descriptorIndex := 26, attributes := #[] }, { accessFlags := 25, nameIndex := 99, descriptorIndex := 26, attributes := #[] }, { accessFlags := 25, nameIndex := 101, descriptorIndex := 26, attributes := #[] }, { accessFlags := 2, nameIndex := 25, descriptorIndex := 26, attributes := #[] }, { accessFlags := 2, nameIndex := 29, descriptorIndex := 26, attributes := #[] }, { accessFlags := 2, nameIndex := 32, descriptorIndex := 33, attributes := #[] }, { accessFlags := 2, nameIndex := 11, descriptorIndex := 12, attributes := #[] }, { accessFlags := 2, nameIndex := 36, descriptorIndex := 26, attributes := #[] }, { accessFlags := 2, nameIndex := 72, descriptorIndex := 26, attributes := #[] }, { accessFlags := 2, nameIndex := 75, descriptorIndex := 33, attributes := #[] }, { accessFlags := 2, nameIndex := 78, descriptorIndex := 26, attributes := #[] }, { accessFlags := 2, nameIndex := 81, descriptorIndex := 26, attributes := #[] }, { accessFlags := 2, nameIndex := 15, descriptorIndex := 12, attributes := #[] }, { accessFlags := 2, nameIndex := 18, descriptorIndex := 12, attributes := #[] }])
  fields := #[{ name := "STATUS_NONE", type := .int, accessFlags := 25, slot := 0, constantValue := 0 }, { name := "STATUS_SOLVED", type := .int, accessFlags := 25, slot := 1, constantValue := 0 }, { name := "STATUS_UNSOLVABLE", type := .int, accessFlags := 25, slot := 2, constantValue := 0 }, { name := "LOG_CAPACITY", type := .int, accessFlags := 25, slot := 3, constantValue := 0 }, { name := "nRows", type := .int, accessFlags := 2, slot := 0, constantValue := 0 }, { name := "nCols", type := .int, accessFlags := 2, slot := 1, constantValue := 0 }, { name := "lights", type := .long, accessFlags := 2, slot := 2, constantValue := 0 }, { name := "log", type := (.array .int), accessFlags := 2, slot := 3, constantValue := 0 }, { name := "logLen", type := .int, accessFlags := 2, slot := 4, constantValue := 0 }, { name := "status", type := .int, accessFlags := 2, slot := 5, constantValue := 0 }, { name := "solSet", type := .long, accessFlags := 2, slot := 6, constantValue := 0 }, { name := "solSize", type := .int, accessFlags := 2, slot := 7, constantValue := 0 }, { name := "solCount", type := .int, accessFlags := 2, slot := 8, constantValue := 0 }, { name := "cur", type := (.array .int), accessFlags := 2, slot := 9, constantValue := 0 }, { name := "prs", type := (.array .int), accessFlags := 2, slot := 10, constantValue := 0 }]
  methods := #[k2m0, k2m1, k2m2, k2m3, k2m4, k2m5, k2m6, k2m7, k2m8, k2m9, k2m10, k2m11, k2m12, k2m13, k2m14, k2m15, k2m16, k2m17, k2m18, k2m19, k2m20, k2m21, k2m22, k2m23, k2m24, k2m25]
  instanceTypes := #[.int, .int, .long, (.array .int), .int, .int, .long, .int, .int, (.array .int), (.array .int)]
  staticTypes := #[.int, .int, .int, .int]
  resolved := Array.replicate 125 none
  statics := none }

def pool3 : Array CpInfo := pool [(1, u "java/lang/Cloneable"), (0, .class_ 1), (0, u "java/lang/Object"), (0, .class_ 3)] 3

/-- java/lang/Cloneable -/
def k3 : Class := { plain "java/lang/Cloneable" (some 0) with
  accessFlags := 1537
  interfaces := #[]
  cf := some (fileOf pool3 2 #[] #[] 1537 4 #[] #[])
  fields := #[]
  methods := #[]
  instanceTypes := #[]
  staticTypes := #[]
  resolved := Array.replicate 8 none
  statics := none }

def pool4 : Array CpInfo := pool [(1, u "java/io/Serializable"), (0, .class_ 1), (0, u "java/lang/Object"), (0, .class_ 3)] 3

/-- java/io/Serializable -/
def k4 : Class := { plain "java/io/Serializable" (some 0) with
  accessFlags := 1537
  interfaces := #[]
  cf := some (fileOf pool4 2 #[] #[] 1537 4 #[] #[])
  fields := #[]
  methods := #[]
  instanceTypes := #[]
  staticTypes := #[]
  resolved := Array.replicate 8 none
  statics := none }

/-- the primitive byte -/
def k5 : Class := { plain "byte" none with kind := .primitive 'B', accessFlags := 0x411 }
/-- [B -/
def k6 : Class := { plain "[B" (some 0) with kind := .array 5 .byte, interfaces := #[3, 4], accessFlags := 1041 }

/-- the primitive int -/
def k7 : Class := { plain "int" none with kind := .primitive 'I', accessFlags := 0x411 }
/-- [I -/
def k8 : Class := { plain "[I" (some 0) with kind := .array 7 .int, interfaces := #[3, 4], accessFlags := 1041 }

def heap : Heap := #[{ cls := 8, slots := #[.int 1, .int 2, .int 3], vm := .none }]
def classes : Array Class := #[k0, k1, k2, k3, k4, k5, k6, k7, k8]
def interned : List (Array UInt16 × Addr) := []
def slotsUsed : Nat := 3
def theMethod : MethodId := ⟨1, 3⟩
def args0 : Array Value := #[.ref 0]
def aboutOver (below : List Frame) : State where
  vm := { classes := classes, interned := interned.toArray }
  heap := heap
  slotsUsed := slotsUsed
  threads := #[{ frames := .invoking theMethod args0 :: below }]
def below0 : List Frame := [.native { method := ⟨0, 0⟩, args := #[] }]
def about1 : State := aboutOver below0
def p0 : Program := .bare "" "" ""
def e0 : Env := launch0.env 0 0 0
theorem w_frames : about1.frames = Frame.invoking theMethod args0 :: below0 := rfl
set_option maxRecDepth 65536 in
theorem w_args : argsFit about1.vm theMethod args0 = true := by decide +kernel
set_option maxRecDepth 65536 in
theorem w_heap : heapFits about1 = true := by decide +kernel
set_option maxRecDepth 65536 in
theorem w_runnable : about1.curStatus? = some .runnable := by decide +kernel
set_option maxRecDepth 65536 in
theorem w_alone : about1.alone = true := by decide +kernel
set_option maxRecDepth 65536 in
theorem w_named : about1.methodNamed? x = some theMethod := by decide +kernel
set_option maxRecDepth 65536 in
theorem w_hears : about1.hears theMethod below0 = true := by decide +kernel
set_option maxRecDepth 65536 in
theorem w_ripe : about1.ripe theMethod args0 below0 = true := by decide +kernel
theorem w_running : about1.status = .running := rfl
set_option maxRecDepth 65536 in
theorem w_room : about1.hasRoom e0.platform room_1 = true :=
  launch0.hasRoom_least _ room_1 (by decide +kernel) (by decide +kernel) (by decide +kernel) (by decide +kernel) (by decide +kernel) (by decide +kernel)
theorem allAtoms_all (ts : List Jvm.Cond) (a : Array Jvm.Value) (st : Jvm.State) : (allAtoms ts).before a st = ts.all (fun c => c.before a st) := by
  induction ts with
  | nil => rfl
  | cons c t ih =>
    show (Jvm.Cond.and c (allAtoms t)).before a st = _
    rw [Jvm.Cond.before_and, ih, List.all_cons]
def words1 : List Jvm.Cond := Jvm.Cond.code x code maxLocals ret :: tables_1
/-- a 'code' word, met by the world's own term for the bytes: nothing is compared byte by byte -/
theorem code_word {y : MethodName} {bytes : ByteArray} {mx : Nat} {rt : Option FieldType} {a : Array Value} {s : State} {m : MethodId} {meth : Method} {c : Code} (h1 : s.methodNamed? y = some m) (h2 : s.vm.method? m = some meth) (h3 : meth.code = some c) (h4 : c.code = bytes)
    (h5 : (c.maxLocals == mx && c.exceptionTable.isEmpty && decide (c.maxStack ≤ mostOperands) && decide (meth.sig.returnType = rt) && !meth.locks && decide (parseMethodDescriptor y.desc = some meth.sig)) = true) : (Jvm.Cond.code y bytes mx rt).before a s = true := by
  simp only [Bool.and_eq_true, beq_iff_eq, Bool.not_eq_true', decide_eq_true_eq] at h5
  obtain ⟨⟨⟨⟨⟨g1, g2⟩, g3⟩, g4⟩, g5⟩, g6⟩ := h5
  simp [Cond.before, Cond.holds, Cond.value, h1, h2, h3, h4, g1, g2, g3, g4, g5, g6]
def isCode : Jvm.Cond → Bool
  | .code _ _ _ _ => true
  | _ => false
theorem all_split {L : List Jvm.Cond} {P : Jvm.Cond → Bool} (h1 : L.all (fun c => isCode c || P c) = true) (h2 : ∀ c ∈ L.filter isCode, P c = true) : L.all P = true := by
  refine List.all_eq_true.mpr fun c hc => ?_
  have h := List.all_eq_true.mp h1 c hc
  rcases Bool.eq_false_or_eq_true (isCode c) with hi | hi
  · exact h2 c (List.mem_filter.mpr ⟨hc, hi⟩)
  · simpa [hi] using h
set_option maxRecDepth 65536 in
theorem w_c0 : (Jvm.Cond.code x code maxLocals ret).before args0 about1 = true := code_word (m := ⟨1, 3⟩) (meth := k1m3) (c := k1c3) (by decide +kernel) rfl rfl rfl (by decide +kernel)
set_option maxRecDepth 65536 in
theorem w_c1 : (Jvm.Cond.code ({ cls := "LightsOutSolver", name := "<init>", desc := "(II)V" } : Jvm.MethodName) prog_1_method_1_code (3 : Nat) (Option.none : Option Jvm.ClassFile.FieldType)).before args0 about1 = true := code_word (m := ⟨2, 0⟩) (meth := k2m0) (c := k2c0) (by decide +kernel) rfl rfl rfl (by decide +kernel)
set_option maxRecDepth 65536 in
theorem w_c2 : (Jvm.Cond.code ({ cls := "java/lang/Object", name := "<init>", desc := "()V" } : Jvm.MethodName) object_method_1_code (1 : Nat) (Option.none : Option Jvm.ClassFile.FieldType)).before args0 about1 = true := code_word (m := ⟨0, 0⟩) (meth := k0m0) (c := k0c0) (by decide +kernel) rfl rfl rfl (by decide +kernel)
set_option maxRecDepth 65536 in
theorem w_c3 : (Jvm.Cond.code ({ cls := "LightsOutSolver", name := "clamp", desc := "(I)I" } : Jvm.MethodName) prog_1_method_18_code (1 : Nat) (Option.some Jvm.ClassFile.FieldType.int)).before args0 about1 = true := code_word (m := ⟨2, 14⟩) (meth := k2m14) (c := k2c14) (by decide +kernel) rfl rfl rfl (by decide +kernel)
set_option maxRecDepth 65536 in
theorem w_c4 : (Jvm.Cond.code ({ cls := "LightsOutSolver", name := "forgetResult", desc := "()V" } : Jvm.MethodName) prog_1_method_19_code (1 : Nat) (Option.none : Option Jvm.ClassFile.FieldType)).before args0 about1 = true := code_word (m := ⟨2, 15⟩) (meth := k2m15) (c := k2c15) (by decide +kernel) rfl rfl rfl (by decide +kernel)
set_option maxRecDepth 65536 in
theorem w_c5 : (Jvm.Cond.code ({ cls := "LightsOutSolver", name := "undo", desc := "()Z" } : Jvm.MethodName) prog_1_method_6_code (2 : Nat) (Option.some Jvm.ClassFile.FieldType.boolean)).before args0 about1 = true := code_word (m := ⟨2, 5⟩) (meth := k2m5) (c := k2c5) (by decide +kernel) rfl rfl rfl (by decide +kernel)
set_option maxRecDepth 65536 in
theorem w_c6 : (Jvm.Cond.code ({ cls := "LightsOutSolverL4", name := "ok", desc := "(LLightsOutSolver;)Z" } : Jvm.MethodName) method_3_code (8 : Nat) (Option.some Jvm.ClassFile.FieldType.boolean)).before args0 about1 = true := code_word (m := ⟨1, 2⟩) (meth := k1m2) (c := k1c2) (by decide +kernel) rfl rfl rfl (by decide +kernel)
set_option maxRecDepth 65536 in
theorem w_c7 : (Jvm.Cond.code ({ cls := "LightsOutSolver", name := "status", desc := "()I" } : Jvm.MethodName) prog_1_method_12_code (1 : Nat) (Option.some Jvm.ClassFile.FieldType.int)).before args0 about1 = true := code_word (m := ⟨2, 8⟩) (meth := k2m8) (c := k2c8) (by decide +kernel) rfl rfl rfl (by decide +kernel)
set_option maxRecDepth 65536 in
theorem w_c8 : (Jvm.Cond.code ({ cls := "LightsOutSolver", name := "solutionSize", desc := "()I" } : Jvm.MethodName) prog_1_method_13_code (1 : Nat) (Option.some Jvm.ClassFile.FieldType.int)).before args0 about1 = true := code_word (m := ⟨2, 9⟩) (meth := k2m9) (c := k2c9) (by decide +kernel) rfl rfl rfl (by decide +kernel)
set_option maxRecDepth 65536 in
theorem w_c9 : (Jvm.Cond.code ({ cls := "LightsOutSolver", name := "solutionCount", desc := "()I" } : Jvm.MethodName) prog_1_method_14_code (1 : Nat) (Option.some Jvm.ClassFile.FieldType.int)).before args0 about1 = true := code_word (m := ⟨2, 10⟩) (meth := k2m10) (c := k2c10) (by decide +kernel) rfl rfl rfl (by decide +kernel)
set_option maxRecDepth 65536 in
theorem w_c10 : (Jvm.Cond.code ({ cls := "LightsOutSolverL4", name := "countIn", desc := "(LLightsOutSolver;)I" } : Jvm.MethodName) method_2_code (4 : Nat) (Option.some Jvm.ClassFile.FieldType.int)).before args0 about1 = true := code_word (m := ⟨1, 1⟩) (meth := k1m1) (c := k1c1) (by decide +kernel) rfl rfl rfl (by decide +kernel)
set_option maxRecDepth 65536 in
theorem w_c11 : (Jvm.Cond.code ({ cls := "LightsOutSolver", name := "inSolution", desc := "(II)Z" } : Jvm.MethodName) prog_1_method_15_code (3 : Nat) (Option.some Jvm.ClassFile.FieldType.boolean)).before args0 about1 = true := code_word (m := ⟨2, 11⟩) (meth := k2m11) (c := k2c11) (by decide +kernel) rfl rfl rfl (by decide +kernel)
set_option maxRecDepth 65536 in
theorem w_c12 : (Jvm.Cond.code ({ cls := "LightsOutSolver", name := "rows", desc := "()I" } : Jvm.MethodName) prog_1_method_2_code (1 : Nat) (Option.some Jvm.ClassFile.FieldType.int)).before args0 about1 = true := code_word (m := ⟨2, 1⟩) (meth := k2m1) (c := k2c1) (by decide +kernel) rfl rfl rfl (by decide +kernel)
set_option maxRecDepth 65536 in
theorem w_c13 : (Jvm.Cond.code ({ cls := "LightsOutSolver", name := "cols", desc := "()I" } : Jvm.MethodName) prog_1_method_3_code (1 : Nat) (Option.some Jvm.ClassFile.FieldType.int)).before args0 about1 = true := code_word (m := ⟨2, 2⟩) (meth := k2m2) (c := k2c2) (by decide +kernel) rfl rfl rfl (by decide +kernel)
set_option maxRecDepth 65536 in
theorem w_c14 : (Jvm.Cond.code ({ cls := "LightsOutSolver", name := "logSize", desc := "()I" } : Jvm.MethodName) prog_1_method_7_code (1 : Nat) (Option.some Jvm.ClassFile.FieldType.int)).before args0 about1 = true := code_word (m := ⟨2, 6⟩) (meth := k2m6) (c := k2c6) (by decide +kernel) rfl rfl rfl (by decide +kernel)
set_option maxRecDepth 65536 in
theorem w_c15 : (Jvm.Cond.code ({ cls := "LightsOutSolver", name := "solve", desc := "()I" } : Jvm.MethodName) prog_1_method_11_code (10 : Nat) (Option.some Jvm.ClassFile.FieldType.int)).before args0 about1 = true := code_word (m := ⟨2, 7⟩) (meth := k2m7) (c := k2c7) (by decide +kernel) rfl rfl rfl (by decide +kernel)
set_option maxRecDepth 65536 in
theorem w_c16 : (Jvm.Cond.code ({ cls := "LightsOutSolver", name := "chase", desc := "(I)Z" } : Jvm.MethodName) prog_1_method_26_code (4 : Nat) (Option.some Jvm.ClassFile.FieldType.boolean)).before args0 about1 = true := code_word (m := ⟨2, 22⟩) (meth := k2m22) (c := k2c22) (by decide +kernel) rfl rfl rfl (by decide +kernel)
set_option maxRecDepth 65536 in
theorem w_c17 : (Jvm.Cond.code ({ cls := "LightsOutSolver", name := "loadRows", desc := "()V" } : Jvm.MethodName) prog_1_method_24_code (4 : Nat) (Option.none : Option Jvm.ClassFile.FieldType)).before args0 about1 = true := code_word (m := ⟨2, 20⟩) (meth := k2m20) (c := k2c20) (by decide +kernel) rfl rfl rfl (by decide +kernel)
set_option maxRecDepth 65536 in
theorem w_c18 : (Jvm.Cond.code ({ cls := "LightsOutSolver", name := "rowMask", desc := "()I" } : Jvm.MethodName) prog_1_method_23_code (1 : Nat) (Option.some Jvm.ClassFile.FieldType.int)).before args0 about1 = true := code_word (m := ⟨2, 19⟩) (meth := k2m19) (c := k2c19) (by decide +kernel) rfl rfl rfl (by decide +kernel)
set_option maxRecDepth 65536 in
theorem w_c19 : (Jvm.Cond.code ({ cls := "LightsOutSolver", name := "applyRowPress", desc := "(II)V" } : Jvm.MethodName) prog_1_method_25_code (4 : Nat) (Option.none : Option Jvm.ClassFile.FieldType)).before args0 about1 = true := code_word (m := ⟨2, 21⟩) (meth := k2m21) (c := k2c21) (by decide +kernel) rfl rfl rfl (by decide +kernel)
set_option maxRecDepth 65536 in
theorem w_c20 : (Jvm.Cond.code ({ cls := "LightsOutSolver", name := "packPresses", desc := "()J" } : Jvm.MethodName) prog_1_method_27_code (4 : Nat) (Option.some Jvm.ClassFile.FieldType.long)).before args0 about1 = true := code_word (m := ⟨2, 23⟩) (meth := k2m23) (c := k2c23) (by decide +kernel) rfl rfl rfl (by decide +kernel)
set_option maxRecDepth 65536 in
theorem w_c21 : (Jvm.Cond.code ({ cls := "LightsOutSolver", name := "popCount", desc := "(J)I" } : Jvm.MethodName) prog_1_method_28_code (6 : Nat) (Option.some Jvm.ClassFile.FieldType.int)).before args0 about1 = true := code_word (m := ⟨2, 24⟩) (meth := k2m24) (c := k2c24) (by decide +kernel) rfl rfl rfl (by decide +kernel)
set_option maxRecDepth 65536 in
theorem w_c22 : (Jvm.Cond.code ({ cls := "LightsOutSolver", name := "onBoard", desc := "(II)Z" } : Jvm.MethodName) prog_1_method_20_code (3 : Nat) (Option.some Jvm.ClassFile.FieldType.boolean)).before args0 about1 = true := code_word (m := ⟨2, 16⟩) (meth := k2m16) (c := k2c16) (by decide +kernel) rfl rfl rfl (by decide +kernel)
set_option maxRecDepth 65536 in
theorem w_c23 : (Jvm.Cond.code ({ cls := "LightsOutSolver", name := "bit", desc := "(II)J" } : Jvm.MethodName) prog_1_method_21_code (3 : Nat) (Option.some Jvm.ClassFile.FieldType.long)).before args0 about1 = true := code_word (m := ⟨2, 17⟩) (meth := k2m17) (c := k2c17) (by decide +kernel) rfl rfl rfl (by decide +kernel)
set_option maxRecDepth 65536 in
theorem w_c24 : (Jvm.Cond.code ({ cls := "LightsOutSolver", name := "setLight", desc := "(III)Z" } : Jvm.MethodName) prog_1_method_4_code (6 : Nat) (Option.some Jvm.ClassFile.FieldType.boolean)).before args0 about1 = true := code_word (m := ⟨2, 3⟩) (meth := k2m3) (c := k2c3) (by decide +kernel) rfl rfl rfl (by decide +kernel)
set_option maxRecDepth 65536 in
theorem w_c25 : (Jvm.Cond.code ({ cls := "LightsOutSolver", name := "applySolution", desc := "()Z" } : Jvm.MethodName) prog_1_method_16_code (3 : Nat) (Option.some Jvm.ClassFile.FieldType.boolean)).before args0 about1 = true := code_word (m := ⟨2, 12⟩) (meth := k2m12) (c := k2c12) (by decide +kernel) rfl rfl rfl (by decide +kernel)
set_option maxRecDepth 65536 in
theorem w_c26 : (Jvm.Cond.code ({ cls := "LightsOutSolver", name := "unsignedLess", desc := "(JJ)Z" } : Jvm.MethodName) prog_1_method_29_code (4 : Nat) (Option.some Jvm.ClassFile.FieldType.boolean)).before args0 about1 = true := code_word (m := ⟨2, 25⟩) (meth := k2m25) (c := k2c25) (by decide +kernel) rfl rfl rfl (by decide +kernel)
set_option maxRecDepth 65536 in
theorem w_c27 : (Jvm.Cond.code ({ cls := "LightsOutSolver", name := "toggleCell", desc := "(II)V" } : Jvm.MethodName) prog_1_method_22_code (5 : Nat) (Option.none : Option Jvm.ClassFile.FieldType)).before args0 about1 = true := code_word (m := ⟨2, 18⟩) (meth := k2m18) (c := k2c18) (by decide +kernel) rfl rfl rfl (by decide +kernel)
set_option maxRecDepth 65536 in
theorem w_c28 : (Jvm.Cond.code ({ cls := "LightsOutSolver", name := "press", desc := "(II)Z" } : Jvm.MethodName) prog_1_method_5_code (3 : Nat) (Option.some Jvm.ClassFile.FieldType.boolean)).before args0 about1 = true := code_word (m := ⟨2, 4⟩) (meth := k2m4) (c := k2c4) (by decide +kernel) rfl rfl rfl (by decide +kernel)
set_option maxRecDepth 65536 in
theorem w_c29 : (Jvm.Cond.code ({ cls := "LightsOutSolver", name := "clear", desc := "()V" } : Jvm.MethodName) prog_1_method_17_code (1 : Nat) (Option.none : Option Jvm.ClassFile.FieldType)).before args0 about1 = true := code_word (m := ⟨2, 13⟩) (meth := k2m13) (c := k2c13) (by decide +kernel) rfl rfl rfl (by decide +kernel)
def codes1 : List Jvm.Cond := [Jvm.Cond.code x code maxLocals ret, Jvm.Cond.code ({ cls := "LightsOutSolver", name := "<init>", desc := "(II)V" } : Jvm.MethodName) prog_1_method_1_code (3 : Nat) (Option.none : Option Jvm.ClassFile.FieldType), Jvm.Cond.code ({ cls := "java/lang/Object", name := "<init>", desc := "()V" } : Jvm.MethodName) object_method_1_code (1 : Nat) (Option.none : Option Jvm.ClassFile.FieldType), Jvm.Cond.code ({ cls := "LightsOutSolver", name := "clamp", desc := "(I)I" } : Jvm.MethodName) prog_1_method_18_code (1 : Nat) (Option.some Jvm.ClassFile.FieldType.int), Jvm.Cond.code ({ cls := "LightsOutSolver", name := "forgetResult", desc := "()V" } : Jvm.MethodName) prog_1_method_19_code (1 : Nat) (Option.none : Option Jvm.ClassFile.FieldType), Jvm.Cond.code ({ cls := "LightsOutSolver", name := "undo", desc := "()Z" } : Jvm.MethodName) prog_1_method_6_code (2 : Nat) (Option.some Jvm.ClassFile.FieldType.boolean), Jvm.Cond.code ({ cls := "LightsOutSolverL4", name := "ok", desc := "(LLightsOutSolver;)Z" } : Jvm.MethodName) method_3_code (8 : Nat) (Option.some Jvm.ClassFile.FieldType.boolean), Jvm.Cond.code ({ cls := "LightsOutSolver", name := "status", desc := "()I" } : Jvm.MethodName) prog_1_method_12_code (1 : Nat) (Option.some Jvm.ClassFile.FieldType.int), Jvm.Cond.code ({ cls := "LightsOutSolver", name := "solutionSize", desc := "()I" } : Jvm.MethodName) prog_1_method_13_code (1 : Nat) (Option.some Jvm.ClassFile.FieldType.int), Jvm.Cond.code ({ cls := "LightsOutSolver", name := "solutionCount", desc := "()I" } : Jvm.MethodName) prog_1_method_14_code (1 : Nat) (Option.some Jvm.ClassFile.FieldType.int), Jvm.Cond.code ({ cls := "LightsOutSolverL4", name := "countIn", desc := "(LLightsOutSolver;)I" } : Jvm.MethodName) method_2_code (4 : Nat) (Option.some Jvm.ClassFile.FieldType.int), Jvm.Cond.code ({ cls := "LightsOutSolver", name := "inSolution", desc := "(II)Z" } : Jvm.MethodName) prog_1_method_15_code (3 : Nat) (Option.some Jvm.ClassFile.FieldType.boolean), Jvm.Cond.code ({ cls := "LightsOutSolver", name := "rows", desc := "()I" } : Jvm.MethodName) prog_1_method_2_code (1 : Nat) (Option.some Jvm.ClassFile.FieldType.int), Jvm.Cond.code ({ cls := "LightsOutSolver", name := "cols", desc := "()I" } : Jvm.MethodName) prog_1_method_3_code (1 : Nat) (Option.some Jvm.ClassFile.FieldType.int), Jvm.Cond.code ({ cls := "LightsOutSolver", name := "logSize", desc := "()I" } : Jvm.MethodName) prog_1_method_7_code (1 : Nat) (Option.some Jvm.ClassFile.FieldType.int), Jvm.Cond.code ({ cls := "LightsOutSolver", name := "solve", desc := "()I" } : Jvm.MethodName) prog_1_method_11_code (10 : Nat) (Option.some Jvm.ClassFile.FieldType.int), Jvm.Cond.code ({ cls := "LightsOutSolver", name := "chase", desc := "(I)Z" } : Jvm.MethodName) prog_1_method_26_code (4 : Nat) (Option.some Jvm.ClassFile.FieldType.boolean), Jvm.Cond.code ({ cls := "LightsOutSolver", name := "loadRows", desc := "()V" } : Jvm.MethodName) prog_1_method_24_code (4 : Nat) (Option.none : Option Jvm.ClassFile.FieldType), Jvm.Cond.code ({ cls := "LightsOutSolver", name := "rowMask", desc := "()I" } : Jvm.MethodName) prog_1_method_23_code (1 : Nat) (Option.some Jvm.ClassFile.FieldType.int), Jvm.Cond.code ({ cls := "LightsOutSolver", name := "applyRowPress", desc := "(II)V" } : Jvm.MethodName) prog_1_method_25_code (4 : Nat) (Option.none : Option Jvm.ClassFile.FieldType), Jvm.Cond.code ({ cls := "LightsOutSolver", name := "packPresses", desc := "()J" } : Jvm.MethodName) prog_1_method_27_code (4 : Nat) (Option.some Jvm.ClassFile.FieldType.long), Jvm.Cond.code ({ cls := "LightsOutSolver", name := "popCount", desc := "(J)I" } : Jvm.MethodName) prog_1_method_28_code (6 : Nat) (Option.some Jvm.ClassFile.FieldType.int), Jvm.Cond.code ({ cls := "LightsOutSolver", name := "onBoard", desc := "(II)Z" } : Jvm.MethodName) prog_1_method_20_code (3 : Nat) (Option.some Jvm.ClassFile.FieldType.boolean), Jvm.Cond.code ({ cls := "LightsOutSolver", name := "bit", desc := "(II)J" } : Jvm.MethodName) prog_1_method_21_code (3 : Nat) (Option.some Jvm.ClassFile.FieldType.long), Jvm.Cond.code ({ cls := "LightsOutSolver", name := "setLight", desc := "(III)Z" } : Jvm.MethodName) prog_1_method_4_code (6 : Nat) (Option.some Jvm.ClassFile.FieldType.boolean), Jvm.Cond.code ({ cls := "LightsOutSolver", name := "applySolution", desc := "()Z" } : Jvm.MethodName) prog_1_method_16_code (3 : Nat) (Option.some Jvm.ClassFile.FieldType.boolean), Jvm.Cond.code ({ cls := "LightsOutSolver", name := "unsignedLess", desc := "(JJ)Z" } : Jvm.MethodName) prog_1_method_29_code (4 : Nat) (Option.some Jvm.ClassFile.FieldType.boolean), Jvm.Cond.code ({ cls := "LightsOutSolver", name := "toggleCell", desc := "(II)V" } : Jvm.MethodName) prog_1_method_22_code (5 : Nat) (Option.none : Option Jvm.ClassFile.FieldType), Jvm.Cond.code ({ cls := "LightsOutSolver", name := "press", desc := "(II)Z" } : Jvm.MethodName) prog_1_method_5_code (3 : Nat) (Option.some Jvm.ClassFile.FieldType.boolean), Jvm.Cond.code ({ cls := "LightsOutSolver", name := "clear", desc := "()V" } : Jvm.MethodName) prog_1_method_17_code (1 : Nat) (Option.none : Option Jvm.ClassFile.FieldType)]
set_option maxRecDepth 65536 in
theorem codes_eq : words1.filter isCode = codes1 := rfl
theorem w_codes : ∀ c ∈ words1.filter isCode, c.before args0 about1 = true := by
  rw [codes_eq]
  intro c hc
  simp only [codes1, List.mem_cons, List.not_mem_nil, or_false] at hc
  rcases hc with rfl | rfl | rfl | rfl | rfl | rfl | rfl | rfl | rfl | rfl | rfl | rfl | rfl | rfl | rfl | rfl | rfl | rfl | rfl | rfl | rfl | rfl | rfl | rfl | rfl | rfl | rfl | rfl | rfl | rfl
  · exact w_c0
  · exact w_c1
  · exact w_c2
  · exact w_c3
  · exact w_c4
  · exact w_c5
  · exact w_c6
  · exact w_c7
  · exact w_c8
  · exact w_c9
  · exact w_c10
  · exact w_c11
  · exact w_c12
  · exact w_c13
  · exact w_c14
  · exact w_c15
  · exact w_c16
  · exact w_c17
  · exact w_c18
  · exact w_c19
  · exact w_c20
  · exact w_c21
  · exact w_c22
  · exact w_c23
  · exact w_c24
  · exact w_c25
  · exact w_c26
  · exact w_c27
  · exact w_c28
  · exact w_c29
set_option maxRecDepth 65536 in
theorem w_t1 : (words1.take 24).all (fun c => isCode c || c.before args0 about1) = true := by decide +kernel
set_option maxRecDepth 65536 in
theorem w_t2 : ((words1.drop 24).take 24).all (fun c => isCode c || c.before args0 about1) = true := by decide +kernel
set_option maxRecDepth 65536 in
theorem w_t3 : (((words1.drop 24).drop 24).take 24).all (fun c => isCode c || c.before args0 about1) = true := by decide +kernel
set_option maxRecDepth 65536 in
theorem w_t4 : ((((words1.drop 24).drop 24).drop 24).take 24).all (fun c => isCode c || c.before args0 about1) = true := by decide +kernel
set_option maxRecDepth 65536 in
theorem w_t5 : (((((words1.drop 24).drop 24).drop 24).drop 24).take 24).all (fun c => isCode c || c.before args0 about1) = true := by decide +kernel
set_option maxRecDepth 65536 in
theorem w_t6 : ((((((words1.drop 24).drop 24).drop 24).drop 24).drop 24).take 24).all (fun c => isCode c || c.before args0 about1) = true := by decide +kernel
set_option maxRecDepth 65536 in
theorem w_t7 : ((((((words1.drop 24).drop 24).drop 24).drop 24).drop 24).drop 24).all (fun c => isCode c || c.before args0 about1) = true := by decide +kernel
theorem w_tables : (allAtoms (Jvm.Cond.code x code maxLocals ret :: tables_1)).before args0 about1 = true := by
  rw [allAtoms_all]
  show words1.all (fun c => c.before args0 about1) = true
  refine all_split ?_ w_codes
  rw [← List.take_append_drop 24 words1, List.all_append, w_t1, ← List.take_append_drop 24 (words1.drop 24), List.all_append, w_t2, ← List.take_append_drop 24 ((words1.drop 24).drop 24), List.all_append, w_t3, ← List.take_append_drop 24 (((words1.drop 24).drop 24).drop 24), List.all_append, w_t4, ← List.take_append_drop 24 ((((words1.drop 24).drop 24).drop 24).drop 24), List.all_append, w_t5, ← List.take_append_drop 24 (((((words1.drop 24).drop 24).drop 24).drop 24).drop 24), List.all_append, w_t6, w_t7]
  rfl
set_option maxRecDepth 65536 in
theorem w_rest : rest_1_c.before args0 about1 = true := by decide +kernel
set_option maxRecDepth 65536 in
theorem w_case : (Jvm.Cond.and given_1 narrow_1).before args0 about1 = true := by decide +kernel
theorem w_applies : (headSpec (Jvm.Cond.code x code maxLocals ret :: tables_1) room_1).applies x e0.platform about1 = true :=
  (Spec.applies_iff w_frames).mpr ⟨w_running, w_runnable, w_alone, w_named, w_hears, w_ripe, w_room, w_tables⟩
theorem atStart : AtStart classFile x code maxLocals ret World_1 tables_1 room_1 Calls_1 rest_1 Pre_1 launch0 p0 e0 about1 theMethod args0 below0 :=
  ⟨lists_1, trivial, launch0.admits_env _ _ _, launch0.least_env, fairChoices_fair.cas, fairChoices_fair.clock, w_frames, w_args, w_heap, w_applies, trivial, w_rest, w_case⟩
end start1
theorem witness_1 : WitnessClaimed_1 := ⟨start1.p0, start1.e0, start1.about1, start1.theMethod, start1.args0, start1.below0, start1.atStart⟩
end Jvm.Pilot.@@N@@
